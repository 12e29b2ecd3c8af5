/-
  THE PLAIN LAW (part 2).
-/
import Derived.Test.YtkjlhdminmpmkaaGreatDoorPl1
open Go Go.Eng
namespace Go.Proofs.YtkjlhdminmpmkaaGreatDoor.Law
set_option linter.unusedVariables false
set_option linter.unusedSimpArgs false
def Er (v:ByteArray) (l:List ByteArray):Bool:=l.any λx=>decide (v=x)
theorem JY {v:ByteArray} {l:List ByteArray}:Er v l=true↔v∈l:=by simp [Er]
theorem P8 {v:ByteArray} {l:List ByteArray} (h:v∉l):Er v l=false:=by
 cases hb:Er v l with
 | false=>rfl
 | true=>exact absurd (JY.1 hb) h
def NV (l:List ByteArray):Prop:=∀i j (hi:i<l.length) (hj:j<l.length),i<j->lt l[i] l[j]
theorem Gj:∀(l:List ByteArray) (last:ByteArray),chk id Bf last l=0->NV l/\∀x∈l,lt last x
 | [],last,h=>⟨λi j hi=>absurd hi (Nat.not_lt_zero i),by simp⟩
 | x::xs,last,h=>by
  rw [chk]at h
  cases he:Bf last x==0 with
  | false=>rw [he]at h;simp only [cond_false]at h;rw [h]at he;cases he
  | true =>
   rw [he]at h
   simp only [cond_true,id]at h
   obtain ⟨h1,h2⟩:=Gj xs x h
   have hx:lt last x:=by
    unfold Bf at he
    cases hk:keyB x with
    | false=>rw [hk]at he;cases he
    | true =>
     cases hl:sLe x last with
     | true=>rw [hk,hl]at he;cases he
     | false =>
      have:=mt (Aq x last).2 (by rw [hl];simp)
      exact Classical.not_not.1 this
   refine⟨λi j hi hj hij => ?_,λy hy => ?_⟩
   ·cases i with
    | zero=>cases j with
     | zero=>omega
     | succ j=>exact h2 _ (List.getElem_mem _)
    | succ i=>cases j with
     | zero=>omega
     | succ j=>exact h1 i j (by simpa using hi) (by simpa using hj) (by omega)
   ·rcases List.mem_cons.1 hy with rfl|hy
    ·exact hx
    ·exact lt_trans hx (h2 y hy)
theorem tagsF_0 {l:List ByteArray} (h:tagsF l=0):l.length<=20/\NV l:=by
 unfold tagsF at h
 by_cases hl:l.length>20
 ·rw [decide_eq_true hl]at h;cases h
 ·rw [decide_eq_false hl]at h
  exact⟨by omega,(Gj l nz h).1⟩
theorem less_eq (x y:ByteArray):cmp_Less_string x y=some (sLt x y):=by
 unfold cmp_Less_string cmp_isNaN_string
 have:sNe x x=false:=by rw [yB];simp
 rw [this];rfl
theorem half (i j:Nat) (h:i<=1000000/\j<=1000000):Dm .u64 (IntKind.u64.wrap (w64 ((i:Int)+(j:Int)))) 1=some (((i+j) / 2:Nat):Int):=by
 have e1:w64 ((i:Int)+j)=((i+j:Nat):Int):=by rw [dw (by omega)];omega
 have e2:IntKind.u64.wrap ((i+j:Nat):Int)=((i+j:Nat):Int):=IntWalk.u64_in _ (by omega)
 rw [e1,e2]
 unfold Dm
 rw [if_neg (by omega)]
 congr 1
 show Int.fdiv _ (2 ^ 1)=_
 rw [Int.fdiv_eq_ediv_of_nonneg _ (by decide)]
 omega
structure Ends (l:List ByteArray) (t:ByteArray) (i j:Nat):Prop where
 le:i<=j
 len:j<=l.length
 lo:∀k (h:k<l.length),k<i->lt l[k] t
 hi:∀k (h:k<l.length),j<=k->¬lt l[k] t
theorem bs_step (l:List ByteArray) (t:ByteArray) (i j:Nat) (hij:i<j) (hm:(i+j) / 2<l.length) (hl:j<=1000) :
  bg l t ((i:Int),(j:Int))=some (bif sLt l[(i+j) / 2] t then .go ((((i+j) / 2+1:Nat):Int),(j:Int))else .go ((i:Int),(((i+j) / 2:Nat):Int))):=by
 have e1:decide ((i:Int)<(j:Int))=true:=by simp;omega
 have ew:w64 (((i+j) / 2:Nat):Int)=(((i+j) / 2:Nat):Int):=dw (by omega)
 have ew2:w64 ((((i+j) / 2:Nat):Int)+1)=(((i+j) / 2+1:Nat):Int):=by rw [dw (by omega)];omega
 simp only [bg,e1,cond_true,half i j (by omega),ob_,ew,ew2,jV,List.getElem?_eq_getElem hm,less_eq]
 cases sLt l[(i+j) / 2] t <;> rfl
theorem I8 (l:List ByteArray) (t:ByteArray) (hr:NV l) (hl:l.length<=1000):∀(d i j:Nat),j-i<=d->Ends l t i j->∃m:Nat,iterN (λs=>bg l t s) (d+1) ((i:Int),(j:Int))=some (.go ((m:Int),(m:Int)))/\Ends l t m m
 | d,i,j,hd,he=>by
  have hlen:=he.len
  have hle:=he.le
  by_cases hij:i<j
  ·have hm:(i+j) / 2<l.length:=by omega
   rw [iterN,bs_step l t i j hij hm (by omega),ob_]
   cases d with
   | zero=>omega
   | succ d =>
    cases hc:sLt l[(i+j) / 2] t with
    | true =>
     have hlt:=(Dv _ _).1 hc
     simp only [cond_true]
     refine I8 l t hr hl d ((i+j) / 2+1) j (by omega) ⟨by omega,hlen,λk hk hki => ?_,he.hi⟩
     rcases Nat.lt_or_ge k ((i+j) / 2)with h|h
     ·exact lt_trans (hr k _ hk hm h) hlt
     ·have:k=(i+j) / 2:=by omega
      subst this;exact hlt
    | false =>
     have hlt:=mt (Dv _ _).2 (by rw [hc];simp)
     simp only [cond_false]
     refine I8 l t hr hl d i ((i+j) / 2) (by omega) ⟨by omega,by omega,he.lo,λk hk hki => ?_⟩
     rcases Nat.lt_or_ge ((i+j) / 2) k with h|h
     ·exact λhx=>hlt (lt_trans (hr _ k hm hk h) hx)
     ·have:k=(i+j) / 2:=by omega
      subst this;exact hlt
  ·have e1:decide ((i:Int)<(j:Int))=false:=by simp;omega
   have:i=j:=by omega
   subst this
   have hst:bg l t ((i:Int),(i:Int))=some (.brk ((i:Int),(i:Int))):=by simp only [bg,e1,cond_false]
   rw [iterN,hst,ob_]
   exact⟨i,rfl,he⟩
theorem bs_eq (l:List ByteArray) (t:ByteArray) (hr:NV l) (hl:l.length<=1000):∃i:Int,dA l t=some (i,Er t l):=by
 obtain ⟨m,h1,h2⟩:=I8 l t hr hl l.length 0 l.length (by omega) ⟨by omega,Nat.le_refl _,λk _ h=>absurd h (Nat.not_lt_zero k),λk hk h=>absurd h (by omega)⟩
 have h3:=fC h1
 refine⟨m,?_⟩
 unfold dA
 have h4:fZ ((0:Int),(l.length:Int)) (λs=>bg l t s)=some (Ctl.go ((m:Int),(m:Int))):=h3
 rw [h4,ob_,eu]
 have key:t∈l↔∃h:m<l.length,l[m]=t:=by
  constructor
  ·intro hm
   obtain ⟨k,hk,he⟩:=List.getElem_of_mem hm
   have hk1:¬k<m:=λh=>by have:=h2.lo k hk h;rw [he]at this;exact oW _ this
   have hml:m<l.length:=by omega
   refine⟨hml,?_⟩
   rcases Nat.lt_or_ge m k with h|h
   ·have h5:=hr m k hml hk h
    rw [he]at h5
    exact absurd h5 (h2.hi m hml (Nat.le_refl _))
   ·have:k=m:=by omega
    subst this;exact he
  ·rintro ⟨h,he⟩
   rw [<- he];exact List.getElem_mem _
 by_cases hml:m<l.length
 ·have e1:decide ((m:Int)<(l.length:Int))=true:=by simp;omega
  simp only [e1,cond_true,jV,List.getElem?_eq_getElem hml,ob_,xZ]
  have hn:slices_isNaN_string l[m]=some false:=by
   unfold slices_isNaN_string;rw [yB];simp
  rw [hn]
  by_cases he:l[m]=t
  ·simp only [decide_eq_true he,cond_true,ob_,JY.2 (key.2 ⟨hml,he⟩)]
  ·simp only [decide_eq_false he,cond_false,ob_,P8 (λh=>he (key.1 h).2)]
 ·have e1:decide ((m:Int)<(l.length:Int))=false:=by simp;omega
  simp only [e1,cond_false,ob_]
  rw [P8 (λh=>hml (key.1 h).1)]
def wM (c:Campaign) (s:Spot):Bool:=(decide (c.Time.From<=s.Time.From)&&decide (s.Time.To<=c.Time.To)) && !(c.Tags.any λt => !Er t s.Tags)
theorem Rb (c:Campaign) (s:Spot) (h1:c.Tags.length<=1000) (h2:tagsF s.Tags=0):lI c s=some (wM c s):=by
 obtain ⟨hl,hr⟩:=tagsF_0 h2
 have run:∀(xs:List ByteArray) (k:Nat),forR (λk x u=>jf s k x u) xs k ()=some (bif xs.any (λt => !Er t s.Tags)then .ret false else .go ()):=by
  intro xs
  induction xs with
  | nil=>exact λk=>rfl
  | cons x xs ih =>
   intro k
   obtain ⟨i,hb⟩:=bs_eq s.Tags x hr (by omega)
   have hst:jf s k x ()=some (bif Er x s.Tags then .go ()else .ret false):=by
    simp only [jf,hb,ob_];cases Er x s.Tags <;> rfl
   rw [forR,hst,ob_,List.any_cons]
   cases Er x s.Tags with
   | true=>simp only [Bool.not_true,cond_true,Bool.false_or];exact ih (k+1)
   | false=>rfl
 unfold lI wM
 rw [jE (by omega),run]
 have e1:decide (s.Time.From<c.Time.From) = !decide (c.Time.From<=s.Time.From):=by rw [Bool.eq_iff_iff];simp
 have e2:decide (s.Time.To>c.Time.To) = !decide (s.Time.To<=c.Time.To):=by rw [Bool.eq_iff_iff];simp
 rw [e1,e2]
 cases decide (c.Time.From<=s.Time.From) <;> cases decide (s.Time.To<=c.Time.To) <;> cases (c.Tags.any λt => !Er t s.Tags) <;> rfl
end Go.Proofs.YtkjlhdminmpmkaaGreatDoor.Law

namespace Go.Flow
set_option linter.unusedVariables false
theorem iK (a:Nat) (f:Nat->Int):∀b:Nat,S (a+b) f=S a f+S b (λi=>f (a+i))
 | 0=>by show S a f=S a f+0;omega
 | b+1=>by
  show S (a+b) f+f (a+b)=S a f+(S b (λi=>f (a+i))+f (a+b))
  rw [iK a f b];omega
structure Net where
 q:Nat
 m:Nat
 goal:Nat->Int
 most:Nat->Int
 room:Nat->Int
 suits:Nat->Nat->Bool
namespace Net
variable (N:Net)
def size:Nat:=2+N.q+N.m
def can (a b:Nat):Int :=
 if a=0 then (if 2<=b/\b<2+N.q then N.goal (b-2)else 0)
 else if a=1 then 0
 else if a<2+N.q then (if 2+N.q<=b/\N.suits (a-2) (b-(2+N.q))=true then N.most (a-2)else 0)
 else (if b=1 then N.room (a-(2+N.q))else 0)
def ways (B:Nat->Bool) (i:Nat):Int:=S N.m (λk=>bif !B k&&N.suits i k then N.most i else 0)
def cutV (B:Nat->Bool):Int:=S N.m (λk=>bif B k then N.room k else 0)+S N.q (λi=>min (N.goal i) (N.ways B i))
theorem S_all0 {n:Nat} {f:Nat->Int} (h:∀i,i<n->f i=0):S n f=0:=by rw [bI h,uj]
theorem row0 {R:Nat->Bool} (r0:R 0=true) (r1:R 1=false):S N.size (λb=>bif R b then 0 else N.can 0 b)=S N.q (λi=>bif R (2+i)then 0 else N.goal i):=by
 unfold size
 rw [iK,iK]
 have h1:S 2 (λb=>bif R b then 0 else N.can 0 b)=0:=S_all0 (λb hb=>by
  have:N.can 0 b=0:=by unfold can;rw [if_pos rfl,if_neg (by omega)]
  rw [this];cases R b <;> rfl)
 have h2:S N.q (λi=>bif R (2+i)then 0 else N.can 0 (2+i))=S N.q (λi=>bif R (2+i)then 0 else N.goal i):=bI (λi hi=>by
  have:N.can 0 (2+i)=N.goal i:=by unfold can;rw [if_pos rfl,if_pos (by omega),show 2+i-2=i by omega]
  rw [this])
 have h3:S N.m (λk=>bif R (2+N.q+k)then 0 else N.can 0 (2+N.q+k))=0:=S_all0 (λb hb=>by
  have:N.can 0 (2+N.q+b)=0:=by unfold can;rw [if_pos rfl,if_neg (by omega)]
  rw [this];cases R (2+N.q+b) <;> rfl)
 rw [h1,h2,h3];omega
theorem rowC {R:Nat->Bool} {i:Nat} (hi:i<N.q):S N.size (λb=>bif R b then 0 else N.can (2+i) b)=N.ways (λk=>R (2+N.q+k)) i:=by
 unfold size ways
 rw [iK]
 have h1:S (2+N.q) (λb=>bif R b then 0 else N.can (2+i) b)=0:=S_all0 (λb hb=>by
  have:N.can (2+i) b=0:=by unfold can;rw [if_neg (by omega),if_neg (by omega),if_pos (by omega),if_neg (by omega)]
  rw [this];cases R b <;> rfl)
 have h2:S N.m (λk=>bif R (2+N.q+k)then 0 else N.can (2+i) (2+N.q+k))=S N.m (λk=>bif !R (2+N.q+k)&&N.suits i k then N.most i else 0):=bI (λk hk=>by
  have:N.can (2+i) (2+N.q+k)=bif N.suits i k then N.most i else 0:=by
   unfold can
   rw [if_neg (by omega),if_neg (by omega),if_pos (by omega),show 2+i-2=i by omega,show 2+N.q+k-(2+N.q)=k by omega]
   cases N.suits i k with
   | true=>rw [if_pos ⟨by omega,rfl⟩];rfl
   | false=>rw [if_neg (by simp)];rfl
  rw [this]
  cases R (2+N.q+k) <;> rfl)
 rw [h1,h2];exact Int.zero_add _
theorem rowS {R:Nat->Bool} (r1:R 1=false) {k:Nat} (hk:k<N.m):S N.size (λb=>bif R b then 0 else N.can (2+N.q+k) b)=N.room k:=by
 have e:S N.size (λb=>bif R b then 0 else N.can (2+N.q+k) b)=S N.size (λb=>if b=1 then N.room k else 0):=bI (λb hb=>by
  have:N.can (2+N.q+k) b=if b=1 then N.room k else 0:=by
   unfold can
   rw [if_neg (by omega),if_neg (by omega),if_neg (by omega),show 2+N.q+k-(2+N.q)=k by omega]
  rw [this]
  by_cases h1:b=1
  ·subst h1;rw [r1];rfl
  ·rw [if_neg h1];cases R b <;> rfl)
 rw [e,uH _ (by unfold size;omega)]
theorem QS {R:Nat->Bool} (r0:R 0=true) (r1:R 1=false):cap N.size N.can R=S N.m (λk=>bif R (2+N.q+k)then N.room k else 0)+S N.q (λi=>bif R (2+i)then N.ways (λk=>R (2+N.q+k)) i else N.goal i):=by
 unfold cap
 have e:S N.size (λa=>bif R a then S N.size (λb=>bif R b then 0 else N.can a b)else 0)=S (2+N.q+N.m) (λa=>bif R a then S N.size (λb=>bif R b then 0 else N.can a b)else 0):=rfl
 rw [e,iK,iK]
 have h1:S 2 (λa=>bif R a then S N.size (λb=>bif R b then 0 else N.can a b)else 0)=S N.q (λi=>bif R (2+i)then 0 else N.goal i):=by
  show (0+(bif R 0 then S N.size (λb=>bif R b then 0 else N.can 0 b)else 0))+(bif R 1 then S N.size (λb=>bif R b then 0 else N.can 1 b)else 0)=_
  rw [r0,r1,cond_true,cond_false,row0 N r0 r1];omega
 have h2:S N.q (λi=>bif R (2+i)then S N.size (λb=>bif R b then 0 else N.can (2+i) b)else 0)=S N.q (λi=>bif R (2+i)then N.ways (λk=>R (2+N.q+k)) i else 0):=bI (λi hi=>by rw [rowC N hi])
 have h3:S N.m (λk=>bif R (2+N.q+k)then S N.size (λb=>bif R b then 0 else N.can (2+N.q+k) b)else 0)=S N.m (λk=>bif R (2+N.q+k)then N.room k else 0):=bI (λk hk=>by rw [rowS N r1 hk])
 have h4:S N.q (λi=>bif R (2+i)then N.ways (λk=>R (2+N.q+k)) i else N.goal i)=S N.q (λi=>bif R (2+i)then 0 else N.goal i)+S N.q (λi=>bif R (2+i)then N.ways (λk=>R (2+N.q+k)) i else 0):=by
  rw [<- xz]
  exact bI (λi _=>by cases R (2+i) <;> simp)
 rw [h1,h2,h3,h4];omega
theorem cutV_le {R:Nat->Bool} (r0:R 0=true) (r1:R 1=false):N.cutV (λk=>R (2+N.q+k))<=cap N.size N.can R:=by
 rw [QS N r0 r1]
 unfold cutV
 have:S N.q (λi=>min (N.goal i) (N.ways (λk=>R (2+N.q+k)) i))<=S N.q (λi=>bif R (2+i)then N.ways (λk=>R (2+N.q+k)) i else N.goal i):=S_le (λi _=>by
  cases R (2+i)
  ·show min _ _<=N.goal i;omega
  ·show min _ _<=N.ways _ i;omega)
 exact Int.add_le_add (Int.le_refl _) this
theorem cutV_is (B:Nat->Bool):∃R:Nat->Bool,R 0=true/\R 1=false/\cap N.size N.can R=N.cutV B:=by
 let R:Nat->Bool:=λa=>if a=0 then true else if a=1 then false else if a<2+N.q then decide (N.ways B (a-2)<=N.goal (a-2))else B (a-(2+N.q))
 have rk:∀k,R (2+N.q+k)=B k:=λk=>by
  show (if 2+N.q+k=0 then true else if 2+N.q+k=1 then false else if 2+N.q+k<2+N.q then _ else B (2+N.q+k-(2+N.q)))=_
  rw [if_neg (by omega),if_neg (by omega),if_neg (by omega),show 2+N.q+k-(2+N.q)=k by omega]
 have ri:∀i,i<N.q->R (2+i)=decide (N.ways B i<=N.goal i):=λi hi=>by
  show (if 2+i=0 then true else if 2+i=1 then false else if 2+i<2+N.q then decide (N.ways B (2+i-2)<=N.goal (2+i-2))else _)=_
  rw [if_neg (by omega),if_neg (by omega),if_pos (by omega),show 2+i-2=i by omega]
 refine⟨R,rfl,rfl,?_⟩
 rw [QS N (R:=R) rfl rfl,show (λk=>R (2+N.q+k))=B from funext rk]
 unfold cutV
 congr 1
 ·exact bI (λk _=>by rw [rk])
 ·refine bI (λi hi => ?_)
  rw [ri i hi]
  by_cases h:N.ways B i<=N.goal i
  ·rw [decide_eq_true h];show N.ways B i=_;omega
  ·rw [decide_eq_false h];show N.goal i=_;omega
theorem best {c:Nat->Nat->Int} {v:Int} (h:Flows N.size 0 1 N.can c v):(∀B,v<=N.cutV B)/\∀R:Nat->Bool,R 0=true->R 1=false->(∀a b,a<N.size->b<N.size->R a=true->R b=false->c a b=0)->N.cutV (λk=>R (2+N.q+k))=v:=by
 have hs:0<N.size:=by unfold size;omega
 have hle:∀B,v<=N.cutV B:=λB=>by
  obtain ⟨R,r0,r1,e⟩:=cutV_is N B
  rw [<- e];exact (h.le hs r0 r1).2
 refine⟨hle,λR r0 r1 h0 => ?_⟩
 have e:=h.eq hs r0 r1 h0
 have h1:=cutV_le N r0 r1
 have h2:=hle (λk=>R (2+N.q+k))
 omega
end Net
end Go.Flow

namespace Go.Flow
set_option linter.unusedVariables false
theorem exists_least {p:Nat->Prop}:∀(n:Nat),p n->∃m,p m/\∀k,p k->m<=k:=by
 intro n
 induction n using Nat.strongRecOn with
 | _ n ih =>
  intro h
  by_cases hk:∃k,p k/\k<n
  ·obtain ⟨k,h1,h2⟩:=hk
   exact ih k h2 h1
  ·exact⟨n,h,λk hp=>Nat.le_of_not_lt (λhlt=>hk ⟨k,hp,hlt⟩)⟩
inductive Rch (n s:Nat) (c:Nat->Nat->Int):Nat->Nat->Prop
 | src:Rch n s c s 0
 | step {a b d:Nat}:Rch n s c a d->0<c a b->b<n->Rch n s c b (d+1)
theorem Rch.lt {n s i d:Nat} {c:Nat->Nat->Int} (hs:s<n) (h:Rch n s c i d):i<n:=by
 cases h with
 | src=>exact hs
 | step _ _ hb=>exact hb
end Go.Flow

namespace Go.Flow
set_option linter.unusedVariables false
theorem Nf {n:Nat} {f:Nat->Int} (h:∀i,i<n->0<=f i) (h0:S n f=0):∀i,i<n->f i=0:=by
 induction n with
 | zero=>intro i hi;omega
 | succ n ih =>
  intro i hi
  have h1:0<=S n f:=uE (λj hj=>h j (by omega))
  have h2:=h n (by omega)
  have h3:S n f+f n=0:=h0
  by_cases e:i=n
  ·subst e;omega
  ·exact ih (λj hj=>h j (by omega)) (by omega) i (by omega)
namespace Net
variable (N:Net)
structure Deal (x:Nat->Nat->Int):Prop where
 pos:∀i k,i<N.q->k<N.m->0<=x i k
 most:∀i k,i<N.q->k<N.m->x i k<=bif N.suits i k then N.most i else 0
 goal:∀i,i<N.q->S N.m (x i)=N.goal i
 room:∀k,k<N.m->S N.q (λi=>x i k)<=N.room k
structure Right:Prop where
 goal:∀i,i<N.q->0<=N.goal i
 most:∀i,i<N.q->0<=N.most i
 room:∀k,k<N.m->0<=N.room k
def goals:Int:=S N.q N.goal
theorem Jl {i:Nat} (hi:i<N.q):N.can 0 (2+i)=N.goal i:=by
 unfold can;rw [if_pos rfl,if_pos (by omega),show 2+i-2=i by omega]
theorem can_to {i k:Nat} (hi:i<N.q):N.can (2+i) (2+N.q+k)=bif N.suits i k then N.most i else 0:=by
 unfold can
 rw [if_neg (by omega),if_neg (by omega),if_pos (by omega),show 2+i-2=i by omega,show 2+N.q+k-(2+N.q)=k by omega]
 cases N.suits i k with
 | true=>rw [if_pos ⟨by omega,rfl⟩];rfl
 | false=>rw [if_neg (by simp)];rfl
theorem can_sink {k:Nat}:N.can (2+N.q+k) 1=N.room k:=by
 unfold can
 rw [if_neg (by omega),if_neg (by omega),if_neg (by omega),if_pos rfl,show 2+N.q+k-(2+N.q)=k by omega]
theorem tJ {b:Nat} (h:b<2\/2+N.q<=b):N.can 0 b=0:=by unfold can;rw [if_pos rfl,if_neg (by omega)]
theorem can_1 (b:Nat):N.can 1 b=0:=by unfold can;rw [if_neg (by omega),if_pos rfl]
theorem can_c {i b:Nat} (hi:i<N.q) (h:b<2+N.q):N.can (2+i) b=0:=by
 unfold can;rw [if_neg (by omega),if_neg (by omega),if_pos (by omega),if_neg (by omega)]
theorem can_s {k b:Nat} (h:b≠1):N.can (2+N.q+k) b=0:=by
 unfold can;rw [if_neg (by omega),if_neg (by omega),if_neg (by omega),if_neg h]
section
variable {N}
variable {c:Nat->Nat->Int} {v:Int}
theorem kU {s t:Nat} {c0:Nat->Nat->Int} {n:Nat} (h:Flows n s t c0 c v) {a b:Nat} (ha:a<n) (hb:b<n) (h1:c0 a b=0) (h2:c0 b a=0):c a b=0:=by
 have e:=h.anti a b ha hb
 have p1:=h.pos a b ha hb
 have p2:=h.pos b a hb ha
 omega
theorem at_camp (h:Flows N.size 0 1 N.can c v) {i:Nat} (hi:i<N.q):S N.m (λk=>c (2+N.q+k) (2+i))=N.goal i-c 0 (2+i):=by
 have hz:2+i<N.size:=by unfold size;omega
 have e:=h.cons (2+i) hz (by omega) (by omega)
 have es:S N.size (λb=>N.can (2+i) b-c (2+i) b)=S (2+N.q+N.m) (λb=>N.can (2+i) b-c (2+i) b):=rfl
 rw [es,iK,iK]at e
 have h1:S 2 (λb=>N.can (2+i) b-c (2+i) b) = - (N.goal i-c 0 (2+i)):=by
  show 0+(N.can (2+i) 0-c (2+i) 0)+(N.can (2+i) 1-c (2+i) 1)=_
  have a0:=h.anti 0 (2+i) (by unfold size;omega) hz
  have a1:=kU h hz (show 1<N.size by unfold size;omega) (can_c N hi (by omega)) (can_1 N _)
  rw [can_c N hi (by omega:1<2+N.q),a1]
  rw [Jl N hi]at a0
  omega
 have h2:S N.q (λj=>N.can (2+i) (2+j)-c (2+i) (2+j))=0:=S_all0 (λj hj=>by
  rw [kU h hz (show 2+j<N.size by unfold size;omega) (can_c N hi (by omega)) (can_c N hj (by omega)),can_c N hi (by omega)];rfl)
 have h3:S N.m (λk=>N.can (2+i) (2+N.q+k)-c (2+i) (2+N.q+k))=S N.m (λk=>c (2+N.q+k) (2+i)):=bI (λk hk=>by
  have a0:=h.anti (2+i) (2+N.q+k) hz (by unfold size;omega)
  rw [can_s N (by omega:2+i≠1)]at a0
  omega)
 rw [h1,h2,h3]at e
 omega
theorem Il (h:Flows N.size 0 1 N.can c v) {k:Nat} (hk:k<N.m):S N.q (λi=>c (2+N.q+k) (2+i))=N.room k-c (2+N.q+k) 1:=by
 have hz:2+N.q+k<N.size:=by unfold size;omega
 have e:=h.cons (2+N.q+k) hz (by omega) (by omega)
 have es:S N.size (λb=>N.can (2+N.q+k) b-c (2+N.q+k) b)=S (2+N.q+N.m) (λb=>N.can (2+N.q+k) b-c (2+N.q+k) b):=rfl
 rw [es,iK,iK]at e
 have h1:S 2 (λb=>N.can (2+N.q+k) b-c (2+N.q+k) b)=N.room k-c (2+N.q+k) 1:=by
  show 0+(N.can (2+N.q+k) 0-c (2+N.q+k) 0)+(N.can (2+N.q+k) 1-c (2+N.q+k) 1)=_
  have a1:=kU h hz (show 0<N.size by unfold size;omega) (can_s N (by omega)) (tJ N (by omega))
  rw [can_s N (by omega:(0:Nat)≠1),a1,can_sink]
  omega
 have h2:S N.q (λj=>N.can (2+N.q+k) (2+j)-c (2+N.q+k) (2+j)) = - S N.q (λi=>c (2+N.q+k) (2+i)):=by
  rw [<- Hg]
  exact bI (λj hj=>by rw [can_s N (by omega)];omega)
 have h3:S N.m (λj=>N.can (2+N.q+k) (2+N.q+j)-c (2+N.q+k) (2+N.q+j))=0:=S_all0 (λj hj=>by
  rw [kU h hz (show 2+N.q+j<N.size by unfold size;omega) (can_s N (by omega)) (can_s N (by omega)),can_s N (by omega)];rfl)
 rw [h1,h2,h3]at e
 omega
theorem at_src (h:Flows N.size 0 1 N.can c v):v=N.goals-S N.q (λi=>c 0 (2+i)):=by
 have hz:0<N.size:=by unfold size;omega
 have e:=h.val
 have es:S N.size (λb=>N.can 0 b-c 0 b)=S (2+N.q+N.m) (λb=>N.can 0 b-c 0 b):=rfl
 rw [es,iK,iK]at e
 have h1:S 2 (λb=>N.can 0 b-c 0 b)=0:=by
  show 0+(N.can 0 0-c 0 0)+(N.can 0 1-c 0 1)=_
  have a0:=kU h hz hz (tJ N (by omega)) (tJ N (by omega))
  have a1:=kU h hz (show 1<N.size by unfold size;omega) (tJ N (by omega)) (can_1 N _)
  rw [tJ N (by omega),tJ N (by omega),a0,a1];rfl
 have h2:S N.q (λj=>N.can 0 (2+j)-c 0 (2+j))=N.goals-S N.q (λi=>c 0 (2+i)):=by
  unfold goals
  rw [<- Ak]
  exact bI (λj hj=>by rw [Jl N hj])
 have h3:S N.m (λj=>N.can 0 (2+N.q+j)-c 0 (2+N.q+j))=0:=S_all0 (λj hj=>by
  rw [kU h hz (show 2+N.q+j<N.size by unfold size;omega) (tJ N (by omega)) (can_s N (by omega)),tJ N (by omega)];rfl)
 rw [h1,h2,h3]at e
 omega
theorem flow_deal (h:Flows N.size 0 1 N.can c v) (hv:v=N.goals):N.Deal (λi k=>c (2+N.q+k) (2+i))/\∀i,i<N.q->c 0 (2+i)=0:=by
 have e:=at_src h
 have h0:∀i,i<N.q->c 0 (2+i)=0:=Nf (λi hi=>h.pos _ _ (by unfold size;omega) (by unfold size;omega)) (by omega)
 refine⟨⟨λi k hi hk=>h.pos _ _ (by unfold size;omega) (by unfold size;omega),λi k hi hk => ?_,λi hi => ?_,λk hk => ?_⟩,h0⟩
 ·have a0:=h.anti (2+i) (2+N.q+k) (by unfold size;omega) (by unfold size;omega)
  have p0:=h.pos (2+i) (2+N.q+k) (by unfold size;omega) (by unfold size;omega)
  rw [can_s N (by omega:2+i≠1),can_to N hi]at a0
  show c (2+N.q+k) (2+i)<=_
  omega
 ·rw [at_camp h hi,h0 i hi];omega
 ·have p0:=h.pos (2+N.q+k) 1 (by unfold size;omega) (by unfold size;omega)
  have:=Il h hk
  show S N.q (λi=>c (2+N.q+k) (2+i))<=_
  omega
end
end Net
end Go.Flow

namespace Go.Flow
set_option linter.unusedVariables false
namespace Net
variable (N:Net)
def res (x:Nat->Nat->Int) (pr:Nat->Nat->Bool) (a b:Nat):Int :=
 if a=0 then 0
 else if a=1 then (if 2+N.q<=b then S N.q (λi=>x i (b-(2+N.q)))else 0)
 else if a<2+N.q then
  (if b=0 then N.goal (a-2)else if 2+N.q<=b then (bif pr (a-2) (b-(2+N.q))then 0 else (bif N.suits (a-2) (b-(2+N.q))then N.most (a-2)else 0)-x (a-2) (b-(2+N.q)))else 0)
 else
  (if b=1 then N.room (a-(2+N.q))-S N.q (λi=>x i (a-(2+N.q)))else if 2<=b/\b<2+N.q then (bif pr (b-2) (a-(2+N.q))then 0 else x (b-2) (a-(2+N.q)))else 0)
section
variable (x:Nat->Nat->Int) (pr:Nat->Nat->Bool)
theorem res_0 (b:Nat):N.res x pr 0 b=0:=if_pos rfl
theorem res_1s (k:Nat):N.res x pr 1 (2+N.q+k)=S N.q (λi=>x i k):=by
 unfold res;rw [if_neg (by omega),if_pos rfl,if_pos (by omega),show 2+N.q+k-(2+N.q)=k by omega]
theorem res_1 {b:Nat} (h:b<2+N.q):N.res x pr 1 b=0:=by
 unfold res;rw [if_neg (by omega),if_pos rfl,if_neg (by omega)]
theorem res_c0 {i:Nat} (hi:i<N.q):N.res x pr (2+i) 0=N.goal i:=by
 unfold res;rw [if_neg (by omega),if_neg (by omega),if_pos (by omega),if_pos rfl,show 2+i-2=i by omega]
theorem res_cs {i k:Nat} (hi:i<N.q):N.res x pr (2+i) (2+N.q+k)=bif pr i k then 0 else (bif N.suits i k then N.most i else 0)-x i k:=by
 unfold res;rw [if_neg (by omega),if_neg (by omega),if_pos (by omega),if_neg (by omega),if_pos (by omega),show 2+i-2=i by omega,show 2+N.q+k-(2+N.q)=k by omega]
theorem res_cc {i b:Nat} (hi:i<N.q) (h0:b≠0) (h:b<2+N.q):N.res x pr (2+i) b=0:=by
 unfold res;rw [if_neg (by omega),if_neg (by omega),if_pos (by omega),if_neg h0,if_neg (by omega)]
theorem res_s1 (k:Nat):N.res x pr (2+N.q+k) 1=N.room k-S N.q (λi=>x i k):=by
 unfold res;rw [if_neg (by omega),if_neg (by omega),if_neg (by omega),if_pos rfl,show 2+N.q+k-(2+N.q)=k by omega]
theorem res_sc {i k:Nat} (hi:i<N.q):N.res x pr (2+N.q+k) (2+i)=bif pr i k then 0 else x i k:=by
 unfold res;rw [if_neg (by omega),if_neg (by omega),if_neg (by omega),if_neg (by omega),if_pos (by omega),show 2+i-2=i by omega,show 2+N.q+k-(2+N.q)=k by omega]
theorem res_s0 (k:Nat):N.res x pr (2+N.q+k) 0=0:=by
 unfold res;rw [if_neg (by omega),if_neg (by omega),if_neg (by omega),if_neg (by omega),if_neg (by omega)]
theorem res_ss (k l:Nat):N.res x pr (2+N.q+k) (2+N.q+l)=0:=by
 unfold res;rw [if_neg (by omega),if_neg (by omega),if_neg (by omega),if_neg (by omega),if_neg (by omega)]
end
theorem node {a:Nat} (h:a<N.size):a=0\/a=1\/(∃i,i<N.q/\a=2+i)\/∃k,k<N.m/\a=2+N.q+k:=by
 unfold size at h
 by_cases h0:a=0
 ·exact .inl h0
 ·by_cases h1:a=1
  ·exact .inr (.inl h1)
  ·by_cases h2:a<2+N.q
   ·exact .inr (.inr (.inl ⟨a-2,by omega,by omega⟩))
   ·exact .inr (.inr (.inr ⟨a-(2+N.q),by omega,by omega⟩))
theorem res_pos {x:Nat->Nat->Int} (pr:Nat->Nat->Bool) (hr:N.Right) (h:N.Deal x):∀a b,a<N.size->b<N.size->0<=N.res x pr a b:=by
 intro a b ha hb
 rcases N.node ha with rfl|rfl|⟨i,hi,rfl⟩|⟨k,hk,rfl⟩
 ·rw [res_0];omega
 ·rcases N.node hb with rfl|rfl|⟨j,hj,rfl⟩|⟨l,hl,rfl⟩
  ·rw [res_1 N x pr (by omega)];omega
  ·rw [res_1 N x pr (by omega)];omega
  ·rw [res_1 N x pr (by omega)];omega
  ·rw [res_1s];exact uE (λj hj=>h.pos j l hj hl)
 ·rcases N.node hb with rfl|rfl|⟨j,hj,rfl⟩|⟨l,hl,rfl⟩
  ·rw [res_c0 N x pr hi];exact hr.goal i hi
  ·rw [res_cc N x pr hi (by omega) (by omega)];omega
  ·rw [res_cc N x pr hi (by omega) (by omega)];omega
  ·rw [res_cs N x pr hi]
   have:=h.most i l hi hl
   cases pr i l
   ·show 0<=_-_;omega
   ·show (0:Int)<=0;omega
 ·rcases N.node hb with rfl|rfl|⟨j,hj,rfl⟩|⟨l,hl,rfl⟩
  ·rw [res_s0];omega
  ·rw [res_s1];have:=h.room k hk;omega
  ·rw [res_sc N x pr hj]
   have:=h.pos j k hj hk
   cases pr j k
   ·exact this
   ·show (0:Int)<=0;omega
  ·rw [res_ss];omega
theorem PX (x x':Nat->Nat->Int) (pr:Nat->Nat->Bool):∀a b,a<N.size->b<N.size->N.res x pr a b-N.res x' pr a b = - (N.res x pr b a-N.res x' pr b a):=by
 intro a b ha hb
 rcases N.node ha with rfl|rfl|⟨i,hi,rfl⟩|⟨k,hk,rfl⟩
 ·rcases N.node hb with rfl|rfl|⟨j,hj,rfl⟩|⟨l,hl,rfl⟩
  ·rw [res_0,res_0];rfl
  ·rw [res_0,res_0,res_1 N x pr (by omega),res_1 N x' pr (by omega)];rfl
  ·rw [res_0,res_0,res_c0 N x pr hj,res_c0 N x' pr hj];omega
  ·rw [res_0,res_0,res_s0,res_s0];rfl
 ·rcases N.node hb with rfl|rfl|⟨j,hj,rfl⟩|⟨l,hl,rfl⟩
  ·rw [res_0,res_0,res_1 N x pr (by omega),res_1 N x' pr (by omega)];rfl
  ·rw [res_1 N x pr (by omega),res_1 N x' pr (by omega)];rfl
  ·rw [res_1 N x pr (by omega),res_1 N x' pr (by omega),res_cc N x pr hj (by omega) (by omega),res_cc N x' pr hj (by omega) (by omega)];rfl
  ·rw [res_1s,res_1s,res_s1,res_s1];omega
 ·rcases N.node hb with rfl|rfl|⟨j,hj,rfl⟩|⟨l,hl,rfl⟩
  ·rw [res_0,res_0,res_c0 N x pr hi,res_c0 N x' pr hi];omega
  ·rw [res_1 N x pr (by omega),res_1 N x' pr (by omega),res_cc N x pr hi (by omega) (by omega),res_cc N x' pr hi (by omega) (by omega)];rfl
  ·rw [res_cc N x pr hi (by omega) (by omega),res_cc N x' pr hi (by omega) (by omega),res_cc N x pr hj (by omega) (by omega),res_cc N x' pr hj (by omega) (by omega)];rfl
  ·rw [res_cs N x pr hi,res_cs N x' pr hi,res_sc N x pr hi,res_sc N x' pr hi]
   cases pr i l <;> simp only [cond_true,cond_false] <;> omega
 ·rcases N.node hb with rfl|rfl|⟨j,hj,rfl⟩|⟨l,hl,rfl⟩
  ·rw [res_0,res_0,res_s0,res_s0];rfl
  ·rw [res_1s,res_1s,res_s1,res_s1];omega
  ·rw [res_cs N x pr hj,res_cs N x' pr hj,res_sc N x pr hj,res_sc N x' pr hj]
   cases pr j k <;> simp only [cond_true,cond_false] <;> omega
  ·rw [res_ss,res_ss,res_ss,res_ss];rfl
theorem OV {x x':Nat->Nat->Int} {pr:Nat->Nat->Bool} {i k:Nat} (hr:N.Right) (h:N.Deal x) (h':N.Deal x') (hi:i<N.q) (hk:k<N.m) (hik:pr i k=true)
  (hag:∀j l,j<N.q->l<N.m->pr j l=true->¬(j=i/\l=k)->x' j l=x j l):Flows N.size (2+N.q+k) (2+i) (N.res x pr) (N.res x' pr) (x' i k-x i k):=by
 have hcamp:∀j,j<N.q->S N.size (λb=>N.res x pr (2+j) b-N.res x' pr (2+j) b)=if j=i then-(x' i k-x i k)else 0:=λj hj=>by
  have es:S N.size (λb=>N.res x pr (2+j) b-N.res x' pr (2+j) b)=S (2+N.q+N.m) (λb=>N.res x pr (2+j) b-N.res x' pr (2+j) b):=rfl
  rw [es,iK]
  have h1:S (2+N.q) (λb=>N.res x pr (2+j) b-N.res x' pr (2+j) b)=0:=S_all0 (λb hb=>by
   by_cases h0:b=0
   ·subst h0;rw [res_c0 N x pr hj,res_c0 N x' pr hj];omega
   ·rw [res_cc N x pr hj h0 hb,res_cc N x' pr hj h0 hb];rfl)
  have h2:S N.m (λl=>N.res x pr (2+j) (2+N.q+l)-N.res x' pr (2+j) (2+N.q+l))=S N.m (λl=>(x' j l-x j l)+if l=k then (if j=i then-(x' i k-x i k)else 0)else 0):=bI (λl hl=>by
   rw [res_cs N x pr hj,res_cs N x' pr hj]
   by_cases hc:j=i/\l=k
   ·obtain ⟨rfl,rfl⟩:=hc
    rw [hik,if_pos rfl,if_pos rfl];simp only [cond_true];omega
   ·have e0:(if l=k then (if j=i then-(x' i k-x i k)else 0)else 0)=(0:Int):=by
     by_cases hl':l=k
     ·rw [if_pos hl',if_neg (λe=>hc ⟨e,hl'⟩)]
     ·rw [if_neg hl']
    rw [e0]
    cases hp:pr j l with
    | true=>rw [hag j l hj hl hp hc];simp only [cond_true];omega
    | false=>simp only [cond_false];omega)
  rw [h1,h2,xz,Ak,uH _ hk,h.goal j hj,h'.goal j hj]
  omega
 have hspot:∀l,l<N.m->S N.size (λb=>N.res x pr (2+N.q+l) b-N.res x' pr (2+N.q+l) b)=if l=k then x' i k-x i k else 0:=λl hl=>by
  have es:S N.size (λb=>N.res x pr (2+N.q+l) b-N.res x' pr (2+N.q+l) b)=S (2+N.q+N.m) (λb=>N.res x pr (2+N.q+l) b-N.res x' pr (2+N.q+l) b):=rfl
  rw [es,iK,iK]
  have h1:S 2 (λb=>N.res x pr (2+N.q+l) b-N.res x' pr (2+N.q+l) b)=S N.q (λj=>x' j l)-S N.q (λj=>x j l):=by
   show 0+(N.res x pr (2+N.q+l) 0-N.res x' pr (2+N.q+l) 0)+(N.res x pr (2+N.q+l) 1-N.res x' pr (2+N.q+l) 1)=_
   rw [res_s0,res_s0,res_s1,res_s1];omega
  have h2:S N.q (λj=>N.res x pr (2+N.q+l) (2+j)-N.res x' pr (2+N.q+l) (2+j))=S N.q (λj=>(x j l-x' j l)+if j=i then (if l=k then x' i k-x i k else 0)else 0):=bI (λj hj=>by
   rw [res_sc N x pr hj,res_sc N x' pr hj]
   by_cases hc:j=i/\l=k
   ·obtain ⟨rfl,rfl⟩:=hc
    rw [hik,if_pos rfl,if_pos rfl];simp only [cond_true];omega
   ·have e0:(if j=i then (if l=k then x' i k-x i k else 0)else 0)=(0:Int):=by
     by_cases hl':j=i
     ·rw [if_pos hl',if_neg (λe=>hc ⟨hl',e⟩)]
     ·rw [if_neg hl']
    rw [e0]
    cases hp:pr j l with
    | true=>rw [hag j l hj hl hp hc];simp only [cond_true];omega
    | false=>simp only [cond_false];omega)
  have h3:S N.m (λj=>N.res x pr (2+N.q+l) (2+N.q+j)-N.res x' pr (2+N.q+l) (2+N.q+j))=0:=S_all0 (λj hj=>by rw [res_ss,res_ss];rfl)
  rw [h1,h2,h3,xz,Ak,uH _ hi]
  omega
 refine⟨res_pos N pr hr h',PX N x x' pr,λa ha h1 h2 => ?_,?_⟩
 ·rcases N.node ha with rfl|rfl|⟨j,hj,rfl⟩|⟨l,hl,rfl⟩
  ·exact S_all0 (λb _=>by rw [res_0,res_0];rfl)
  ·have es:S N.size (λb=>N.res x pr 1 b-N.res x' pr 1 b)=S (2+N.q+N.m) (λb=>N.res x pr 1 b-N.res x' pr 1 b):=rfl
   rw [es,iK]
   have e1:S (2+N.q) (λb=>N.res x pr 1 b-N.res x' pr 1 b)=0:=S_all0 (λb hb=>by rw [res_1 N x pr hb,res_1 N x' pr hb];rfl)
   have e2:S N.m (λl=>N.res x pr 1 (2+N.q+l)-N.res x' pr 1 (2+N.q+l))=S N.m (λl=>S N.q (λj=>x j l))-S N.m (λl=>S N.q (λj=>x' j l)):=by
    rw [<- Ak]
    exact bI (λl hl=>by rw [res_1s,res_1s])
   have e3:S N.m (λl=>S N.q (λj=>x j l))=S N.q N.goal:=by
    rw [<- FN];exact bI (λj hj=>h.goal j hj)
   have e4:S N.m (λl=>S N.q (λj=>x' j l))=S N.q N.goal:=by
    rw [<- FN];exact bI (λj hj=>h'.goal j hj)
   rw [e1,e2,e3,e4];omega
  ·rw [hcamp j hj,if_neg (λe=>h2 (by rw [e]))]
  ·rw [hspot l hl,if_neg (λe=>h1 (by rw [e]))]
 ·rw [hspot k hk,if_pos rfl]
theorem share_max {x:Nat->Nat->Int} {pr:Nat->Nat->Bool} {i k:Nat} (hr:N.Right) (h:N.Deal x) (hi:i<N.q) (hk:k<N.m) (hik:pr i k=true) {R:Nat->Bool} (rs:R (2+N.q+k)=true) (rt:R (2+i)=false)
  (h0:∀a b,a<N.size->b<N.size->R a=true->R b=false->N.res x pr a b=0) {x':Nat->Nat->Int} (h':N.Deal x') (hag:∀j l,j<N.q->l<N.m->pr j l=true->¬(j=i/\l=k)->x' j l=x j l):x' i k<=x i k:=by
 have hf:=OV N hr h h' hi hk hik hag
 have hle:=(hf.le (by unfold size;omega) rs rt).2
 have:cap N.size (N.res x pr) R=0:=by
  refine S_all0 (λa ha => ?_)
  cases ra:R a with
  | false=>rfl
  | true =>
   refine S_all0 (λb hb => ?_)
   cases rb:R b with
   | true=>rfl
   | false=>exact h0 a b ha hb ra rb
 omega
end Net
end Go.Flow

namespace Go.Flow
set_option linter.unusedVariables false
theorem Flows.sink {n s t:Nat} {c0 c:Nat->Nat->Int} {v:Int} (h:Flows n s t c0 c v) (hs:s<n) (ht:t<n) (hst:s≠t):S n (λb=>c0 t b-c t b) = - v:=by
 have h0:=PD (n:=n) (f:=λa b=>c0 a b-c a b) h.anti (λ_=>true)
 have e:S n (λa=>S n (λb=>c0 a b-c a b))=S n (λa=>(if a=s then v else 0)+if a=t then S n (λb=>c0 t b-c t b)else 0):=bI (λa ha=>by
  by_cases h1:a=s
  ·subst h1;rw [if_pos rfl,if_neg hst,h.val];omega
  ·rw [if_neg h1]
   by_cases h2:a=t
   ·subst h2;rw [if_pos rfl];omega
   ·rw [if_neg h2,h.cons a ha h1 h2];rfl)
 rw [xz,uH _ hs,uH _ ht]at e
 have h0':S n (λa=>S n (λb=>c0 a b-c a b))=0:=h0
 omega
namespace Net
variable (N:Net)
def after (x:Nat->Nat->Int) (pr:Nat->Nat->Bool) (i k:Nat) (c:Nat->Nat->Int) (v:Int) (j l:Nat):Int :=
 if j=i/\l=k then x i k+v else bif pr j l then x j l else c (2+N.q+l) (2+j)
theorem reroute {x:Nat->Nat->Int} {pr:Nat->Nat->Bool} {i k:Nat} {c:Nat->Nat->Int} {v:Int} (hr:N.Right) (h:N.Deal x) (hi:i<N.q) (hk:k<N.m) (hik:pr i k=true)
  (hf:Flows N.size (2+N.q+k) (2+i) (N.res x pr) c v) (h0:0<=v) (hv:x i k+v<=bif N.suits i k then N.most i else 0) :
  N.Deal (N.after x pr i k c v)/\∀a b,a<N.size->b<N.size->c a b=N.res (N.after x pr i k c v) pr a b:=by
 have z0:0<N.size:=by unfold size;omega
 have z1:1<N.size:=by unfold size;omega
 have zc:∀j,j<N.q->2+j<N.size:=λj hj=>by unfold size;omega
 have zs:∀l,l<N.m->2+N.q+l<N.size:=λl hl=>by unfold size;omega
 generalize hy:N.after x pr i k c v=y
 have yik:y i k=x i k+v:=by rw [<- hy];exact if_pos ⟨rfl,rfl⟩
 have ypr:∀j l,pr j l=true->¬(j=i/\l=k)->y j l=x j l:=λj l hp hn=>by
  rw [<- hy];unfold after;rw [if_neg hn,hp];rfl
 have yno:∀j l,pr j l=false->y j l=c (2+N.q+l) (2+j):=λj l hp=>by
  rw [<- hy];unfold after
  rw [if_neg (λe=>by rw [e.1,e.2,hik]at hp;cases hp),hp];rfl
 have c0:∀b,b<N.size->c 0 b=0:=by
  have e:=hf.cons 0 z0 (by omega) (by omega)
  have e2:S N.size (λb=>N.res x pr 0 b-c 0 b) = - S N.size (c 0):=by
   rw [<- Hg];exact bI (λb _=>by rw [res_0];omega)
  exact Nf (λb hb=>hf.pos 0 b z0 hb) (by omega)
 have cc0:∀j,j<N.q->c (2+j) 0=N.goal j:=λj hj=>by
  have a0:=hf.anti (2+j) 0 (zc j hj) z0
  rw [res_c0 N x pr hj,res_0,c0 _ (zc j hj)]at a0;omega
 have cc1:∀j,j<N.q->c (2+j) 1=0/\c 1 (2+j)=0:=λj hj=>by
  have e1:=res_cc N x pr hj (by omega:(1:Nat)≠0) (by omega:1<2+N.q)
  have e2:=res_1 N x pr (by omega:2+j<2+N.q)
  exact⟨kU hf (zc j hj) z1 e1 e2,kU hf z1 (zc j hj) e2 e1⟩
 have ccc:∀j l,j<N.q->l<N.q->c (2+j) (2+l)=0:=λj l hj hl=>kU hf (zc j hj) (zc l hl) (res_cc N x pr hj (by omega) (by omega)) (res_cc N x pr hl (by omega) (by omega))
 have css:∀j l,j<N.m->l<N.m->c (2+N.q+j) (2+N.q+l)=0:=λj l hj hl=>kU hf (zs j hj) (zs l hl) (res_ss N x pr j l) (res_ss N x pr l j)
 have cs0:∀l,l<N.m->c (2+N.q+l) 0=0:=λl hl=>kU hf (zs l hl) z0 (res_s0 N x pr l) (res_0 N x pr _)
 have c10:c 1 0=0:=kU hf z1 z0 (res_1 N x pr (by omega)) (res_0 N x pr _)
 have c11:c 1 1=0:=kU hf z1 z1 (res_1 N x pr (by omega)) (res_1 N x pr (by omega))
 have cpr:∀j l,j<N.q->l<N.m->pr j l=true->c (2+j) (2+N.q+l)=0/\c (2+N.q+l) (2+j)=0:=λj l hj hl hp=>by
  have e1:N.res x pr (2+j) (2+N.q+l)=0:=by rw [res_cs N x pr hj,hp];rfl
  have e2:N.res x pr (2+N.q+l) (2+j)=0:=by rw [res_sc N x pr hj,hp];rfl
  exact⟨kU hf (zc j hj) (zs l hl) e1 e2,kU hf (zs l hl) (zc j hj) e2 e1⟩
 have cno:∀j l,j<N.q->l<N.m->pr j l=false->c (2+j) (2+N.q+l)=(bif N.suits j l then N.most j else 0)-y j l:=λj l hj hl hp=>by
  have a0:=hf.anti (2+j) (2+N.q+l) (zc j hj) (zs l hl)
  rw [res_cs N x pr hj,res_sc N x pr hj,hp]at a0
  simp only [cond_false]at a0
  rw [yno j l hp];omega
 have goal:∀j,j<N.q->S N.m (y j)=N.goal j:=λj hj=>by
  have e:S N.size (λb=>N.res x pr (2+j) b-c (2+j) b)=if j=i then-v else 0:=by
   by_cases hji:j=i
   ·subst hji;rw [if_pos rfl]
    exact hf.sink (zs k hk) (zc j hj) (by omega)
   ·rw [if_neg hji];exact hf.cons (2+j) (zc j hj) (by omega) (by omega)
  have es:S N.size (λb=>N.res x pr (2+j) b-c (2+j) b)=S (2+N.q+N.m) (λb=>N.res x pr (2+j) b-c (2+j) b):=rfl
  rw [es,iK,iK]at e
  have e1:S 2 (λb=>N.res x pr (2+j) b-c (2+j) b)=0:=by
   show 0+(N.res x pr (2+j) 0-c (2+j) 0)+(N.res x pr (2+j) 1-c (2+j) 1)=0
   rw [res_c0 N x pr hj,cc0 j hj,res_cc N x pr hj (by omega) (by omega),(cc1 j hj).1];omega
  have e2:S N.q (λl=>N.res x pr (2+j) (2+l)-c (2+j) (2+l))=0:=S_all0 (λl hl=>by
   rw [res_cc N x pr hj (by omega) (by omega),ccc j l hj hl];rfl)
  have e3:S N.m (λl=>N.res x pr (2+j) (2+N.q+l)-c (2+j) (2+N.q+l))=S N.m (λl=>(y j l-x j l)-if l=k then (if j=i then v else 0)else 0):=bI (λl hl=>by
   cases hp:pr j l with
   | true =>
    rw [res_cs N x pr hj,hp,(cpr j l hj hl hp).1]
    by_cases hc:j=i/\l=k
    ·obtain ⟨rfl,rfl⟩:=hc
     rw [if_pos rfl,if_pos rfl,yik];simp only [cond_true];omega
    ·have e0:(if l=k then (if j=i then v else 0)else 0)=(0:Int):=by
      by_cases hl':l=k
      ·rw [if_pos hl',if_neg (λe=>hc ⟨e,hl'⟩)]
      ·rw [if_neg hl']
     rw [e0,ypr j l hp hc];simp only [cond_true];omega
   | false =>
    have hc:¬(j=i/\l=k):=λe=>by rw [e.1,e.2,hik]at hp;cases hp
    have e0:(if l=k then (if j=i then v else 0)else 0)=(0:Int):=by
     by_cases hl':l=k
     ·rw [if_pos hl',if_neg (λe=>hc ⟨e,hl'⟩)]
     ·rw [if_neg hl']
    rw [res_cs N x pr hj,hp,cno j l hj hl hp,e0];simp only [cond_false];omega)
  rw [e1,e2,e3,Ak,Ak,uH _ hk,h.goal j hj]at e
  omega
 have spot:∀l,l<N.m->c (2+N.q+l) 1=N.room l-S N.q (λj=>y j l):=λl hl=>by
  have e:S N.size (λb=>N.res x pr (2+N.q+l) b-c (2+N.q+l) b)=if l=k then v else 0:=by
   by_cases hlk:l=k
   ·subst hlk;rw [if_pos rfl];exact hf.val
   ·rw [if_neg hlk];exact hf.cons _ (zs l hl) (by omega) (by omega)
  have es:S N.size (λb=>N.res x pr (2+N.q+l) b-c (2+N.q+l) b)=S (2+N.q+N.m) (λb=>N.res x pr (2+N.q+l) b-c (2+N.q+l) b):=rfl
  rw [es,iK,iK]at e
  have e1:S 2 (λb=>N.res x pr (2+N.q+l) b-c (2+N.q+l) b)=N.room l-S N.q (λj=>x j l)-c (2+N.q+l) 1:=by
   show 0+(N.res x pr (2+N.q+l) 0-c (2+N.q+l) 0)+(N.res x pr (2+N.q+l) 1-c (2+N.q+l) 1)=_
   rw [res_s0,cs0 l hl,res_s1];omega
  have e2:S N.q (λj=>N.res x pr (2+N.q+l) (2+j)-c (2+N.q+l) (2+j))=S N.q (λj=>(x j l-y j l)+if j=i then (if l=k then v else 0)else 0):=bI (λj hj=>by
   cases hp:pr j l with
   | true =>
    rw [res_sc N x pr hj,hp,(cpr j l hj hl hp).2]
    by_cases hc:j=i/\l=k
    ·obtain ⟨rfl,rfl⟩:=hc
     rw [if_pos rfl,if_pos rfl,yik];simp only [cond_true];omega
    ·have e0:(if j=i then (if l=k then v else 0)else 0)=(0:Int):=by
      by_cases hl':j=i
      ·rw [if_pos hl',if_neg (λe=>hc ⟨hl',e⟩)]
      ·rw [if_neg hl']
     rw [e0,ypr j l hp hc];simp only [cond_true];omega
   | false =>
    have hc:¬(j=i/\l=k):=λe=>by rw [e.1,e.2,hik]at hp;cases hp
    have e0:(if j=i then (if l=k then v else 0)else 0)=(0:Int):=by
     by_cases hl':j=i
     ·rw [if_pos hl',if_neg (λe=>hc ⟨hl',e⟩)]
     ·rw [if_neg hl']
    rw [res_sc N x pr hj,hp,yno j l hp,e0];simp only [cond_false];omega)
  have e3:S N.m (λj=>N.res x pr (2+N.q+l) (2+N.q+j)-c (2+N.q+l) (2+N.q+j))=0:=S_all0 (λj hj=>by rw [res_ss,css l j hl hj];rfl)
  rw [e1,e2,e3,xz,Ak,uH _ hi]at e
  omega
 refine⟨⟨λj l hj hl => ?_,λj l hj hl => ?_,goal,λl hl => ?_⟩,λa b ha hb => ?_⟩
 ·by_cases hc:j=i/\l=k
  ·obtain ⟨rfl,rfl⟩:=hc
   have:=h.pos j l hj hl
   rw [yik];omega
  ·cases hp:pr j l with
   | true=>rw [ypr j l hp hc];exact h.pos j l hj hl
   | false=>rw [yno j l hp];exact hf.pos _ _ (zs l hl) (zc j hj)
 ·by_cases hc:j=i/\l=k
  ·obtain ⟨rfl,rfl⟩:=hc
   rw [yik];exact hv
  ·cases hp:pr j l with
   | true=>rw [ypr j l hp hc];exact h.most j l hj hl
   | false =>
    have e:=cno j l hj hl hp
    have:=hf.pos _ _ (zc j hj) (zs l hl)
    omega
 ·have:=spot l hl
  have p:=hf.pos _ _ (zs l hl) z1
  omega
 ·rcases N.node ha with rfl|rfl|⟨j,hj,rfl⟩|⟨l,hl,rfl⟩
  ·rw [res_0];exact c0 b hb
  ·rcases N.node hb with rfl|rfl|⟨o,ho,rfl⟩|⟨o,ho,rfl⟩
   ·rw [res_1 N y pr (by omega)];exact c10
   ·rw [res_1 N y pr (by omega)];exact c11
   ·rw [res_1 N y pr (by omega)];exact (cc1 o ho).2
   ·rw [res_1s]
    have a0:=hf.anti 1 (2+N.q+o) z1 (zs o ho)
    rw [res_1s,res_s1,spot o ho]at a0
    omega
  ·rcases N.node hb with rfl|rfl|⟨o,ho,rfl⟩|⟨o,ho,rfl⟩
   ·rw [res_c0 N y pr hj];exact cc0 j hj
   ·rw [res_cc N y pr hj (by omega) (by omega)];exact (cc1 j hj).1
   ·rw [res_cc N y pr hj (by omega) (by omega)];exact ccc j o hj ho
   ·rw [res_cs N y pr hj]
    cases hp:pr j o with
    | true=>exact (cpr j o hj ho hp).1
    | false=>exact cno j o hj ho hp
  ·rcases N.node hb with rfl|rfl|⟨o,ho,rfl⟩|⟨o,ho,rfl⟩
   ·rw [res_s0];exact cs0 l hl
   ·rw [res_s1];exact spot l hl
   ·rw [res_sc N y pr ho]
    cases hp:pr o l with
    | true=>exact (cpr o l ho hl hp).2
    | false=>exact (yno o l hp).symm
   ·rw [res_ss];exact css l o hl ho
end Net
end Go.Flow

namespace Go.Flow
set_option linter.unusedVariables false
namespace Net
variable (N:Net)
def prior (i k j l:Nat):Bool:=decide (j<i\/j=i/\l<k)
def still (y:Nat->Nat->Int) (i k:Nat) (n:Int):Net where
 q:=N.q
 m:=N.m
 goal:=λj=>if j<i then 0 else if j=i then N.goal i-S k (y i)-n else N.goal j
 most:=N.most
 room:=λl=>N.room l-S N.q (λj=>bif prior i k j l then y j l else 0)-(if l=k then n else 0)
 suits:=λj l=>if j=i then decide (k<l)&&N.suits i l else N.suits j l
section
variable {N} {y:Nat->Nat->Int} {i k:Nat} {n:Int}
end
end Net
end Go.Flow

namespace Go.Flow
set_option linter.unusedVariables false
namespace Net
section
variable {N:Net}
theorem flow_res {c:Nat->Nat->Int} {v:Int} (h:Flows N.size 0 1 N.can c v) (hv:v=N.goals):∀a b,a<N.size->b<N.size->c a b=N.res (λi k=>c (2+N.q+k) (2+i)) (λ_ _=>false) a b:=by
 obtain ⟨hd,hs⟩:=flow_deal h hv
 intro a b ha hb
 rcases N.node ha with rfl|rfl|⟨i,hi,rfl⟩|⟨k,hk,rfl⟩
 ·rw [res_0]
  rcases N.node hb with rfl|rfl|⟨j,hj,rfl⟩|⟨l,hl,rfl⟩
  ·exact kU h ha hb (tJ N (by omega)) (tJ N (by omega))
  ·exact kU h ha hb (tJ N (by omega)) (can_1 N _)
  ·exact hs j hj
  ·exact kU h ha hb (tJ N (by omega)) (can_s N (by omega))
 ·rcases N.node hb with rfl|rfl|⟨j,hj,rfl⟩|⟨l,hl,rfl⟩
  ·rw [res_1 N _ _ (by omega)];exact kU h ha hb (can_1 N _) (tJ N (by omega))
  ·rw [res_1 N _ _ (by omega)];exact kU h ha hb (can_1 N _) (can_1 N _)
  ·rw [res_1 N _ _ (by omega)];exact kU h ha hb (can_1 N _) (can_c N hj (by omega))
  ·rw [res_1s]
   have a0:=h.anti 1 (2+N.q+l) ha hb
   rw [can_1,can_sink]at a0
   have a1:S N.q (λi=>c (2+N.q+l) (2+i))=N.room l-c (2+N.q+l) 1:=Il h hl
   show c 1 (2+N.q+l)=S N.q (λi=>c (2+N.q+l) (2+i))
   omega
 ·rcases N.node hb with rfl|rfl|⟨j,hj,rfl⟩|⟨l,hl,rfl⟩
  ·rw [res_c0 N _ _ hi]
   have a0:=h.anti (2+i) 0 ha hb
   rw [can_c N hi (by omega),Jl N hi,hs i hi]at a0;omega
  ·rw [res_cc N _ _ hi (by omega) (by omega)];exact kU h ha hb (can_c N hi (by omega)) (can_1 N _)
  ·rw [res_cc N _ _ hi (by omega) (by omega)];exact kU h ha hb (can_c N hi (by omega)) (can_c N hj (by omega))
  ·rw [res_cs N _ _ hi]
   have a0:=h.anti (2+i) (2+N.q+l) ha hb
   rw [can_to N hi,can_s N (by omega)]at a0
   show c (2+i) (2+N.q+l)=(bif N.suits i l then N.most i else 0)-c (2+N.q+l) (2+i)
   omega
 ·rcases N.node hb with rfl|rfl|⟨j,hj,rfl⟩|⟨l,hl,rfl⟩
  ·rw [res_s0];exact kU h ha hb (can_s N (by omega)) (tJ N (by omega))
  ·rw [res_s1]
   have a1:S N.q (λi=>c (2+N.q+k) (2+i))=N.room k-c (2+N.q+k) 1:=Il h hk
   show c (2+N.q+k) 1=N.room k-S N.q (λi=>c (2+N.q+k) (2+i))
   omega
  ·rw [res_sc N _ _ hj];rfl
  ·rw [res_ss];exact kU h ha hb (can_s N (by omega)) (can_s N (by omega))
variable (N)
def also (pr:Nat->Nat->Bool) (i k j l:Nat):Bool:=pr j l||(decide (j=i)&&decide (l=k))
theorem also_at (pr:Nat->Nat->Bool) (i k:Nat):also pr i k i k=true:=by simp [also]
theorem also_ne {pr:Nat->Nat->Bool} {i k j l:Nat} (h:¬(j=i/\l=k)):also pr i k j l=pr j l:=by
 unfold also
 by_cases h1:j=i
 ·rw [decide_eq_false (λe=>h ⟨h1,e⟩)];simp
 ·rw [decide_eq_false h1];simp
theorem res_mark (x:Nat->Nat->Int) (pr:Nat->Nat->Bool) {i k:Nat} (hi:i<N.q) (hk:k<N.m):∀a b,a<N.size->b<N.size->N.res x (also pr i k) a b=if (a=2+i/\b=2+N.q+k)\/(a=2+N.q+k/\b=2+i)then 0 else N.res x pr a b:=by
 intro a b ha hb
 rcases N.node ha with rfl|rfl|⟨j,hj,rfl⟩|⟨l,hl,rfl⟩
 ·rw [if_neg (by omega),res_0,res_0]
 ·rw [if_neg (by omega)]
  rcases N.node hb with rfl|rfl|⟨o,ho,rfl⟩|⟨o,ho,rfl⟩
  ·rw [res_1 N x _ (by omega),res_1 N x _ (by omega)]
  ·rw [res_1 N x _ (by omega),res_1 N x _ (by omega)]
  ·rw [res_1 N x _ (by omega),res_1 N x _ (by omega)]
  ·rw [res_1s,res_1s]
 ·rcases N.node hb with rfl|rfl|⟨o,ho,rfl⟩|⟨o,ho,rfl⟩
  ·rw [if_neg (by omega),res_c0 N x _ hj,res_c0 N x _ hj]
  ·rw [if_neg (by omega),res_cc N x _ hj (by omega) (by omega),res_cc N x _ hj (by omega) (by omega)]
  ·rw [if_neg (by omega),res_cc N x _ hj (by omega) (by omega),res_cc N x _ hj (by omega) (by omega)]
  ·rw [res_cs N x _ hj]
   by_cases hc:j=i/\o=k
   ·rw [if_pos (by omega),hc.1,hc.2,also_at];rfl
   ·rw [if_neg (by omega),also_ne hc,res_cs N x _ hj]
 ·rcases N.node hb with rfl|rfl|⟨o,ho,rfl⟩|⟨o,ho,rfl⟩
  ·rw [if_neg (by omega),res_s0,res_s0]
  ·rw [if_neg (by omega),res_s1,res_s1]
  ·rw [res_sc N x _ ho]
   by_cases hc:o=i/\l=k
   ·rw [if_pos (by omega),hc.1,hc.2,also_at];rfl
   ·rw [if_neg (by omega),also_ne hc,res_sc N x _ ho]
  ·rw [if_neg (by omega),res_ss,res_ss]
end
end Net
end Go.Flow

open Go Go.Eng Go.Flow
namespace Go.Proofs.YtkjlhdminmpmkaaGreatDoor.Law
set_option linter.unusedVariables false
set_option linter.unusedSimpArgs false
def Bw {α:Type} (f:Nat->α->Int):Nat->List α->Int
 | _,[]=>0
 | k,x::xs=>f k x+Bw f (k+1) xs
theorem R6 {α:Type} (f:Nat->α->Int) (g:Nat->Int):∀(xs:List α) (k:Nat),(∀i x,xs[i]? = some x->f (k+i) x=g i)->Bw f k xs=S xs.length g
 | [],k,h=>rfl
 | x::xs,k,h=>by
  have h0:=h 0 x rfl
  have ih:=R6 f (λi=>g (i+1)) xs (k+1) (λi y hy=>by
   have:=h (i+1) y (by simpa using hy)
   rw [<- this,show k+(i+1)=k+1+i by omega])
  rw [Bw,ih,List.length_cons]
  have e:=iK 1 g xs.length
  have e1:S 1 g=g 0:=by show 0+g 0=_;omega
  have e2:S (xs.length+1) g=S (1+xs.length) g:=by rw [Nat.add_comm]
  have e3:S xs.length (λi=>g (1+i))=S xs.length (λi=>g (i+1)):=bI (λi _=>by rw [Nat.add_comm])
  rw [Nat.add_zero]at h0
  omega
theorem Np {α:Type} (f:Nat->α->Int) (b:Int):∀(xs:List α) (k:Nat),(∀j x,x∈xs->0<=f j x/\f j x<=b)->0<=Bw f k xs/\Bw f k xs<=b*xs.length
 | [],k,h=>by simp [Bw]
 | x::xs,k,h=>by
  have h1:=h k x (by simp)
  have h2:=Np f b xs (k+1) (λj y hy=>h j y (by simp [hy]))
  have e:b*((x::xs).length:Int)=b+b*xs.length:=by rw [List.length_cons,Int.natCast_add,Int.mul_add];omega
  rw [Bw,e];omega
theorem J2 {α ρ:Type} {body:Nat->α->Int->Option (Ctl Int ρ)} (f:Nat->α->Int):∀(xs:List α) (k:Nat) (s:Int),0<=s->s+1000000000*xs.length<=1000000000000000->(∀j x,x∈xs->0<=f j x/\f j x<=1000000000)->(∀j x s,x∈xs->j<k+xs.length->0<=s->s<=1000000000000000->body j x s=some (.go (s+f j x))) ->
  forR body xs k s=some (.go (s+Bw f k xs))
 | [],k,s,h0,h1,hf,hb=>by rw [forR,Bw];congr 2;omega
 | x::xs,k,s,h0,h1,hf,hb=>by
  have h2:=hf k x (by simp)
  have e:(1000000000:Int)*((x::xs).length:Int)=1000000000+1000000000*xs.length:=by rw [List.length_cons,Int.natCast_add,Int.mul_add];omega
  rw [e]at h1
  have hl:(0:Int)<=xs.length:=Int.natCast_nonneg _
  rw [forR,hb k x s (by simp) (by simp) h0 (by omega),ob_]
  simp only []
  rw [J2 f xs (k+1) (s+f k x) (by omega) (by omega) (λj y hy=>hf j y (by simp [hy])) (λj y t hy hj=>hb j y t (by simp [hy]) (by simp only [List.length_cons];omega)),Bw]
  congr 2;omega
def SpotR (s:Spot):Prop:=0<=s.Room/\s.Room<=10000000/\s.Tags.length<=1000
def CampR (c:Campaign):Prop:=0<=c.Goal/\c.Goal<=10000000/\0<=c.Most/\c.Most<=10000000/\c.Tags.length<=1000
end Go.Proofs.YtkjlhdminmpmkaaGreatDoor.Law

open Go Go.Eng Go.Flow
namespace Go.Proofs.YtkjlhdminmpmkaaGreatDoor.Law
set_option linter.unusedVariables false
set_option linter.unusedSimpArgs false
def netOf (spots:List Spot) (l:List Campaign):Net where
 q:=l.length
 m:=spots.length
 goal:=λi=>match l[i]? with | some c=>c.Goal | none=>0
 most:=λi=>match l[i]? with | some c=>c.Most | none=>0
 room:=λk=>match spots[k]? with | some s=>s.Room | none=>0
 suits:=λi k=>match l[i]?,spots[k]? with | some c,some s=>wM c s | _,_=>false
def FL (N:Net) (r:Int):Prop:=(∀B,r<=N.cutV B)/\∃B,r=N.cutV B
theorem MO {N:Net} {c:Nat->Nat->Int} {v:Int} (h:Flows N.size 0 1 N.can c v) {R:Nat->Bool} (r0:R 0=true) (r1:R 1=false) (h0:∀a b,a<N.size->b<N.size->R a=true->R b=false->c a b=0):FL N v :=
 ⟨(N.best h).1,_,((N.best h).2 R r0 r1 h0).symm⟩
end Go.Proofs.YtkjlhdminmpmkaaGreatDoor.Law

open Go Go.Eng Go.Flow
namespace Go.Proofs.YtkjlhdminmpmkaaGreatDoor.Law
set_option linter.unusedVariables false
set_option linter.unusedSimpArgs false
set_option linter.unusedSectionVars false
theorem IK (w:Web) {i:Nat} (hi:i<=1000000):iI w (i:Int)=some (((2+i:Nat)):Int):=by
 unfold iI
 rw [dw (by omega)]
 exact congrArg some (by omega)
theorem Ik (rows:List (List Int)) {q k:Nat} (hq:q<=1000000) (hk:k<=1000000):iC (⟨rows,(q:Int)⟩:Web) (k:Int)=some (((2+q+k:Nat)):Int):=by
 unfold iC
 simp only
 rw [dw (n:=2+(q:Int)) (by omega),dw (by omega)]
 exact congrArg some (by omega)
theorem in0 {n:Nat} (h:0<n):inN 0 n=some ():=by have:=qL (i:=0) (n:=n) h;simpa using this
section
variable {spots:List Spot} {l:List Campaign}
theorem size_eq:(netOf spots l).size=2+spots.length+l.length:=by unfold Net.size netOf;simp only;omega
theorem wh {i:Nat} {c:Campaign} (h:l[i]? = some c):(netOf spots l).goal i=c.Goal/\(netOf spots l).most i=c.Most:=by unfold netOf;simp only [h];exact⟨trivial,trivial⟩
theorem Nn {k:Nat} {s:Spot} (h:spots[k]? = some s):(netOf spots l).room k=s.Room:=by unfold netOf;simp only [h]
theorem Ea {i k:Nat} {c:Campaign} {s:Spot} (h:l[i]? = some c) (h':spots[k]? = some s):(netOf spots l).suits i k=wM c s:=by unfold netOf;simp only [h,h']
def made (spots:List Spot) (l:List Campaign) (i j k:Nat) (a b:Nat):Int :=
 if a=0 then (if 2<=b/\b<2+j then (netOf spots l).goal (b-2)else 0)
 else if a<2+i then (netOf spots l).can a b
 else if a=2+i/\i<l.length/\b<2+l.length+k then (netOf spots l).can a b else 0
structure Mk (spots:List Spot) (l:List Campaign) (n:Nat) (f:Nat->Nat->Int) (rows:List (List Int)):Prop where
 sq:Sq n rows
 is_:∀a b,a<n->b<n->at2 rows a b=f a b
theorem Mk.congr {n:Nat} {f g:Nat->Nat->Int} {rows:List (List Int)} (h:Mk spots l n f rows) (e:∀a b,a<n->b<n->f a b=g a b):Mk spots l n g rows:=⟨h.sq,λa b ha hb=>(h.is_ a b ha hb).trans (e a b ha hb)⟩
theorem Mk.wr {n:Nat} {f g:Nat->Nat->Int} {rows:List (List Int)} (h:Mk spots l n f rows) {a b:Nat} (ha:a<n) (hb:b<n) (x:Int) {r:List Int} (hr:rows[a]? = some r) (e:∀i j,i<n->j<n->g i j=if i=a/\j=b then x else f i j):Mk spots l n g (rows.set a (r.set b x)):=by
 obtain ⟨h1,h2⟩:=h.sq.wr ha hb x hr
 refine⟨h1,λi j hi hj => ?_⟩
 rw [h2,e i j hi hj]
 split
 ·rfl
 ·exact h.is_ i j hi hj
variable (hs:∀s∈spots,tagsF s.Tags=0) (hl:∀c∈l,c.Tags.length<=1000) (hsn:spots.length<=1000) (hln:l.length<=1000)
include hs hl hsn hln
theorem new_L2 {i:Nat} {c:Campaign} (hc:l[i]? = some c) {k:Nat} {s:Spot} (hk:spots[k]? = some s) {rows:List (List Int)} (h:Mk spots l (2+spots.length+l.length) (made spots l i (i+1) k) rows) :
  ∃rows',iU c (2+spots.length+l.length) l i k s rows=some (.go rows')/\Mk spots l (2+spots.length+l.length) (made spots l i (i+1) (k+1)) rows':=by
 have hi:i<l.length:=(List.getElem?_eq_some_iff.1 hc).1
 have hk':k<spots.length:=(List.getElem?_eq_some_iff.1 hk).1
 have hsu:=Rb c s (hl c (List.mem_of_getElem? hc)) (hs s (List.mem_of_getElem? hk))
 have hcan:(netOf spots l).can (2+i) (2+l.length+k)=bif wM c s then c.Most else 0:=by
  have:=Net.can_to (N:=netOf spots l) (i:=i) (k:=k) (show i<l.length from hi)
  rw [Ea hc hk,(wh hc).2]at this
  exact this
 have other:∀a b,a<2+spots.length+l.length->b<2+spots.length+l.length->¬(a=2+i/\b=2+l.length+k)->made spots l i (i+1) (k+1) a b=made spots l i (i+1) k a b:=λa b ha hb hn=>by
  unfold made
  split
  ·rfl
  ·split
   ·rfl
   ·by_cases h1:a=2+i
    ·by_cases h2:b<2+l.length+k
     ·rw [if_pos ⟨h1,hi,by omega⟩,if_pos ⟨h1,hi,h2⟩]
     ·rw [if_neg (by omega),if_neg (by omega)]
    ·rw [if_neg (by omega),if_neg (by omega)]
 have at_:made spots l i (i+1) (k+1) (2+i) (2+l.length+k)=bif wM c s then c.Most else 0:=by
  unfold made
  rw [if_neg (by omega),if_neg (by omega),if_pos ⟨rfl,hi,by omega⟩,hcan]
 have was:made spots l i (i+1) k (2+i) (2+l.length+k)=0:=by
  unfold made
  rw [if_neg (by omega),if_neg (by omega),if_neg (by omega)]
 unfold iU
 simp only [hsu,ob_]
 cases hb:wM c s with
 | false =>
  simp only [cond_false,ob_]
  refine⟨_,rfl,h.congr (λa b ha hb' => ?_)⟩
  by_cases h1:a=2+i/\b=2+l.length+k
  ·obtain ⟨rfl,rfl⟩:=h1
   rw [at_,was,hb];rfl
  ·exact (other a b ha hb' h1).symm
 | true =>
  obtain ⟨r,r1,r2,r3⟩:=h.sq.get (a:=2+i) (by omega)
  simp only [cond_true,h.sq.ne (by omega),ob_,tu h.sq.len,IK _ (show i<=1000000 by omega),qL (show 2+i<2+spots.length+l.length by omega),toN,r1,Ik rows (show l.length<=1000000 by omega) (show k<=1000000 by omega),inR_at (show 2+l.length+k<r.length by omega),r3 (2+l.length+k) (by omega)]
  refine⟨_,rfl,h.wr (by omega) (by omega) _ r1 (λa b ha hb' => ?_)⟩
  split
  ·rename_i h1
   obtain ⟨rfl,rfl⟩:=h1
   rw [at_,hb];rfl
  ·rename_i h1
   exact other a b ha hb' h1
theorem new_L3 {i:Nat} {c:Campaign} (hc:l[i]? = some c) {rows:List (List Int)} (h:Mk spots l (2+spots.length+l.length) (made spots l i i 0) rows) :
  ∃rows',iT (2+spots.length+l.length) l spots i c rows=some (.go rows')/\Mk spots l (2+spots.length+l.length) (made spots l (i+1) (i+1) 0) rows':=by
 have hi:i<l.length:=(List.getElem?_eq_some_iff.1 hc).1
 obtain ⟨r,r1,r2,r3⟩:=h.sq.get (a:=0) (by omega)
 have h0t:(0+(0:Int).toNat)=0:=rfl
 have h1:Mk spots l (2+spots.length+l.length) (made spots l i (i+1) 0) (rows.set 0 (r.set (2+i) c.Goal)):=h.wr (by omega) (by omega) _ r1 (λa b ha hb=>by
  unfold made
  by_cases ha0:a=0
  ·subst ha0
   rw [if_pos rfl,if_pos rfl]
   by_cases hbi:b=2+i
   ·subst hbi
    rw [if_pos ⟨by omega,by omega⟩,if_pos ⟨rfl,rfl⟩,show 2+i-2=i by omega,(wh hc).1]
   ·rw [if_neg (λe:0=0/\b=2+i=>hbi e.2)]
    by_cases h2:2<=b/\b<2+i
    ·rw [if_pos ⟨h2.1,by omega⟩,if_pos h2]
    ·rw [if_neg (by omega),if_neg h2]
  ·rw [if_neg ha0,if_neg (λe:a=0/\b=2+i=>ha0 e.1),if_neg ha0])
 obtain ⟨rows2,e1,e2⟩:=o7 (body:=λk x s=>iU c (2+spots.length+l.length) l i k x s) (λk rows=>Mk spots l (2+spots.length+l.length) (made spots l i (i+1) k) rows) (xs:=spots) (by omega) (λk s rows hk hm=>new_L2 hs hl hsn hln hc hk hm) h1
 unfold iT
 simp only [in0 (show 0<2+spots.length+l.length by omega),ob_,h0t,r1,h.sq.ne (by omega),tu h.sq.len,IK _ (show i<=1000000 by omega),inR_at (show 2+i<r.length by omega),toN,r3 (2+i) (by omega)]
 rw [e1,ob_]
 refine⟨_,rfl,e2.congr (λa b ha hb => ?_)⟩
 unfold made
 split
 ·rfl
 ·by_cases h2:a<2+i
  ·rw [if_pos h2,if_pos (by omega)]
  ·rw [if_neg h2]
   by_cases h3:a=2+i
   ·rw [if_pos ⟨h3,hi,by omega⟩,if_pos (by omega)]
   ·rw [if_neg (by omega),if_neg (by omega)]
    split
    ·rename_i h4
     obtain ⟨rfl,h4,h5⟩:=h4
     exact (Net.can_c (N:=netOf spots l) (i:=i+1) h4 (b:=b) h5).symm
    ·rfl
theorem Pe:∃rows,kQ spots l=some ⟨rows,(l.length:Int)⟩/\Sq (netOf spots l).size rows/\∀a b,a<(netOf spots l).size->b<(netOf spots l).size->at2 rows a b=(netOf spots l).can a b:=by
 rw [size_eq]
 have hw:w64 (w64 (2+(spots.length:Int))+(l.length:Int))=((2+spots.length+l.length:Nat):Int):=by
  rw [dw (n:=2+(spots.length:Int)) (by omega),dw (by omega)];omega
 have hmk:∀b:Nat,b<=24->mkN ((2+spots.length+l.length:Nat):Int) b=some (2+spots.length+l.length):=λb hb=>by
  unfold mkN
  rw [if_pos ⟨by omega,by
   have:((2+spots.length+l.length:Nat):Int)*(b:Int)<=3000*24:=Int.mul_le_mul (by omega) (by omega) (by omega) (by omega)
   omega,by omega⟩,Int.toNat_natCast]
 have hnz:nzI ((2+spots.length+l.length:Nat):Int)=some ():=by unfold nzI;rw [if_pos (by omega)]
 unfold kQ
 rw [hw,hmk 24 (by decide),ob_,hnz,ob_]
 have htn:(((2+spots.length+l.length:Nat):Int)).toNat=2+spots.length+l.length:=Int.toNat_natCast _
 rw [htn]
 obtain ⟨rows,h1,h2,h3⟩:=xh (body:=λk x s=>jW spots l (2+spots.length+l.length) k x s) (λj rows=>rows.length=2+spots.length+l.length/\∀i,i<j->rows[i]? = some (List.replicate (2+spots.length+l.length) (0:Int))) (n:=2+spots.length+l.length) (s:=List.replicate (2+spots.length+l.length) ([]:List Int)) (by omega) (λj rows hj hi=>by
  obtain ⟨i1,i2⟩:=hi
  have hne:neL (List.replicate (2+spots.length+l.length) (0:Int))=some ():=by rw [show 2+spots.length+l.length=(1+spots.length+l.length)+1 by omega,List.replicate_succ];rfl
  unfold jW
  simp only [hw,hmk 8 (by decide),ob_,qL hj,hne,toN,List.getElem?_eq_getElem (show j<rows.length by omega)]
  refine⟨_,rfl,by rw [List.length_set];exact i1,λi hi => ?_⟩
  rw [List.getElem?_set]
  by_cases e:j=i
  ·rw [if_pos e,if_pos (by omega)]
  ·rw [if_neg e];exact i2 i (by omega)) ⟨by simp,λi hi=>absurd hi (Nat.not_lt_zero i)⟩
 rw [h1,ob_]
 have hr:rows=List.replicate (2+spots.length+l.length) (List.replicate (2+spots.length+l.length) (0:Int)):=List.ext_getElem? (λi=>by
  rw [List.getElem?_replicate]
  by_cases hi:i<2+spots.length+l.length
  ·rw [if_pos hi];exact h3 i hi
  ·rw [if_neg hi];exact List.getElem?_eq_none (by omega))
 subst hr
 have h0:Mk spots l (2+spots.length+l.length) (made spots l 0 0 0) (List.replicate (2+spots.length+l.length) (List.replicate (2+spots.length+l.length) (0:Int))):=by
  refine⟨⟨by simp,λr hr=>by rw [(List.mem_replicate.1 hr).2];simp⟩,λa b ha hb => ?_⟩
  have e:at2 (List.replicate (2+spots.length+l.length) (List.replicate (2+spots.length+l.length) (0:Int))) a b=0:=by
   unfold at2
   simp only [List.getD_eq_getElem?_getD,List.getElem?_replicate,if_pos ha,Option.getD_some,if_pos hb]
  rw [e]
  unfold made
  by_cases ha0:a=0
  ·rw [if_pos ha0,if_neg (by omega)]
  ·rw [if_neg ha0]
   by_cases ha1:a<2+0
   ·rw [if_pos ha1,show a=1 by omega,Net.can_1]
   ·rw [if_neg ha1]
    split
    ·rename_i h4
     obtain ⟨rfl,h4,h5⟩:=h4
     exact (Net.can_c (N:=netOf spots l) (i:=0) h4 (b:=b) h5).symm
    ·rfl
 simp only [thenC]
 obtain ⟨rows2,e1,e2⟩:=o7 (body:=λk x s=>iT (2+spots.length+l.length) l spots k x s) (λi rows=>Mk spots l (2+spots.length+l.length) (made spots l i i 0) rows) (xs:=l) (by omega) (λi c rows hc hm=>new_L3 hs hl hsn hln hc hm) h0
 rw [e1,ob_]
 simp only [thenC]
 have h5:Mk spots l (2+spots.length+l.length) (λa b=>if a<2+l.length+0 then (netOf spots l).can a b else 0) rows2:=e2.congr (λa b ha hb=>by
  unfold made
  by_cases ha0:a=0
  ·subst ha0
   rw [if_pos rfl]
   show _=if 0<2+l.length+0 then (netOf spots l).can 0 b else 0
   rw [if_pos (show 0<2+l.length+0 by omega)]
   unfold Net.can
   rw [if_pos rfl];rfl
  ·rw [if_neg ha0]
   by_cases h6:a<2+l.length
   ·rw [if_pos h6,if_pos (by omega)]
   ·rw [if_neg h6,if_neg (by omega),if_neg (by omega)])
 obtain ⟨rows3,e3,e4⟩:=o7 (body:=λk x s=>jQ (2+spots.length+l.length) l k x s) (λk rows=>Mk spots l (2+spots.length+l.length) (λa b=>if a<2+l.length+k then (netOf spots l).can a b else 0) rows) (xs:=spots) (by omega) (λk s rows hk hm=>by
  have hk':k<spots.length:=(List.getElem?_eq_some_iff.1 hk).1
  obtain ⟨r,r1,r2,r3⟩:=hm.sq.get (a:=2+l.length+k) (by omega)
  have h1t:(0+(1:Int).toNat)=1:=rfl
  have hin1:inR 1 r=some ():=by
   show inR ((1:Nat):Int) r=some ()
   exact inR_at (i:=1) (by omega)
  unfold jQ
  simp only [hm.sq.ne (by omega),ob_,tu hm.sq.len,Ik rows (show l.length<=1000000 by omega) (show k<=1000000 by omega),qL (show 2+l.length+k<2+spots.length+l.length by omega),toN,r1,hin1,h1t,r3 1 (by omega)]
  refine⟨_,rfl,hm.wr (by omega) (by omega) _ r1 (λa b ha hb => ?_)⟩
  have hsink:(netOf spots l).can (2+l.length+k) 1=s.Room:=by
   have:=Net.can_sink (N:=netOf spots l) (k:=k)
   rw [Nn hk]at this;exact this
  by_cases ha:a=2+l.length+k
  ·subst ha
   rw [if_pos (by omega)]
   by_cases hb1:b=1
   ·subst hb1;rw [if_pos ⟨rfl,rfl⟩,hsink]
   ·rw [if_neg (λe:2+l.length+k=2+l.length+k/\b=1=>hb1 e.2),if_neg (by omega)]
    exact Net.can_s (N:=netOf spots l) (k:=k) hb1
  ·rw [if_neg (λe:a=2+l.length+k/\b=1=>ha e.1)]
   by_cases hlt:a<2+l.length+k
   ·rw [if_pos hlt,if_pos (by omega)]
   ·rw [if_neg hlt,if_neg (by omega)]) h5
 rw [e3,ob_]
 simp only [thenC,tu e4.sq.len,ob_]
 refine⟨_,rfl,e4.sq,λa b ha hb => ?_⟩
 rw [e4.is_ a b ha hb,if_pos (by omega)]
end
end Go.Proofs.YtkjlhdminmpmkaaGreatDoor.Law

open Go Go.Eng Go.Flow
namespace Go.Proofs.YtkjlhdminmpmkaaGreatDoor.Law
set_option linter.unusedVariables false
set_option linter.unusedSimpArgs false
set_option linter.unusedSectionVars false
theorem CP {n s t:Nat} {c0 d0 c d:Nat->Nat->Int} {v:Int} (hs:s<n) (h0:∀a b,a<n->b<n->c0 a b=d0 a b) (h1:∀a b,a<n->b<n->c a b=d a b) (h:Flows n s t c0 c v):Flows n s t d0 d v where
 pos:=λa b ha hb=>by rw [<- h1 a b ha hb];exact h.pos a b ha hb
 anti:=λa b ha hb=>by rw [<- h0 a b ha hb,<- h0 b a hb ha,<- h1 a b ha hb,<- h1 b a hb ha];exact h.anti a b ha hb
 cons:=λx hx h2 h3=>by rw [<- h.cons x hx h2 h3];exact bI (λb hb=>by rw [h0 x b hx hb,h1 x b hx hb])
 val:=by rw [<- h.val];exact bI (λb hb=>by rw [h0 s b hs hb,h1 s b hs hb])
theorem Dq {f:Nat->Int} {M:Int}:∀{n:Nat},(∀i,i<n->f i<=M)->S n f<=M*n
 | 0,_=>by show (0:Int)<=M*((0:Nat):Int);simp
 | n+1,h=>by
  show S n f+f n<=_
  have h1:=Dq (f:=f) (M:=M) (n:=n) (λi hi=>h i (by omega))
  have h2:=h n (by omega)
  have e:M*((n+1:Nat):Int)=M*n+M:=by rw [Int.natCast_add,Int.mul_add];simp
  omega
section
variable {spots:List Spot} {l:List Campaign}
structure Office (spots:List Spot) (l:List Campaign):Prop where
 tg:∀s∈spots,tagsF s.Tags=0
 sr:∀s∈spots,SpotR s
 cr:∀c∈l,CampR c
 sn:spots.length<=30
 ln:l.length<=100
variable (h:Office spots l)
include h
theorem EG (i:Nat):0<=(netOf spots l).goal i/\(netOf spots l).goal i<=10000000:=by
 unfold netOf;simp only
 split
 ·rename_i c hc
  have:=h.cr c (List.mem_of_getElem? hc)
  exact⟨this.1,this.2.1⟩
 ·omega
theorem DT (i:Nat):0<=(netOf spots l).most i/\(netOf spots l).most i<=10000000:=by
 unfold netOf;simp only
 split
 ·rename_i c hc
  have:=h.cr c (List.mem_of_getElem? hc)
  exact⟨this.2.2.1,this.2.2.2.1⟩
 ·omega
theorem AJ (k:Nat):0<=(netOf spots l).room k/\(netOf spots l).room k<=10000000:=by
 unfold netOf;simp only
 split
 ·rename_i s hs
  have:=h.sr s (List.mem_of_getElem? hs)
  exact⟨this.1,this.2.1⟩
 ·omega
theorem Jo (a b:Nat):0<=(netOf spots l).can a b/\(netOf spots l).can a b<=10000000:=by
 unfold Net.can
 have hg:=EG h
 have hm:=DT h
 have hr:=AJ h
 split
 ·split
  ·exact hg _
  ·omega
 ·split
  ·omega
  ·split
   ·split
    ·exact hm _
    ·omega
   ·split
    ·exact hr _
    ·omega
theorem uO:(netOf spots l).Right:=⟨λi _=>(EG h i).1,λi _=>(DT h i).1,λk _=>(AJ h k).1⟩
theorem Sg:∃rows,kQ spots l=some ⟨rows,(l.length:Int)⟩/\Sq (netOf spots l).size rows/\neR rows=some ()/\∃v rows',iH ⟨rows,(l.length:Int)⟩ 0 1 1800000000=some (v,⟨rows',(l.length:Int)⟩)/\j5 rows' rows=some ()/\Sq (netOf spots l).size rows' /\
  Flows (netOf spots l).size 0 1 (netOf spots l).can (at2 rows') v/\0<=v/\FL (netOf spots l) v:=by
 have hsz:=size_eq (spots:=spots) (l:=l)
 have hsn:=h.sn
 have hln:=h.ln
 obtain ⟨rows,e1,q1,a1⟩:=Pe h.tg (λc hc=>(h.cr c hc).2.2.2.2) (show spots.length<=1000 by omega) (show l.length<=1000 by omega)
 obtain ⟨v,rows',e2,q2,f2,v0,v1,v2⟩:=NI (n:=(netOf spots l).size) (s:=0) (t:=1) (w:=⟨rows,(l.length:Int)⟩) (most:=1800000000) q1 (by omega) (by omega) (by omega) (by omega) (λa b ha hb=>by show 0<=at2 rows a b;rw [a1 a b ha hb];exact (Jo h a b).1) (λa b ha hb=>by
  show at2 rows a b+at2 rows b a<=_
  rw [a1 a b ha hb,a1 b a hb ha]
  have:=Jo h a b
  have:=Jo h b a
  omega) (by decide) (by decide)
 have f3:Flows (netOf spots l).size 0 1 (netOf spots l).can (at2 rows') v:=CP (by omega) a1 (λ_ _ _ _=>rfl) f2
 have hb:=((netOf spots l).best f3).1 (λ_=>true)
 have hlt:v<1800000000:=by
  have hc:(netOf spots l).cutV (λ_=>true)<=10000000*30+0:=by
   unfold Net.cutV
   have h1:S (netOf spots l).m (λk=>bif (λ_=>true) k then (netOf spots l).room k else 0)<=10000000*((netOf spots l).m:Int):=Dq (λk _=>(AJ h k).2)
   have h2:S (netOf spots l).q (λi=>min ((netOf spots l).goal i) ((netOf spots l).ways (λ_=>true) i))<=0*((netOf spots l).q:Int):=Dq (λi _=>by
    have:(netOf spots l).ways (λ_=>true) i=0:=by
     unfold Net.ways
     exact Net.S_all0 (λk _=>rfl)
    omega)
   have h3:((netOf spots l).m:Int)=spots.length:=rfl
   omega
  omega
 obtain ⟨R,r1,r2,r3⟩:=v2 hlt
 refine⟨rows,e1,q1,q1.ne (by omega),v,rows',e2,EC (by rw [q1.len,q2.len]),q2,f3,v0,MO f3 r1 r2 r3⟩
end
end Go.Proofs.YtkjlhdminmpmkaaGreatDoor.Law

