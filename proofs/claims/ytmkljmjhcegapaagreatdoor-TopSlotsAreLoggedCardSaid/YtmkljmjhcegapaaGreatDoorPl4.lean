/-
  THE PLAIN LAW (part 4).
-/
import Derived.Test.YtmkljmjhcegapaaGreatDoorPl3
import Derived.Test.YtmkljmjhcegapaaGreatDoorDefs
open Go Go.Eng
namespace Go.Proofs.YtmkljmjhcegapaaGreatDoor.Law
set_option linter.unusedVariables false
set_option linter.unusedSimpArgs false
def memB (v:ByteArray) (l:List ByteArray):Bool:=l.any λx=>decide (v=x)
theorem yA {v:ByteArray} {l:List ByteArray}:memB v l=true↔v∈l:=by simp [memB]
theorem Ga {v:ByteArray} {l:List ByteArray} (h:v∉l):memB v l=false:=by
 cases hb:memB v l with
 | false=>rfl
 | true=>exact absurd (yA.1 hb) h
def Bw (l:List ByteArray):Prop:=∀i j (hi:i<l.length) (hj:j<l.length),i<j->lt l[i] l[j]
theorem vH:∀(l:List ByteArray) (last:ByteArray),chk id BP last l=0->Bw l/\∀x∈l,lt last x
 | [],last,h=>⟨λi j hi=>absurd hi (Nat.not_lt_zero i),by simp⟩
 | x::xs,last,h=>by
  rw [chk]at h
  cases he:BP last x==0 with
  | false=>rw [he]at h;simp only [cond_false]at h;rw [h]at he;cases he
  | true =>
   rw [he]at h
   simp only [cond_true,id]at h
   obtain ⟨h1,h2⟩:=vH xs x h
   have hx:lt last x:=by
    unfold BP at he
    cases hk:keyB x with
    | false=>rw [hk]at he;cases he
    | true =>
     cases hl:sLe x last with
     | true=>rw [hk,hl]at he;cases he
     | false =>
      have:=mt (yM x last).2 (by rw [hl];simp)
      exact Classical.not_not.1 this
   refine⟨λi j hi hj hij => ?_,λy hy => ?_⟩
   ·cases i with
    | zero=>cases j with
     | zero=>omega
     | succ j=>exact h2 _ (List.getElem_mem _)
    | succ i=>cases j with
     | zero=>omega
     | succ j=>exact h1 i j (by simpa using hi) (by simpa using hj) (by omega)
   ·rcases List.mem_cons.1 hy with rfl|hy
    ·exact hx
    ·exact lt_trans hx (h2 y hy)
theorem tagsF_0 {l:List ByteArray} (h:tagsF l=0):l.length<=20/\Bw l:=by
 unfold tagsF at h
 by_cases hl:l.length>20
 ·rw [decide_eq_true hl]at h;cases h
 ·rw [decide_eq_false hl]at h
  exact⟨by omega,(vH l Cj h).1⟩
theorem JP (x y:ByteArray):cmp_Less_string x y=some (sLt x y):=by
 unfold cmp_Less_string cmp_isNaN_string
 have:sNe x x=false:=by rw [Ej];simp
 rw [this];rfl
theorem half (i j:Nat) (h:i<=1000000/\j<=1000000):zq .u64 (IntKind.u64.wrap (w64 ((i:Int)+(j:Int)))) 1=some (((i+j) / 2:Nat):Int):=by
 have e1:w64 ((i:Int)+j)=((i+j:Nat):Int):=by rw [aZ (by omega)];omega
 have e2:IntKind.u64.wrap ((i+j:Nat):Int)=((i+j:Nat):Int):=IntWalk.u64_in _ (by omega)
 rw [e1,e2]
 unfold zq
 rw [if_neg (by omega)]
 congr 1
 show Int.fdiv _ (2 ^ 1)=_
 rw [Int.fdiv_eq_ediv_of_nonneg _ (by decide)]
 omega
structure Ends (l:List ByteArray) (t:ByteArray) (i j:Nat):Prop where
 le:i<=j
 len:j<=l.length
 lo:∀k (h:k<l.length),k<i->lt l[k] t
 hi:∀k (h:k<l.length),j<=k->¬lt l[k] t
theorem JK (l:List ByteArray) (t:ByteArray) (i j:Nat) (hij:i<j) (hm:(i+j) / 2<l.length) (hl:j<=1000) :
  bf l t ((i:Int),(j:Int))=some (bif sLt l[(i+j) / 2] t then .go ((((i+j) / 2+1:Nat):Int),(j:Int))else .go ((i:Int),(((i+j) / 2:Nat):Int))):=by
 have e1:decide ((i:Int)<(j:Int))=true:=by simp;omega
 have ew:w64 (((i+j) / 2:Nat):Int)=(((i+j) / 2:Nat):Int):=aZ (by omega)
 have ew2:w64 ((((i+j) / 2:Nat):Int)+1)=(((i+j) / 2+1:Nat):Int):=by rw [aZ (by omega)];omega
 simp only [bf,e1,cond_true,half i j (by omega),ob_,ew,ew2,iH,List.getElem?_eq_getElem hm,JP]
 cases sLt l[(i+j) / 2] t <;> rfl
theorem wo (l:List ByteArray) (t:ByteArray) (hr:Bw l) (hl:l.length<=1000):∀(d i j:Nat),j-i<=d->Ends l t i j->∃m:Nat,iterN (λs=>bf l t s) (d+1) ((i:Int),(j:Int))=some (.go ((m:Int),(m:Int)))/\Ends l t m m
 | d,i,j,hd,he=>by
  have hlen:=he.len
  have hle:=he.le
  by_cases hij:i<j
  ·have hm:(i+j) / 2<l.length:=by omega
   rw [iterN,JK l t i j hij hm (by omega),ob_]
   cases d with
   | zero=>omega
   | succ d =>
    cases hc:sLt l[(i+j) / 2] t with
    | true =>
     have hlt:=(uw _ _).1 hc
     simp only [cond_true]
     refine wo l t hr hl d ((i+j) / 2+1) j (by omega) ⟨by omega,hlen,λk hk hki => ?_,he.hi⟩
     rcases Nat.lt_or_ge k ((i+j) / 2)with h|h
     ·exact lt_trans (hr k _ hk hm h) hlt
     ·have:k=(i+j) / 2:=by omega
      subst this;exact hlt
    | false =>
     have hlt:=mt (uw _ _).2 (by rw [hc];simp)
     simp only [cond_false]
     refine wo l t hr hl d i ((i+j) / 2) (by omega) ⟨by omega,by omega,he.lo,λk hk hki => ?_⟩
     rcases Nat.lt_or_ge ((i+j) / 2) k with h|h
     ·exact λhx=>hlt (lt_trans (hr _ k hm hk h) hx)
     ·have:k=(i+j) / 2:=by omega
      subst this;exact hlt
  ·have e1:decide ((i:Int)<(j:Int))=false:=by simp;omega
   have:i=j:=by omega
   subst this
   have hst:bf l t ((i:Int),(i:Int))=some (.brk ((i:Int),(i:Int))):=by simp only [bf,e1,cond_false]
   rw [iterN,hst,ob_]
   exact⟨i,rfl,he⟩
theorem bs_eq (l:List ByteArray) (t:ByteArray) (hr:Bw l) (hl:l.length<=1000):∃i:Int,dN l t=some (i,memB t l):=by
 obtain ⟨m,h1,h2⟩:=wo l t hr hl l.length 0 l.length (by omega) ⟨by omega,Nat.le_refl _,λk _ h=>absurd h (Nat.not_lt_zero k),λk hk h=>absurd h (by omega)⟩
 have h3:=eu h1
 refine⟨m,?_⟩
 unfold dN
 have h4:fq ((0:Int),(l.length:Int)) (λs=>bf l t s)=some (Ctl.go ((m:Int),(m:Int))):=h3
 rw [h4,ob_,gN]
 have key:t∈l↔∃h:m<l.length,l[m]=t:=by
  constructor
  ·intro hm
   obtain ⟨k,hk,he⟩:=List.getElem_of_mem hm
   have hk1:¬k<m:=λh=>by have:=h2.lo k hk h;rw [he]at this;exact kJ _ this
   have hml:m<l.length:=by omega
   refine⟨hml,?_⟩
   rcases Nat.lt_or_ge m k with h|h
   ·have h5:=hr m k hml hk h
    rw [he]at h5
    exact absurd h5 (h2.hi m hml (Nat.le_refl _))
   ·have:k=m:=by omega
    subst this;exact he
  ·rintro ⟨h,he⟩
   rw [<- he];exact List.getElem_mem _
 by_cases hml:m<l.length
 ·have e1:decide ((m:Int)<(l.length:Int))=true:=by simp;omega
  simp only [e1,cond_true,iH,List.getElem?_eq_getElem hml,ob_,yO]
  have hn:slices_isNaN_string l[m]=some false:=by
   unfold slices_isNaN_string;rw [Ej];simp
  rw [hn]
  by_cases he:l[m]=t
  ·simp only [decide_eq_true he,cond_true,ob_,yA.2 (key.2 ⟨hml,he⟩)]
  ·simp only [decide_eq_false he,cond_false,ob_,Ga (λh=>he (key.1 h).2)]
 ·have e1:decide ((m:Int)<(l.length:Int))=false:=by simp;omega
  simp only [e1,cond_false,ob_]
  rw [Ga (λh=>hml (key.1 h).1)]
namespace I
def lt (a b:Int):Prop:=a<b
theorem kJ (a:Int):¬lt a a:=Int.lt_irrefl a
theorem lt_trans {a b c:Int} (h:lt a b) (k:lt b c):lt a c:=Int.lt_trans h k
def sLt (a b:Int):Bool:=decide (a<b)
theorem uw (a b:Int):sLt a b=true↔lt a b:=by simp [sLt,lt]
def memB (v:Int) (l:List Int):Bool:=l.any λx=>decide (v=x)
theorem yA {v:Int} {l:List Int}:memB v l=true↔v∈l:=by simp [memB]
theorem Ga {v:Int} {l:List Int} (h:v∉l):memB v l=false:=by
 cases hb:memB v l with
 | false=>rfl
 | true=>exact absurd (yA.1 hb) h
def Bw (l:List Int):Prop:=∀i j (hi:i<l.length) (hj:j<l.length),i<j->lt l[i] l[j]
theorem JP (x y:Int):cmp_Less_int x y=some (sLt x y):=by
 unfold cmp_Less_int cmp_isNaN_int
 have:(x != x)=false:=by simp
 rw [this];rfl
structure Ends (l:List Int) (t:Int) (i j:Nat):Prop where
 le:i<=j
 len:j<=l.length
 lo:∀k (h:k<l.length),k<i->lt l[k] t
 hi:∀k (h:k<l.length),j<=k->¬lt l[k] t
theorem JK (l:List Int) (t:Int) (i j:Nat) (hij:i<j) (hm:(i+j) / 2<l.length) (hl:j<=1000) :
  bv l t ((i:Int),(j:Int))=some (bif sLt l[(i+j) / 2] t then .go ((((i+j) / 2+1:Nat):Int),(j:Int))else .go ((i:Int),(((i+j) / 2:Nat):Int))):=by
 have e1:decide ((i:Int)<(j:Int))=true:=by simp;omega
 have ew:w64 (((i+j) / 2:Nat):Int)=(((i+j) / 2:Nat):Int):=aZ (by omega)
 have ew2:w64 ((((i+j) / 2:Nat):Int)+1)=(((i+j) / 2+1:Nat):Int):=by rw [aZ (by omega)];omega
 simp only [bv,e1,cond_true,half i j (by omega),ob_,ew,ew2,iH,List.getElem?_eq_getElem hm,JP]
 cases sLt l[(i+j) / 2] t <;> rfl
theorem wo (l:List Int) (t:Int) (hr:Bw l) (hl:l.length<=1000):∀(d i j:Nat),j-i<=d->Ends l t i j->∃m:Nat,iterN (λs=>bv l t s) (d+1) ((i:Int),(j:Int))=some (.go ((m:Int),(m:Int)))/\Ends l t m m
 | d,i,j,hd,he=>by
  have hlen:=he.len
  have hle:=he.le
  by_cases hij:i<j
  ·have hm:(i+j) / 2<l.length:=by omega
   rw [iterN,JK l t i j hij hm (by omega),ob_]
   cases d with
   | zero=>omega
   | succ d =>
    cases hc:sLt l[(i+j) / 2] t with
    | true =>
     have hlt:=(uw _ _).1 hc
     simp only [cond_true]
     refine wo l t hr hl d ((i+j) / 2+1) j (by omega) ⟨by omega,hlen,λk hk hki => ?_,he.hi⟩
     rcases Nat.lt_or_ge k ((i+j) / 2)with h|h
     ·exact lt_trans (hr k _ hk hm h) hlt
     ·have:k=(i+j) / 2:=by omega
      subst this;exact hlt
    | false =>
     have hlt:=mt (uw _ _).2 (by rw [hc];simp)
     simp only [cond_false]
     refine wo l t hr hl d i ((i+j) / 2) (by omega) ⟨by omega,by omega,he.lo,λk hk hki => ?_⟩
     rcases Nat.lt_or_ge ((i+j) / 2) k with h|h
     ·exact λhx=>hlt (lt_trans (hr _ k hm hk h) hx)
     ·have:k=(i+j) / 2:=by omega
      subst this;exact hlt
  ·have e1:decide ((i:Int)<(j:Int))=false:=by simp;omega
   have:i=j:=by omega
   subst this
   have hst:bv l t ((i:Int),(i:Int))=some (.brk ((i:Int),(i:Int))):=by simp only [bv,e1,cond_false]
   rw [iterN,hst,ob_]
   exact⟨i,rfl,he⟩
theorem bs_eq (l:List Int) (t:Int) (hr:Bw l) (hl:l.length<=1000):∃i:Int,dE l t=some (i,memB t l):=by
 obtain ⟨m,h1,h2⟩:=wo l t hr hl l.length 0 l.length (by omega) ⟨by omega,Nat.le_refl _,λk _ h=>absurd h (Nat.not_lt_zero k),λk hk h=>absurd h (by omega)⟩
 have h3:=eu h1
 refine⟨m,?_⟩
 unfold dE
 have h4:fq ((0:Int),(l.length:Int)) (λs=>bv l t s)=some (Ctl.go ((m:Int),(m:Int))):=h3
 rw [h4,ob_,gN]
 have key:t∈l↔∃h:m<l.length,l[m]=t:=by
  constructor
  ·intro hm
   obtain ⟨k,hk,he⟩:=List.getElem_of_mem hm
   have hk1:¬k<m:=λh=>by have:=h2.lo k hk h;rw [he]at this;exact kJ _ this
   have hml:m<l.length:=by omega
   refine⟨hml,?_⟩
   rcases Nat.lt_or_ge m k with h|h
   ·have h5:=hr m k hml hk h
    rw [he]at h5
    exact absurd h5 (h2.hi m hml (Nat.le_refl _))
   ·have:k=m:=by omega
    subst this;exact he
  ·rintro ⟨h,he⟩
   rw [<- he];exact List.getElem_mem _
 by_cases hml:m<l.length
 ·have e1:decide ((m:Int)<(l.length:Int))=true:=by simp;omega
  simp only [e1,cond_true,iH,List.getElem?_eq_getElem hml,ob_,Bool.beq_eq_decide_eq]
  have hn:iB l[m]=some false:=by
   unfold iB;simp
  rw [hn]
  by_cases he:l[m]=t
  ·simp only [decide_eq_true he,cond_true,ob_,yA.2 (key.2 ⟨hml,he⟩)]
  ·simp only [decide_eq_false he,cond_false,ob_,Ga (λh=>he (key.1 h).2)]
 ·have e1:decide ((m:Int)<(l.length:Int))=false:=by simp;omega
  simp only [e1,cond_false,ob_]
  rw [Ga (λh=>hml (key.1 h).1)]
theorem vH:∀(l:List Int) (p:Option Int),Pn Hg p l=0->Bw l/\∀x∈l,∀y,p=some y->lt y x
 | [],p,h=>⟨λi j hi=>absurd hi (Nat.not_lt_zero i),by simp⟩
 | x::xs,p,h=>by
  rw [Pn]at h
  cases he:Hg p x==0 with
  | false=>rw [he]at h;simp only [cond_false]at h;rw [h]at he;cases he
  | true =>
   rw [he]at h
   simp only [cond_true]at h
   obtain ⟨h1,h2⟩:=vH xs (some x) h
   have hx:∀y,p=some y->lt y x:=λy hy=>by
    subst hy
    unfold Hg at he
    cases hk:kE x 0 4000 with
    | true=>rw [hk]at he;cases he
    | false =>
     cases hl:leP (some y) x with
     | true=>rw [hk,hl]at he;cases he
     | false =>
      simp only [leP,decide_eq_false_iff_not]at hl
      show y<x
      omega
   refine⟨λi j hi hj hij => ?_,λy hy z hz => ?_⟩
   ·cases i with
    | zero=>cases j with
     | zero=>omega
     | succ j=>exact h2 _ (List.getElem_mem _) x rfl
    | succ i=>cases j with
     | zero=>omega
     | succ j=>exact h1 i j (by simpa using hi) (by simpa using hj) (by omega)
   ·rcases List.mem_cons.1 hy with rfl|hy
    ·exact hx z hz
    ·exact lt_trans (hx z hz) (h2 y hy x rfl)
theorem exF_0 {l:List Int} (h:exF l=0):l.length<=100/\Bw l:=by
 unfold exF at h
 by_cases hl:l.length>100
 ·rw [decide_eq_true hl]at h;cases h
 ·rw [decide_eq_false hl]at h
  exact⟨by omega,(vH l none h).1⟩
end I
def Aq (e:Entry) (p:Player):Bool := !(e.Tags.any λt => !memB t p.Tags)
theorem fitK (e:Entry) (p:Player) (h1:e.Tags.length<=1000) (h2:tagsF p.Tags=0):ol e p=some (Aq e p):=by
 obtain ⟨hl,hr⟩:=tagsF_0 h2
 have run:∀(xs:List ByteArray) (k:Nat),forR (λk x u=>jP p k x u) xs k ()=some (bif xs.any (λt => !memB t p.Tags)then .ret false else .go ()):=by
  intro xs
  induction xs with
  | nil=>exact λk=>rfl
  | cons x xs ih =>
   intro k
   obtain ⟨i,hi⟩:=bs_eq p.Tags x hr (by omega)
   have hst:jP p k x ()=some (bif !memB x p.Tags then .ret false else .go ()):=by
    simp only [jP,hi,ob_];cases memB x p.Tags <;> rfl
   rw [forR,hst,ob_]
   cases hm:memB x p.Tags with
   | true=>simp only [Bool.not_true,cond_false,List.any_cons,hm,Bool.false_or];exact ih (k+1)
   | false=>simp [hm]
 unfold ol Aq
 rw [jG (by omega),run e.Tags 0,ob_]
 cases e.Tags.any (λt => !memB t p.Tags) <;> rfl
def collect (p:Int->Bool) (f:Int->Window):Nat->Int->List Window
 | 0,_=>[]
 | n+1,d=>(bif p d then [f d]else [])++collect p f n (d+1)
theorem Dy (p:Int->Bool) (f:Int->Window):∀(n:Nat) (d:Int),(collect p f n d).length<=n
 | 0,_=>Nat.le_refl 0
 | n+1,d=>by
  have:=Dy p f n (d+1)
  simp only [collect,List.length_append]
  cases p d <;> simp <;> omega
theorem mF {p:Int->Bool} {f:Int->Window}:∀(n:Nat) (d:Int),(∀x,d<=x->x<d+n->p x=false)->collect p f n d=[]
 | 0,_,_=>rfl
 | n+1,d,h=>by
  simp only [collect,h d (by omega) (by omega),cond_false,List.nil_append]
  exact mF n (d+1) (λx h1 h2=>h x (by omega) (by omega))
theorem zG {p p':Int->Bool} {f f':Int->Window}:∀(n:Nat) (d:Int),(∀x,d<=x->x<d+n->p x=p' x/\f x=f' x)->collect p f n d=collect p' f' n d
 | 0,_,_=>rfl
 | n+1,d,h=>by
  obtain ⟨h1,h2⟩:=h d (by omega) (by omega)
  simp only [collect,h1,h2]
  rw [zG n (d+1) (λx h1 h2=>h x (by omega) (by omega))]
theorem uH (p:Int->Bool) (f:Int->Window):∀(n m:Nat) (d:Int),collect p f (n+m) d=collect p f n d++collect p f m (d+n)
 | 0,m,d=>by simp [collect]
 | n+1,m,d=>by
  rw [show n+1+m=(n+m)+1 by omega]
  simp only [collect,List.append_assoc]
  rw [uH p f n m (d+1),show d+1+(n:Int)=d+((n+1:Nat):Int) by omega]
theorem Dx (p:Int->Bool) (f:Int->Window) (a b lo hi:Int) (h1:a<=lo) (h2:hi<=b) (h:∀x,a<=x->x<=b->p x=true->lo<=x/\x<=hi) :
  collect p f (b+1-a).toNat a=collect p f (hi+1-lo).toNat lo:=by
 by_cases hh:lo<=hi
 ·have e:(b+1-a).toNat=(lo-a).toNat+((hi+1-lo).toNat+(b-hi).toNat):=by omega
  rw [e,uH,uH,show a+((lo-a).toNat:Int)=lo by omega,mF (lo-a).toNat a (λx x1 x2 => ?_),mF (b-hi).toNat _ (λx x1 x2 => ?_),List.nil_append,List.append_nil]
  ·cases hp:p x with
   | false=>rfl
   | true=>have:=h x (by omega) (by omega) hp;omega
  ·cases hp:p x with
   | false=>rfl
   | true=>have:=h x (by omega) (by omega) hp;omega
 ·rw [show (hi+1-lo).toNat=0 by omega,mF (b+1-a).toNat a (λx x1 x2 => ?_)]
  ·rfl
  ·cases hp:p x with
   | false=>rfl
   | true=>have:=h x (by omega) (by omega) hp;omega
theorem H7 {ρ:Type} {body:List Window×Int->Option (Ctl (List Window×Int) ρ)} {p:Int->Bool} {f:Int->Window} (lo hi:Int)
  (hb:∀(acc:List Window) d,lo<=d->d<=hi->acc.length<=1000000->body (acc,d)=some (.go (acc++(bif p d then [f d]else []),d+1))) (he:∀acc d,hi<d->body (acc,d)=some (.brk (acc,d))) :
  ∀(n:Nat) (acc:List Window) (d:Int),lo<=d->(hi+1-d).toNat=n->acc.length+n<=1000000->∃d',iterN body (n+1) (acc,d)=some (.go (acc++collect p f n d,d'))
 | 0,acc,d,hlo,hn,hl=>by
  rw [iterN,he acc d (by omega),ob_]
  exact⟨d,by simp [collect]⟩
 | n+1,acc,d,hlo,hn,hl=>by
  rw [iterN,hb acc d hlo (by omega) (by omega),ob_]
  have hle:(bif p d then [f d]else []).length<=1:=by cases p d <;> simp
  obtain ⟨d',h⟩:=H7 lo hi hb he n (acc++(bif p d then [f d]else [])) (d+1) (by omega) (by omega) (by rw [List.length_append];omega)
  refine⟨d',?_⟩
  simp only [h,collect,List.append_assoc]
theorem O8 {ρ:Type} {body:List Window×Int->Option (Ctl (List Window×Int) ρ)} {p:Int->Bool} {f:Int->Window} (lo hi:Int) (hl:hi-lo<=100000)
  (hb:∀(acc:List Window) d,lo<=d->d<=hi->acc.length<=1000000->body (acc,d)=some (.go (acc++(bif p d then [f d]else []),d+1))) (he:∀acc d,hi<d->body (acc,d)=some (.brk (acc,d))) :
  ∃d',fq ([],lo) body=some (.go (collect p f (hi+1-lo).toNat lo,d')):=by
 obtain ⟨d',h⟩:=H7 lo hi hb he (hi+1-lo).toNat [] lo (Int.le_refl _) rfl (by simp;omega)
 exact⟨d',by have:=eu h;simpa using this⟩
def bitB (a r:Int):Bool:=match zq .i64 a r with
 | some y=>vM .i64 y 1==1
 | none=>false
def RF (a r:Nat):Bool:=match Ml .i64 1 (r:Int),zq .i64 (a:Int) (r:Int)with
 | some x,some y=>(vM .i64 (a:Int) x==0) == !(vM .i64 y 1==1)
 | _,_=>false
theorem Q6:∀a:Fin 128,∀r:Fin 7,RF a.val r.val=true:=by decide +kernel
theorem bits (a r:Int) (ha:0<=a/\a<=127) (hr:0<=r/\r<7):∃x y,Ml .i64 1 r=some x/\zq .i64 a r=some y/\(vM .i64 a x==0) = !(vM .i64 y 1==1)/\bitB a r=(vM .i64 y 1==1):=by
 have h:=Q6 ⟨a.toNat,by omega⟩ ⟨r.toNat,by omega⟩
 simp only [RF,show ((a.toNat:Nat):Int)=a by omega,show ((r.toNat:Nat):Int)=r by omega]at h
 unfold bitB
 cases h1:Ml .i64 1 r with
 | none=>rw [h1]at h;cases h
 | some x =>
  cases h2:zq .i64 a r with
  | none=>rw [h1,h2]at h;cases h
  | some y =>
   rw [h1,h2]at h
   exact⟨x,y,rfl,rfl,eq_of_beq h,rfl⟩
def IR (e:Entry) (d:Int):Bool:=((d-e.First).tmod e.Every==0)&&(bitB e.Days (d.tmod 7) && !I.memB d e.Except)
structure Right (e:Entry):Prop where
 first:0<=e.First/\e.First<=e.Last
 last:e.Last<=4000
 every:1<=e.Every
 days:1<=e.Days/\e.Days<=127
 ex:exF e.Except=0
 from_:0<=e.From/\e.From<=1439
 to_:0<=e.To/\e.To<=1439
theorem BG {n lo hi:Int} (h:kE n lo hi=false):lo<=n/\n<=hi:=by
 simp only [kE,Bool.or_eq_false_iff,decide_eq_false_iff_not]at h;omega
theorem DZ {n lo hi:Int} (h:lo<=n/\n<=hi):kE n lo hi=false:=by
 simp only [kE,Bool.or_eq_false_iff,decide_eq_false_iff_not];omega
theorem entF_0 {e:Entry} (h:uX e=0):Right e:=by
 unfold uX at h
 cases hk:(!keyB e.Key || !keyB e.Item)with
 | true=>rw [hk]at h;cases h
 | false =>
 rw [hk,cond_false]at h
 cases hb:(kE e.Version 0 1000000||(kE e.First 0 e.Last||(decide (e.Last>4000)||(kE e.Every 1 400||kE e.Days 1 127))))with
 | true=>rw [hb]at h;cases h
 | false =>
 rw [hb,cond_false]at h
 simp only [Bool.or_eq_false_iff,decide_eq_false_iff_not]at hb
 cases hx:exF e.Except==0 with
 | false=>rw [hx,cond_false]at h;rw [h]at hx;cases hx
 | true =>
 rw [hx,cond_true]at h
 cases hc:(kE e.From 0 1439||(kE e.To 0 1439||kE e.Prio 0 9))with
 | true=>rw [hc]at h;cases h
 | false =>
 simp only [Bool.or_eq_false_iff]at hc
 exact⟨BG hb.2.1,by omega,(BG hb.2.2.2.1).1,BG hb.2.2.2.2,eq_of_beq hx,BG hc.1,BG hc.2.1⟩
theorem dayK (e:Entry) (h:Right e) (d:Int) (h1:e.First<=d) (h2:d<=e.Last):jQ e d=some (IR e d):=by
 have hl:=h.last
 have hf:=h.first
 have hd:=h.days
 obtain ⟨x,y,b1,b2,b3,b4⟩:=bits e.Days (d.tmod 7) (by omega) ⟨Int.tmod_nonneg _ (by omega),Int.tmod_lt_of_pos _ (by decide)⟩
 obtain ⟨hx1,hx2⟩:=I.exF_0 h.ex
 obtain ⟨i,hi⟩:=I.bs_eq e.Except d hx2 (by omega)
 have he0:e.Every≠0:=by have:=h.every;omega
 unfold jQ IR
 simp only [wS,DZ ⟨h1,h2⟩,ob_,cond_false,aZ (show -9223372036854775808<=d-e.First/\d-e.First<=9223372036854775807 by omega),Jb,if_neg he0,b1,b3,b4,hi]
 cases hq:(d-e.First).tmod e.Every==0 with
 | false =>
  have:((d-e.First).tmod e.Every != 0)=true:=by simp [bne,hq]
  simp only [this,cond_true,ob_,Bool.false_and]
 | true =>
  have:((d-e.First).tmod e.Every != 0)=false:=by simp [bne,hq]
  simp only [this,cond_false,ob_,Bool.true_and]
  cases (vM .i64 y 1==1) <;> simp
def tF (e:Entry) (z d:Int):Int:=(d*1440+e.From-z)*60000
def qX (e:Entry):Int:=if e.To-e.From<=0 then e.To-e.From+1440 else e.To-e.From
def tW (e:Entry) (z d:Int):Window:=⟨tF e z d,tF e z d+qX e*60000⟩
theorem timeK (e:Entry) (h:Right e) (z d:Int) (hz : -1440<=z/\z<=1440) (hd:0<=d/\d<=4000):kv e z d=some (tW e z d):=by
 have h1:=h.from_
 have h2:=h.to_
 unfold kv tW tF qX
 rw [aZ (n:=e.To-e.From) (by omega)]
 by_cases hc:e.To-e.From<=0
 ·simp only [decide_eq_true hc,cond_true,ob_,if_pos hc]
  rw [aZ (n:=e.To-e.From+1440) (by omega),aZ (n:=d*1440) (by omega),aZ (n:=d*1440+e.From) (by omega),aZ (n:=d*1440+e.From-z) (by omega),aZ (n:=(d*1440+e.From-z)*60000) (by omega),aZ (n:=(e.To-e.From+1440)*60000) (by omega),aZ (by omega)]
 ·simp only [decide_eq_false hc,cond_false,ob_,if_neg hc]
  rw [aZ (n:=d*1440) (by omega),aZ (n:=d*1440+e.From) (by omega),aZ (n:=d*1440+e.From-z) (by omega),aZ (n:=(d*1440+e.From-z)*60000) (by omega),aZ (n:=(e.To-e.From)*60000) (by omega),aZ (by omega)]
def cutW (w t:Window):Window:=⟨fZ t.From w.From,nP t.To w.To⟩
def pR (e:Entry) (z:Int) (w:Window) (d:Int):Bool := !e.Gone&&(IR e d&&decide (fZ (tF e z d) w.From<nP (tF e z d+qX e*60000) w.To))
def pK (e:Entry) (z:Int) (w:Window) (d:Int):Bool:=IR e d&&(decide (tF e z d<w.To)&&decide (tF e z d+qX e*60000>w.From))
def wants (e:Entry) (z:Int) (w:Window):List Window:=collect (pR e z w) (λd=>cutW w (tW e z d)) (e.Last+1-e.First).toNat e.First
theorem tdivB (x q:Int) (h:x.tdiv 86400000=q):(0<=x->q*86400000<=x/\x<q*86400000+86400000)/\(x<0->x<=q*86400000/\q*86400000-86400000<x):=by
 have h1:=Int.mul_tdiv_add_tmod x 86400000
 rw [h]at h1
 refine⟨λhx => ?_,λhx => ?_⟩
 ·have h2:=Int.tmod_nonneg 86400000 hx
  have h3:=Int.tmod_lt_of_pos x (show (0:Int)<86400000 by decide)
  omega
 ·have h3:=Int.lt_tmod_of_pos x (show (0:Int)<86400000 by decide)
  have h4:x.tmod 86400000<=0:=by
   have h5:=Int.tmod_nonneg 86400000 (show (0:Int) <= -x by omega)
   rw [Int.neg_tmod]at h5
   omega
  omega
def ND (w:Window):Prop:=0<=w.From/\w.From<=w.To/\w.To<=345686400000
theorem E8 (e:Entry) (h:Right e):1<=qX e/\qX e<=1440:=by
 have h1:=h.from_
 have h2:=h.to_
 unfold qX
 split <;> omega
theorem NE {α σ ρ:Type} {body:Nat->α->σ->Option (Ctl σ ρ)} (I:Nat->σ->Prop) (xs:List α):∀(l:List α) (k:Nat) (s:σ),xs.drop k=l->k<=xs.length->(∀k x s,xs[k]? = some x->I k s->∃s',body k x s=some (.go s')/\I (k+1) s')->I k s->∃s',forR body l k s=some (.go s')/\I xs.length s'
 | [],k,s,hd,hk,h,hi=>by
  have:=List.drop_eq_nil_iff.1 hd
  obtain rfl:k=xs.length:=by omega
  exact⟨s,rfl,hi⟩
 | x::l,k,s,hd,hk,h,hi=>by
  obtain ⟨s1,h1,h2⟩:=h k x s (nZ hd) hi
  obtain ⟨s2,h3,h4⟩:=NE I xs l (k+1) s1 (aW hd) (by have:=Eg hd;omega) h h2
  exact⟨s2,by rw [forR,h1,ob_];exact h3,h4⟩
theorem wT {α σ ρ:Type} {body:Nat->α->σ->Option (Ctl σ ρ)} (I:Nat->σ->Prop) {xs:List α} {s:σ} (hl:xs.length<=1000000000000) (h:∀k x s,xs[k]? = some x->I k s->∃s',body k x s=some (.go s')/\I (k+1) s') (h0:I 0 s):∃s',forL xs s body=some (.go s')/\I xs.length s':=by
 rw [jG hl]
 exact NE I xs xs 0 s rfl (Nat.zero_le _) h h0
theorem BR {σ ρ : Type} {body : σ->Option (Ctl σ ρ)} (I : Nat->σ->Prop) (N : Nat) (hgo : ∀k s, k<N->I k s->∃s', body s=some (.go s')/\I (k+1) s') (hbrk : ∀s, I N s->body s=some (.brk s)) {s : σ} (h0 : I 0 s) : ∃s', fq s body=some (.go s')/\I N s':=by
  have key : ∀(n k : Nat) (s : σ), k+n=N->I k s->∃s', iterN body (n+1) s=some (.go s')/\I N s':=by
    intro n
    induction n with
    | zero => intro k s hk hI
              have e : k=N:=by omega
              subst e
              exact ⟨s, by simp only [iterN, hbrk s hI, ob_], hI⟩
    | succ n ih => intro k s hk hI
                   obtain ⟨s', e, hI'⟩:=hgo k s (by omega) hI
                   obtain ⟨r, er, hr⟩:=ih (k+1) s' (by omega) hI'
                   refine ⟨r, ?_, hr⟩
                   rw [iterN, e, ob_];exact er
  obtain ⟨s', e, hI⟩:=key N 0 s (by omega) h0
  exact ⟨s', eu e, hI⟩
def iy (f : Int->ByteArray) (T : Int) : Int->List Slot_->Prop
  | F, []=>F=T
  | F, x::r=>x.Time.From=F/\F<x.Time.To/\x.Time.To<=T/\(∀t, F<=t->t<x.Time.To->f t=x.Entry)/\(∀y, r.head? = some y->y.Entry ≠ x.Entry)/\iy f T x.Time.To r
theorem iy.le {f : Int->ByteArray} {T : Int} : ∀{l : List Slot_} {F : Int}, iy f T F l->F<=T
  | [], F, h=>by unfold iy at h;omega
  | x::r, F, h=>by unfold iy at h;omega
def xD (id : ByteArray) (F T : Int) : List Slot_->List Slot_
  | []=>[⟨⟨F, T⟩, id⟩]
  | [x]=>if x.Entry=id then [⟨⟨x.Time.From, T⟩, x.Entry⟩] else [x, ⟨⟨F, T⟩, id⟩]
  | x::y::r=>x::xD id F T (y::r)
theorem OO (id : ByteArray) (F T : Int) : ∀(y : Slot_) (r : List Slot_), ∃z, (xD id F T (y::r)).head? = some z/\z.Entry=y.Entry
  | y, []=>by
    unfold xD
    split
    · exact ⟨_, rfl, rfl⟩
    · exact ⟨_, rfl, rfl⟩
  | y, z::r=>⟨y, rfl, rfl⟩
theorem iy.add {f : Int->ByteArray} {id : ByteArray} {F T : Int} (hT : F<T) (hf : ∀t, F<=t->t<T->f t=id) : ∀(out : List Slot_) (F0 : Int), iy f F F0 out->iy f T F0 (xD id F T out)
  | [], F0, h=>by
    unfold iy at h
    subst h
    unfold xD iy
    exact ⟨rfl, hT, Int.le_refl _, hf, λy hy=>(by cases hy), (by unfold iy;rfl)⟩
  | [x], F0, h=>by
    unfold iy at h
    obtain ⟨h1, h2, h3, h4, h5, h6⟩:=h
    unfold iy at h6
    unfold xD
    by_cases he : x.Entry=id
    · rw [if_pos he]
      unfold iy
      refine ⟨h1, (by show F0<T;omega), Int.le_refl _, λt t1 t2 => ?_, λy hy=>(by cases hy), (by unfold iy;rfl)⟩
      by_cases ht : t<F
      · exact h4 t t1 (by omega)
      · exact (hf t (by omega) t2).trans he.symm
    · rw [if_neg he]
      unfold iy
      refine ⟨h1, h2, by omega, h4, λy hy => ?_, ?_⟩
      · rw [<- Option.some.inj hy];exact λe=>he e.symm
      · unfold iy
        exact ⟨h6.symm, (by show x.Time.To<T;omega), Int.le_refl _, λt t1 t2=>hf t (by omega) t2, λy hy=>(by cases hy), (by unfold iy;rfl)⟩
  | x::y::r, F0, h=>by
    unfold iy at h
    obtain ⟨h1, h2, h3, h4, h5, h6⟩:=h
    have ih:=iy.add hT hf (y::r) _ h6
    unfold xD
    unfold iy
    refine ⟨h1, h2, by omega, h4, λz hz => ?_, ih⟩
    obtain ⟨z', e1, e2⟩:=OO id F T y r
    rw [e1] at hz
    rw [<- Option.some.inj hz, e2]
    exact h5 y rfl
theorem KI (id : ByteArray) (F T : Int) : ∀(out : List Slot_) (n : Nat) (x : Slot_), out.length=n+1->out[n]? = some x->x.Entry=id->xD id F T out=out.set n ⟨⟨x.Time.From, T⟩, x.Entry⟩
  | [], n, x, h, _, _=>by simp at h
  | [y], 0, x, _, hx, he=>by
    simp only [List.getElem?_cons_zero, so_] at hx
    subst hx
    unfold xD
    rw [if_pos he];rfl
  | [y], n+1, x, h, _, _=>by simp at h
  | y::z::r, 0, x, h, _, _=>by simp at h
  | y::z::r, n+1, x, h, hx, he=>by
    unfold xD
    rw [KI id F T (z::r) n x (by simpa using h) (by simpa using hx) he];rfl
theorem La (id : ByteArray) (F T : Int) : ∀(out : List Slot_), (∀(n : Nat) (x : Slot_), out.length=n+1->out[n]? = some x->x.Entry ≠ id)->xD id F T out=out++[⟨⟨F, T⟩, id⟩]
  | [], _=>rfl
  | [y], h=>by
    unfold xD
    rw [if_neg (h 0 y rfl rfl)];rfl
  | y::z::r, h=>by
    unfold xD
    rw [La id F T (z::r) (λn x h1 h2=>h (n+1) x (by simp only [List.length_cons] at *;omega) (by simpa using h2))];rfl
theorem Km (id : ByteArray) (F T : Int) : ∀(out : List Slot_), (xD id F T out).length<=out.length+1
  | []=>by simp [xD]
  | [y]=>by unfold xD;split <;> simp
  | y::z::r=>by
    have:=Km id F T (z::r)
    unfold xD
    simp only [List.length_cons] at *;omega
theorem iy.at {f : Int->ByteArray} {T : Int} : ∀{l : List Slot_} {F : Int}, iy f T F l->(∀x ∈ l, F<=x.Time.From/\x.Time.From<x.Time.To/\x.Time.To<=T/\∀t, x.Time.From<=t->t<x.Time.To->f t=x.Entry)/\∀t, F<=t->t<T->∃x ∈ l, x.Time.From<=t/\t<x.Time.To
  | [], F, h=>by
    unfold iy at h
    exact ⟨λx hx=>(by cases hx), λt t1 t2=>by omega⟩
  | y::r, F, h=>by
    unfold iy at h
    obtain ⟨h1, h2, h3, h4, h5, h6⟩:=h
    obtain ⟨k1, k2⟩:=iy.at h6
    refine ⟨λx hx => ?_, λt t1 t2 => ?_⟩
    · rcases List.mem_cons.1 hx with rfl | hx
      · exact ⟨by omega, by omega, h3, λt t1 t2=>h4 t (by omega) t2⟩
      · obtain ⟨q1, q2, q3, q4⟩:=k1 x hx
        exact ⟨by omega, q2, q3, q4⟩
    · by_cases ht : t<y.Time.To
      · exact ⟨y, List.mem_cons_self, by omega, ht⟩
      · obtain ⟨x, hx, q⟩:=k2 t (by omega) t2
        exact ⟨x, List.mem_cons_of_mem _ hx, q⟩
theorem Ru {E : List Int} (hE : E.Pairwise (· < ·)) {i : Nat} {a b : Int} (ha : E[i]? = some a) (hb : E[i+1]? = some b) {x : Int} (hx : x ∈ E) : x<=a\/b<=x:=by
  obtain ⟨j, hj, rfl⟩:=List.getElem_of_mem hx
  obtain ⟨h1, e1⟩:=List.getElem?_eq_some_iff.1 ha
  obtain ⟨h2, e2⟩:=List.getElem?_eq_some_iff.1 hb
  have hp:=List.pairwise_iff_getElem.1 hE
  by_cases hji : j<i
  · left;have:=hp j i hj h1 hji;omega
  · by_cases hji2 : j=i
    · subst hji2;left;omega
    · by_cases hj3 : j=i+1
      · subst hj3;right;omega
      · right;have:=hp (i+1) j h2 hj (by omega);omega
theorem OL {E : List Int} (hE : E.Pairwise (· < ·)) {i : Nat} {a b : Int} (ha : E[i]? = some a) (hb : E[i+1]? = some b) : a<b:=by
  obtain ⟨h1, e1⟩:=List.getElem?_eq_some_iff.1 ha
  obtain ⟨h2, e2⟩:=List.getElem?_eq_some_iff.1 hb
  have:=List.pairwise_iff_getElem.1 hE i (i+1) h1 h2 (by omega)
  omega
theorem PD {E : List Int} (hE : E.Pairwise (· < ·)) {F T : Int} (hF : F ∈ E) (hT : T ∈ E) (hin : ∀x ∈ E, F<=x/\x<=T) : E[0]? = some F/\E[E.length-1]? = some T:=by
  have hp:=List.pairwise_iff_getElem.1 hE
  obtain ⟨i, hi, ei⟩:=List.getElem_of_mem hF
  obtain ⟨j, hj, ej⟩:=List.getElem_of_mem hT
  constructor
  · rw [List.getElem?_eq_getElem (by omega)]
    by_cases h0 : i=0
    · subst h0;rw [ei]
    · have h1:=hp 0 i (by omega) hi (by omega)
      have h2:=(hin E[0] (List.getElem_mem _)).1
      omega
  · rw [List.getElem?_eq_getElem (by omega)]
    by_cases h0 : j=E.length-1
    · subst h0;rw [ej]
    · have h1:=hp j (E.length-1) hj (by omega) (by omega)
      have h2:=(hin E[E.length-1] (List.getElem_mem _)).2
      omega
theorem Pi {α : Type} {R : α->α->Prop} (has : ∀a b, R a b->¬R b a) {a b : List α} (h : a.Perm b) (ha : a.Pairwise R) (hb : b.Pairwise R) : a=b :=
  List.Perm.eq_of_pairwise (λx y _ _ h1 h2=>absurd h2 (has x y h1)) ha hb h
def Pg {α:Type} (r:α->α->Bool) (x:α):List α->List α
 | []=>[x]
 | y::l=>bif r x y then x::y::l else y::Pg r x l
def LZ {α:Type} (r:α->α->Bool):List α->List α
 | []=>[]
 | x::l=>Pg r x (LZ r l)
theorem BH {α:Type} (r:α->α->Bool) (x:α):∀l,(Pg r x l).Perm (x::l)
 | [] => .refl _
 | y::l=>by
  unfold Pg
  cases r x y with
  | true=>exact .refl _
  | false=>exact ((BH r x l).cons y).trans (List.Perm.swap x y l)
theorem vv {α:Type} (r:α->α->Bool):∀l,(LZ r l).Perm l
 | [] => .refl _
 | x::l=>(BH r x _).trans ((vv r l).cons x)
theorem CS {α:Type} {r:α->α->Bool} (htr:∀a b c,r a b=true->r b c=true->r a c=true) {x:α}:∀{l:List α},(∀y∈l,r x y=true\/r y x=true)->l.Pairwise (λa b=>r a b=true)->(Pg r x l).Pairwise (λa b=>r a b=true)
 | [],_,_=>List.pairwise_singleton _ _
 | y::l,h,hp=>by
  obtain ⟨p1,p2⟩:=List.pairwise_cons.1 hp
  unfold Pg
  cases hxy:r x y with
  | true =>
   refine List.pairwise_cons.2 ⟨λz hz => ?_,hp⟩
   rcases List.mem_cons.1 hz with rfl|hz
   ·exact hxy
   ·exact htr _ _ _ hxy (p1 z hz)
  | false =>
   refine List.pairwise_cons.2 ⟨λz hz => ?_,CS htr (λz hz=>h z (List.mem_cons_of_mem _ hz)) p2⟩
   rcases List.mem_cons.1 ((BH r x l).mem_iff.1 hz)with rfl|hz
   ·exact (h y List.mem_cons_self).resolve_left (by rw [hxy];exact Bool.false_ne_true)
   ·exact p1 z hz
theorem xW {α:Type} {r:α->α->Bool} (htr:∀a b c,r a b=true->r b c=true->r a c=true):∀{l:List α},l.Pairwise (λa b=>r a b=true\/r b a=true)->(LZ r l).Pairwise (λa b=>r a b=true)
 | [],_ => .nil
 | x::l,h=>by
  obtain ⟨p1,p2⟩:=List.pairwise_cons.1 h
  exact CS htr (λy hy=>p1 y ((vv r l).mem_iff.1 hy)) (xW htr p2)
theorem srtG_is {α:Type} {r:α->α->Bool} (hir:∀a,r a a=false) (htr:∀a b c,r a b=true->r b c=true->r a c=true) {l s:List α} (ht:l.Pairwise (λa b=>r a b=true\/r b a=true)) (hp:s.Perm l) (hs:s.Pairwise (λa b=>r b a=false)):s=LZ r l:=by
 have hsy:∀{x y:α},(r x y=true\/r y x=true)->(r y x=true\/r x y=true):=λh=>h.symm
 have h2:s.Pairwise (λa b=>r a b=true\/r b a=true):=(hp.pairwise_iff (λh=>h.symm)).2 ht
 have h3:s.Pairwise (λa b=>r a b=true):=by
  refine List.Pairwise.imp₂ (λa b h k => ?_) hs h2
  rcases k with k|k
  ·exact k
  ·rw [h]at k;cases k
 exact Pi (R:=λa b=>r a b=true) (λa b h k=>by have:=htr a b a h k;rw [hir]at this;cases this) (hp.trans (vv r l).symm) h3 (xW htr ht)
theorem O1 {α:Type} {r:α->α->Bool} (hir:∀a,r a a=false) (htr:∀a b c,r a b=true->r b c=true->r a c=true) {l:List α} (ht:l.Pairwise (λa b=>r a b=true\/r b a=true)) {x:α} (hx:x∈l) (hm:∀y∈l,r y x=false):∃t,LZ r l=x::t:=by
 have hs:=xW htr ht
 have hp:=vv r l
 cases h:LZ r l with
 | nil=>rw [h]at hp;have:=hp.symm.mem_iff.1 hx;cases this
 | cons y t =>
  rw [h]at hp hs
  rcases List.mem_cons.1 (hp.mem_iff.2 hx)with e|e
  ·exact⟨t,by rw [e]⟩
  ·have h1:=(List.pairwise_cons.1 hs).1 x e
   rw [hm y (hp.mem_iff.1 List.mem_cons_self)]at h1;cases h1
def AB (e:Entry) (z t d:Int):Bool := !e.Gone&&(decide (e.First<=d)&&(decide (d<=e.Last)&&(IR e d&&(decide (tF e z d<=t)&&decide (t<tF e z d+qX e*60000)))))
theorem mU {e:Entry} {z t d:Int}:AB e z t d=true↔e.Gone=false/\e.First<=d/\d<=e.Last/\IR e d=true/\tF e z d<=t/\t<tF e z d+qX e*60000:=by
 unfold AB
 simp only [Bool.and_eq_true,decide_eq_true_eq,Bool.not_eq_true']
theorem NH (e:Entry) (z:Int) {d d':Int} (h:d<d'):tF e z d+86400000<=tF e z d':=by unfold tF;omega
theorem Kc {e:Entry} (h:Right e) {z t d d':Int} (h1:AB e z t d=true) (h2:AB e z t d'=true):d=d':=by
 obtain ⟨_,_,_,_,a1,a2⟩:=mU.1 h1
 obtain ⟨_,_,_,_,b1,b2⟩:=mU.1 h2
 have hm:=E8 e h
 rcases Int.lt_trichotomy d d' with q|q|q
 ·have:=NH e z q;omega
 ·exact q
 ·have:=NH e z q;omega
def GG (z t:Int):Int:=(t+z*60000) / 86400000
def Ff (e:Entry) (z t:Int):Option Int :=
 bif AB e z t (GG z t-1)then some (tF e z (GG z t-1))else bif AB e z t (GG z t)then some (tF e z (GG z t))else none
theorem Rw {e:Entry} (h:Right e) {z t d:Int} (h1:AB e z t d=true):d=GG z t-1\/d=GG z t:=by
 obtain ⟨_,_,_,_,a1,a2⟩:=mU.1 h1
 have hm:=E8 e h
 have hf:=h.from_
 unfold tF at a1 a2
 unfold GG
 omega
theorem vT {e:Entry} (h:Right e) {z t b:Int}:Ff e z t=some b↔∃d,AB e z t d=true/\b=tF e z d:=by
 unfold Ff
 constructor
 ·intro hb
  cases h1:AB e z t (GG z t-1)with
  | true=>rw [h1,cond_true,so_]at hb;exact⟨_,h1,hb.symm⟩
  | false =>
   rw [h1,cond_false]at hb
   cases h2:AB e z t (GG z t)with
   | true=>rw [h2,cond_true,so_]at hb;exact⟨_,h2,hb.symm⟩
   | false=>rw [h2,cond_false]at hb;cases hb
 ·rintro ⟨d,hd,rfl⟩
  rcases Rw h hd with e1|e1
  ·rw [<- e1,hd,cond_true]
  ·cases h1:AB e z t (GG z t-1)with
   | true=>have:=Kc h hd h1;omega
   | false=>rw [cond_false,<- e1,hd,cond_true]
def tV (x y:Entry×Int):Bool:=decide (y.1.Prio<x.1.Prio)||(decide (x.1.Prio=y.1.Prio)&&(decide (y.2<x.2)||(decide (x.2=y.2)&&sLt y.1.Key x.1.Key)))
theorem uV {x y:Entry×Int}:tV x y=true↔y.1.Prio<x.1.Prio\/x.1.Prio=y.1.Prio/\(y.2<x.2\/x.2=y.2/\lt y.1.Key x.1.Key):=by
 unfold tV
 simp only [Bool.or_eq_true,Bool.and_eq_true,decide_eq_true_eq,uw]
theorem yc (x:Entry×Int):tV x x=false:=by
 rw [<- Bool.not_eq_true,uV]
 rintro (h|⟨_,h|⟨_,h⟩⟩)
 ·omega
 ·omega
 ·exact kJ _ h
theorem wV (a b c:Entry×Int) (h:tV a b=true) (k:tV b c=true):tV a c=true:=by
 rw [uV]at *
 rcases h with h|⟨h,h2⟩ <;> rcases k with k|⟨k,k2⟩
 ·exact .inl (by omega)
 ·exact .inl (by omega)
 ·exact .inl (by omega)
 ·refine .inr ⟨by omega,?_⟩
  rcases h2 with h2|⟨h2,h3⟩ <;> rcases k2 with k2|⟨k2,k3⟩
  ·exact .inl (by omega)
  ·exact .inl (by omega)
  ·exact .inl (by omega)
  ·exact .inr ⟨by omega,lt_trans k3 h3⟩
theorem QQ {x y:Entry×Int} (h:x.1.Key≠y.1.Key):tV x y=true\/tV y x=true:=by
 rw [uV,uV]
 rcases Int.lt_trichotomy x.1.Prio y.1.Prio with q|q|q
 ·exact .inr (.inl q)
 ·rcases Int.lt_trichotomy x.2 y.2 with w|w|w
  ·exact .inr (.inr ⟨q.symm,.inl w⟩)
  ·rcases Fs x.1.Key y.1.Key with e|e|e
   ·exact .inr (.inr ⟨q.symm,.inr ⟨w.symm,e⟩⟩)
   ·exact absurd e h
   ·exact .inl (.inr ⟨q,.inr ⟨w,e⟩⟩)
  ·exact .inl (.inr ⟨q,.inl w⟩)
 ·exact .inl (.inl q)
theorem Li {α β:Type} {f g:α->Option β}:∀{l:List α},(∀x∈l,f x=g x)->l.filterMap f=l.filterMap g
 | [],_=>rfl
 | x::l,h=>by
  rw [List.filterMap_cons,List.filterMap_cons,h x (by simp),Li (λy hy=>h y (by simp [hy]))]
def zI (p:Player) (t:Int) (e:Entry):Option (Entry×Int):=bif Aq e p then (Ff e p.Zone t).map (λb=>(e,b))else none
def kY (l:List Entry) (p:Player) (t:Int):List (Entry×Int):=l.filterMap (zI p t)
def xB (l:List Entry) (p:Player) (t:Int):List (Entry×Int):=LZ tV (kY l p t)
def jk (l:List Entry) (p:Player) (t:Int):ByteArray:=match xB l p t with | []=>⟨#[]⟩ | x::_=>x.1.Key
theorem zX {p:Player} {t:Int} {e:Entry} {x:Entry×Int} (h:zI p t e=some x):x.1=e/\Aq e p=true/\Ff e p.Zone t=some x.2:=by
 unfold zI at h
 cases hf:Aq e p with
 | false=>rw [hf,cond_false]at h;cases h
 | true =>
  rw [hf,cond_true]at h
  cases hb:Ff e p.Zone t with
  | none=>rw [hb]at h;cases h
  | some b=>rw [hb,Option.map_some,so_]at h;rw [<- h];exact⟨rfl,rfl,rfl⟩
theorem BS {l:List Entry} {p:Player} {t:Int} {x:Entry×Int}:x∈kY l p t↔x.1∈l/\Aq x.1 p=true/\Ff x.1 p.Zone t=some x.2:=by
 unfold kY
 rw [List.mem_filterMap]
 constructor
 ·rintro ⟨e,he,h⟩
  obtain ⟨h1,h2,h3⟩:=zX h
  rw [h1];exact⟨he,h2,h3⟩
 ·rintro ⟨h1,h2,h3⟩
  refine⟨x.1,h1,?_⟩
  unfold zI
  rw [h2,h3];rfl
theorem Hu {l:List Entry} (h:(l.map (·.Key)).Nodup) (p:Player) (t:Int):(kY l p t).Pairwise (λa b=>tV a b=true\/tV b a=true):=by
 have h2:l.Pairwise (λa b=>a.Key≠b.Key):=by
  have:=h
  unfold List.Nodup at this
  rwa [List.pairwise_map]at this
 unfold kY
 rw [List.pairwise_filterMap]
 refine h2.imp (λ{a b} hab x hx y hy => ?_)
 obtain ⟨e1,_⟩:=zX hx
 obtain ⟨e2,_⟩:=zX hy
 exact QQ (by rw [e1,e2];exact hab)
theorem OG (l:List Entry) (p:Player) (t:Int):(kY l p t).length<=l.length:=List.length_filterMap_le _ _
theorem LU {l:List Entry} (h:(l.map (·.Key)).Nodup) (p:Player) (t:Int) {x:Entry×Int} (hx:x∈kY l p t) (hm:∀y∈kY l p t,tV y x=false):jk l p t=x.1.Key:=by
 obtain ⟨r,e⟩:=O1 yc wV (Hu h p t) hx hm
 unfold jk xB
 rw [e]
theorem LJ {l:List Entry} {p:Player} {t:Int} (h:kY l p t=[]):jk l p t=⟨#[]⟩:=by
 unfold jk xB
 rw [h];rfl
theorem NG {l:List Entry} (hr:∀e∈l,Right e) {p:Player} {a t:Int} (hat:a<=t)
  (h:∀e∈l,Aq e p=true->∀d,e.Gone=false->e.First<=d->d<=e.Last->IR e d=true->(tF e p.Zone d<=a\/t<tF e p.Zone d)/\(tF e p.Zone d+qX e*60000<=a\/t<tF e p.Zone d+qX e*60000)):jk l p t=jk l p a:=by
 have key:∀e∈l,zI p t e=zI p a e:=λe he=>by
  unfold zI
  cases hf:Aq e p with
  | false=>rfl
  | true =>
   rw [cond_true,cond_true]
   have hb:Ff e p.Zone t=Ff e p.Zone a:=by
    refine Option.ext (λb => ?_)
    rw [vT (hr e he),vT (hr e he)]
    constructor
    ·rintro ⟨d,hd,rfl⟩
     obtain ⟨h1,h2,h3,h4,h5,h6⟩:=mU.1 hd
     obtain ⟨k1,k2⟩:=h e he hf d h1 h2 h3 h4
     exact⟨d,mU.2 ⟨h1,h2,h3,h4,by omega,by omega⟩,rfl⟩
    ·rintro ⟨d,hd,rfl⟩
     obtain ⟨h1,h2,h3,h4,h5,h6⟩:=mU.1 hd
     obtain ⟨k1,k2⟩:=h e he hf d h1 h2 h3 h4
     exact⟨d,mU.2 ⟨h1,h2,h3,h4,by omega,by omega⟩,rfl⟩
   rw [hb]
 have:kY l p t=kY l p a:=by
  unfold kY
  exact Li key
 unfold jk xB
 rw [this]
theorem xY {p:Int->Bool} {f:Int->Window} {x:Window}:∀(n:Nat) (d:Int),x∈collect p f n d↔∃y,d<=y/\y<d+n/\p y=true/\x=f y
 | 0,d=>by
  simp only [collect,List.not_mem_nil,false_iff]
  rintro ⟨y,h1,h2,_⟩;omega
 | n+1,d=>by
  simp only [collect,List.mem_append,xY n (d+1)]
  constructor
  ·rintro (h|⟨y,h1,h2,h3⟩)
   ·cases hp:p d with
    | true=>rw [hp,cond_true,List.mem_singleton]at h;exact⟨d,by omega,by omega,hp,h⟩
    | false=>rw [hp]at h;cases h
   ·exact⟨y,by omega,by omega,h3⟩
  ·rintro ⟨y,h1,h2,h3,h4⟩
   by_cases hy:y=d
   ·subst hy;left;rw [h3,cond_true,h4];exact List.mem_singleton.2 rfl
   ·right;exact⟨y,by omega,by omega,h3,h4⟩
theorem Je (a b:Int):fZ a b=max a b:=by unfold fZ;split <;> omega
theorem I9 (a b:Int):nP a b=min a b:=by unfold nP;split <;> omega
theorem FY {e:Entry} {z:Int} {w:Window} {d:Int}:pR e z w d=true↔e.Gone=false/\IR e d=true/\max (tF e z d) w.From<min (tF e z d+qX e*60000) w.To:=by
 unfold pR
 simp only [Bool.and_eq_true,decide_eq_true_eq,Bool.not_eq_true',Je,I9]
theorem yX {e:Entry} (h:Right e) {z:Int} {w x:Window}:x∈wants e z w↔∃d,e.First<=d/\d<=e.Last/\pR e z w d=true/\x=cutW w (tW e z d):=by
 have h1:=h.first
 unfold wants
 rw [xY]
 constructor
 ·rintro ⟨y,a,b,c⟩;exact⟨y,a,by omega,c⟩
 ·rintro ⟨y,a,b,c⟩;exact⟨y,a,by omega,c⟩
theorem QW {l:List Entry} (hr:∀e∈l,Right e) {p:Player} {w:Window} {E:List Int} (hE:E.Pairwise (· < ·)) (hin:∀x∈E,w.From<=x/\x<=w.To)
  (hw:∀e∈l,Aq e p=true->∀x∈wants e p.Zone w,x.From∈E/\x.To∈E) {i:Nat} {a b:Int} (ha:E[i]? = some a) (hb:E[i+1]? = some b) {t:Int} (hat:a<=t) (htb:t<b):jk l p t=jk l p a:=by
 have a1:=hin a (List.mem_of_getElem? ha)
 have b1:=hin b (List.mem_of_getElem? hb)
 refine NG hr hat (λe he hf d g1 g2 g3 g4 => ?_)
 have hm:=E8 e (hr e he)
 have key:∀v:Int,(v=tF e p.Zone d\/v=tF e p.Zone d+qX e*60000)->v<=a\/t<v:=λv hv=>by
  by_cases q1:w.From<v
  ·by_cases q2:v<w.To
   ·have hp:pR e p.Zone w d=true:=FY.2 ⟨g1,g4,by omega⟩
    obtain ⟨k1,k2⟩:=hw e he hf _ ((yX (hr e he)).2 ⟨d,g2,g3,hp,rfl⟩)
    unfold cutW tW at k1 k2
    simp only [Je,I9]at k1 k2
    have hvE:v∈E:=by
     rcases hv with hv|hv
     ·rw [show max (tF e p.Zone d) w.From=v by omega]at k1;exact k1
     ·rw [show min (tF e p.Zone d+qX e*60000) w.To=v by omega]at k2;exact k2
    rcases Ru hE ha hb hvE with h|h
    ·exact .inl h
    ·exact .inr (by omega)
   ·exact .inr (by omega)
  ·exact .inl (by omega)
 exact⟨key _ (.inl rfl),key _ (.inr rfl)⟩
def tiL (e:Entry) (z:Int) (w:Window):List Window:=collect (pR e z w) (tW e z) (e.Last+1-e.First).toNat e.First
theorem timesK2 (e:Entry) (h:Right e) (z:Int) (w:Window) (hz : -1440<=z/\z<=1440) (hw:ND w):gQ e z w=some (tiL e z w):=by
 obtain ⟨w1,w2,w3⟩:=hw
 have hf:=h.first
 have hl:=h.last
 have hm:=E8 e h
 have hfr:=h.from_
 unfold gQ
 cases hg:e.Gone with
 | true =>
  simp only [cond_true,ob_]
  unfold tiL
  rw [mF _ _ (λx _ _=>by simp only [pR,hg,Bool.not_true,Bool.false_and])]
 | false =>
 simp only [cond_false,ob_]
 by_cases hlt:w.From>=w.To
 ·simp only [decide_eq_true hlt,cond_true]
  unfold tiL
  rw [mF _ _ (λx _ _=>by
   have:decide (fZ (tF e z x) w.From<nP (tF e z x+qX e*60000) w.To)=false:=decide_eq_false (by unfold fZ nP;split <;> split <;> omega)
   simp only [pR,this,Bool.and_false])]
 ·simp only [decide_eq_false hlt,cond_false]
  rw [aZ (n:=z*60000) (by omega),aZ (n:=w.From+z*60000) (by omega)]
  obtain ⟨a,ha⟩:∃a,(w.From+z*60000).tdiv 86400000=a:=⟨_,rfl⟩
  obtain ⟨b,hb⟩:∃b,(w.To+z*60000).tdiv 86400000=b:=⟨_,rfl⟩
  have ha2:=tdivB _ _ ha
  have hb2:=tdivB _ _ hb
  rw [ha,aZ (n:=a) (by omega),aZ (n:=a-2) (by omega)]
  obtain ⟨lo,hlo⟩:∃lo,fZ (a-2) e.First=lo:=⟨_,rfl⟩
  obtain ⟨hi,hhi⟩:∃hi,nP (b+1) e.Last=hi:=⟨_,rfl⟩
  have hlo2:e.First<=lo/\a-2<=lo/\(lo=e.First\/lo=a-2):=by unfold fZ at hlo;split at hlo <;> omega
  have hhi2:hi<=e.Last/\hi<=b+1/\(hi=e.Last\/hi=b+1):=by unfold nP at hhi;split at hhi <;> omega
  have hend:∀d,decide (d<=nP (w64 (w64 ((w64 (w.To+w64 (z*60000))).tdiv 86400000)+1)) e.Last)=decide (d<=hi):=λd=>by
   rw [aZ (n:=z*60000) (by omega),aZ (n:=w.To+z*60000) (by omega),hb,aZ (n:=b) (by omega),aZ (n:=b+1) (by omega),hhi]
  rw [hlo]
  obtain ⟨d',hd⟩:=O8 (ρ:=Unit) (body:=λs=>eB w z e s) (p:=pK e z w) (f:=tW e z) lo hi (by omega) (λacc d h1 h2 h3=>by
    have hc:decide (d<=hi)=true:=decide_eq_true h2
    simp only [eB,hend,hc,cond_true,timeK e h z d hz (by omega),ob_,dayK e h d (by omega) (by omega),aZ (n:=d+1) (by omega),pK]
    cases IR e d with
    | false=>simp
    | true =>
     simp only [Bool.not_true,cond_false,ob_,Bool.true_and]
     by_cases hA:tF e z d<w.To
     ·have hA1:decide (tF e z d<w.To)=true:=decide_eq_true hA
      have hA2:decide ((tW e z d).From<w.To)=true:=decide_eq_true hA
      by_cases hB:tF e z d+qX e*60000>w.From
      ·have hB1:decide (tF e z d+qX e*60000>w.From)=true:=decide_eq_true hB
       have hB2:decide ((tW e z d).To>w.From)=true:=decide_eq_true hB
       simp only [hA1,hA2,hB1,hB2,cond_true,Bool.and_self,ob_,qj acc [tW e z d] (show acc.length+1<=_ by omega)]
      ·have hB1:decide (tF e z d+qX e*60000>w.From)=false:=decide_eq_false hB
       have hB2:decide ((tW e z d).To>w.From)=false:=decide_eq_false hB
       simp only [hA1,hA2,hB1,hB2,cond_true,cond_false,Bool.and_false,ob_,List.append_nil]
     ·have hA1:decide (tF e z d<w.To)=false:=decide_eq_false hA
      have hA2:decide ((tW e z d).From<w.To)=false:=decide_eq_false hA
      simp only [hA1,hA2,cond_false,Bool.false_and,ob_,List.append_nil])
   (λacc d h1=>by
    have hc:decide (d<=hi)=false:=decide_eq_false (by omega)
    simp only [eB,hend,hc,cond_false])
  rw [hd,ob_,gN]
  unfold tiL
  rw [Dx (pR e z w) _ e.First e.Last lo hi (by omega) (by omega) (λx x1 x2 hp => ?_)]
  ·congr 1
   refine zG _ _ (λx x1 x2=>⟨?_,rfl⟩)
   simp only [pK,pR,hg,Bool.not_false,Bool.true_and]
   congr 1
   rw [Bool.eq_iff_iff,Bool.and_eq_true,decide_eq_true_eq,decide_eq_true_eq,decide_eq_true_eq]
   unfold fZ nP
   split <;> split <;> omega
  ·simp only [pR,hg,Bool.not_false,Bool.true_and,Bool.and_eq_true,decide_eq_true_eq]at hp
   have hp2:=hp.2
   unfold tF at hp2
   unfold fZ nP at hp2
   split at hp2 <;> split at hp2 <;> omega
theorem NI {e:Entry} (h:Right e) (z:Int) (w:Window):(tiL e z w).length<=4001:=by
 have h1:=Dy (pR e z w) (tW e z) (e.Last+1-e.First).toNat e.First
 have h2:=h.first
 have h3:=h.last
 unfold tiL
 omega
theorem D8 {e:Entry} (h:Right e) {z:Int} {w x:Window}:x∈tiL e z w↔∃d,e.First<=d/\d<=e.Last/\pR e z w d=true/\x=tW e z d:=by
 have h1:=h.first
 unfold tiL
 rw [xY]
 constructor
 ·rintro ⟨y,a,b,c⟩;exact⟨y,a,by omega,c⟩
 ·rintro ⟨y,a,b,c⟩;exact⟨y,a,by omega,c⟩
theorem tiL_one {e:Entry} (h:Right e) (z t:Int):tiL e z ⟨t,t+1⟩=match Ff e z t with | some b=>[⟨b,b+qX e*60000⟩] | none=>[]:=by
 have hp:∀d,e.First<=d->d<=e.Last->pR e z ⟨t,t+1⟩ d=AB e z t d:=λd h1 h2=>by
  have hm:=E8 e h
  rw [Bool.eq_iff_iff,FY,mU]
  simp only []
  constructor
  ·rintro ⟨a,b,c⟩;exact⟨a,h1,h2,b,by omega,by omega⟩
  ·rintro ⟨a,_,_,b,c,d⟩;exact⟨a,b,by omega⟩
 have hf:=h.first
 cases hb:Ff e z t with
 | none =>
  unfold tiL
  rw [mF _ _ (λx x1 x2=>by
   rw [hp x x1 (by omega)]
   cases hh:AB e z t x with
   | false=>rfl
   | true =>
    have:=(vT h (z:=z) (t:=t) (b:=tF e z x)).2 ⟨x,hh,rfl⟩
    rw [hb]at this;cases this)]
 | some b =>
  obtain ⟨d,hd,rfl⟩:=(vT h).1 hb
  obtain ⟨_,d1,d2,_⟩:=mU.1 hd
  unfold tiL
  rw [show (e.Last+1-e.First).toNat=(e.Last+1-e.First).toNat from rfl,Dx (pR e z ⟨t,t+1⟩) (tW e z) e.First e.Last d d d1 d2 (λx x1 x2 hx=>by
   rw [hp x x1 x2]at hx
   have:=Kc h hx hd
   omega)]
  rw [show (d+1-d).toNat=1 by omega]
  simp only [collect,hp d d1 d2,hd,cond_true,List.append_nil]
  rfl
def yH (p:Player) (w:Window) (e:Entry):List Span:=bif Aq e p then (tiL e p.Zone w).map (λt=>⟨some e,t⟩)else []
def lX (l:List Entry) (p:Player) (w:Window):List Span:=l.flatMap (yH p w)
structure CE (l:List Entry) (p:Player):Prop where
 right:∀e∈l,Right e
 tags:∀e∈l,e.Tags.length<=1000
 len:l.length<=4
 keys:(l.map (·.Key)).Nodup
 ne:∀e∈l,e.Key≠⟨#[]⟩
 zone : -1440<=p.Zone/\p.Zone<=1440
 ptags:tagsF p.Tags=0
theorem Ho {l:List Entry} {p:Player} (h:CE l p) (w:Window) {e:Entry} (he:e∈l):(yH p w e).length<=4001:=by
 unfold yH
 cases Aq e p with
 | false=>exact Nat.zero_le _
 | true=>rw [cond_true,List.length_map];exact NI (h.right e he) _ _
theorem Er {α β:Type} {f:α->List β} {n:Nat}:∀{l:List α},(∀x∈l,(f x).length<=n)->(l.flatMap f).length<=l.length*n
 | [],_=>by simp
 | x::l,h=>by
  have h1:=h x (by simp)
  have h2:=Er (l:=l) (λy hy=>h y (by simp [hy]))
  rw [List.flatMap_cons,List.length_append,List.length_cons,Nat.add_mul]
  omega
theorem spans_eq {l:List Entry} {p:Player} (h:CE l p) {w:Window} (hw:ND w):iP l p w=some (lX l p w):=by
 have hl:=h.len
 unfold iP
 obtain ⟨t,t1,t2⟩:=wT (body:=λk x s=>iR p w l k x s) (λk s=>s=lX (l.take k) p w) (xs:=l) (s:=([]:List Span)) (by omega) (λk e s he hs=>by
  have et:l.take (k+1)=l.take k++[e]:=by rw [List.take_add_one,he];rfl
  have hm:=List.mem_of_getElem? he
  have hsl:s.length<=20000:=by
   rw [hs]
   have h1:=Er (l:=l.take k) (f:=yH p w) (n:=4001) (λx hx=>Ho h w (List.mem_of_mem_take hx))
   have h2:(l.take k).length<=4:=by rw [List.length_take];omega
   have h3:(l.take k).length*4001<=4*4001:=Nat.mul_le_mul_right _ h2
   unfold lX
   omega
  have hn:lX (l.take (k+1)) p w=s++yH p w e:=by
   rw [hs,et]
   unfold lX
   rw [List.flatMap_append]
   simp
  unfold iR
  rw [fitK e p (h.tags e hm) h.ptags,ob_]
  cases hf:Aq e p with
  | false =>
   refine⟨s,rfl,?_⟩
   rw [hn]
   unfold yH
   rw [hf];simp
  | true =>
   simp only [Bool.not_true,cond_false]
   rw [timesK2 e (h.right e hm) p.Zone w h.zone hw,ob_]
   have htl:=NI (h.right e hm) p.Zone w
   obtain ⟨u,u1,u2⟩:=wT (body:=λj x s=>iQ l k j x s) (λj s'=>s'=s++((tiL e p.Zone w).take j).map (λt=>(⟨some e,t⟩:Span))) (xs:=tiL e p.Zone w) (s:=s) (by omega) (λj x s' hx hs'=>by
    have et2:(tiL e p.Zone w).take (j+1)=(tiL e p.Zone w).take j++[x]:=by rw [List.take_add_one,hx];rfl
    have hjl:((tiL e p.Zone w).take j).length<=4001:=by rw [List.length_take];omega
    unfold iQ
    rw [iH,he,ob_,qj _ _ (by rw [hs',List.length_append,List.length_map];simp only [List.length_cons,List.length_nil];omega)]
    refine⟨_,rfl,?_⟩
    rw [et2,List.map_append,hs',List.append_assoc];rfl) (by simp)
   rw [u1]
   refine⟨u,rfl,?_⟩
   rw [hn,u2,List.take_length]
   unfold yH
   rw [hf];rfl) rfl
 rw [t1,t2,List.take_length];rfl
theorem PE (a b:ByteArray):(lt a b/\uF a b = -1)\/(a=b/\uF a b=0)\/(lt b a/\uF a b=1):=by
 have key:∀(x y:List UInt8),(x<y/\Lib.compareBytes x y = -1)\/(x=y/\Lib.compareBytes x y=0)\/(y<x/\Lib.compareBytes x y=1):=by
  intro x
  induction x with
  | nil=>intro y;cases y with
   | nil=>exact .inr (.inl ⟨rfl,rfl⟩)
   | cons b y=>exact .inl ⟨by simp,rfl⟩
  | cons a x ih=>intro y;cases y with
   | nil=>exact .inr (.inr ⟨by simp,rfl⟩)
   | cons b y =>
    simp only [Lib.compareBytes,List.cons_lt_cons_iff,List.cons.injEq]
    by_cases h1:a<b
    ·exact .inl ⟨.inl h1,by rw [if_pos h1]⟩
    ·by_cases h2:b<a
     ·exact .inr (.inr ⟨.inl h2,by rw [if_neg h1,if_pos h2]⟩)
     ·have e:a=b:=UInt8.le_antisymm (UInt8.not_lt.1 h2) (UInt8.not_lt.1 h1)
      subst e
      rw [if_neg h1,if_neg h1]
      rcases ih y with⟨h,k⟩|⟨h,k⟩|⟨h,k⟩
      ·exact .inl ⟨.inr ⟨rfl,h⟩,k⟩
      ·exact .inr (.inl ⟨⟨rfl,h⟩,k⟩)
      ·exact .inr (.inr ⟨.inr ⟨rfl,h⟩,k⟩)
 unfold uF lt
 rw [toL,toL]
 rcases key a.data.toList b.data.toList with⟨h,k⟩|⟨h,k⟩|⟨h,k⟩
 ·exact .inl ⟨h,k⟩
 ·exact .inr (.inl ⟨y9 (by rw [toL,toL];exact h),k⟩)
 ·exact .inr (.inr ⟨h,k⟩)
theorem MF (a b:ByteArray):strings_Compare a b=some (uF a b):=rfl
def IU (a b:Int):Int:=if a<b then -1 else if a>b then 1 else 0
theorem Ij (a b:Int):cmp_Compare_int a b=some (IU a b):=by
 have e:∀x:Int,(x != x)=false:=by simp
 unfold cmp_Compare_int cmp_isNaN_int IU
 simp only [e,ob_,cond_false]
 by_cases h:a<b
 ·simp only [decide_eq_true h,cond_true,if_pos h]
 ·by_cases h2:a>b
  ·simp only [decide_eq_false h,decide_eq_true h2,cond_true,cond_false,if_neg h,if_pos h2]
  ·simp only [decide_eq_false h,decide_eq_false h2,cond_false,if_neg h,if_neg h2]
theorem or3_eq (a b c:Int):kM [a,b,c]=some (or0 a (or0 b c)):=by
 unfold kM or0
 rw [jG (by simp)]
 simp only [forR,nV]
 cases ha:a==0 with
 | false =>
  have:(a != 0)=true:=by simp [bne,ha]
  simp only [this,cond_true,cond_false,ob_,thenC]
 | true =>
  have:(a != 0)=false:=by simp [bne,ha]
  simp only [this,cond_true,cond_false,ob_]
  cases hb:b==0 with
  | false =>
   have:(b != 0)=true:=by simp [bne,hb]
   simp only [this,cond_true,cond_false,ob_,thenC]
  | true =>
   have:(b != 0)=false:=by simp [bne,hb]
   simp only [this,cond_true,cond_false,ob_]
   cases hc:c==0 with
   | false =>
    have:(c != 0)=true:=by simp [bne,hc]
    simp only [this,cond_true,ob_,thenC]
   | true =>
    have:(c != 0)=false:=by simp [bne,hc]
    simp only [this,cond_false,ob_,thenC]
    rw [eq_of_beq hc]
theorem NJ {a b:Int}:or0 a b<0↔a<0\/a=0/\b<0:=by
 unfold or0
 by_cases h:a=0
 ·subst h;simp
 ·have:(a==0)=false:=by simpa using h
  rw [this,cond_false];omega
theorem u6 {a b:Int}:IU a b<0↔a<b:=by
 unfold IU
 split
 ·omega
 ·split <;> omega
theorem Hr {a b:Int}:IU a b=0↔a=b:=by
 unfold IU
 split
 ·omega
 ·split <;> omega
theorem Ry {a b:ByteArray}:uF a b<0↔lt a b:=by
 rcases PE a b with⟨h,e⟩|⟨h,e⟩|⟨h,e⟩
 ·rw [e];exact⟨λ_=>h,λ_=>by decide⟩
 ·rw [e,h];exact⟨λk=>absurd k (by decide),λk=>absurd k (kJ _)⟩
 ·rw [e];exact⟨λk=>absurd k (by decide),λk=>absurd (lt_trans k h) (kJ _)⟩
theorem lt_ntr {a b c:ByteArray} (h:¬lt a b) (k:¬lt b c):¬lt a c:=λq=>by
 rcases Fs a b with e|e|e
 ·exact h e
 ·rw [e]at q;exact k q
 ·exact k (lt_trans e q)
def kg (x:Entry×Int):Span:=⟨some x.1,⟨x.2,x.2+qX x.1*60000⟩⟩
theorem Pz {p:Player} {e:Entry} (h:Right e) (t:Int):yH p ⟨t,t+1⟩ e=(zI p t e).toList.map kg:=by
 unfold yH zI
 rw [tiL_one h]
 cases Aq e p with
 | false=>rfl
 | true=>cases Ff e p.Zone t <;> rfl
theorem H8:∀{l:List Entry} (p:Player) (t:Int),(∀e∈l,Right e)->lX l p ⟨t,t+1⟩=(kY l p t).map kg
 | [],p,t,_=>rfl
 | e::l,p,t,h=>by
  have ih:=H8 (l:=l) p t (λx hx=>h x (by simp [hx]))
  unfold lX kY at *
  rw [List.flatMap_cons,List.filterMap_cons,ih,Pz (h e (by simp))]
  cases zI p t e <;> rfl
def cE (x y:Entry×Int):Int:=or0 (IU y.1.Prio x.1.Prio) (or0 (IU y.2 x.2) (uF y.1.Key x.1.Key))
theorem uJ {x y:Entry×Int}:cE x y<0↔tV x y=true:=by
 unfold cE
 rw [NJ,NJ,u6,Hr,u6,Hr,Ry,uV]
 constructor
 ·rintro (h|⟨h,k|⟨k,q⟩⟩)
  ·exact .inl h
  ·exact .inr ⟨h.symm,.inl k⟩
  ·exact .inr ⟨h.symm,.inr ⟨k.symm,q⟩⟩
 ·rintro (h|⟨h,k|⟨k,q⟩⟩)
  ·exact .inl h
  ·exact .inr ⟨h.symm,.inl k⟩
  ·exact .inr ⟨h.symm,.inr ⟨k.symm,q⟩⟩
theorem Rh {a b c:Entry×Int} (h:¬tV a b=true) (k:¬tV b c=true):¬tV a c=true:=by
 rw [uV]at *
 simp only [not_or,not_and]at h k
 rintro (q|⟨q,q2|⟨q2,q3⟩⟩)
 ·omega
 ·have h2:=h.2
  have k2:=k.2
  by_cases e:a.1.Prio=b.1.Prio
  ·have:=(h2 e).1
   have:=(k2 (by omega)).1
   omega
  ·omega
 ·have h2:=h.2
  have k2:=k.2
  by_cases e:a.1.Prio=b.1.Prio
  ·have a1:=h2 e
   have a2:=k2 (by omega)
   by_cases e2:a.2=b.2
   ·exact lt_ntr (a2.2 (by omega)) (a1.2 e2) q3
   ·have:=a1.1
    have:=a2.1
    omega
  ·omega
def zeroE:Entry:=⟨⟨#[]⟩,⟨#[]⟩,0,0,0,0,0,[],0,0,0,[],false⟩
def qG (s:Span):Entry×Int:=(s.f_e.getD zeroE,s.f_time.From)
theorem CU (x y:Entry×Int):eZ (kg x) (kg y)=some (cE (qG (kg x)) (qG (kg y))):=by
 unfold eZ
 show ((some y.1).bind λy_5=>(some x.1).bind λy_7=>_)=_
 simp only [ob_,Ij,kg,MF,or3_eq];rfl
theorem MX {l:List Entry} {p:Player} (h:CE l p) (t:Int):(kY l p t).length<=4:=Nat.le_trans (OG _ _ _) h.len
end Go.Proofs.YtmkljmjhcegapaaGreatDoor.Law

