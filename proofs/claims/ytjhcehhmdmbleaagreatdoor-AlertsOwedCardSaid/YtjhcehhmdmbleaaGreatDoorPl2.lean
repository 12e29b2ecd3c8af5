/-
  THE PLAIN LAW (part 2).
-/
import Derived.Test.YtjhcehhmdmbleaaGreatDoorPl1
import Derived.Test.YtjhcehhmdmbleaaGreatDoorDefs
open Go Go.Eng
namespace Go.Proofs.YtjhcehhmdmbleaaGreatDoor.Law
set_option linter.unusedVariables false
set_option linter.unusedSimpArgs false
def qW (e:Int):Ctl Unit Int:=bif e==0 then .go ()else .ret e
theorem zC (e:Int):thenC (qW e) (λ_=>some (0:Int)) (λr=>some r)=some e:=by
 unfold qW
 cases h:e==0 with
 | true=>simp only [cond_true,Gf];rw [eq_of_beq h]
 | false=>rfl
theorem FV {α:Type} {l:List α} {k:Nat} {x:α} (h:l[k]? = some x) (hk:0<k) (hl:l.length<=1000000000):∃y,idx l (w64 ((k:Int)-1))=some y/\l[k-1]? = some y:=by
 have hlt:k<l.length:=(List.getElem?_eq_some_iff.1 h).1
 rw [cO (by omega),show (k:Int)-1=((k-1:Nat):Int) by omega,pW]
 exact⟨l[k-1],List.getElem?_eq_getElem (by omega),List.getElem?_eq_getElem (by omega)⟩
def og (n:Int):Bool := !jK n 0 345686399999
theorem sU (n:Int):gY n=some (og n):=by
 unfold gY og jK
 have e1:decide (n>=0) = !decide (n<0):=by rw [Bool.eq_iff_iff];simp
 have e2:decide (n<345686400000) = !decide (n>345686399999):=by rw [Bool.eq_iff_iff];simp;omega
 rw [e1,e2]
 cases decide (n<0) <;> cases decide (n>345686399999) <;> rfl
def or0 (a b:Int):Int:=bif a==0 then b else a
theorem z8 (a b:ByteArray):(lt a b/\ko a b = -1)\/(a=b/\ko a b=0)\/(lt b a/\ko a b=1):=by
 have key:∀(x y:List UInt8),(x<y/\Lib.compareBytes x y = -1)\/(x=y/\Lib.compareBytes x y=0)\/(y<x/\Lib.compareBytes x y=1):=by
  intro x
  induction x with
  | nil=>intro y;cases y with
   | nil=>exact .inr (.inl ⟨rfl,rfl⟩)
   | cons b y=>exact .inl ⟨by simp,rfl⟩
  | cons a x ih=>intro y;cases y with
   | nil=>exact .inr (.inr ⟨by simp,rfl⟩)
   | cons b y =>
    simp only [Lib.compareBytes,List.cons_lt_cons_iff,List.cons.injEq]
    by_cases h1:a<b
    ·exact .inl ⟨.inl h1,by rw [if_pos h1]⟩
    ·by_cases h2:b<a
     ·exact .inr (.inr ⟨.inl h2,by rw [if_neg h1,if_pos h2]⟩)
     ·have e:a=b:=UInt8.le_antisymm (UInt8.not_lt.1 h2) (UInt8.not_lt.1 h1)
      subst e
      rw [if_neg h1,if_neg h1]
      rcases ih y with⟨h,k⟩|⟨h,k⟩|⟨h,k⟩
      ·exact .inl ⟨.inr ⟨rfl,h⟩,k⟩
      ·exact .inr (.inl ⟨⟨rfl,h⟩,k⟩)
      ·exact .inr (.inr ⟨.inr ⟨rfl,h⟩,k⟩)
 unfold ko lt
 rw [toL,toL]
 rcases key a.data.toList b.data.toList with⟨h,k⟩|⟨h,k⟩|⟨h,k⟩
 ·exact .inl ⟨h,k⟩
 ·exact .inr (.inl ⟨Bw (by rw [toL,toL];exact h),k⟩)
 ·exact .inr (.inr ⟨h,k⟩)
theorem nG (a b:ByteArray):strings_Compare a b=some (ko a b):=rfl
def FK (a b:Int):Int:=if a<b then -1 else if a>b then 1 else 0
theorem zP (a b:Int):cmp_Compare_int a b=some (FK a b):=by
 have e:∀x:Int,(x != x)=false:=by simp
 unfold cmp_Compare_int cmp_isNaN_int FK
 simp only [e,ob_,cond_false]
 by_cases h:a<b
 ·simp only [decide_eq_true h,cond_true,if_pos h]
 ·by_cases h2:a>b
  ·simp only [decide_eq_false h,decide_eq_true h2,cond_true,cond_false,if_neg h,if_pos h2]
  ·simp only [decide_eq_false h,decide_eq_false h2,cond_false,if_neg h,if_neg h2]
theorem Fj (a b:Int):jX [a,b]=some (or0 a b):=by
 unfold jX or0
 rw [fD (by simp)]
 simp only [forR,mZ]
 cases ha:a==0 with
 | false =>
  have:(a != 0)=true:=by simp [bne,ha]
  simp only [this,cond_true,cond_false,ob_,thenC]
 | true =>
  have:(a != 0)=false:=by simp [bne,ha]
  simp only [this,cond_true,cond_false,ob_]
  cases hb:b==0 with
  | false =>
   have:(b != 0)=true:=by simp [bne,hb]
   simp only [this,cond_true,ob_,thenC]
  | true =>
   have:(b != 0)=false:=by simp [bne,hb]
   simp only [this,cond_false,ob_,thenC]
   rw [eq_of_beq hb]
theorem x8 {α:Type} {i:Int} {xs:List α} (h0:0<=i) (h1:i<xs.length):inR i xs=some ():=by unfold inR;rw [if_pos ⟨h0,by omega⟩]
theorem or3_eq (a b c:Int):jX [a,b,c]=some (or0 a (or0 b c)):=by
 unfold jX or0
 rw [fD (by simp)]
 simp only [forR,mZ]
 cases ha:a==0 with
 | false =>
  have:(a != 0)=true:=by simp [bne,ha]
  simp only [this,cond_true,cond_false,ob_,thenC]
 | true =>
  have:(a != 0)=false:=by simp [bne,ha]
  simp only [this,cond_true,cond_false,ob_]
  cases hb:b==0 with
  | false =>
   have:(b != 0)=true:=by simp [bne,hb]
   simp only [this,cond_true,cond_false,ob_,thenC]
  | true =>
   have:(b != 0)=false:=by simp [bne,hb]
   simp only [this,cond_true,cond_false,ob_]
   cases hc:c==0 with
   | false =>
    have:(c != 0)=true:=by simp [bne,hc]
    simp only [this,cond_true,ob_,thenC]
   | true =>
    have:(c != 0)=false:=by simp [bne,hc]
    simp only [this,cond_false,ob_,thenC]
    rw [eq_of_beq hc]
theorem yH {a b:Int}:or0 a b<0↔a<0\/a=0/\b<0:=by
 unfold or0
 by_cases h:a=0
 ·subst h;simp
 ·have:(a==0)=false:=by simpa using h
  rw [this,cond_false];omega
theorem sG {a b:Int}:or0 a b=0↔a=0/\b=0:=by
 unfold or0
 by_cases h:a=0
 ·subst h;simp
 ·have:(a==0)=false:=by simpa using h
  rw [this,cond_false];omega
theorem BK {a b:Int}:FK a b<0↔a<b:=by
 unfold FK
 split
 ·omega
 ·split <;> omega
theorem Ak {a b:Int}:FK a b=0↔a=b:=by
 unfold FK
 split
 ·omega
 ·split <;> omega
theorem tX {a b:ByteArray}:ko a b<0↔lt a b:=by
 rcases z8 a b with⟨h,e⟩|⟨h,e⟩|⟨h,e⟩
 ·rw [e];exact⟨λ_=>h,λ_=>by decide⟩
 ·rw [e,h];exact⟨λk=>absurd k (by decide),λk=>absurd k (fE _)⟩
 ·rw [e];exact⟨λk=>absurd k (by decide),λk=>absurd (lt_trans k h) (fE _)⟩
theorem rq {a b:ByteArray}:ko a b=0↔a=b:=by
 rcases z8 a b with⟨h,e⟩|⟨h,e⟩|⟨h,e⟩
 ·rw [e];exact⟨λk=>absurd k (by decide),λk=>by rw [k]at h;exact absurd h (fE _)⟩
 ·rw [e];exact⟨λ_=>h,λ_=>rfl⟩
 ·rw [e];exact⟨λk=>absurd k (by decide),λk=>by rw [k]at h;exact absurd h (fE _)⟩
theorem sort12 {α:Type} {cmp:α->α->Option Int} (c:α->α->Int) {S:List α->Option (List α)} (hS:∀x,S x=(lD (IntKind.u64.wrap (x.length:Int))).bind λr_3=>(Ja cmp x 0 (x.length:Int) r_3).bind λr_5=>(mP r_5 x).bind λ_=>some r_5)
  {xs:List α} (hl:xs.length<=12) (hF:∀a∈xs,∀b∈xs,cmp a b=some (c a b)) (has:∀a b,c a b<0->¬c b a<0) (hn:∀a b d,¬c a b<0->¬c b d<0->¬c a d<0) :
  ∃r,S xs=some r/\r.Perm xs/\r.Pairwise (λa b=>¬c b a<0):=by
 obtain ⟨k,hk⟩:=len_ok xs.length hl
 obtain ⟨s,h1,h2,h3⟩:=pdq_ok (cmp:=cmp) (le:=λa b=>¬c b a<0) (p:=(· ∈ xs)) (λa b ha hb=>⟨c a b,hF a ha b hb,λh=>has a b h,λh=>h⟩) (λa b d h k=>hn d b a k h) xs hl (λx hx=>hx) k
 refine⟨s,?_,h2,h3⟩
 have hsm:mP s xs=some ():=by unfold mP;rw [if_pos h2.length_eq]
 rw [hS,hk,ob_,h1,ob_,hsm];rfl
theorem JG {α σ ρ:Type} {body:Nat->α->σ->Option (Ctl σ ρ)} (I:Nat->σ->Prop) (xs:List α):∀(l:List α) (k:Nat) (s:σ),xs.drop k=l->k<=xs.length->(∀k x s,xs[k]? = some x->I k s->∃s',body k x s=some (.go s')/\I (k+1) s')->I k s->∃s',forR body l k s=some (.go s')/\I xs.length s'
 | [],k,s,hd,hk,h,hi=>by
  have:=List.drop_eq_nil_iff.1 hd
  obtain rfl:k=xs.length:=by omega
  exact⟨s,rfl,hi⟩
 | x::l,k,s,hd,hk,h,hi=>by
  obtain ⟨s1,h1,h2⟩:=h k x s (wL hd) hi
  obtain ⟨s2,h3,h4⟩:=JG I xs l (k+1) s1 (aQ hd) (by have:=Bp hd;omega) h h2
  exact⟨s2,by rw [forR,h1,ob_];exact h3,h4⟩
theorem jg {α σ ρ:Type} {body:Nat->α->σ->Option (Ctl σ ρ)} (I:Nat->σ->Prop) {xs:List α} {s:σ} (hl:xs.length<=1000000000000) (h:∀k x s,xs[k]? = some x->I k s->∃s',body k x s=some (.go s')/\I (k+1) s') (h0:I 0 s):∃s',forL xs s body=some (.go s')/\I xs.length s':=by
 rw [fD hl]
 exact JG I xs xs 0 s rfl (Nat.zero_le _) h h0
theorem Mo {α β:Type} {f:α->β} {ks:List β} {k:Nat} {x:β} {l:List α} (hx:ks[k]? = some x) (h:(l.map f).Sublist (ks.take k)):(l.map f).Sublist (ks.take (k+1))/\∀c,f c=x->((l++[c]).map f).Sublist (ks.take (k+1)):=by
 have e:ks.take (k+1)=ks.take k++[x]:=by
  rw [List.take_add_one,hx];rfl
 rw [e]
 refine⟨h.trans (List.sublist_append_left _ _),λc hc => ?_⟩
 rw [List.map_append]
 refine h.append ?_
 rw [List.map_cons,hc]
 exact List.Sublist.refl _
theorem lJ {a b:ByteArray} (h:sLt a b=true):lt a b:=(uR a b).1 h
structure Band where
 a:Int
 b:Int
 row:List Run
def Fits (Rw:Int->List Run) (ys:List Int):Prop :=
 ys.Pairwise (· < ·)/\(∀y∈ys,-200000<y)/\(∀(j:Nat) (a b:Int),ys[j]? = some a->ys[j+1]? = some b->∀y,a<=y->y<b->Rw y=Rw a)/\(∀y,(∀a∈ys,a<=y)->Rw y=[])/\(∀y,(∀a∈ys,y<a)->Rw y=[])
theorem Je (s:Stream) {b:Int} (hs:Ok s b) (hb:b<=900000):∃r s',dZ s=some (r,s')/\Fine r/\(-2<=r.X/\r.X<=8 /\ -2<=r.Y/\r.Y<=8/\r.W<=5/\r.H<=5)/\Ok s' (b+4):=by
 unfold dZ
 obtain ⟨X,q1,c1,c2,c3,c4⟩:=iY s (-2) 8 hs (by omega) (by decide) (by decide) (by decide)
 obtain ⟨Y,q2,d1,d2,d3,d4⟩:=iY q1 (-2) 8 c4 (by omega) (by decide) (by decide) (by decide)
 obtain ⟨U,q3,e1,e2,e3,e4⟩:=iY q2 1 5 d4 (by omega) (by decide) (by decide) (by decide)
 obtain ⟨V,q4,f1,f2,f3,f4⟩:=iY q3 1 5 e4 (by omega) (by decide) (by decide) (by decide)
 simp only [c1,d1,e1,f1,ob_]
 refine⟨_,_,rfl,?_,by simp only [];omega,f4.mono (by omega)⟩
 unfold Fine
 simp only [];omega
theorem Hd (f:Rect->Option Bool) (p:Rect->Bool):∀(l:List Rect) (k:Nat),(∀r∈l,f r=some (p r))->(forR (λk z s=>bB f k z s) l k ()=some (.go ())/\l.any p=false)\/∃j:Nat,forR (λk z s=>bB f k z s) l k ()=some (.ret (j:Int))/\l.any p=true
 | [],k,_ => .inl ⟨rfl,rfl⟩
 | r::l,k,h=>by
  have hB:bB f k r ()=some (bif p r then .ret (k:Int)else .go ()):=by
   unfold bB
   rw [h r (by simp),ob_]
   cases p r <;> rfl
  rw [forR,hB,ob_,List.any_cons]
  cases p r with
  | true=>exact .inr ⟨k,rfl,rfl⟩
  | false=>exact Hd f p l (k+1) (λr hr=>h r (by simp [hr]))
theorem MQ (f:Rect->Option Bool) (p:Rect->Bool) {l:List Rect} (h:∀r∈l,f r=some (p r)) (hl:l.length<=1000000):bP l f=some (l.any p):=by
 unfold bP eU
 rw [fD (by omega)]
 rcases Hd f p l 0 h with⟨h1,h2⟩|⟨j,h1,h2⟩
 ·rw [h1,h2];rfl
 ·rw [h1,h2]
  simp only [ob_,thenC]
  have:decide ((j:Int)>=0)=true:=by simp
  rw [this]
def Cu {σ ρ:Type} (s:σ) (body:σ->Option (Ctl σ ρ)):Option (Ctl σ ρ):=iterN body 300 s
def Le {α:Type} (a b:Option α):Prop:=∀r,a=some r->b=some r
theorem Le.refl {α:Type} (a:Option α):Le a a:=λ_ h=>h
theorem Le.bind {α β:Type} {a b:Option α} {f g:α->Option β} (h:Le a b) (k:∀x,Le (f x) (g x)):Le (a.bind f) (b.bind g):=λr e=>by
 obtain ⟨x,h1,h2⟩:=Option.bind_eq_some_iff.1 e
 rw [h x h1];exact k x r h2
theorem Le.cond {α:Type} {a b c d:Option α} {t:Bool} (h:Le a c) (k:Le b d):Le (bif t then a else b) (bif t then c else d):=by
 cases t
 ·exact k
 ·exact h
theorem Le.thenC {σ ρ τ:Type} {o:Ctl σ ρ} {f f':σ->Option τ} {g g':ρ->Option τ} (h:∀x,Le (f x) (f' x)) (k:∀x,Le (g x) (g' x)):Le (Go.Eng.thenC o f g) (Go.Eng.thenC o f' g'):=by
 cases o
 ·exact h _
 ·exact Le.refl _
 ·exact k _
theorem Le.forR {α σ ρ:Type} {b b':Nat->α->σ->Option (Ctl σ ρ)} (h:∀k x s,Le (b k x s) (b' k x s)):∀(xs:List α) (k:Nat) (s:σ),Le (Go.Eng.forR b xs k s) (Go.Eng.forR b' xs k s)
 | [],k,s=>Le.refl _
 | x::xs,k,s=>Le.bind (h k x s) (λc=>by
   cases c with
   | go s'=>exact Le.forR h xs _ _
   | brk s'=>exact Le.refl _
   | ret r=>exact Le.refl _)
theorem Le.forL {α σ ρ:Type} {xs:List α} {s:σ} {b b':Nat->α->σ->Option (Ctl σ ρ)} (h:∀k x s,Le (b k x s) (b' k x s)):Le (Go.Eng.forL xs s b) (Go.Eng.forL xs s b'):=by
 unfold Go.Eng.forL
 split
 ·exact Le.forR h xs 0 s
 ·exact Le.refl _
theorem Le.iterN {σ ρ:Type} {b b':σ->Option (Ctl σ ρ)} (h:∀s,Le (b s) (b' s)):∀(n:Nat) (s:σ),Le (Go.Eng.iterN b n s) (Go.Eng.iterN b' n s)
 | 0,s=>Le.refl _
 | n+1,s=>Le.bind (h s) (λc=>by
   cases c with
   | go s'=>exact Le.iterN h n s'
   | brk s'=>exact Le.refl _
   | ret r=>exact Le.refl _)
theorem Le.loop {σ ρ:Type} {s:σ} {b b':σ->Option (Ctl σ ρ)} (h:∀s,Le (b s) (b' s)):Le (Cu s b) (lN s b'):=λr e=>kY (Le.iterN h _ _ r e)
end Go.Proofs.YtjhcehhmdmbleaaGreatDoor.Law

