/-
  THE PLAIN LAW (part 2).
-/
import Derived.Test.YtkjlhdminmpmkabGreatDoorPl1
open Go Go.Eng
namespace Go.Proofs.YtkjlhdminmpmkabGreatDoor.Law
set_option linter.unusedVariables false
set_option linter.unusedSimpArgs false
theorem NB {r:Rect} (h:I6 r=false):Fine r:=by
 unfold I6 at h
 simp only [Bool.or_eq_false_iff]at h
 obtain ⟨⟨⟨h1,h2⟩,h3⟩,h4⟩:=h
 have h1:=Cs h1
 have h2:=Cs h2
 rw [jl (by omega)]at h3 h4
 have h3:=Cs h3
 have h4:=Cs h4
 exact⟨by omega,by omega,by omega,by omega,by omega⟩
def zK (x y:Int) (r:Rect):Bool:=(decide (r.X<=x)&&decide (x<r.X+r.W))&&(decide (r.Y<=y)&&decide (y<r.Y+r.H))
def hasB (l:List Rect) (x y:Int):Bool:=l.any (zK x y)
theorem Qe (l:List Rect) (x y:Int):hasB l x y=true↔oh l x y:=by
 unfold hasB oh
 rw [List.any_eq_true]
 simp only [zK,Bool.and_eq_true,decide_eq_true_eq]
def Co (e:Int):Ctl Unit Int:=bif e==0 then .go ()else .ret e
theorem EE {α:Type} {l:List α} {k:Nat} {x:α} (h:l[k]? = some x) (hk:0<k) (hl:l.length<=1000000000):∃y,idx l (w64 ((k:Int)-1))=some y/\l[k-1]? = some y:=by
 have hlt:k<l.length:=(List.getElem?_eq_some_iff.1 h).1
 rw [jl (by omega),show (k:Int)-1=((k-1:Nat):Int) by omega,wG]
 exact⟨l[k-1],List.getElem?_eq_getElem (by omega),List.getElem?_eq_getElem (by omega)⟩
def zS (n:Int):Bool := !o6 n 0 345686399999
theorem yL (n:Int):di n=some (zS n):=by
 unfold di zS o6
 have e1:decide (n>=0) = !decide (n<0):=by rw [Bool.eq_iff_iff];simp
 have e2:decide (n<345686400000) = !decide (n>345686399999):=by rw [Bool.eq_iff_iff];simp;omega
 rw [e1,e2]
 cases decide (n<0) <;> cases decide (n>345686399999) <;> rfl
def or0 (a b:Int):Int:=bif a==0 then b else a
theorem Hq (a b:ByteArray):(lt a b/\Em a b = -1)\/(a=b/\Em a b=0)\/(lt b a/\Em a b=1):=by
 have key:∀(x y:List UInt8),(x<y/\Lib.compareBytes x y = -1)\/(x=y/\Lib.compareBytes x y=0)\/(y<x/\Lib.compareBytes x y=1):=by
  intro x
  induction x with
  | nil=>intro y;cases y with
   | nil=>exact .inr (.inl ⟨rfl,rfl⟩)
   | cons b y=>exact .inl ⟨by simp,rfl⟩
  | cons a x ih=>intro y;cases y with
   | nil=>exact .inr (.inr ⟨by simp,rfl⟩)
   | cons b y =>
    simp only [Lib.compareBytes,List.cons_lt_cons_iff,List.cons.injEq]
    by_cases h1:a<b
    ·exact .inl ⟨.inl h1,by rw [if_pos h1]⟩
    ·by_cases h2:b<a
     ·exact .inr (.inr ⟨.inl h2,by rw [if_neg h1,if_pos h2]⟩)
     ·have e:a=b:=UInt8.le_antisymm (UInt8.not_lt.1 h2) (UInt8.not_lt.1 h1)
      subst e
      rw [if_neg h1,if_neg h1]
      rcases ih y with⟨h,k⟩|⟨h,k⟩|⟨h,k⟩
      ·exact .inl ⟨.inr ⟨rfl,h⟩,k⟩
      ·exact .inr (.inl ⟨⟨rfl,h⟩,k⟩)
      ·exact .inr (.inr ⟨.inr ⟨rfl,h⟩,k⟩)
 unfold Em lt
 rw [toL,toL]
 rcases key a.data.toList b.data.toList with⟨h,k⟩|⟨h,k⟩|⟨h,k⟩
 ·exact .inl ⟨h,k⟩
 ·exact .inr (.inl ⟨AY (by rw [toL,toL];exact h),k⟩)
 ·exact .inr (.inr ⟨h,k⟩)
theorem E9 (a b:ByteArray):strings_Compare a b=some (Em a b):=rfl
def LH (a b:Int):Int:=if a<b then -1 else if a>b then 1 else 0
theorem GY (a b:Int):cmp_Compare_int a b=some (LH a b):=by
 have e:∀x:Int,(x != x)=false:=by simp
 unfold cmp_Compare_int cmp_isNaN_int LH
 simp only [e,ob_,cond_false]
 by_cases h:a<b
 ·simp only [decide_eq_true h,cond_true,if_pos h]
 ·by_cases h2:a>b
  ·simp only [decide_eq_false h,decide_eq_true h2,cond_true,cond_false,if_neg h,if_pos h2]
  ·simp only [decide_eq_false h,decide_eq_false h2,cond_false,if_neg h,if_neg h2]
theorem P9 (a b:Int):qd [a,b]=some (or0 a b):=by
 unfold qd or0
 rw [iX (by simp)]
 simp only [forR,qy]
 cases ha:a==0 with
 | false =>
  have:(a != 0)=true:=by simp [bne,ha]
  simp only [this,cond_true,cond_false,ob_,thenC]
 | true =>
  have:(a != 0)=false:=by simp [bne,ha]
  simp only [this,cond_true,cond_false,ob_]
  cases hb:b==0 with
  | false =>
   have:(b != 0)=true:=by simp [bne,hb]
   simp only [this,cond_true,ob_,thenC]
  | true =>
   have:(b != 0)=false:=by simp [bne,hb]
   simp only [this,cond_false,ob_,thenC]
   rw [eq_of_beq hb]
theorem inR_ok {α:Type} {i:Int} {xs:List α} (h0:0<=i) (h1:i<xs.length):inR i xs=some ():=by unfold inR;rw [if_pos ⟨h0,by omega⟩]
theorem or0_neg {a b:Int}:or0 a b<0↔a<0\/a=0/\b<0:=by
 unfold or0
 by_cases h:a=0
 ·subst h;simp
 ·have:(a==0)=false:=by simpa using h
  rw [this,cond_false];omega
theorem Pz {a b:Int}:LH a b<0↔a<b:=by
 unfold LH
 split
 ·omega
 ·split <;> omega
theorem NW {a b:Int}:LH a b=0↔a=b:=by
 unfold LH
 split
 ·omega
 ·split <;> omega
theorem QL {a b:ByteArray}:Em a b<0↔lt a b:=by
 rcases Hq a b with⟨h,e⟩|⟨h,e⟩|⟨h,e⟩
 ·rw [e];exact⟨λ_=>h,λ_=>by decide⟩
 ·rw [e,h];exact⟨λk=>absurd k (by decide),λk=>absurd k (uS _)⟩
 ·rw [e];exact⟨λk=>absurd k (by decide),λk=>absurd (lt_trans k h) (uS _)⟩
theorem sort12 {α:Type} {cmp:α->α->Option Int} (c:α->α->Int) {S:List α->Option (List α)} (hS:∀x,S x=(gJ (IntKind.u64.wrap (x.length:Int))).bind λr_3=>(Cc cmp x 0 (x.length:Int) r_3).bind λr_5=>(iR r_5 x).bind λ_=>some r_5)
  {xs:List α} (hl:xs.length<=12) (hF:∀a∈xs,∀b∈xs,cmp a b=some (c a b)) (has:∀a b,c a b<0->¬c b a<0) (hn:∀a b d,¬c a b<0->¬c b d<0->¬c a d<0) :
  ∃r,S xs=some r/\r.Perm xs/\r.Pairwise (λa b=>¬c b a<0):=by
 obtain ⟨k,hk⟩:=Lg xs.length hl
 obtain ⟨s,h1,h2,h3⟩:=Mo (cmp:=cmp) (le:=λa b=>¬c b a<0) (p:=(· ∈ xs)) (λa b ha hb=>⟨c a b,hF a ha b hb,λh=>has a b h,λh=>h⟩) (λa b d h k=>hn d b a k h) xs hl (λx hx=>hx) k
 refine⟨s,?_,h2,h3⟩
 have hsm:iR s xs=some ():=by unfold iR;rw [if_pos h2.length_eq]
 rw [hS,hk,ob_,h1,ob_,hsm];rfl
theorem ME {α σ ρ:Type} {body:Nat->α->σ->Option (Ctl σ ρ)} (I:Nat->σ->Prop) (xs:List α):∀(l:List α) (k:Nat) (s:σ),xs.drop k=l->k<=xs.length->(∀k x s,xs[k]? = some x->I k s->∃s',body k x s=some (.go s')/\I (k+1) s')->I k s->∃s',forR body l k s=some (.go s')/\I xs.length s'
 | [],k,s,hd,hk,h,hi=>by
  have:=List.drop_eq_nil_iff.1 hd
  obtain rfl:k=xs.length:=by omega
  exact⟨s,rfl,hi⟩
 | x::l,k,s,hd,hk,h,hi=>by
  obtain ⟨s1,h1,h2⟩:=h k x s (AO hd) hi
  obtain ⟨s2,h3,h4⟩:=ME I xs l (k+1) s1 (aR hd) (by have:=ww hd;omega) h h2
  exact⟨s2,by rw [forR,h1,ob_];exact h3,h4⟩
theorem pq {α σ ρ:Type} {body:Nat->α->σ->Option (Ctl σ ρ)} (I:Nat->σ->Prop) {xs:List α} {s:σ} (hl:xs.length<=1000000000000) (h:∀k x s,xs[k]? = some x->I k s->∃s',body k x s=some (.go s')/\I (k+1) s') (h0:I 0 s):∃s',forL xs s body=some (.go s')/\I xs.length s':=by
 rw [iX hl]
 exact ME I xs xs 0 s rfl (Nat.zero_le _) h h0
theorem iG {a b:ByteArray} (h:sLt a b=true):lt a b:=(wD a b).1 h
structure Band where
 a:Int
 b:Int
 row:List Run
def Qh (e:Int) (row:List Run):List Band->Prop
 | []=>True
 | q::_=>q.a=e->q.row≠row
def wo:Int->List Band->Prop
 | _,[]=>True
 | lo,p::l=>lo<=p.a/\p.a<p.b/\p.row ≠ []/\Qh p.b p.row l/\wo p.b l
def rowAt:List Band->Int->List Run
 | [],_=>[]
 | p::l,y=>bif decide (p.a<=y)&&decide (y<p.b)then p.row else rowAt l y
theorem yV:∀{l:List Band} {lo y:Int},wo lo l->y<lo->rowAt l y=[]
 | [],_,_,_,_=>rfl
 | p::l,lo,y,⟨h1,h2,h3,h4,h5⟩,h=>by
  have e1:decide (p.a<=y)=false:=by simp;omega
  rw [rowAt,e1,Bool.false_and,cond_false]
  exact yV h5 (by omega)
theorem EG {p:Band} {l:List Band} {y:Int} (h1:p.a<=y) (h2:y<p.b):rowAt (p::l) y=p.row:=by
 rw [rowAt,decide_eq_true h1,decide_eq_true h2];rfl
theorem yN {p:Band} {l:List Band} {y:Int} (h:y<p.a\/p.b<=y):rowAt (p::l) y=rowAt l y:=by
 rw [rowAt]
 have:(decide (p.a<=y)&&decide (y<p.b))=false:=by
  rw [Bool.and_eq_false_iff]
  rcases h with h|h
  ·left;simp;omega
  ·right;simp;omega
 rw [this];rfl
def xG (l:List Band):List Rect:=l.flatMap λb=>b.row.map (IP b.a (b.b-b.a))
def Fits (Rw:Int->List Run) (ys:List Int):Prop :=
 ys.Pairwise (· < ·)/\(∀y∈ys,-200000<y)/\(∀(j:Nat) (a b:Int),ys[j]? = some a->ys[j+1]? = some b->∀y,a<=y->y<b->Rw y=Rw a)/\(∀y,(∀a∈ys,a<=y)->Rw y=[])/\(∀y,(∀a∈ys,y<a)->Rw y=[])
def rH (f:Int->Int) (lo:Int):Nat->Int
 | 0=>0
 | n+1=>rH f lo n+f (lo+n)
theorem oF {f g:Int->Int} {lo:Int}:∀{n:Nat},(∀x,f x=g x)->rH f lo n=rH g lo n
 | 0,_=>rfl
 | n+1,h=>by rw [rH,rH,oF (n:=n) h,h]
theorem EM (f g:Int->Int) (lo:Int):∀n:Nat,rH (λx=>f x+g x) lo n=rH f lo n+rH g lo n
 | 0=>rfl
 | n+1=>by rw [rH,rH,rH,EM f g lo n];omega
theorem Ce (lo:Int):∀n:Nat,rH (λ_=>0) lo n=0
 | 0=>rfl
 | n+1=>by rw [rH,Ce lo n];rfl
theorem FQ (c:Int) (f:Int->Int) (lo:Int):∀n:Nat,rH (λx=>c*f x) lo n=c*rH f lo n
 | 0=>by simp [rH]
 | n+1=>by rw [rH,rH,FQ c f lo n,Int.mul_add]
def b01 (b:Bool):Int:=bif b then 1 else 0
theorem MH (a b:Bool):b01 (a&&b)=b01 b*b01 a:=by cases a <;> cases b <;> rfl
theorem EW {lo a b:Int} (h1:lo<=a) (h2:a<=b):∀n:Nat,rH (λx=>b01 (decide (a<=x)&&decide (x<b))) lo n=min b (lo+n)-min a (lo+n)
 | 0=>by simp only [rH];omega
 | n+1=>by
  rw [rH,EW h1 h2 n]
  by_cases k1:a<=lo+(n:Int)
  ·by_cases k2:lo+(n:Int)<b
   ·rw [decide_eq_true k1,decide_eq_true k2];show _+1=_;omega
   ·rw [decide_eq_true k1,decide_eq_false k2];show _+0=_;omega
  ·rw [decide_eq_false k1];show _+0=_;omega
def SS (lo:Int) (n:Nat) (f:Int->Int->Int):Int:=rH (λy=>rH (λx=>f x y) lo n) lo n
theorem P8 {lo:Int} {n:Nat} {f g:Int->Int->Int} (h:∀x y,f x y=g x y):SS lo n f=SS lo n g:=oF (λy=>oF (λx=>h x y))
theorem SS_add (lo:Int) (n:Nat) (f g:Int->Int->Int):SS lo n (λx y=>f x y+g x y)=SS lo n f+SS lo n g:=by
 unfold SS
 rw [<- EM]
 exact oF (λy=>EM _ _ _ _)
theorem SS_zero (lo:Int) (n:Nat):SS lo n (λ_ _=>0)=0:=by
 unfold SS
 rw [oF (g:=λ_=>0) (λy=>Ce lo n),Ce]
def mI {α:Type} (f:α->Int):List α->Int
 | []=>0
 | x::l=>f x+mI f l
theorem JG {α:Type} (f:α->Int):∀l m:List α,mI f (l++m)=mI f l+mI f m
 | [],m=>by simp [mI]
 | x::l,m=>by rw [List.cons_append,mI,mI,JG f l m];omega
theorem Al {α:Type} {f g:α->Int}:∀{l:List α},(∀x∈l,f x=g x)->mI f l=mI g l
 | [],_=>rfl
 | x::l,h=>by rw [mI,mI,h x (by simp),Al (l:=l) (λy hy=>h y (by simp [hy]))]
theorem Jo {α β:Type} (f:β->Int) (g:α->β):∀l:List α,mI f (l.map g)=mI (λx=>f (g x)) l
 | []=>rfl
 | x::l=>by rw [List.map_cons,mI,mI,Jo f g l]
theorem Kr {α:Type} (c:Int) (f:α->Int):∀l:List α,mI (λx=>c*f x) l=c*mI f l
 | []=>by simp [mI]
 | x::l=>by rw [mI,mI,Kr c f l,Int.mul_add]
theorem MI {α:Type} (lo:Int) (n:Nat) (g:α->Int->Int->Int):∀l:List α,mI (λr=>SS lo n (g r)) l=SS lo n (λx y=>mI (λr=>g r x y) l)
 | []=>(SS_zero lo n).symm
 | r::l=>by
  rw [mI,MI lo n g l,<- SS_add];rfl
def ind (r:Rect) (x y:Int):Int:=b01 (zK x y r)
theorem Qj {lo:Int} {n:Nat} {r:Rect} (h1:lo<=r.X/\r.X+r.W<=lo+n) (h2:lo<=r.Y/\r.Y+r.H<=lo+n) (h3:0<=r.W) (h4:0<=r.H):SS lo n (ind r)=r.W*r.H:=by
 have e1:rH (λx=>b01 (decide (r.X<=x)&&decide (x<r.X+r.W))) lo n=r.W:=by rw [EW h1.1 (by omega)];omega
 have e2:rH (λy=>b01 (decide (r.Y<=y)&&decide (y<r.Y+r.H))) lo n=r.H:=by rw [EW h2.1 (by omega)];omega
 unfold SS ind zK
 rw [oF (g:=λy=>r.W*b01 (decide (r.Y<=y)&&decide (y<r.Y+r.H))) (λy=>by
  rw [oF (g:=λx=>b01 (decide (r.Y<=y)&&decide (y<r.Y+r.H))*b01 (decide (r.X<=x)&&decide (x<r.X+r.W))) (λx=>MH _ _),FQ,e1,Int.mul_comm]),FQ,e2]
def Qt (l:List Rect):Int:=mI (λr=>r.W*r.H) l
open Classical in
noncomputable def P01 (p:Prop):Int:=if p then 1 else 0
theorem JW {p:Prop} (h:p):P01 p=1:=by unfold P01;rw [if_pos h]
theorem Df {p:Prop} (h:¬p):P01 p=0:=by unfold P01;rw [if_neg h]
theorem G9 {p q:Prop} (h:p↔q):P01 p=P01 q:=by rw [propext h]
theorem b01_P (b:Bool):b01 b=P01 (b=true):=by
 cases b
 ·rw [Df (by simp)];rfl
 ·rw [JW rfl];rfl
theorem MQ (x:Int):∀(L:List Run) (lo:Int),jb lo L->mI (λr=>b01 (decide (r.f_from<=x)&&decide (x<r.f_to))) L=P01 (mem x L)
 | [],_,_=>by rw [Df (H9 x)];rfl
 | r::L,lo,⟨h1,h2,h3⟩=>by
  rw [mI,MQ x L _ h3,b01_P]
  simp only [Bool.and_eq_true,decide_eq_true_eq]
  by_cases k:r.f_from<=x/\x<r.f_to
  ·rw [JW k,Df (λm=>by have:=h3.gt m;omega),JW ((mem_cons _ _ _).2 (.inl k))];rfl
  ·rw [Df k,Int.zero_add]
   exact G9 (by rw [mem_cons];simp [k])
theorem JB (x y:Int):∀(bs:List Band) (lo:Int),wo lo bs->(∀b∈bs,∃c,jb c b.row)->mI (λr=>ind r x y) (xG bs)=P01 (mem x (rowAt bs y))
 | [],_,_,_=>by rw [show rowAt [] y=[] from rfl,Df (H9 x)];rfl
 | p::bs,lo,⟨h1,h2,h3,h4,h5⟩,hc=>by
  have e:xG (p::bs)=p.row.map (IP p.a (p.b-p.a))++xG bs:=by simp [xG]
  rw [e,JG,Jo,JB x y bs _ h5 (λb hb=>hc b (by simp [hb]))]
  have e2:∀r:Run,ind (IP p.a (p.b-p.a) r) x y=b01 (decide (p.a<=y)&&decide (y<p.b))*b01 (decide (r.f_from<=x)&&decide (x<r.f_to)):=λr=>by
   unfold ind zK IP
   rw [MH]
   simp only
   rw [show r.f_from+(r.f_to-r.f_from)=r.f_to by omega,show p.a+(p.b-p.a)=p.b by omega]
  rw [Al (λr _=>e2 r),Kr]
  obtain ⟨c,hcp⟩:=hc p (by simp)
  rw [MQ x p.row c hcp]
  by_cases k1:p.a<=y
  ·by_cases k2:y<p.b
   ·rw [EG k1 k2,yV h5 k2,Df (H9 x),decide_eq_true k1,decide_eq_true k2]
    show 1*_+0=_
    omega
   ·rw [yN (.inr (by omega)),decide_eq_false k2,Bool.and_false]
    show 0*_+_=_
    omega
  ·rw [yN (.inl (by omega)),decide_eq_false k1]
   show 0*_+_=_
   omega
theorem LQ {l m:List Rect} (hfl:∀r∈l,Fine r) {bs:List Band} (hb:wo (-200000) bs) (hr:∀y,jb (-200000) (rowAt bs y)/\(∀r∈rowAt bs y,Okr r)/\∀x,mem x (rowAt bs y)↔oh l x y/\¬oh m x y) :
  (∀b∈bs,∃y,b.row=rowAt bs y/\b.a<=y/\y<b.b /\ -100000<=b.a/\b.b<=100000):=by
 have key:∀(bs':List Band) (lo:Int),wo lo bs'->∀b∈bs',(∀y,b.a<=y->y<b.b->rowAt bs' y=b.row)/\b.a<b.b/\b.row ≠ []:=by
  intro bs'
  induction bs' with
  | nil=>intro lo _ b hb;cases hb
  | cons p bs' ih =>
   rintro lo ⟨h1,h2,h3,h4,h5⟩ b hb
   rcases List.mem_cons.1 hb with rfl|hb
   ·exact⟨λy k1 k2=>EG k1 k2,h2,h3⟩
   ·obtain ⟨i1,i2,i3⟩:=ih _ h5 b hb
    refine⟨λy k1 k2 => ?_,i2,i3⟩
    have hge:p.b<=y:=by
     rcases Int.lt_or_le y p.b with k|k
     ·have e:=i1 y k1 k2
      rw [yV h5 k]at e
      exact absurd e.symm i3
     ·exact k
    rw [yN (.inr hge)];exact i1 y k1 k2
 intro b hbm
 obtain ⟨i1,i2,i3⟩:=key bs _ hb b hbm
 have at_:∀y,b.a<=y->y<b.b -> -100000<=y/\y<100000:=λy k1 k2=>by
  obtain ⟨q,hq⟩:=List.exists_mem_of_ne_nil _ i3
  obtain ⟨c1,c2,c3⟩:=hr y
  rw [i1 y k1 k2]at c1 c2 c3
  have:=c2 q hq
  have hm:mem q.f_from b.row:=⟨q,hq,Int.le_refl _,this.2.1⟩
  obtain ⟨⟨r,hr,_,k3⟩,_⟩:=(c3 _).1 hm
  obtain ⟨f1,f2,f3,f4⟩:=hfl r hr
  omega
 have a1:=at_ b.a (Int.le_refl _) i2
 have a2:=at_ (b.b-1) (by omega) (by omega)
 exact⟨b.a,(i1 b.a (Int.le_refl _) i2).symm,Int.le_refl _,i2,by omega,by omega⟩
theorem Jr {l m:List Rect} (hfl:∀r∈l,Fine r) {bs:List Band} (hb:wo (-200000) bs) (hr:∀y,jb (-200000) (rowAt bs y)/\(∀r∈rowAt bs y,Okr r)/\∀x,mem x (rowAt bs y)↔oh l x y/\¬oh m x y) :
  (∀r∈xG bs,Fine r)/\(∀x y,mI (λr=>ind r x y) (xG bs)=P01 (oh l x y/\¬oh m x y))/\∀n:Nat,n=200000->Qt (xG bs)=SS (-100000) n (λx y=>P01 (oh l x y/\¬oh m x y)):=by
 have hba:=LQ hfl hb hr
 have hfine:∀r∈xG bs,Fine r:=by
  intro r hrm
  obtain ⟨b,hb',hr'⟩:=List.mem_flatMap.1 hrm
  obtain ⟨q,hq,rfl⟩:=List.mem_map.1 hr'
  obtain ⟨y,e,k1,k2,k3,k4⟩:=hba b hb'
  have ho:=(hr y).2.1 q (by rw [<- e];exact hq)
  unfold Okr at ho
  refine⟨?_,?_,?_,?_⟩
  ·show -100000<=q.f_from/\q.f_from<=100000;omega
  ·show -100000<=b.a/\b.a<=100000;omega
  ·show 1<=q.f_to-q.f_from/\q.f_from+(q.f_to-q.f_from)<=100000;omega
  ·show 1<=b.b-b.a/\b.a+(b.b-b.a)<=100000;omega
 have hind:∀x y,mI (λr=>ind r x y) (xG bs)=P01 (oh l x y/\¬oh m x y):=λx y=>by
  rw [JB x y bs _ hb (λb hb'=>by
   obtain ⟨y,e,_⟩:=hba b hb'
   exact⟨_,by rw [e];exact (hr y).1⟩)]
  exact G9 ((hr y).2.2 x)
 refine⟨hfine,hind,λn hn => ?_⟩
 unfold Qt
 rw [Al (g:=λr=>SS (-100000) n (ind r)) (λr hr'=>by
  obtain ⟨f1,f2,f3,f4⟩:=hfine r hr'
  rw [Qj (by omega) (by omega) (by omega) (by omega)]),MI]
 exact P8 hind
theorem GX {α:Type} [BEq α] [LawfulBEq α]:∀(l m:List α),l.Nodup->(∀x∈l,x∈m)->l.length<=m.length
 | [],_,_,_=>Nat.zero_le _
 | x::l,m,hd,hs=>by
  obtain ⟨h1,h2⟩:=List.nodup_cons.1 hd
  have hx:=hs x (by simp)
  have:=GX l (m.erase x) h2 (λy hy=>(List.mem_erase_of_ne (λe=>h1 (by rw [<- e];exact hy))).2 (hs y (by simp [hy])))
  have h3:=List.length_erase_of_mem hx
  have h4:=List.length_pos_of_mem hx
  simp only [List.length_cons];omega
theorem Lr (r:Rect) (x y:Int):ind r x y=0\/ind r x y=1:=by
 unfold ind b01
 cases zK x y r
 ·exact .inl rfl
 ·exact .inr rfl
theorem ind_t {r:Rect} {x y:Int} (h:zK x y r=true):ind r x y=1:=by unfold ind;rw [h];rfl
theorem ind_f {r:Rect} {x y:Int} (h:zK x y r=false):ind r x y=0:=by unfold ind;rw [h];rfl
def Cx (l:List Rect) (x y:Int):Int:=mI (λr=>ind r x y) l
theorem CZ (x y:Int):∀l:List Rect,0<=Cx l x y
 | []=>Int.le_refl _
 | r::l=>by
  have:=CZ x y l
  unfold Cx at *
  rw [mI]
  rcases Lr r x y with h|h <;> omega
theorem tu (l:List Rect) (x y:Int):oh l x y↔∃r∈l,zK x y r=true:=by
 rw [<- Qe,hasB,List.any_eq_true]
theorem Ex {x y:Int}:∀{l:List Rect},oh l x y->1<=Cx l x y
 | [],h=>by rw [tu]at h;obtain ⟨r,hr,_⟩:=h;cases hr
 | r::l,h=>by
  have h0:=CZ x y l
  unfold Cx at *
  rw [mI]
  rw [tu]at h
  obtain ⟨q,hq,hh⟩:=h
  rcases List.mem_cons.1 hq with rfl|hq
  ·rw [ind_t hh];omega
  ·have:=Ex (l:=l) ((tu _ _ _).2 ⟨q,hq,hh⟩)
   unfold Cx at this
   rcases Lr r x y with h|h <;> omega
theorem Hg {x y:Int}:∀{l:List Rect},¬oh l x y->Cx l x y=0
 | [],_=>rfl
 | r::l,h=>by
  unfold Cx
  rw [mI]
  have h1:zK x y r=false:=by
   cases hh:zK x y r with
   | false=>rfl
   | true=>exact absurd ((tu _ _ _).2 ⟨r,by simp,hh⟩) h
  have h2:=Hg (l:=l) (λk=>h (by
   obtain ⟨q,hq,hh⟩:=(tu _ _ _).1 k
   exact (tu _ _ _).2 ⟨q,by simp [hq],hh⟩))
  unfold Cx at h2
  rw [ind_f h1,h2];rfl
theorem row_nodup (y:Int):∀l:List Rect,(∀x,Cx l x y<=1)->(∀r∈l,1<=r.W)->((l.filter (covers y)).map (·.X)).Nodup
 | [],_,_=>List.nodup_nil
 | r::l,h,hw=>by
  have h':∀x,Cx l x y<=1:=λx=>by
   have:=h x
   unfold Cx at *
   rw [mI]at this
   rcases Lr r x y with k|k <;> omega
  have ih:=row_nodup y l h' (λq hq=>hw q (by simp [hq]))
  rw [List.filter_cons]
  cases hc:covers y r with
  | false=>exact ih
  | true =>
   simp only [if_true,List.map_cons]
   refine List.nodup_cons.2 ⟨λhm => ?_,ih⟩
   obtain ⟨q,hq,he⟩:=List.mem_map.1 hm
   obtain ⟨q1,q2⟩:=List.mem_filter.1 hq
   have hwr:=hw r (by simp)
   have hwq:=hw q (by simp [q1])
   have e1:zK r.X y r=true:=by
    unfold zK;unfold covers at hc
    rw [hc,decide_eq_true (Int.le_refl _),decide_eq_true (show r.X<r.X+r.W by omega)];rfl
   have e2:zK r.X y q=true:=by
    unfold zK;unfold covers at q2
    rw [q2,<- he,decide_eq_true (Int.le_refl _),decide_eq_true (show q.X<q.X+q.W by omega)];rfl
   have h1:=h r.X
   have h2:=Ex (l:=l) ((tu _ _ _).2 ⟨q,q1,e2⟩)
   unfold Cx at h1 h2
   rw [mI,ind_t e1]at h1
   omega
theorem Gw:∀(bs:List Band) (lo:Int),wo lo bs->∀b∈bs,(∀y,b.a<=y->y<b.b->rowAt bs y=b.row)/\b.a<b.b/\b.row ≠ []
 | [],_,_,b,hb=>by cases hb
 | p::bs,lo,⟨h1,h2,h3,h4,h5⟩,b,hb=>by
  rcases List.mem_cons.1 hb with rfl|hb
  ·exact⟨λy k1 k2=>EG k1 k2,h2,h3⟩
  ·obtain ⟨i1,i2,i3⟩:=Gw bs _ h5 b hb
   refine⟨λy k1 k2 => ?_,i2,i3⟩
   have hge:p.b<=y:=by
    rcases Int.lt_or_le y p.b with k|k
    ·have e:=i1 y k1 k2
     rw [yV h5 k]at e
     exact absurd e.symm i3
    ·exact k
   rw [yN (.inr hge)];exact i1 y k1 k2
theorem Qu {bs:List Band} {lo:Int} (h:wo lo bs) {r:Rect} (hr:r∈xG bs) {y:Int} (h1:r.Y<=y) (h2:y<r.Y+r.H):∃q∈rowAt bs y,r.X=q.f_from/\r.X+r.W=q.f_to:=by
 obtain ⟨b,hb,hr⟩:=List.mem_flatMap.1 hr
 obtain ⟨q,hq,rfl⟩:=List.mem_map.1 hr
 obtain ⟨i1,i2,i3⟩:=Gw bs lo h b hb
 have e:b.a+(b.b-b.a)=b.b:=by omega
 refine⟨q,?_,rfl,by show q.f_from+(q.f_to-q.f_from)=q.f_to;omega⟩
 rw [i1 y h1 (by have:y<b.a+(b.b-b.a):=h2;omega)];exact hq
theorem Eh:∀{L:List Run} {lo:Int},jb lo L->∀q∈L,¬mem (q.f_from-1) L
 | [],_,_,q,hq=>by cases hq
 | r::L,lo,⟨h1,h2,h3⟩,q,hq=>by
  rw [mem_cons]
  rcases List.mem_cons.1 hq with rfl|hq
  ·rintro (k|k)
   ·omega
   ·have:=h3.gt k;omega
  ·have h4:=h3.lo q hq
   rintro (k|k)
   ·omega
   ·exact Eh h3 q hq k
def NN (R:List Rect) (S:Int->Int->Prop):Prop:=∃bs:List Band,R=xG bs/\wo (-200000) bs/\∀y,jb (-200000) (rowAt bs y)/\(∀r∈rowAt bs y,Okr r)/\∀x,mem x (rowAt bs y)↔S x y
theorem NN.facts {R l m:List Rect} (h:NN R (λx y=>oh l x y/\¬oh m x y)) (hfl:∀r∈l,Fine r) :
  (∀r∈R,Fine r)/\(∀x y,Cx R x y=P01 (oh l x y/\¬oh m x y))/\∀n:Nat,n=200000->Qt R=SS (-100000) n (λx y=>P01 (oh l x y/\¬oh m x y)):=by
 obtain ⟨bs,rfl,b1,b2⟩:=h
 exact Jr hfl b1 b2
theorem P01_le (p:Prop):P01 p<=1:=by
 by_cases h:p
 ·rw [JW h];omega
 ·rw [Df h];omega
theorem NN.has {R l m:List Rect} (h:NN R (λx y=>oh l x y/\¬oh m x y)) (hfl:∀r∈l,Fine r) (x y:Int):oh R x y↔(oh l x y/\¬oh m x y):=by
 have e:=(h.facts hfl).2.1 x y
 constructor
 ·intro k
  have:=Ex k
  by_cases hs:oh l x y/\¬oh m x y
  ·exact hs
  ·rw [Df hs]at e;omega
 ·intro hs
  rw [JW hs]at e
  by_cases k:oh R x y
  ·exact k
  ·rw [Hg k]at e;omega
theorem NN.row {R l m:List Rect} (h:NN R (λx y=>oh l x y/\¬oh m x y)) (hfl:∀r∈l,Fine r) (y:Int):(rowB R y).length<=l.length+m.length:=by
 obtain ⟨f1,f2,_⟩:=h.facts hfl
 have hn:=row_nodup y R (λx=>by rw [f2];exact P01_le _) (λr hr=>(f1 r hr).2.2.1.1)
 obtain ⟨bs,rfl,b1,b2⟩:=h
 have hm:∀v∈((xG bs).filter (covers y)).map (·.X),v∈l.map (·.X)++m.map (λr=>r.X+r.W):=by
  intro v hv
  obtain ⟨r,hr,rfl⟩:=List.mem_map.1 hv
  obtain ⟨hr1,hr2⟩:=List.mem_filter.1 hr
  have hy:r.Y<=y/\y<r.Y+r.H:=by
   simp only [covers,Bool.and_eq_true,decide_eq_true_eq]at hr2;exact hr2
  obtain ⟨q,hq,e1,e2⟩:=Qu b1 hr1 hy.1 hy.2
  obtain ⟨c1,c2,c3⟩:=b2 y
  have hl:=Eh c1 q hq
  have hlt:=(c1.lo q hq).2
  have hin:=(c3 q.f_from).1 ⟨q,hq,Int.le_refl _,hlt⟩
  rw [c3]at hl
  obtain ⟨⟨s,hs,s1,s2⟩,hnm⟩:=hin
  rw [e1]
  by_cases hm':oh m (q.f_from-1) y
  ·obtain ⟨t,ht,t1,t2⟩:=hm'
   refine List.mem_append.2 (.inr (List.mem_map.2 ⟨t,ht,?_⟩))
   have:¬(t.X<=q.f_from/\q.f_from<t.X+t.W):=λk=>hnm ⟨t,ht,k,t2⟩
   omega
  ·refine List.mem_append.2 (.inl (List.mem_map.2 ⟨s,hs,?_⟩))
   have:¬(s.X<=q.f_from-1/\q.f_from-1<s.X+s.W):=λk=>hl ⟨⟨s,hs,k,s2⟩,hm'⟩
   omega
 have:=GX _ _ hn hm
 simp only [List.length_map,List.length_append]at this
 unfold rowB
 rw [List.length_map];exact this
theorem OD {r:Rect} (h:Fine r):I6 r=false:=by
 unfold Fine at h
 unfold I6
 rw [jl (n:=100000-r.X) (by omega),jl (n:=100000-r.Y) (by omega),uD (by omega),uD (by omega),uD (by omega),uD (by omega)];rfl
end Go.Proofs.YtkjlhdminmpmkabGreatDoor.Law

