/-
  THE PLAIN LAW (part 2).
-/
import Derived.Test.YtekmkepojbhafaeGreatDoorPl1
open Go Go.Eng
namespace Go.Proofs.YtekmkepojbhafaeGreatDoor.Law
set_option linter.unusedVariables false
set_option linter.unusedSimpArgs false
theorem Jo {r:Rect} (h:AZ r=false):Fine r:=by
 unfold AZ at h
 simp only [Bool.or_eq_false_iff]at h
 obtain ⟨⟨⟨h1,h2⟩,h3⟩,h4⟩:=h
 have h1:=xS h1
 have h2:=xS h2
 rw [gW (by omega)]at h3 h4
 have h3:=xS h3
 have h4:=xS h4
 exact⟨by omega,by omega,by omega,by omega,by omega⟩
def vJ (x y:Int) (r:Rect):Bool:=(decide (r.X<=x)&&decide (x<r.X+r.W))&&(decide (r.Y<=y)&&decide (y<r.Y+r.H))
def hasB (l:List Rect) (x y:Int):Bool:=l.any (vJ x y)
theorem Lb (l:List Rect) (x y:Int):hasB l x y=true↔kT l x y:=by
 unfold hasB kT
 rw [List.any_eq_true]
 simp only [vJ,Bool.and_eq_true,decide_eq_true_eq]
def rF (e:Int):Ctl Unit Int:=bif e==0 then .go ()else .ret e
theorem Fe {α:Type} {l:List α} {k:Nat} {x:α} (h:l[k]? = some x) (hk:0<k) (hl:l.length<=1000000000):∃y,idx l (w64 ((k:Int)-1))=some y/\l[k-1]? = some y:=by
 have hlt:k<l.length:=(List.getElem?_eq_some_iff.1 h).1
 rw [gW (by omega),show (k:Int)-1=((k-1:Nat):Int) by omega,yV]
 exact⟨l[k-1],List.getElem?_eq_getElem (by omega),List.getElem?_eq_getElem (by omega)⟩
def qb (n:Int):Bool := !jX n 0 345686399999
theorem yf (n:Int):jo n=some (qb n):=by
 unfold jo qb jX
 have e1:decide (n>=0) = !decide (n<0):=by rw [Bool.eq_iff_iff];simp
 have e2:decide (n<345686400000) = !decide (n>345686399999):=by rw [Bool.eq_iff_iff];simp;omega
 rw [e1,e2]
 cases decide (n<0) <;> cases decide (n>345686399999) <;> rfl
def or0 (a b:Int):Int:=bif a==0 then b else a
theorem I1 (a b:ByteArray):(lt a b/\zD a b = -1)\/(a=b/\zD a b=0)\/(lt b a/\zD a b=1):=by
 have key:∀(x y:List UInt8),(x<y/\Lib.compareBytes x y = -1)\/(x=y/\Lib.compareBytes x y=0)\/(y<x/\Lib.compareBytes x y=1):=by
  intro x
  induction x with
  | nil=>intro y;cases y with
   | nil=>exact .inr (.inl ⟨rfl,rfl⟩)
   | cons b y=>exact .inl ⟨by simp,rfl⟩
  | cons a x ih=>intro y;cases y with
   | nil=>exact .inr (.inr ⟨by simp,rfl⟩)
   | cons b y =>
    simp only [Lib.compareBytes,List.cons_lt_cons_iff,List.cons.injEq]
    by_cases h1:a<b
    ·exact .inl ⟨.inl h1,by rw [if_pos h1]⟩
    ·by_cases h2:b<a
     ·exact .inr (.inr ⟨.inl h2,by rw [if_neg h1,if_pos h2]⟩)
     ·have e:a=b:=UInt8.le_antisymm (UInt8.not_lt.1 h2) (UInt8.not_lt.1 h1)
      subst e
      rw [if_neg h1,if_neg h1]
      rcases ih y with⟨h,k⟩|⟨h,k⟩|⟨h,k⟩
      ·exact .inl ⟨.inr ⟨rfl,h⟩,k⟩
      ·exact .inr (.inl ⟨⟨rfl,h⟩,k⟩)
      ·exact .inr (.inr ⟨.inr ⟨rfl,h⟩,k⟩)
 unfold zD lt
 rw [toL,toL]
 rcases key a.data.toList b.data.toList with⟨h,k⟩|⟨h,k⟩|⟨h,k⟩
 ·exact .inl ⟨h,k⟩
 ·exact .inr (.inl ⟨yQ (by rw [toL,toL];exact h),k⟩)
 ·exact .inr (.inr ⟨h,k⟩)
theorem zf (a b:ByteArray):strings_Compare a b=some (zD a b):=rfl
def IB (a b:Int):Int:=if a<b then -1 else if a>b then 1 else 0
theorem IV (a b:Int):cmp_Compare_int a b=some (IB a b):=by
 have e:∀x:Int,(x != x)=false:=by simp
 unfold cmp_Compare_int cmp_isNaN_int IB
 simp only [e,ob_,cond_false]
 by_cases h:a<b
 ·simp only [decide_eq_true h,cond_true,if_pos h]
 ·by_cases h2:a>b
  ·simp only [decide_eq_false h,decide_eq_true h2,cond_true,cond_false,if_neg h,if_pos h2]
  ·simp only [decide_eq_false h,decide_eq_false h2,cond_false,if_neg h,if_neg h2]
theorem or2_eq (a b:Int):pE [a,b]=some (or0 a b):=by
 unfold pE or0
 rw [iX (by simp)]
 simp only [forR,nk]
 cases ha:a==0 with
 | false =>
  have:(a != 0)=true:=by simp [bne,ha]
  simp only [this,cond_true,cond_false,ob_,thenC]
 | true =>
  have:(a != 0)=false:=by simp [bne,ha]
  simp only [this,cond_true,cond_false,ob_]
  cases hb:b==0 with
  | false =>
   have:(b != 0)=true:=by simp [bne,hb]
   simp only [this,cond_true,ob_,thenC]
  | true =>
   have:(b != 0)=false:=by simp [bne,hb]
   simp only [this,cond_false,ob_,thenC]
   rw [eq_of_beq hb]
theorem KO {α:Type} {i:Int} {xs:List α} (h0:0<=i) (h1:i<xs.length):inR i xs=some ():=by unfold inR;rw [if_pos ⟨h0,by omega⟩]
theorem or0_neg {a b:Int}:or0 a b<0↔a<0\/a=0/\b<0:=by
 unfold or0
 by_cases h:a=0
 ·subst h;simp
 ·have:(a==0)=false:=by simpa using h
  rw [this,cond_false];omega
theorem JV {a b:Int}:IB a b<0↔a<b:=by
 unfold IB
 split
 ·omega
 ·split <;> omega
theorem Il {a b:Int}:IB a b=0↔a=b:=by
 unfold IB
 split
 ·omega
 ·split <;> omega
theorem EP {a b:ByteArray}:zD a b<0↔lt a b:=by
 rcases I1 a b with⟨h,e⟩|⟨h,e⟩|⟨h,e⟩
 ·rw [e];exact⟨λ_=>h,λ_=>by decide⟩
 ·rw [e,h];exact⟨λk=>absurd k (by decide),λk=>absurd k (xq _)⟩
 ·rw [e];exact⟨λk=>absurd k (by decide),λk=>absurd (lt_trans k h) (xq _)⟩
theorem sort12 {α:Type} {cmp:α->α->Option Int} (c:α->α->Int) {S:List α->Option (List α)} (hS:∀x,S x=(iQ (IntKind.u64.wrap (x.length:Int))).bind λr_3=>(AP cmp x 0 (x.length:Int) r_3).bind λr_5=>(kF r_5 x).bind λ_=>some r_5)
  {xs:List α} (hl:xs.length<=12) (hF:∀a∈xs,∀b∈xs,cmp a b=some (c a b)) (has:∀a b,c a b<0->¬c b a<0) (hn:∀a b d,¬c a b<0->¬c b d<0->¬c a d<0) :
  ∃r,S xs=some r/\r.Perm xs/\r.Pairwise (λa b=>¬c b a<0):=by
 obtain ⟨k,hk⟩:=Js xs.length hl
 obtain ⟨s,h1,h2,h3⟩:=JN (cmp:=cmp) (le:=λa b=>¬c b a<0) (p:=(· ∈ xs)) (λa b ha hb=>⟨c a b,hF a ha b hb,λh=>has a b h,λh=>h⟩) (λa b d h k=>hn d b a k h) xs hl (λx hx=>hx) k
 refine⟨s,?_,h2,h3⟩
 have hsm:kF s xs=some ():=by unfold kF;rw [if_pos h2.length_eq]
 rw [hS,hk,ob_,h1,ob_,hsm];rfl
theorem G6 {α σ ρ:Type} {body:Nat->α->σ->Option (Ctl σ ρ)} (I:Nat->σ->Prop) (xs:List α):∀(l:List α) (k:Nat) (s:σ),xs.drop k=l->k<=xs.length->(∀k x s,xs[k]? = some x->I k s->∃s',body k x s=some (.go s')/\I (k+1) s')->I k s->∃s',forR body l k s=some (.go s')/\I xs.length s'
 | [],k,s,hd,hk,h,hi=>by
  have:=List.drop_eq_nil_iff.1 hd
  obtain rfl:k=xs.length:=by omega
  exact⟨s,rfl,hi⟩
 | x::l,k,s,hd,hk,h,hi=>by
  obtain ⟨s1,h1,h2⟩:=h k x s (sW hd) hi
  obtain ⟨s2,h3,h4⟩:=G6 I xs l (k+1) s1 (aS hd) (by have:=rz hd;omega) h h2
  exact⟨s2,by rw [forR,h1,ob_];exact h3,h4⟩
theorem q8 {α σ ρ:Type} {body:Nat->α->σ->Option (Ctl σ ρ)} (I:Nat->σ->Prop) {xs:List α} {s:σ} (hl:xs.length<=1000000000000) (h:∀k x s,xs[k]? = some x->I k s->∃s',body k x s=some (.go s')/\I (k+1) s') (h0:I 0 s):∃s',forL xs s body=some (.go s')/\I xs.length s':=by
 rw [iX hl]
 exact G6 I xs xs 0 s rfl (Nat.zero_le _) h h0
theorem lC {a b:ByteArray} (h:sLt a b=true):lt a b:=(wy a b).1 h
structure Band where
 a:Int
 b:Int
 row:List Run
def KY (e:Int) (row:List Run):List Band->Prop
 | []=>True
 | q::_=>q.a=e->q.row≠row
def ru:Int->List Band->Prop
 | _,[]=>True
 | lo,p::l=>lo<=p.a/\p.a<p.b/\p.row ≠ []/\KY p.b p.row l/\ru p.b l
def rowAt:List Band->Int->List Run
 | [],_=>[]
 | p::l,y=>bif decide (p.a<=y)&&decide (y<p.b)then p.row else rowAt l y
theorem uA:∀{l:List Band} {lo y:Int},ru lo l->y<lo->rowAt l y=[]
 | [],_,_,_,_=>rfl
 | p::l,lo,y,⟨h1,h2,h3,h4,h5⟩,h=>by
  have e1:decide (p.a<=y)=false:=by simp;omega
  rw [rowAt,e1,Bool.false_and,cond_false]
  exact uA h5 (by omega)
theorem yY {p:Band} {l:List Band} {y:Int} (h1:p.a<=y) (h2:y<p.b):rowAt (p::l) y=p.row:=by
 rw [rowAt,decide_eq_true h1,decide_eq_true h2];rfl
theorem ut {p:Band} {l:List Band} {y:Int} (h:y<p.a\/p.b<=y):rowAt (p::l) y=rowAt l y:=by
 rw [rowAt]
 have:(decide (p.a<=y)&&decide (y<p.b))=false:=by
  rw [Bool.and_eq_false_iff]
  rcases h with h|h
  ·left;simp;omega
  ·right;simp;omega
 rw [this];rfl
def rY (l:List Band):List Rect:=l.flatMap λb=>b.row.map (DF b.a (b.b-b.a))
def Fits (Rw:Int->List Run) (ys:List Int):Prop :=
 ys.Pairwise (· < ·)/\(∀y∈ys,-200000<y)/\(∀(j:Nat) (a b:Int),ys[j]? = some a->ys[j+1]? = some b->∀y,a<=y->y<b->Rw y=Rw a)/\(∀y,(∀a∈ys,a<=y)->Rw y=[])/\(∀y,(∀a∈ys,y<a)->Rw y=[])
def nP (f:Int->Int) (lo:Int):Nat->Int
 | 0=>0
 | n+1=>nP f lo n+f (lo+n)
theorem lq {f g:Int->Int} {lo:Int}:∀{n:Nat},(∀x,f x=g x)->nP f lo n=nP g lo n
 | 0,_=>rfl
 | n+1,h=>by rw [nP,nP,lq (n:=n) h,h]
theorem AA (f g:Int->Int) (lo:Int):∀n:Nat,nP (λx=>f x+g x) lo n=nP f lo n+nP g lo n
 | 0=>rfl
 | n+1=>by rw [nP,nP,nP,AA f g lo n];omega
theorem xO (lo:Int):∀n:Nat,nP (λ_=>0) lo n=0
 | 0=>rfl
 | n+1=>by rw [nP,xO lo n];rfl
theorem zk (c:Int) (f:Int->Int) (lo:Int):∀n:Nat,nP (λx=>c*f x) lo n=c*nP f lo n
 | 0=>by simp [nP]
 | n+1=>by rw [nP,nP,zk c f lo n,Int.mul_add]
def b01 (b:Bool):Int:=bif b then 1 else 0
theorem GZ (a b:Bool):b01 (a&&b)=b01 b*b01 a:=by cases a <;> cases b <;> rfl
theorem zC {lo a b:Int} (h1:lo<=a) (h2:a<=b):∀n:Nat,nP (λx=>b01 (decide (a<=x)&&decide (x<b))) lo n=min b (lo+n)-min a (lo+n)
 | 0=>by simp only [nP];omega
 | n+1=>by
  rw [nP,zC h1 h2 n]
  by_cases k1:a<=lo+(n:Int)
  ·by_cases k2:lo+(n:Int)<b
   ·rw [decide_eq_true k1,decide_eq_true k2];show _+1=_;omega
   ·rw [decide_eq_true k1,decide_eq_false k2];show _+0=_;omega
  ·rw [decide_eq_false k1];show _+0=_;omega
def SS (lo:Int) (n:Nat) (f:Int->Int->Int):Int:=nP (λy=>nP (λx=>f x y) lo n) lo n
theorem KQ {lo:Int} {n:Nat} {f g:Int->Int->Int} (h:∀x y,f x y=g x y):SS lo n f=SS lo n g:=lq (λy=>lq (λx=>h x y))
theorem SS_add (lo:Int) (n:Nat) (f g:Int->Int->Int):SS lo n (λx y=>f x y+g x y)=SS lo n f+SS lo n g:=by
 unfold SS
 rw [<- AA]
 exact lq (λy=>AA _ _ _ _)
theorem SS_zero (lo:Int) (n:Nat):SS lo n (λ_ _=>0)=0:=by
 unfold SS
 rw [lq (g:=λ_=>0) (λy=>xO lo n),xO]
def jY {α:Type} (f:α->Int):List α->Int
 | []=>0
 | x::l=>f x+jY f l
theorem EG {α:Type} (f:α->Int):∀l m:List α,jY f (l++m)=jY f l+jY f m
 | [],m=>by simp [jY]
 | x::l,m=>by rw [List.cons_append,jY,jY,EG f l m];omega
theorem uY {α:Type} {f g:α->Int}:∀{l:List α},(∀x∈l,f x=g x)->jY f l=jY g l
 | [],_=>rfl
 | x::l,h=>by rw [jY,jY,h x (by simp),uY (l:=l) (λy hy=>h y (by simp [hy]))]
theorem EU {α β:Type} (f:β->Int) (g:α->β):∀l:List α,jY f (l.map g)=jY (λx=>f (g x)) l
 | []=>rfl
 | x::l=>by rw [List.map_cons,jY,jY,EU f g l]
theorem Fg {α:Type} (c:Int) (f:α->Int):∀l:List α,jY (λx=>c*f x) l=c*jY f l
 | []=>by simp [jY]
 | x::l=>by rw [jY,jY,Fg c f l,Int.mul_add]
theorem Ic {α:Type} (lo:Int) (n:Nat) (g:α->Int->Int->Int):∀l:List α,jY (λr=>SS lo n (g r)) l=SS lo n (λx y=>jY (λr=>g r x y) l)
 | []=>(SS_zero lo n).symm
 | r::l=>by
  rw [jY,Ic lo n g l,<- SS_add];rfl
def ind (r:Rect) (x y:Int):Int:=b01 (vJ x y r)
theorem JZ {lo:Int} {n:Nat} {r:Rect} (h1:lo<=r.X/\r.X+r.W<=lo+n) (h2:lo<=r.Y/\r.Y+r.H<=lo+n) (h3:0<=r.W) (h4:0<=r.H):SS lo n (ind r)=r.W*r.H:=by
 have e1:nP (λx=>b01 (decide (r.X<=x)&&decide (x<r.X+r.W))) lo n=r.W:=by rw [zC h1.1 (by omega)];omega
 have e2:nP (λy=>b01 (decide (r.Y<=y)&&decide (y<r.Y+r.H))) lo n=r.H:=by rw [zC h2.1 (by omega)];omega
 unfold SS ind vJ
 rw [lq (g:=λy=>r.W*b01 (decide (r.Y<=y)&&decide (y<r.Y+r.H))) (λy=>by
  rw [lq (g:=λx=>b01 (decide (r.Y<=y)&&decide (y<r.Y+r.H))*b01 (decide (r.X<=x)&&decide (x<r.X+r.W))) (λx=>GZ _ _),zk,e1,Int.mul_comm]),zk,e2]
def JX (l:List Rect):Int:=jY (λr=>r.W*r.H) l
open Classical in
noncomputable def P01 (p:Prop):Int:=if p then 1 else 0
theorem E5 {p:Prop} (h:p):P01 p=1:=by unfold P01;rw [if_pos h]
theorem ym {p:Prop} (h:¬p):P01 p=0:=by unfold P01;rw [if_neg h]
theorem BX {p q:Prop} (h:p↔q):P01 p=P01 q:=by rw [propext h]
theorem b01_P (b:Bool):b01 b=P01 (b=true):=by
 cases b
 ·rw [ym (by simp)];rfl
 ·rw [E5 rfl];rfl
theorem Ha (x:Int):∀(L:List Run) (lo:Int),gu lo L->jY (λr=>b01 (decide (r.f_from<=x)&&decide (x<r.f_to))) L=P01 (mem x L)
 | [],_,_=>by rw [ym (Cq x)];rfl
 | r::L,lo,⟨h1,h2,h3⟩=>by
  rw [jY,Ha x L _ h3,b01_P]
  simp only [Bool.and_eq_true,decide_eq_true_eq]
  by_cases k:r.f_from<=x/\x<r.f_to
  ·rw [E5 k,ym (λm=>by have:=h3.gt m;omega),E5 ((mem_cons _ _ _).2 (.inl k))];rfl
  ·rw [ym k,Int.zero_add]
   exact BX (by rw [mem_cons];simp [k])
theorem Fz (x y:Int):∀(bs:List Band) (lo:Int),ru lo bs->(∀b∈bs,∃c,gu c b.row)->jY (λr=>ind r x y) (rY bs)=P01 (mem x (rowAt bs y))
 | [],_,_,_=>by rw [show rowAt [] y=[] from rfl,ym (Cq x)];rfl
 | p::bs,lo,⟨h1,h2,h3,h4,h5⟩,hc=>by
  have e:rY (p::bs)=p.row.map (DF p.a (p.b-p.a))++rY bs:=by simp [rY]
  rw [e,EG,EU,Fz x y bs _ h5 (λb hb=>hc b (by simp [hb]))]
  have e2:∀r:Run,ind (DF p.a (p.b-p.a) r) x y=b01 (decide (p.a<=y)&&decide (y<p.b))*b01 (decide (r.f_from<=x)&&decide (x<r.f_to)):=λr=>by
   unfold ind vJ DF
   rw [GZ]
   simp only
   rw [show r.f_from+(r.f_to-r.f_from)=r.f_to by omega,show p.a+(p.b-p.a)=p.b by omega]
  rw [uY (λr _=>e2 r),Fg]
  obtain ⟨c,hcp⟩:=hc p (by simp)
  rw [Ha x p.row c hcp]
  by_cases k1:p.a<=y
  ·by_cases k2:y<p.b
   ·rw [yY k1 k2,uA h5 k2,ym (Cq x),decide_eq_true k1,decide_eq_true k2]
    show 1*_+0=_
    omega
   ·rw [ut (.inr (by omega)),decide_eq_false k2,Bool.and_false]
    show 0*_+_=_
    omega
  ·rw [ut (.inl (by omega)),decide_eq_false k1]
   show 0*_+_=_
   omega
theorem Gr {l m:List Rect} (hfl:∀r∈l,Fine r) {bs:List Band} (hb:ru (-200000) bs) (hr:∀y,gu (-200000) (rowAt bs y)/\(∀r∈rowAt bs y,Okr r)/\∀x,mem x (rowAt bs y)↔kT l x y/\¬kT m x y) :
  (∀b∈bs,∃y,b.row=rowAt bs y/\b.a<=y/\y<b.b /\ -100000<=b.a/\b.b<=100000):=by
 have key:∀(bs':List Band) (lo:Int),ru lo bs'->∀b∈bs',(∀y,b.a<=y->y<b.b->rowAt bs' y=b.row)/\b.a<b.b/\b.row ≠ []:=by
  intro bs'
  induction bs' with
  | nil=>intro lo _ b hb;cases hb
  | cons p bs' ih =>
   rintro lo ⟨h1,h2,h3,h4,h5⟩ b hb
   rcases List.mem_cons.1 hb with rfl|hb
   ·exact⟨λy k1 k2=>yY k1 k2,h2,h3⟩
   ·obtain ⟨i1,i2,i3⟩:=ih _ h5 b hb
    refine⟨λy k1 k2 => ?_,i2,i3⟩
    have hge:p.b<=y:=by
     rcases Int.lt_or_le y p.b with k|k
     ·have e:=i1 y k1 k2
      rw [uA h5 k]at e
      exact absurd e.symm i3
     ·exact k
    rw [ut (.inr hge)];exact i1 y k1 k2
 intro b hbm
 obtain ⟨i1,i2,i3⟩:=key bs _ hb b hbm
 have at_:∀y,b.a<=y->y<b.b -> -100000<=y/\y<100000:=λy k1 k2=>by
  obtain ⟨q,hq⟩:=List.exists_mem_of_ne_nil _ i3
  obtain ⟨c1,c2,c3⟩:=hr y
  rw [i1 y k1 k2]at c1 c2 c3
  have:=c2 q hq
  have hm:mem q.f_from b.row:=⟨q,hq,Int.le_refl _,this.2.1⟩
  obtain ⟨⟨r,hr,_,k3⟩,_⟩:=(c3 _).1 hm
  obtain ⟨f1,f2,f3,f4⟩:=hfl r hr
  omega
 have a1:=at_ b.a (Int.le_refl _) i2
 have a2:=at_ (b.b-1) (by omega) (by omega)
 exact⟨b.a,(i1 b.a (Int.le_refl _) i2).symm,Int.le_refl _,i2,by omega,by omega⟩
theorem FC {l m:List Rect} (hfl:∀r∈l,Fine r) {bs:List Band} (hb:ru (-200000) bs) (hr:∀y,gu (-200000) (rowAt bs y)/\(∀r∈rowAt bs y,Okr r)/\∀x,mem x (rowAt bs y)↔kT l x y/\¬kT m x y) :
  (∀r∈rY bs,Fine r)/\(∀x y,jY (λr=>ind r x y) (rY bs)=P01 (kT l x y/\¬kT m x y))/\∀n:Nat,n=200000->JX (rY bs)=SS (-100000) n (λx y=>P01 (kT l x y/\¬kT m x y)):=by
 have hba:=Gr hfl hb hr
 have hfine:∀r∈rY bs,Fine r:=by
  intro r hrm
  obtain ⟨b,hb',hr'⟩:=List.mem_flatMap.1 hrm
  obtain ⟨q,hq,rfl⟩:=List.mem_map.1 hr'
  obtain ⟨y,e,k1,k2,k3,k4⟩:=hba b hb'
  have ho:=(hr y).2.1 q (by rw [<- e];exact hq)
  unfold Okr at ho
  refine⟨?_,?_,?_,?_⟩
  ·show -100000<=q.f_from/\q.f_from<=100000;omega
  ·show -100000<=b.a/\b.a<=100000;omega
  ·show 1<=q.f_to-q.f_from/\q.f_from+(q.f_to-q.f_from)<=100000;omega
  ·show 1<=b.b-b.a/\b.a+(b.b-b.a)<=100000;omega
 have hind:∀x y,jY (λr=>ind r x y) (rY bs)=P01 (kT l x y/\¬kT m x y):=λx y=>by
  rw [Fz x y bs _ hb (λb hb'=>by
   obtain ⟨y,e,_⟩:=hba b hb'
   exact⟨_,by rw [e];exact (hr y).1⟩)]
  exact BX ((hr y).2.2 x)
 refine⟨hfine,hind,λn hn => ?_⟩
 unfold JX
 rw [uY (g:=λr=>SS (-100000) n (ind r)) (λr hr'=>by
  obtain ⟨f1,f2,f3,f4⟩:=hfine r hr'
  rw [JZ (by omega) (by omega) (by omega) (by omega)]),Ic]
 exact KQ hind
theorem Bn {α:Type} [BEq α] [LawfulBEq α]:∀(l m:List α),l.Nodup->(∀x∈l,x∈m)->l.length<=m.length
 | [],_,_,_=>Nat.zero_le _
 | x::l,m,hd,hs=>by
  obtain ⟨h1,h2⟩:=List.nodup_cons.1 hd
  have hx:=hs x (by simp)
  have:=Bn l (m.erase x) h2 (λy hy=>(List.mem_erase_of_ne (λe=>h1 (by rw [<- e];exact hy))).2 (hs y (by simp [hy])))
  have h3:=List.length_erase_of_mem hx
  have h4:=List.length_pos_of_mem hx
  simp only [List.length_cons];omega
theorem FM (r:Rect) (x y:Int):ind r x y=0\/ind r x y=1:=by
 unfold ind b01
 cases vJ x y r
 ·exact .inl rfl
 ·exact .inr rfl
theorem ind_t {r:Rect} {x y:Int} (h:vJ x y r=true):ind r x y=1:=by unfold ind;rw [h];rfl
theorem ind_f {r:Rect} {x y:Int} (h:vJ x y r=false):ind r x y=0:=by unfold ind;rw [h];rfl
def xe (l:List Rect) (x y:Int):Int:=jY (λr=>ind r x y) l
theorem yD (x y:Int):∀l:List Rect,0<=xe l x y
 | []=>Int.le_refl _
 | r::l=>by
  have:=yD x y l
  unfold xe at *
  rw [jY]
  rcases FM r x y with h|h <;> omega
theorem oZ (l:List Rect) (x y:Int):kT l x y↔∃r∈l,vJ x y r=true:=by
 rw [<- Lb,hasB,List.any_eq_true]
theorem zU {x y:Int}:∀{l:List Rect},kT l x y->1<=xe l x y
 | [],h=>by rw [oZ]at h;obtain ⟨r,hr,_⟩:=h;cases hr
 | r::l,h=>by
  have h0:=yD x y l
  unfold xe at *
  rw [jY]
  rw [oZ]at h
  obtain ⟨q,hq,hh⟩:=h
  rcases List.mem_cons.1 hq with rfl|hq
  ·rw [ind_t hh];omega
  ·have:=zU (l:=l) ((oZ _ _ _).2 ⟨q,hq,hh⟩)
   unfold xe at this
   rcases FM r x y with h|h <;> omega
theorem BJ {x y:Int}:∀{l:List Rect},¬kT l x y->xe l x y=0
 | [],_=>rfl
 | r::l,h=>by
  unfold xe
  rw [jY]
  have h1:vJ x y r=false:=by
   cases hh:vJ x y r with
   | false=>rfl
   | true=>exact absurd ((oZ _ _ _).2 ⟨r,by simp,hh⟩) h
  have h2:=BJ (l:=l) (λk=>h (by
   obtain ⟨q,hq,hh⟩:=(oZ _ _ _).1 k
   exact (oZ _ _ _).2 ⟨q,by simp [hq],hh⟩))
  unfold xe at h2
  rw [ind_f h1,h2];rfl
theorem row_nodup (y:Int):∀l:List Rect,(∀x,xe l x y<=1)->(∀r∈l,1<=r.W)->((l.filter (covers y)).map (·.X)).Nodup
 | [],_,_=>List.nodup_nil
 | r::l,h,hw=>by
  have h':∀x,xe l x y<=1:=λx=>by
   have:=h x
   unfold xe at *
   rw [jY]at this
   rcases FM r x y with k|k <;> omega
  have ih:=row_nodup y l h' (λq hq=>hw q (by simp [hq]))
  rw [List.filter_cons]
  cases hc:covers y r with
  | false=>exact ih
  | true =>
   simp only [if_true,List.map_cons]
   refine List.nodup_cons.2 ⟨λhm => ?_,ih⟩
   obtain ⟨q,hq,he⟩:=List.mem_map.1 hm
   obtain ⟨q1,q2⟩:=List.mem_filter.1 hq
   have hwr:=hw r (by simp)
   have hwq:=hw q (by simp [q1])
   have e1:vJ r.X y r=true:=by
    unfold vJ;unfold covers at hc
    rw [hc,decide_eq_true (Int.le_refl _),decide_eq_true (show r.X<r.X+r.W by omega)];rfl
   have e2:vJ r.X y q=true:=by
    unfold vJ;unfold covers at q2
    rw [q2,<- he,decide_eq_true (Int.le_refl _),decide_eq_true (show q.X<q.X+q.W by omega)];rfl
   have h1:=h r.X
   have h2:=zU (l:=l) ((oZ _ _ _).2 ⟨q,q1,e2⟩)
   unfold xe at h1 h2
   rw [jY,ind_t e1]at h1
   omega
theorem BB:∀(bs:List Band) (lo:Int),ru lo bs->∀b∈bs,(∀y,b.a<=y->y<b.b->rowAt bs y=b.row)/\b.a<b.b/\b.row ≠ []
 | [],_,_,b,hb=>by cases hb
 | p::bs,lo,⟨h1,h2,h3,h4,h5⟩,b,hb=>by
  rcases List.mem_cons.1 hb with rfl|hb
  ·exact⟨λy k1 k2=>yY k1 k2,h2,h3⟩
  ·obtain ⟨i1,i2,i3⟩:=BB bs _ h5 b hb
   refine⟨λy k1 k2 => ?_,i2,i3⟩
   have hge:p.b<=y:=by
    rcases Int.lt_or_le y p.b with k|k
    ·have e:=i1 y k1 k2
     rw [uA h5 k]at e
     exact absurd e.symm i3
    ·exact k
   rw [ut (.inr hge)];exact i1 y k1 k2
theorem Jw {bs:List Band} {lo:Int} (h:ru lo bs) {r:Rect} (hr:r∈rY bs) {y:Int} (h1:r.Y<=y) (h2:y<r.Y+r.H):∃q∈rowAt bs y,r.X=q.f_from/\r.X+r.W=q.f_to:=by
 obtain ⟨b,hb,hr⟩:=List.mem_flatMap.1 hr
 obtain ⟨q,hq,rfl⟩:=List.mem_map.1 hr
 obtain ⟨i1,i2,i3⟩:=BB bs lo h b hb
 have e:b.a+(b.b-b.a)=b.b:=by omega
 refine⟨q,?_,rfl,by show q.f_from+(q.f_to-q.f_from)=q.f_to;omega⟩
 rw [i1 y h1 (by have:y<b.a+(b.b-b.a):=h2;omega)];exact hq
theorem Ab:∀{L:List Run} {lo:Int},gu lo L->∀q∈L,¬mem (q.f_from-1) L
 | [],_,_,q,hq=>by cases hq
 | r::L,lo,⟨h1,h2,h3⟩,q,hq=>by
  rw [mem_cons]
  rcases List.mem_cons.1 hq with rfl|hq
  ·rintro (k|k)
   ·omega
   ·have:=h3.gt k;omega
  ·have h4:=h3.lo q hq
   rintro (k|k)
   ·omega
   ·exact Ab h3 q hq k
def Jl (R:List Rect) (S:Int->Int->Prop):Prop:=∃bs:List Band,R=rY bs/\ru (-200000) bs/\∀y,gu (-200000) (rowAt bs y)/\(∀r∈rowAt bs y,Okr r)/\∀x,mem x (rowAt bs y)↔S x y
theorem Jl.facts {R l m:List Rect} (h:Jl R (λx y=>kT l x y/\¬kT m x y)) (hfl:∀r∈l,Fine r) :
  (∀r∈R,Fine r)/\(∀x y,xe R x y=P01 (kT l x y/\¬kT m x y))/\∀n:Nat,n=200000->JX R=SS (-100000) n (λx y=>P01 (kT l x y/\¬kT m x y)):=by
 obtain ⟨bs,rfl,b1,b2⟩:=h
 exact FC hfl b1 b2
theorem P01_le (p:Prop):P01 p<=1:=by
 by_cases h:p
 ·rw [E5 h];omega
 ·rw [ym h];omega
theorem Jl.has {R l m:List Rect} (h:Jl R (λx y=>kT l x y/\¬kT m x y)) (hfl:∀r∈l,Fine r) (x y:Int):kT R x y↔(kT l x y/\¬kT m x y):=by
 have e:=(h.facts hfl).2.1 x y
 constructor
 ·intro k
  have:=zU k
  by_cases hs:kT l x y/\¬kT m x y
  ·exact hs
  ·rw [ym hs]at e;omega
 ·intro hs
  rw [E5 hs]at e
  by_cases k:kT R x y
  ·exact k
  ·rw [BJ k]at e;omega
theorem Jl.row {R l m:List Rect} (h:Jl R (λx y=>kT l x y/\¬kT m x y)) (hfl:∀r∈l,Fine r) (y:Int):(rowB R y).length<=l.length+m.length:=by
 obtain ⟨f1,f2,_⟩:=h.facts hfl
 have hn:=row_nodup y R (λx=>by rw [f2];exact P01_le _) (λr hr=>(f1 r hr).2.2.1.1)
 obtain ⟨bs,rfl,b1,b2⟩:=h
 have hm:∀v∈((rY bs).filter (covers y)).map (·.X),v∈l.map (·.X)++m.map (λr=>r.X+r.W):=by
  intro v hv
  obtain ⟨r,hr,rfl⟩:=List.mem_map.1 hv
  obtain ⟨hr1,hr2⟩:=List.mem_filter.1 hr
  have hy:r.Y<=y/\y<r.Y+r.H:=by
   simp only [covers,Bool.and_eq_true,decide_eq_true_eq]at hr2;exact hr2
  obtain ⟨q,hq,e1,e2⟩:=Jw b1 hr1 hy.1 hy.2
  obtain ⟨c1,c2,c3⟩:=b2 y
  have hl:=Ab c1 q hq
  have hlt:=(c1.lo q hq).2
  have hin:=(c3 q.f_from).1 ⟨q,hq,Int.le_refl _,hlt⟩
  rw [c3]at hl
  obtain ⟨⟨s,hs,s1,s2⟩,hnm⟩:=hin
  rw [e1]
  by_cases hm':kT m (q.f_from-1) y
  ·obtain ⟨t,ht,t1,t2⟩:=hm'
   refine List.mem_append.2 (.inr (List.mem_map.2 ⟨t,ht,?_⟩))
   have:¬(t.X<=q.f_from/\q.f_from<t.X+t.W):=λk=>hnm ⟨t,ht,k,t2⟩
   omega
  ·refine List.mem_append.2 (.inl (List.mem_map.2 ⟨s,hs,?_⟩))
   have:¬(s.X<=q.f_from-1/\q.f_from-1<s.X+s.W):=λk=>hl ⟨⟨s,hs,k,s2⟩,hm'⟩
   omega
 have:=Bn _ _ hn hm
 simp only [List.length_map,List.length_append]at this
 unfold rowB
 rw [List.length_map];exact this
def back (h H y:Int):Int:=((y+1)*h-1) / H
end Go.Proofs.YtekmkepojbhafaeGreatDoor.Law

