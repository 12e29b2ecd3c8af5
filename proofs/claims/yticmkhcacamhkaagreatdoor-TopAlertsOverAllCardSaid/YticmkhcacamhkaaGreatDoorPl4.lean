/-
  THE PLAIN LAW (part 4).
-/
import Derived.Test.YticmkhcacamhkaaGreatDoorPl3
open Go Go.Eng
namespace Go.Proofs.YticmkhcacamhkaaGreatDoor.Law.AlN
set_option linter.unusedVariables false
set_option linter.unusedSimpArgs false
def yu (x y:Int) (r:Rect):Bool:=(decide (r.X<=x)&&decide (x<r.X+r.W))&&(decide (r.Y<=y)&&decide (y<r.Y+r.H))
def hasB (l:List Rect) (x y:Int):Bool:=l.any (yu x y)
theorem Qf (l:List Rect) (x y:Int):hasB l x y=true↔ow l x y:=by
 unfold hasB ow
 rw [List.any_eq_true]
 simp only [yu,Bool.and_eq_true,decide_eq_true_eq]
def zk:ByteArray:=⟨#[]⟩
def pX {α:Type} (key:α->ByteArray) (l:List α) (k:Nat):ByteArray:=if k=0 then zk else match l[k-1]? with | some y=>key y | none=>zk
def chk {α:Type} (key:α->ByteArray) (stp:ByteArray->α->Int):ByteArray->List α->Int
 | _,[]=>0
 | last,x::xs=>bif stp last x==0 then chk key stp (key x) xs else stp last x
def xD (e:Int):Ctl Unit Int:=bif e==0 then .go ()else .ret e
theorem yg {α:Type} {key:α->ByteArray} {stp:ByteArray->α->Int} {body:Nat->α->Unit->Option (Ctl Unit Int)} (l:List α):∀(xs:List α) (k:Nat),l.drop k=xs->(∀k x,l[k]? = some x->body k x ()=some (xD (stp (pX key l k) x))) ->
  forR body xs k ()=some (xD (chk key stp (pX key l k) xs))
 | [],k,h,hb=>rfl
 | x::xs,k,h,hb=>by
  have hg:=AB h
  rw [forR,hb k x hg,ob_,chk]
  cases he:stp (pX key l k) x==0 with
  | true =>
   simp only [xD,he,cond_true]
   rw [yg l xs (k+1) (aR h) hb]
   have:pX key l (k+1)=key x:=by simp [pX,hg]
   rw [this];rfl
  | false=>simp only [xD,he,cond_false]
theorem yE (e:Int):thenC (xD e) (λ_=>some (0:Int)) (λr=>some r)=some e:=by
 unfold xD
 cases h:e==0 with
 | true=>simp only [cond_true,qU];rw [eq_of_beq h]
 | false=>rfl
theorem vQ {α:Type} {l:List α} {k:Nat} {x:α} (h:l[k]? = some x) (hk:0<k) (hl:l.length<=1000000000):∃y,idx l (w64 ((k:Int)-1))=some y/\l[k-1]? = some y:=by
 have hlt:k<l.length:=(List.getElem?_eq_some_iff.1 h).1
 rw [bD (by omega),show (k:Int)-1=((k-1:Nat):Int) by omega,lS]
 exact⟨l[k-1],List.getElem?_eq_getElem (by omega),List.getElem?_eq_getElem (by omega)⟩
theorem Ci {α:Type} {key:α->ByteArray} {l:List α} {k:Nat} {x:α} {s:ByteArray} (h:l[k]? = some x) (hl:l.length<=1000000000) (hs:s.size≠0) :
  (bif decide ((k:Int)>0)then (idx l (w64 ((k:Int)-1))).bind λy=>some (sLe s (key y))else some false)=some (sLe s (pX key l k)):=by
 by_cases hk:0<k
 ·obtain ⟨y,h1,h2⟩:=vQ h hk hl
  have hd:decide ((k:Int)>0)=true:=by simp;omega
  simp only [hd,cond_true,h1,ob_,pX,if_neg (show ¬k=0 by omega),h2]
 ·have hk0:k=0:=by omega
  subst hk0
  simp only [pX,if_pos,zk,II,decide_eq_false hs]
  rfl
def momB (n:Int):Bool := !iR n 0 345686399999
theorem JV (n:Int):dS n=some (momB n):=by
 unfold dS momB iR
 have e1:decide (n>=0) = !decide (n<0):=by rw [Bool.eq_iff_iff];simp
 have e2:decide (n<345686400000) = !decide (n>345686399999):=by rw [Bool.eq_iff_iff];simp;omega
 rw [e1,e2]
 cases decide (n<0) <;> cases decide (n>345686399999) <;> rfl
def or0 (a b:Int):Int:=bif a==0 then b else a
theorem yK (a b:ByteArray):(lt a b/\wm a b = -1)\/(a=b/\wm a b=0)\/(lt b a/\wm a b=1):=by
 have key:∀(x y:List UInt8),(x<y/\Lib.compareBytes x y = -1)\/(x=y/\Lib.compareBytes x y=0)\/(y<x/\Lib.compareBytes x y=1):=by
  intro x
  induction x with
  | nil=>intro y;cases y with
   | nil=>exact .inr (.inl ⟨rfl,rfl⟩)
   | cons b y=>exact .inl ⟨by simp,rfl⟩
  | cons a x ih=>intro y;cases y with
   | nil=>exact .inr (.inr ⟨by simp,rfl⟩)
   | cons b y =>
    simp only [Lib.compareBytes,List.cons_lt_cons_iff,List.cons.injEq]
    by_cases h1:a<b
    ·exact .inl ⟨.inl h1,by rw [if_pos h1]⟩
    ·by_cases h2:b<a
     ·exact .inr (.inr ⟨.inl h2,by rw [if_neg h1,if_pos h2]⟩)
     ·have e:a=b:=UInt8.le_antisymm (UInt8.not_lt.1 h2) (UInt8.not_lt.1 h1)
      subst e
      rw [if_neg h1,if_neg h1]
      rcases ih y with⟨h,k⟩|⟨h,k⟩|⟨h,k⟩
      ·exact .inl ⟨.inr ⟨rfl,h⟩,k⟩
      ·exact .inr (.inl ⟨⟨rfl,h⟩,k⟩)
      ·exact .inr (.inr ⟨.inr ⟨rfl,h⟩,k⟩)
 unfold wm lt
 rw [toL,toL]
 rcases key a.data.toList b.data.toList with⟨h,k⟩|⟨h,k⟩|⟨h,k⟩
 ·exact .inl ⟨h,k⟩
 ·exact .inr (.inl ⟨Bi (by rw [toL,toL];exact h),k⟩)
 ·exact .inr (.inr ⟨h,k⟩)
theorem tH (a b:ByteArray):strings_Compare a b=some (wm a b):=rfl
def wY (a b:Int):Int:=if a<b then -1 else if a>b then 1 else 0
theorem sM (a b:Int):cmp_Compare_int a b=some (wY a b):=by
 have e:∀x:Int,(x != x)=false:=by simp
 unfold cmp_Compare_int cmp_isNaN_int wY
 simp only [e,ob_,cond_false]
 by_cases h:a<b
 ·simp only [decide_eq_true h,cond_true,if_pos h]
 ·by_cases h2:a>b
  ·simp only [decide_eq_false h,decide_eq_true h2,cond_true,cond_false,if_neg h,if_pos h2]
  ·simp only [decide_eq_false h,decide_eq_false h2,cond_false,if_neg h,if_neg h2]
theorem Ol (a b:Int):jw [a,b]=some (or0 a b):=by
 unfold jw or0
 rw [lH (by simp)]
 simp only [forR,mD]
 cases ha:a==0 with
 | false =>
  have:(a != 0)=true:=by simp [bne,ha]
  simp only [this,cond_true,cond_false,ob_,thenC]
 | true =>
  have:(a != 0)=false:=by simp [bne,ha]
  simp only [this,cond_true,cond_false,ob_]
  cases hb:b==0 with
  | false =>
   have:(b != 0)=true:=by simp [bne,hb]
   simp only [this,cond_true,ob_,thenC]
  | true =>
   have:(b != 0)=false:=by simp [bne,hb]
   simp only [this,cond_false,ob_,thenC]
   rw [eq_of_beq hb]
theorem yz {α:Type} {i:Int} {xs:List α} (h0:0<=i) (h1:i<xs.length):inR i xs=some ():=by unfold inR;rw [if_pos ⟨h0,by omega⟩]
theorem Lp (a b c:Int):jw [a,b,c]=some (or0 a (or0 b c)):=by
 unfold jw or0
 rw [lH (by simp)]
 simp only [forR,mD]
 cases ha:a==0 with
 | false =>
  have:(a != 0)=true:=by simp [bne,ha]
  simp only [this,cond_true,cond_false,ob_,thenC]
 | true =>
  have:(a != 0)=false:=by simp [bne,ha]
  simp only [this,cond_true,cond_false,ob_]
  cases hb:b==0 with
  | false =>
   have:(b != 0)=true:=by simp [bne,hb]
   simp only [this,cond_true,cond_false,ob_,thenC]
  | true =>
   have:(b != 0)=false:=by simp [bne,hb]
   simp only [this,cond_true,cond_false,ob_]
   cases hc:c==0 with
   | false =>
    have:(c != 0)=true:=by simp [bne,hc]
    simp only [this,cond_true,ob_,thenC]
   | true =>
    have:(c != 0)=false:=by simp [bne,hc]
    simp only [this,cond_false,ob_,thenC]
    rw [eq_of_beq hc]
theorem yP {a b:Int}:or0 a b<0↔a<0\/a=0/\b<0:=by
 unfold or0
 by_cases h:a=0
 ·subst h;simp
 ·have:(a==0)=false:=by simpa using h
  rw [this,cond_false];omega
theorem oz {a b:Int}:wY a b<0↔a<b:=by
 unfold wY
 split
 ·omega
 ·split <;> omega
theorem sJ {a b:Int}:wY a b=0↔a=b:=by
 unfold wY
 split
 ·omega
 ·split <;> omega
theorem Ao {a b:ByteArray}:wm a b<0↔lt a b:=by
 rcases yK a b with⟨h,e⟩|⟨h,e⟩|⟨h,e⟩
 ·rw [e];exact⟨λ_=>h,λ_=>by decide⟩
 ·rw [e,h];exact⟨λk=>absurd k (by decide),λk=>absurd k (kR _)⟩
 ·rw [e];exact⟨λk=>absurd k (by decide),λk=>absurd (lt_trans k h) (kR _)⟩
theorem OO {a b c:ByteArray} (h:¬lt a b) (k:¬lt b c):¬lt a c:=λq=>by
 rcases uK a b with e|e|e
 ·exact h e
 ·rw [e]at q;exact k q
 ·exact k (lt_trans e q)
theorem La {α:Type} {cmp:α->α->Option Int} (c:α->α->Int) {S:List α->Option (List α)} (hS:∀x,S x=(fO (IntKind.u64.wrap (x.length:Int))).bind λr_3=>(Ic cmp x 0 (x.length:Int) r_3).bind λr_5=>(iJ r_5 x).bind λ_=>some r_5)
  {xs:List α} (hl:xs.length<=12) (hF:∀a∈xs,∀b∈xs,cmp a b=some (c a b)) (has:∀a b,c a b<0->¬c b a<0) (hn:∀a b d,¬c a b<0->¬c b d<0->¬c a d<0) :
  ∃r,S xs=some r/\r.Perm xs/\r.Pairwise (λa b=>¬c b a<0):=by
 obtain ⟨k,hk⟩:=K9 xs.length hl
 obtain ⟨s,h1,h2,h3⟩:=PD (cmp:=cmp) (le:=λa b=>¬c b a<0) (p:=(· ∈ xs)) (λa b ha hb=>⟨c a b,hF a ha b hb,λh=>has a b h,λh=>h⟩) (λa b d h k=>hn d b a k h) xs hl (λx hx=>hx) k
 refine⟨s,?_,h2,h3⟩
 have hsm:iJ s xs=some ():=by unfold iJ;rw [if_pos h2.length_eq]
 rw [hS,hk,ob_,h1,ob_,hsm];rfl
structure Band where
 a:Int
 b:Int
 row:List Run
def Pp (e:Int) (row:List Run):List Band->Prop
 | []=>True
 | q::_=>q.a=e->q.row≠row
def wh:Int->List Band->Prop
 | _,[]=>True
 | lo,p::l=>lo<=p.a/\p.a<p.b/\p.row ≠ []/\Pp p.b p.row l/\wh p.b l
def rowAt:List Band->Int->List Run
 | [],_=>[]
 | p::l,y=>bif decide (p.a<=y)&&decide (y<p.b)then p.row else rowAt l y
theorem yU:∀{l:List Band} {lo y:Int},wh lo l->y<lo->rowAt l y=[]
 | [],_,_,_,_=>rfl
 | p::l,lo,y,⟨h1,h2,h3,h4,h5⟩,h=>by
  have e1:decide (p.a<=y)=false:=by simp;omega
  rw [rowAt,e1,Bool.false_and,cond_false]
  exact yU h5 (by omega)
theorem DT {p:Band} {l:List Band} {y:Int} (h1:p.a<=y) (h2:y<p.b):rowAt (p::l) y=p.row:=by
 rw [rowAt,decide_eq_true h1,decide_eq_true h2];rfl
theorem yB {p:Band} {l:List Band} {y:Int} (h:y<p.a\/p.b<=y):rowAt (p::l) y=rowAt l y:=by
 rw [rowAt]
 have:(decide (p.a<=y)&&decide (y<p.b))=false:=by
  rw [Bool.and_eq_false_iff]
  rcases h with h|h
  ·left;simp;omega
  ·right;simp;omega
 rw [this];rfl
def xn (l:List Band):List Rect:=l.flatMap λb=>b.row.map (IV b.a (b.b-b.a))
def Fits (Rw:Int->List Run) (ys:List Int):Prop :=
 ys.Pairwise (· < ·)/\(∀y∈ys,-200000<y)/\(∀(j:Nat) (a b:Int),ys[j]? = some a->ys[j+1]? = some b->∀y,a<=y->y<b->Rw y=Rw a)/\(∀y,(∀a∈ys,a<=y)->Rw y=[])/\(∀y,(∀a∈ys,y<a)->Rw y=[])
def rC (f:Int->Int) (lo:Int):Nat->Int
 | 0=>0
 | n+1=>rC f lo n+f (lo+n)
theorem oN {f g:Int->Int} {lo:Int}:∀{n:Nat},(∀x,f x=g x)->rC f lo n=rC g lo n
 | 0,_=>rfl
 | n+1,h=>by rw [rC,rC,oN (n:=n) h,h]
theorem Et (f g:Int->Int) (lo:Int):∀n:Nat,rC (λx=>f x+g x) lo n=rC f lo n+rC g lo n
 | 0=>rfl
 | n+1=>by rw [rC,rC,rC,Et f g lo n];omega
theorem Cq (lo:Int):∀n:Nat,rC (λ_=>0) lo n=0
 | 0=>rfl
 | n+1=>by rw [rC,Cq lo n];rfl
theorem FO (c:Int) (f:Int->Int) (lo:Int):∀n:Nat,rC (λx=>c*f x) lo n=c*rC f lo n
 | 0=>by simp [rC]
 | n+1=>by rw [rC,rC,FO c f lo n,Int.mul_add]
def b01 (b:Bool):Int:=bif b then 1 else 0
theorem LY (a b:Bool):b01 (a&&b)=b01 b*b01 a:=by cases a <;> cases b <;> rfl
theorem Ez {lo a b:Int} (h1:lo<=a) (h2:a<=b):∀n:Nat,rC (λx=>b01 (decide (a<=x)&&decide (x<b))) lo n=min b (lo+n)-min a (lo+n)
 | 0=>by simp only [rC];omega
 | n+1=>by
  rw [rC,Ez h1 h2 n]
  by_cases k1:a<=lo+(n:Int)
  ·by_cases k2:lo+(n:Int)<b
   ·rw [decide_eq_true k1,decide_eq_true k2];show _+1=_;omega
   ·rw [decide_eq_true k1,decide_eq_false k2];show _+0=_;omega
  ·rw [decide_eq_false k1];show _+0=_;omega
def SS (lo:Int) (n:Nat) (f:Int->Int->Int):Int:=rC (λy=>rC (λx=>f x y) lo n) lo n
theorem OI {lo:Int} {n:Nat} {f g:Int->Int->Int} (h:∀x y,f x y=g x y):SS lo n f=SS lo n g:=oN (λy=>oN (λx=>h x y))
theorem SS_add (lo:Int) (n:Nat) (f g:Int->Int->Int):SS lo n (λx y=>f x y+g x y)=SS lo n f+SS lo n g:=by
 unfold SS
 rw [<- Et]
 exact oN (λy=>Et _ _ _ _)
theorem SS_zero (lo:Int) (n:Nat):SS lo n (λ_ _=>0)=0:=by
 unfold SS
 rw [oN (g:=λ_=>0) (λy=>Cq lo n),Cq]
def ng {α:Type} (f:α->Int):List α->Int
 | []=>0
 | x::l=>f x+ng f l
theorem I9 {α:Type} (f:α->Int):∀l m:List α,ng f (l++m)=ng f l+ng f m
 | [],m=>by simp [ng]
 | x::l,m=>by rw [List.cons_append,ng,ng,I9 f l m];omega
theorem zL {α:Type} {f g:α->Int}:∀{l:List α},(∀x∈l,f x=g x)->ng f l=ng g l
 | [],_=>rfl
 | x::l,h=>by rw [ng,ng,h x (by simp),zL (l:=l) (λy hy=>h y (by simp [hy]))]
theorem Ji {α β:Type} (f:β->Int) (g:α->β):∀l:List α,ng f (l.map g)=ng (λx=>f (g x)) l
 | []=>rfl
 | x::l=>by rw [List.map_cons,ng,ng,Ji f g l]
theorem I8 {α:Type} (c:Int) (f:α->Int):∀l:List α,ng (λx=>c*f x) l=c*ng f l
 | []=>by simp [ng]
 | x::l=>by rw [ng,ng,I8 c f l,Int.mul_add]
theorem MJ {α:Type} (lo:Int) (n:Nat) (g:α->Int->Int->Int):∀l:List α,ng (λr=>SS lo n (g r)) l=SS lo n (λx y=>ng (λr=>g r x y) l)
 | []=>(SS_zero lo n).symm
 | r::l=>by
  rw [ng,MJ lo n g l,<- SS_add];rfl
def ind (r:Rect) (x y:Int):Int:=b01 (yu x y r)
theorem Pm {lo:Int} {n:Nat} {r:Rect} (h1:lo<=r.X/\r.X+r.W<=lo+n) (h2:lo<=r.Y/\r.Y+r.H<=lo+n) (h3:0<=r.W) (h4:0<=r.H):SS lo n (ind r)=r.W*r.H:=by
 have e1:rC (λx=>b01 (decide (r.X<=x)&&decide (x<r.X+r.W))) lo n=r.W:=by rw [Ez h1.1 (by omega)];omega
 have e2:rC (λy=>b01 (decide (r.Y<=y)&&decide (y<r.Y+r.H))) lo n=r.H:=by rw [Ez h2.1 (by omega)];omega
 unfold SS ind yu
 rw [oN (g:=λy=>r.W*b01 (decide (r.Y<=y)&&decide (y<r.Y+r.H))) (λy=>by
  rw [oN (g:=λx=>b01 (decide (r.Y<=y)&&decide (y<r.Y+r.H))*b01 (decide (r.X<=x)&&decide (x<r.X+r.W))) (λx=>LY _ _),FO,e1,Int.mul_comm]),FO,e2]
def Ou (l:List Rect):Int:=ng (λr=>r.W*r.H) l
open Classical in
noncomputable def P01 (p:Prop):Int:=if p then 1 else 0
theorem JL {p:Prop} (h:p):P01 p=1:=by unfold P01;rw [if_pos h]
theorem CX {p:Prop} (h:¬p):P01 p=0:=by unfold P01;rw [if_neg h]
theorem Gy {p q:Prop} (h:p↔q):P01 p=P01 q:=by rw [propext h]
theorem b01_P (b:Bool):b01 b=P01 (b=true):=by
 cases b
 ·rw [CX (by simp)];rfl
 ·rw [JL rfl];rfl
theorem Mr (x:Int):∀(L:List Run) (lo:Int),jh lo L->ng (λr=>b01 (decide (r.f_from<=x)&&decide (x<r.f_to))) L=P01 (mem x L)
 | [],_,_=>by rw [CX (Hg x)];rfl
 | r::L,lo,⟨h1,h2,h3⟩=>by
  rw [ng,Mr x L _ h3,b01_P]
  simp only [Bool.and_eq_true,decide_eq_true_eq]
  by_cases k:r.f_from<=x/\x<r.f_to
  ·rw [JL k,CX (λm=>by have:=h3.gt m;omega),JL ((mem_cons _ _ _).2 (.inl k))];rfl
  ·rw [CX k,Int.zero_add]
   exact Gy (by rw [mem_cons];simp [k])
theorem Kl (x y:Int):∀(bs:List Band) (lo:Int),wh lo bs->(∀b∈bs,∃c,jh c b.row)->ng (λr=>ind r x y) (xn bs)=P01 (mem x (rowAt bs y))
 | [],_,_,_=>by rw [show rowAt [] y=[] from rfl,CX (Hg x)];rfl
 | p::bs,lo,⟨h1,h2,h3,h4,h5⟩,hc=>by
  have e:xn (p::bs)=p.row.map (IV p.a (p.b-p.a))++xn bs:=by simp [xn]
  rw [e,I9,Ji,Kl x y bs _ h5 (λb hb=>hc b (by simp [hb]))]
  have e2:∀r:Run,ind (IV p.a (p.b-p.a) r) x y=b01 (decide (p.a<=y)&&decide (y<p.b))*b01 (decide (r.f_from<=x)&&decide (x<r.f_to)):=λr=>by
   unfold ind yu IV
   rw [LY]
   simp only
   rw [show r.f_from+(r.f_to-r.f_from)=r.f_to by omega,show p.a+(p.b-p.a)=p.b by omega]
  rw [zL (λr _=>e2 r),I8]
  obtain ⟨c,hcp⟩:=hc p (by simp)
  rw [Mr x p.row c hcp]
  by_cases k1:p.a<=y
  ·by_cases k2:y<p.b
   ·rw [DT k1 k2,yU h5 k2,CX (Hg x),decide_eq_true k1,decide_eq_true k2]
    show 1*_+0=_
    omega
   ·rw [yB (.inr (by omega)),decide_eq_false k2,Bool.and_false]
    show 0*_+_=_
    omega
  ·rw [yB (.inl (by omega)),decide_eq_false k1]
   show 0*_+_=_
   omega
theorem LP {l m:List Rect} (hfl:∀r∈l,Fine r) {bs:List Band} (hb:wh (-200000) bs) (hr:∀y,jh (-200000) (rowAt bs y)/\(∀r∈rowAt bs y,Okr r)/\∀x,mem x (rowAt bs y)↔ow l x y/\¬ow m x y) :
  (∀b∈bs,∃y,b.row=rowAt bs y/\b.a<=y/\y<b.b /\ -100000<=b.a/\b.b<=100000):=by
 have key:∀(bs':List Band) (lo:Int),wh lo bs'->∀b∈bs',(∀y,b.a<=y->y<b.b->rowAt bs' y=b.row)/\b.a<b.b/\b.row ≠ []:=by
  intro bs'
  induction bs' with
  | nil=>intro lo _ b hb;cases hb
  | cons p bs' ih =>
   rintro lo ⟨h1,h2,h3,h4,h5⟩ b hb
   rcases List.mem_cons.1 hb with rfl|hb
   ·exact⟨λy k1 k2=>DT k1 k2,h2,h3⟩
   ·obtain ⟨i1,i2,i3⟩:=ih _ h5 b hb
    refine⟨λy k1 k2 => ?_,i2,i3⟩
    have hge:p.b<=y:=by
     rcases Int.lt_or_le y p.b with k|k
     ·have e:=i1 y k1 k2
      rw [yU h5 k]at e
      exact absurd e.symm i3
     ·exact k
    rw [yB (.inr hge)];exact i1 y k1 k2
 intro b hbm
 obtain ⟨i1,i2,i3⟩:=key bs _ hb b hbm
 have at_:∀y,b.a<=y->y<b.b -> -100000<=y/\y<100000:=λy k1 k2=>by
  obtain ⟨q,hq⟩:=List.exists_mem_of_ne_nil _ i3
  obtain ⟨c1,c2,c3⟩:=hr y
  rw [i1 y k1 k2]at c1 c2 c3
  have:=c2 q hq
  have hm:mem q.f_from b.row:=⟨q,hq,Int.le_refl _,this.2.1⟩
  obtain ⟨⟨r,hr,_,k3⟩,_⟩:=(c3 _).1 hm
  obtain ⟨f1,f2,f3,f4⟩:=hfl r hr
  omega
 have a1:=at_ b.a (Int.le_refl _) i2
 have a2:=at_ (b.b-1) (by omega) (by omega)
 exact⟨b.a,(i1 b.a (Int.le_refl _) i2).symm,Int.le_refl _,i2,by omega,by omega⟩
theorem I6 {l m:List Rect} (hfl:∀r∈l,Fine r) {bs:List Band} (hb:wh (-200000) bs) (hr:∀y,jh (-200000) (rowAt bs y)/\(∀r∈rowAt bs y,Okr r)/\∀x,mem x (rowAt bs y)↔ow l x y/\¬ow m x y) :
  (∀r∈xn bs,Fine r)/\(∀x y,ng (λr=>ind r x y) (xn bs)=P01 (ow l x y/\¬ow m x y))/\∀n:Nat,n=200000->Ou (xn bs)=SS (-100000) n (λx y=>P01 (ow l x y/\¬ow m x y)):=by
 have hba:=LP hfl hb hr
 have hfine:∀r∈xn bs,Fine r:=by
  intro r hrm
  obtain ⟨b,hb',hr'⟩:=List.mem_flatMap.1 hrm
  obtain ⟨q,hq,rfl⟩:=List.mem_map.1 hr'
  obtain ⟨y,e,k1,k2,k3,k4⟩:=hba b hb'
  have ho:=(hr y).2.1 q (by rw [<- e];exact hq)
  unfold Okr at ho
  refine⟨?_,?_,?_,?_⟩
  ·show -100000<=q.f_from/\q.f_from<=100000;omega
  ·show -100000<=b.a/\b.a<=100000;omega
  ·show 1<=q.f_to-q.f_from/\q.f_from+(q.f_to-q.f_from)<=100000;omega
  ·show 1<=b.b-b.a/\b.a+(b.b-b.a)<=100000;omega
 have hind:∀x y,ng (λr=>ind r x y) (xn bs)=P01 (ow l x y/\¬ow m x y):=λx y=>by
  rw [Kl x y bs _ hb (λb hb'=>by
   obtain ⟨y,e,_⟩:=hba b hb'
   exact⟨_,by rw [e];exact (hr y).1⟩)]
  exact Gy ((hr y).2.2 x)
 refine⟨hfine,hind,λn hn => ?_⟩
 unfold Ou
 rw [zL (g:=λr=>SS (-100000) n (ind r)) (λr hr'=>by
  obtain ⟨f1,f2,f3,f4⟩:=hfine r hr'
  rw [Pm (by omega) (by omega) (by omega) (by omega)]),MJ]
 exact OI hind
theorem GL {α:Type} [BEq α] [LawfulBEq α]:∀(l m:List α),l.Nodup->(∀x∈l,x∈m)->l.length<=m.length
 | [],_,_,_=>Nat.zero_le _
 | x::l,m,hd,hs=>by
  obtain ⟨h1,h2⟩:=List.nodup_cons.1 hd
  have hx:=hs x (by simp)
  have:=GL l (m.erase x) h2 (λy hy=>(List.mem_erase_of_ne (λe=>h1 (by rw [<- e];exact hy))).2 (hs y (by simp [hy])))
  have h3:=List.length_erase_of_mem hx
  have h4:=List.length_pos_of_mem hx
  simp only [List.length_cons];omega
theorem KQ (r:Rect) (x y:Int):ind r x y=0\/ind r x y=1:=by
 unfold ind b01
 cases yu x y r
 ·exact .inl rfl
 ·exact .inr rfl
theorem ind_t {r:Rect} {x y:Int} (h:yu x y r=true):ind r x y=1:=by unfold ind;rw [h];rfl
theorem ind_f {r:Rect} {x y:Int} (h:yu x y r=false):ind r x y=0:=by unfold ind;rw [h];rfl
def Cr (l:List Rect) (x y:Int):Int:=ng (λr=>ind r x y) l
theorem CR (x y:Int):∀l:List Rect,0<=Cr l x y
 | []=>Int.le_refl _
 | r::l=>by
  have:=CR x y l
  unfold Cr at *
  rw [ng]
  rcases KQ r x y with h|h <;> omega
theorem sZ (l:List Rect) (x y:Int):ow l x y↔∃r∈l,yu x y r=true:=by
 rw [<- Qf,hasB,List.any_eq_true]
theorem D6 {x y:Int}:∀{l:List Rect},ow l x y->1<=Cr l x y
 | [],h=>by rw [sZ]at h;obtain ⟨r,hr,_⟩:=h;cases hr
 | r::l,h=>by
  have h0:=CR x y l
  unfold Cr at *
  rw [ng]
  rw [sZ]at h
  obtain ⟨q,hq,hh⟩:=h
  rcases List.mem_cons.1 hq with rfl|hq
  ·rw [ind_t hh];omega
  ·have:=D6 (l:=l) ((sZ _ _ _).2 ⟨q,hq,hh⟩)
   unfold Cr at this
   rcases KQ r x y with h|h <;> omega
theorem GM {x y:Int}:∀{l:List Rect},¬ow l x y->Cr l x y=0
 | [],_=>rfl
 | r::l,h=>by
  unfold Cr
  rw [ng]
  have h1:yu x y r=false:=by
   cases hh:yu x y r with
   | false=>rfl
   | true=>exact absurd ((sZ _ _ _).2 ⟨r,by simp,hh⟩) h
  have h2:=GM (l:=l) (λk=>h (by
   obtain ⟨q,hq,hh⟩:=(sZ _ _ _).1 k
   exact (sZ _ _ _).2 ⟨q,by simp [hq],hh⟩))
  unfold Cr at h2
  rw [ind_f h1,h2];rfl
theorem row_nodup (y:Int):∀l:List Rect,(∀x,Cr l x y<=1)->(∀r∈l,1<=r.W)->((l.filter (covers y)).map (·.X)).Nodup
 | [],_,_=>List.nodup_nil
 | r::l,h,hw=>by
  have h':∀x,Cr l x y<=1:=λx=>by
   have:=h x
   unfold Cr at *
   rw [ng]at this
   rcases KQ r x y with k|k <;> omega
  have ih:=row_nodup y l h' (λq hq=>hw q (by simp [hq]))
  rw [List.filter_cons]
  cases hc:covers y r with
  | false=>exact ih
  | true =>
   simp only [if_true,List.map_cons]
   refine List.nodup_cons.2 ⟨λhm => ?_,ih⟩
   obtain ⟨q,hq,he⟩:=List.mem_map.1 hm
   obtain ⟨q1,q2⟩:=List.mem_filter.1 hq
   have hwr:=hw r (by simp)
   have hwq:=hw q (by simp [q1])
   have e1:yu r.X y r=true:=by
    unfold yu;unfold covers at hc
    rw [hc,decide_eq_true (Int.le_refl _),decide_eq_true (show r.X<r.X+r.W by omega)];rfl
   have e2:yu r.X y q=true:=by
    unfold yu;unfold covers at q2
    rw [q2,<- he,decide_eq_true (Int.le_refl _),decide_eq_true (show q.X<q.X+q.W by omega)];rfl
   have h1:=h r.X
   have h2:=D6 (l:=l) ((sZ _ _ _).2 ⟨q,q1,e2⟩)
   unfold Cr at h1 h2
   rw [ng,ind_t e1]at h1
   omega
theorem Gs:∀(bs:List Band) (lo:Int),wh lo bs->∀b∈bs,(∀y,b.a<=y->y<b.b->rowAt bs y=b.row)/\b.a<b.b/\b.row ≠ []
 | [],_,_,b,hb=>by cases hb
 | p::bs,lo,⟨h1,h2,h3,h4,h5⟩,b,hb=>by
  rcases List.mem_cons.1 hb with rfl|hb
  ·exact⟨λy k1 k2=>DT k1 k2,h2,h3⟩
  ·obtain ⟨i1,i2,i3⟩:=Gs bs _ h5 b hb
   refine⟨λy k1 k2 => ?_,i2,i3⟩
   have hge:p.b<=y:=by
    rcases Int.lt_or_le y p.b with k|k
    ·have e:=i1 y k1 k2
     rw [yU h5 k]at e
     exact absurd e.symm i3
    ·exact k
   rw [yB (.inr hge)];exact i1 y k1 k2
theorem Ow {bs:List Band} {lo:Int} (h:wh lo bs) {r:Rect} (hr:r∈xn bs) {y:Int} (h1:r.Y<=y) (h2:y<r.Y+r.H):∃q∈rowAt bs y,r.X=q.f_from/\r.X+r.W=q.f_to:=by
 obtain ⟨b,hb,hr⟩:=List.mem_flatMap.1 hr
 obtain ⟨q,hq,rfl⟩:=List.mem_map.1 hr
 obtain ⟨i1,i2,i3⟩:=Gs bs lo h b hb
 have e:b.a+(b.b-b.a)=b.b:=by omega
 refine⟨q,?_,rfl,by show q.f_from+(q.f_to-q.f_from)=q.f_to;omega⟩
 rw [i1 y h1 (by have:y<b.a+(b.b-b.a):=h2;omega)];exact hq
theorem FL:∀{L:List Run} {lo:Int},jh lo L->∀q∈L,¬mem (q.f_from-1) L
 | [],_,_,q,hq=>by cases hq
 | r::L,lo,⟨h1,h2,h3⟩,q,hq=>by
  rw [mem_cons]
  rcases List.mem_cons.1 hq with rfl|hq
  ·rintro (k|k)
   ·omega
   ·have:=h3.gt k;omega
  ·have h4:=h3.lo q hq
   rintro (k|k)
   ·omega
   ·exact FL h3 q hq k
theorem Bf (a b:Int):lD a b=min a b:=by unfold lD;split <;> omega
def Na (R:List Rect) (S:Int->Int->Prop):Prop:=∃bs:List Band,R=xn bs/\wh (-200000) bs/\∀y,jh (-200000) (rowAt bs y)/\(∀r∈rowAt bs y,Okr r)/\∀x,mem x (rowAt bs y)↔S x y
theorem Na.facts {R l m:List Rect} (h:Na R (λx y=>ow l x y/\¬ow m x y)) (hfl:∀r∈l,Fine r) :
  (∀r∈R,Fine r)/\(∀x y,Cr R x y=P01 (ow l x y/\¬ow m x y))/\∀n:Nat,n=200000->Ou R=SS (-100000) n (λx y=>P01 (ow l x y/\¬ow m x y)):=by
 obtain ⟨bs,rfl,b1,b2⟩:=h
 exact I6 hfl b1 b2
theorem P01_le (p:Prop):P01 p<=1:=by
 by_cases h:p
 ·rw [JL h];omega
 ·rw [CX h];omega
theorem Na.has {R l m:List Rect} (h:Na R (λx y=>ow l x y/\¬ow m x y)) (hfl:∀r∈l,Fine r) (x y:Int):ow R x y↔(ow l x y/\¬ow m x y):=by
 have e:=(h.facts hfl).2.1 x y
 constructor
 ·intro k
  have:=D6 k
  by_cases hs:ow l x y/\¬ow m x y
  ·exact hs
  ·rw [CX hs]at e;omega
 ·intro hs
  rw [JL hs]at e
  by_cases k:ow R x y
  ·exact k
  ·rw [GM k]at e;omega
theorem Na.row {R l m:List Rect} (h:Na R (λx y=>ow l x y/\¬ow m x y)) (hfl:∀r∈l,Fine r) (y:Int):(rowB R y).length<=l.length+m.length:=by
 obtain ⟨f1,f2,_⟩:=h.facts hfl
 have hn:=row_nodup y R (λx=>by rw [f2];exact P01_le _) (λr hr=>(f1 r hr).2.2.1.1)
 obtain ⟨bs,rfl,b1,b2⟩:=h
 have hm:∀v∈((xn bs).filter (covers y)).map (·.X),v∈l.map (·.X)++m.map (λr=>r.X+r.W):=by
  intro v hv
  obtain ⟨r,hr,rfl⟩:=List.mem_map.1 hv
  obtain ⟨hr1,hr2⟩:=List.mem_filter.1 hr
  have hy:r.Y<=y/\y<r.Y+r.H:=by
   simp only [covers,Bool.and_eq_true,decide_eq_true_eq]at hr2;exact hr2
  obtain ⟨q,hq,e1,e2⟩:=Ow b1 hr1 hy.1 hy.2
  obtain ⟨c1,c2,c3⟩:=b2 y
  have hl:=FL c1 q hq
  have hlt:=(c1.lo q hq).2
  have hin:=(c3 q.f_from).1 ⟨q,hq,Int.le_refl _,hlt⟩
  rw [c3]at hl
  obtain ⟨⟨s,hs,s1,s2⟩,hnm⟩:=hin
  rw [e1]
  by_cases hm':ow m (q.f_from-1) y
  ·obtain ⟨t,ht,t1,t2⟩:=hm'
   refine List.mem_append.2 (.inr (List.mem_map.2 ⟨t,ht,?_⟩))
   have:¬(t.X<=q.f_from/\q.f_from<t.X+t.W):=λk=>hnm ⟨t,ht,k,t2⟩
   omega
  ·refine List.mem_append.2 (.inl (List.mem_map.2 ⟨s,hs,?_⟩))
   have:¬(s.X<=q.f_from-1/\q.f_from-1<s.X+s.W):=λk=>hl ⟨⟨s,hs,k,s2⟩,hm'⟩
   omega
 have:=GL _ _ hn hm
 simp only [List.length_map,List.length_append]at this
 unfold rowB
 rw [List.length_map];exact this
theorem NJ {r:Rect} (h:Fine r):badR r=false:=by
 unfold Fine at h
 unfold badR
 rw [bD (n:=100000-r.X) (by omega),bD (n:=100000-r.Y) (by omega),lG (by omega),lG (by omega),lG (by omega),lG (by omega)];rfl
end Go.Proofs.YticmkhcacamhkaaGreatDoor.Law.AlN

