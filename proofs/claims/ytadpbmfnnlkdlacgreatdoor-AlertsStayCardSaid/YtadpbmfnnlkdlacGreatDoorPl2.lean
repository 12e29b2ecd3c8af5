/-
  THE PLAIN LAW (part 2).
-/
import Derived.Test.YtadpbmfnnlkdlacGreatDoorPl1
open Go Go.Eng
namespace Go.Proofs.YtadpbmfnnlkdlacGreatDoor.Law
set_option linter.unusedVariables false
set_option linter.unusedSimpArgs false
theorem Qv {r:Rect} (h:Ky r=false):Fine r:=by
 unfold Ky at h
 simp only [Bool.or_eq_false_iff]at h
 obtain ⟨⟨⟨h1,h2⟩,o⟩,A⟩:=h
 have h1:=BG h1
 have h2:=BG h2
 rw [eD (by omega)]at o A
 have o:=BG o
 have A:=BG A
 exact⟨by omega,by omega,by omega,by omega,by omega⟩
def has1 (x y:Int) (r:Rect):Bool:=(decide (r.X<=x)&&decide (x<r.X+r.W))&&(decide (r.Y<=y)&&decide (y<r.Y+r.H))
def hasB (l:List Rect) (x y:Int):Bool:=l.any (has1 x y)
def Bd (e:Int):Ctl Unit Int:=bif e==0 then .go ()else .ret e
theorem Qp (e:Int):thenC (Bd e) (λ_=>some (0:Int)) (λr=>some r)=some e:=by
 unfold Bd
 cases h:e==0 with
 | true=>simp only [cond_true,tY];rw [eq_of_beq h]
 | false=>rfl
theorem zW {α:Type} {l:List α} {k:Nat} {x:α} (h:l[k]? = some x) (A:0<k) (hl:l.length<=1000000000):∃y,idx l (w64 ((k:Int)-1))=some y/\l[k-1]? = some y:=by
 have o:k<l.length:=(List.getElem?_eq_some_iff.1 h).1
 rw [eD (by omega),show (k:Int)-1=((k-1:Nat):Int) by omega,uT]
 exact⟨l[k-1],List.getElem?_eq_getElem (by omega),List.getElem?_eq_getElem (by omega)⟩
def CP (n:Int):Bool := !qo n 0 345686399999
theorem z8 (n:Int):cB n=some (CP n):=by
 unfold cB CP qo
 have h:decide (n>=0) = !decide (n<0):=by rw [Bool.eq_iff_iff];simp
 have o:decide (n<345686400000) = !decide (n>345686399999):=by rw [Bool.eq_iff_iff];simp;omega
 rw [h,o]
 cases decide (n<0) <;> cases decide (n>345686399999) <;> rfl
def or0 (a b:Int):Int:=bif a==0 then b else a
theorem Ec (a b:ByteArray):(lt a b/\zt a b = -1)\/(a=b/\zt a b=0)\/(lt b a/\zt a b=1):=by
 have key:∀(x y:List UInt8),(x<y/\Lib.compareBytes x y = -1)\/(x=y/\Lib.compareBytes x y=0)\/(y<x/\Lib.compareBytes x y=1):=by
  intro x
  induction x with
  | nil=>intro y;cases y with
   | nil=>exact .inr (.inl ⟨rfl,rfl⟩)
   | cons b y=>exact .inl ⟨by simp,rfl⟩
  | cons a x o=>intro y;cases y with
   | nil=>exact .inr (.inr ⟨by simp,rfl⟩)
   | cons b y =>
    simp only [Lib.compareBytes,List.cons_lt_cons_iff,List.cons.injEq]
    by_cases h1:a<b
    ·exact .inl ⟨.inl h1,by rw [if_pos h1]⟩
    ·by_cases h2:b<a
     ·exact .inr (.inr ⟨.inl h2,by rw [if_neg h1,if_pos h2]⟩)
     ·have e:a=b:=UInt8.le_antisymm (UInt8.not_lt.1 h2) (UInt8.not_lt.1 h1)
      subst e
      rw [if_neg h1,if_neg h1]
      rcases o y with⟨h,k⟩|⟨h,k⟩|⟨h,k⟩
      ·exact .inl ⟨.inr ⟨rfl,h⟩,k⟩
      ·exact .inr (.inl ⟨⟨rfl,h⟩,k⟩)
      ·exact .inr (.inr ⟨.inr ⟨rfl,h⟩,k⟩)
 unfold zt lt
 rw [toL,toL]
 rcases key a.data.toList b.data.toList with⟨h,k⟩|⟨h,k⟩|⟨h,k⟩
 ·exact .inl ⟨h,k⟩
 ·exact .inr (.inl ⟨Dl (by rw [toL,toL];exact h),k⟩)
 ·exact .inr (.inr ⟨h,k⟩)
theorem sH (a b:ByteArray):strings_Compare a b=some (zt a b):=rfl
def Fs (a b:Int):Int:=if a<b then -1 else if a>b then 1 else 0
theorem yl (a b:Int):cmp_Compare_int a b=some (Fs a b):=by
 have e:∀x:Int,(x != x)=false:=by simp
 unfold cmp_Compare_int cmp_isNaN_int Fs
 simp only [e,ob_,cond_false]
 by_cases h:a<b
 ·simp only [decide_eq_true h,cond_true,if_pos h]
 ·by_cases h2:a>b
  ·simp only [decide_eq_false h,decide_eq_true h2,cond_true,cond_false,if_neg h,if_pos h2]
  ·simp only [decide_eq_false h,decide_eq_false h2,cond_false,if_neg h,if_neg h2]
theorem Lb (a b:Int):jF [a,b]=some (or0 a b):=by
 unfold jF or0
 rw [ja (by simp)]
 simp only [forR,p9]
 cases ha:a==0 with
 | false =>
  have:(a != 0)=true:=by simp [bne,ha]
  simp only [this,cond_true,cond_false,ob_,thenC]
 | true =>
  have:(a != 0)=false:=by simp [bne,ha]
  simp only [this,cond_true,cond_false,ob_]
  cases hb:b==0 with
  | false =>
   have:(b != 0)=true:=by simp [bne,hb]
   simp only [this,cond_true,ob_,thenC]
  | true =>
   have:(b != 0)=false:=by simp [bne,hb]
   simp only [this,cond_false,ob_,thenC]
   rw [eq_of_beq hb]
theorem Ae {α:Type} {i:Int} {xs:List α} (h:0<=i) (h1:i<xs.length):inR i xs=some ():=by unfold inR;rw [if_pos ⟨h,by omega⟩]
theorem Rq (a b c:Int):jF [a,b,c]=some (or0 a (or0 b c)):=by
 unfold jF or0
 rw [ja (by simp)]
 simp only [forR,p9]
 cases ha:a==0 with
 | false =>
  have:(a != 0)=true:=by simp [bne,ha]
  simp only [this,cond_true,cond_false,ob_,thenC]
 | true =>
  have:(a != 0)=false:=by simp [bne,ha]
  simp only [this,cond_true,cond_false,ob_]
  cases hb:b==0 with
  | false =>
   have:(b != 0)=true:=by simp [bne,hb]
   simp only [this,cond_true,cond_false,ob_,thenC]
  | true =>
   have:(b != 0)=false:=by simp [bne,hb]
   simp only [this,cond_true,cond_false,ob_]
   cases hc:c==0 with
   | false =>
    have:(c != 0)=true:=by simp [bne,hc]
    simp only [this,cond_true,ob_,thenC]
   | true =>
    have:(c != 0)=false:=by simp [bne,hc]
    simp only [this,cond_false,ob_,thenC]
    rw [eq_of_beq hc]
theorem yn {a b:Int}:or0 a b<0↔a<0\/a=0/\b<0:=by
 unfold or0
 by_cases h:a=0
 ·subst h;simp
 ·have:(a==0)=false:=by simpa using h
  rw [this,cond_false];omega
theorem Ml {a b:Int}:or0 a b=0↔a=0/\b=0:=by
 unfold or0
 by_cases h:a=0
 ·subst h;simp
 ·have:(a==0)=false:=by simpa using h
  rw [this,cond_false];omega
theorem zL {a b:Int}:Fs a b<0↔a<b:=by
 unfold Fs
 split
 ·omega
 ·split <;> omega
theorem xQ {a b:Int}:Fs a b=0↔a=b:=by
 unfold Fs
 split
 ·omega
 ·split <;> omega
theorem xC {a b:ByteArray}:zt a b<0↔lt a b:=by
 rcases Ec a b with⟨h,e⟩|⟨h,e⟩|⟨h,e⟩
 ·rw [e];exact⟨λ_=>h,λ_=>by decide⟩
 ·rw [e,h];exact⟨λk=>absurd k (by decide),λk=>absurd k (gG _)⟩
 ·rw [e];exact⟨λk=>absurd k (by decide),λk=>absurd (lt_trans k h) (gG _)⟩
theorem vv {a b:ByteArray}:zt a b=0↔a=b:=by
 rcases Ec a b with⟨h,e⟩|⟨h,e⟩|⟨h,e⟩
 ·rw [e];exact⟨λk=>absurd k (by decide),λk=>by rw [k]at h;exact absurd h (gG _)⟩
 ·rw [e];exact⟨λ_=>h,λ_=>rfl⟩
 ·rw [e];exact⟨λk=>absurd k (by decide),λk=>by rw [k]at h;exact absurd h (gG _)⟩
theorem lt_ntr {a b c:ByteArray} (h:¬lt a b) (k:¬lt b c):¬lt a c:=λq=>by
 rcases vT a b with e|e|e
 ·exact h e
 ·rw [e]at q;exact k q
 ·exact k (lt_trans e q)
theorem Tn {α:Type} {cmp:α->α->Option Int} (c:α->α->Int) {S:List α->Option (List α)} (M:∀x,S x=(iK (IntKind.u64.wrap (x.length:Int))).bind λF=>(J5 cmp x 0 (x.length:Int) F).bind λo=>(iQ o x).bind λ_=>some o)
  {xs:List α} (hl:xs.length<=12) (L:∀a∈xs,∀b∈xs,cmp a b=some (c a b)) (A:∀a b,c a b<0->¬c b a<0) (R:∀a b d,¬c a b<0->¬c b d<0->¬c a d<0) :
  ∃r,S xs=some r/\r.Perm xs/\r.Pairwise (λa b=>¬c b a<0):=by
 obtain ⟨k,N⟩:=Sj xs.length hl
 obtain ⟨s,h1,h2,O⟩:=Rz (cmp:=cmp) (le:=λa b=>¬c b a<0) (p:=(· ∈ xs)) (λa b I hb=>⟨c a b,L a I b hb,λh=>A a b h,λh=>h⟩) (λa b d h k=>R d b a k h) xs hl (λx J=>J) k
 refine⟨s,?_,h2,O⟩
 have B:iQ s xs=some ():=by unfold iQ;rw [if_pos h2.length_eq]
 rw [M,N,ob_,h1,ob_,B];rfl
theorem OP {α σ ρ:Type} {body:Nat->α->σ->Option (Ctl σ ρ)} (I:Nat->σ->Prop) (xs:List α):∀(l:List α) (k:Nat) (s:σ),xs.drop k=l->k<=xs.length->(∀k x s,xs[k]? = some x->I k s->∃A,body k x s=some (.go A)/\I (k+1) A)->I k s->∃A,forR body l k s=some (.go A)/\I xs.length A
 | [],k,s,o,J,h,hi=>by
  have:=List.drop_eq_nil_iff.1 o
  obtain rfl:k=xs.length:=by omega
  exact⟨s,rfl,hi⟩
 | x::l,k,s,o,J,h,hi=>by
  obtain ⟨F,h1,h2⟩:=h k x s (LU o) hi
  obtain ⟨B,L,M⟩:=OP I xs l (k+1) F (aP o) (by have:=F4 o;omega) h h2
  exact⟨B,by rw [forR,h1,ob_];exact L,M⟩
theorem lc {α σ ρ:Type} {body:Nat->α->σ->Option (Ctl σ ρ)} (I:Nat->σ->Prop) {xs:List α} {s:σ} (hl:xs.length<=1000000000000) (h:∀k x s,xs[k]? = some x->I k s->∃o,body k x s=some (.go o)/\I (k+1) o) (A:I 0 s):∃o,forL xs s body=some (.go o)/\I xs.length o:=by
 rw [ja hl]
 exact OP I xs xs 0 s rfl (Nat.zero_le _) h A
theorem RN {α β:Type} {f:α->β} {ks:List β} {k:Nat} {x:β} {l:List α} (o:ks[k]? = some x) (h:(l.map f).Sublist (ks.take k)):(l.map f).Sublist (ks.take (k+1))/\∀c,f c=x->((l++[c]).map f).Sublist (ks.take (k+1)):=by
 have e:ks.take (k+1)=ks.take k++[x]:=by
  rw [List.take_add_one,o];rfl
 rw [e]
 refine⟨h.trans (List.sublist_append_left _ _),λc hc => ?_⟩
 rw [List.map_append]
 refine h.append ?_
 rw [List.map_cons,hc]
 exact List.Sublist.refl _
theorem jl {a b:ByteArray} (h:sLt a b=true):lt a b:=(FY a b).1 h
structure Band where
 a:Int
 b:Int
 row:List Run
def Fits (h:Int->List Run) (ys:List Int):Prop :=
 ys.Pairwise (· < ·)/\(∀y∈ys,-200000<y)/\(∀(j:Nat) (a b:Int),ys[j]? = some a->ys[j+1]? = some b->∀y,a<=y->y<b->h y=h a)/\(∀y,(∀a∈ys,a<=y)->h y=[])/\(∀y,(∀a∈ys,y<a)->h y=[])
def b01 (b:Bool):Int:=bif b then 1 else 0
def ind (r:Rect) (x y:Int):Int:=b01 (has1 x y r)
end Go.Proofs.YtadpbmfnnlkdlacGreatDoor.Law

