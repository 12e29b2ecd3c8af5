/-
  THE PLAIN LAW (part 2).
-/
import Derived.Test.YtpmokglbipebcaaGreatDoorPl1
open Go Go.Eng
namespace Go.Proofs.YtpmokglbipebcaaGreatDoor.Law
set_option linter.unusedVariables false
set_option linter.unusedSimpArgs false
theorem GY {r:Rect} (h:zY r=false):Fine r:=by
 unfold zY at h
 simp only [Bool.or_eq_false_iff]at h
 obtain ⟨⟨⟨h1,h2⟩,h3⟩,h4⟩:=h
 have h1:=wI h1
 have h2:=wI h2
 rw [fF (by omega)]at h3 h4
 have h3:=wI h3
 have h4:=wI h4
 exact⟨by omega,by omega,by omega,by omega,by omega⟩
def has1 (x y:Int) (r:Rect):Bool:=(decide (r.X<=x)&&decide (x<r.X+r.W))&&(decide (r.Y<=y)&&decide (y<r.Y+r.H))
def qp (e:Int):Ctl Unit Int:=bif e==0 then .go ()else .ret e
theorem CU {α:Type} {l:List α} {k:Nat} {x:α} (h:l[k]? = some x) (hk:0<k) (hl:l.length<=1000000000):∃y,idx l (w64 ((k:Int)-1))=some y/\l[k-1]? = some y:=by
 have hlt:k<l.length:=(List.getElem?_eq_some_iff.1 h).1
 rw [fF (by omega),show (k:Int)-1=((k-1:Nat):Int) by omega,xW]
 exact⟨l[k-1],List.getElem?_eq_getElem (by omega),List.getElem?_eq_getElem (by omega)⟩
def xN (n:Int):Bool := !jr n 0 345686399999
theorem Dr (n:Int):kg n=some (xN n):=by
 unfold kg xN jr
 have e1:decide (n>=0) = !decide (n<0):=by rw [Bool.eq_iff_iff];simp
 have e2:decide (n<345686400000) = !decide (n>345686399999):=by rw [Bool.eq_iff_iff];simp;omega
 rw [e1,e2]
 cases decide (n<0) <;> cases decide (n>345686399999) <;> rfl
def or0 (a b:Int):Int:=bif a==0 then b else a
theorem Gv (a b:ByteArray):(lt a b/\zG a b = -1)\/(a=b/\zG a b=0)\/(lt b a/\zG a b=1):=by
 have key:∀(x y:List UInt8),(x<y/\Lib.compareBytes x y = -1)\/(x=y/\Lib.compareBytes x y=0)\/(y<x/\Lib.compareBytes x y=1):=by
  intro x
  induction x with
  | nil=>intro y;cases y with
   | nil=>exact .inr (.inl ⟨rfl,rfl⟩)
   | cons b y=>exact .inl ⟨by simp,rfl⟩
  | cons a x ih=>intro y;cases y with
   | nil=>exact .inr (.inr ⟨by simp,rfl⟩)
   | cons b y =>
    simp only [Lib.compareBytes,List.cons_lt_cons_iff,List.cons.injEq]
    by_cases h1:a<b
    ·exact .inl ⟨.inl h1,by rw [if_pos h1]⟩
    ·by_cases h2:b<a
     ·exact .inr (.inr ⟨.inl h2,by rw [if_neg h1,if_pos h2]⟩)
     ·have e:a=b:=UInt8.le_antisymm (UInt8.not_lt.1 h2) (UInt8.not_lt.1 h1)
      subst e
      rw [if_neg h1,if_neg h1]
      rcases ih y with⟨h,k⟩|⟨h,k⟩|⟨h,k⟩
      ·exact .inl ⟨.inr ⟨rfl,h⟩,k⟩
      ·exact .inr (.inl ⟨⟨rfl,h⟩,k⟩)
      ·exact .inr (.inr ⟨.inr ⟨rfl,h⟩,k⟩)
 unfold zG lt
 rw [toL,toL]
 rcases key a.data.toList b.data.toList with⟨h,k⟩|⟨h,k⟩|⟨h,k⟩
 ·exact .inl ⟨h,k⟩
 ·exact .inr (.inl ⟨uQ (by rw [toL,toL];exact h),k⟩)
 ·exact .inr (.inr ⟨h,k⟩)
theorem yZ (a b:ByteArray):strings_Compare a b=some (zG a b):=rfl
def Hq (a b:Int):Int:=if a<b then -1 else if a>b then 1 else 0
theorem He (a b:Int):cmp_Compare_int a b=some (Hq a b):=by
 have e:∀x:Int,(x != x)=false:=by simp
 unfold cmp_Compare_int cmp_isNaN_int Hq
 simp only [e,ob_,cond_false]
 by_cases h:a<b
 ·simp only [decide_eq_true h,cond_true,if_pos h]
 ·by_cases h2:a>b
  ·simp only [decide_eq_false h,decide_eq_true h2,cond_true,cond_false,if_neg h,if_pos h2]
  ·simp only [decide_eq_false h,decide_eq_false h2,cond_false,if_neg h,if_neg h2]
theorem or2_eq (a b:Int):oK [a,b]=some (or0 a b):=by
 unfold oK or0
 rw [fZ (by simp)]
 simp only [forR,mK]
 cases ha:a==0 with
 | false =>
  have:(a != 0)=true:=by simp [bne,ha]
  simp only [this,cond_true,cond_false,ob_,thenC]
 | true =>
  have:(a != 0)=false:=by simp [bne,ha]
  simp only [this,cond_true,cond_false,ob_]
  cases hb:b==0 with
  | false =>
   have:(b != 0)=true:=by simp [bne,hb]
   simp only [this,cond_true,ob_,thenC]
  | true =>
   have:(b != 0)=false:=by simp [bne,hb]
   simp only [this,cond_false,ob_,thenC]
   rw [eq_of_beq hb]
theorem BD {α:Type} {i:Int} {xs:List α} (h0:0<=i) (h1:i<xs.length):inR i xs=some ():=by unfold inR;rw [if_pos ⟨h0,by omega⟩]
theorem or0_neg {a b:Int}:or0 a b<0↔a<0\/a=0/\b<0:=by
 unfold or0
 by_cases h:a=0
 ·subst h;simp
 ·have:(a==0)=false:=by simpa using h
  rw [this,cond_false];omega
theorem H8 {a b:Int}:or0 a b=0↔a=0/\b=0:=by
 unfold or0
 by_cases h:a=0
 ·subst h;simp
 ·have:(a==0)=false:=by simpa using h
  rw [this,cond_false];omega
theorem IY {a b:Int}:Hq a b<0↔a<b:=by
 unfold Hq
 split
 ·omega
 ·split <;> omega
theorem Gy {a b:Int}:Hq a b=0↔a=b:=by
 unfold Hq
 split
 ·omega
 ·split <;> omega
theorem Dt {a b:ByteArray}:zG a b<0↔lt a b:=by
 rcases Gv a b with⟨h,e⟩|⟨h,e⟩|⟨h,e⟩
 ·rw [e];exact⟨λ_=>h,λ_=>by decide⟩
 ·rw [e,h];exact⟨λk=>absurd k (by decide),λk=>absurd k (zy _)⟩
 ·rw [e];exact⟨λk=>absurd k (by decide),λk=>absurd (lt_trans k h) (zy _)⟩
theorem sort12 {α:Type} {cmp:α->α->Option Int} (c:α->α->Int) {S:List α->Option (List α)} (hS:∀x,S x=(fK (IntKind.u64.wrap (x.length:Int))).bind λr_3=>(Ci cmp x 0 (x.length:Int) r_3).bind λr_5=>(jH r_5 x).bind λ_=>some r_5)
  {xs:List α} (hl:xs.length<=12) (hF:∀a∈xs,∀b∈xs,cmp a b=some (c a b)) (has:∀a b,c a b<0->¬c b a<0) (hn:∀a b d,¬c a b<0->¬c b d<0->¬c a d<0) :
  ∃r,S xs=some r/\r.Perm xs/\r.Pairwise (λa b=>¬c b a<0):=by
 obtain ⟨k,hk⟩:=Jp xs.length hl
 obtain ⟨s,h1,h2,h3⟩:=Iu (cmp:=cmp) (le:=λa b=>¬c b a<0) (p:=(· ∈ xs)) (λa b ha hb=>⟨c a b,hF a ha b hb,λh=>has a b h,λh=>h⟩) (λa b d h k=>hn d b a k h) xs hl (λx hx=>hx) k
 refine⟨s,?_,h2,h3⟩
 have hsm:jH s xs=some ():=by unfold jH;rw [if_pos h2.length_eq]
 rw [hS,hk,ob_,h1,ob_,hsm];rfl
theorem FV {α σ ρ:Type} {body:Nat->α->σ->Option (Ctl σ ρ)} (I:Nat->σ->Prop) (xs:List α):∀(l:List α) (k:Nat) (s:σ),xs.drop k=l->k<=xs.length->(∀k x s,xs[k]? = some x->I k s->∃s',body k x s=some (.go s')/\I (k+1) s')->I k s->∃s',forR body l k s=some (.go s')/\I xs.length s'
 | [],k,s,hd,hk,h,hi=>by
  have:=List.drop_eq_nil_iff.1 hd
  obtain rfl:k=xs.length:=by omega
  exact⟨s,rfl,hi⟩
 | x::l,k,s,hd,hk,h,hi=>by
  obtain ⟨s1,h1,h2⟩:=h k x s (zb hd) hi
  obtain ⟨s2,h3,h4⟩:=FV I xs l (k+1) s1 (aY hd) (by have:=xY hd;omega) h h2
  exact⟨s2,by rw [forR,h1,ob_];exact h3,h4⟩
theorem Cf {α σ ρ:Type} {body:Nat->α->σ->Option (Ctl σ ρ)} (I:Nat->σ->Prop) {xs:List α} {s:σ} (hl:xs.length<=1000000000000) (h:∀k x s,xs[k]? = some x->I k s->∃s',body k x s=some (.go s')/\I (k+1) s') (h0:I 0 s):∃s',forL xs s body=some (.go s')/\I xs.length s':=by
 rw [fZ hl]
 exact FV I xs xs 0 s rfl (Nat.zero_le _) h h0
theorem lc {a b:ByteArray} (h:sLt a b=true):lt a b:=(Cb a b).1 h
structure Band where
 a:Int
 b:Int
 row:List Run
def Fits (Rw:Int->List Run) (ys:List Int):Prop :=
 ys.Pairwise (· < ·)/\(∀y∈ys,-200000<y)/\(∀(j:Nat) (a b:Int),ys[j]? = some a->ys[j+1]? = some b->∀y,a<=y->y<b->Rw y=Rw a)/\(∀y,(∀a∈ys,a<=y)->Rw y=[])/\(∀y,(∀a∈ys,y<a)->Rw y=[])
def b01 (b:Bool):Int:=bif b then 1 else 0
def ind (r:Rect) (x y:Int):Int:=b01 (has1 x y r)
end Go.Proofs.YtpmokglbipebcaaGreatDoor.Law

