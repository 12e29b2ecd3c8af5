import Derived.Test.YtdenjndllgahgaaGreatDoorEpKey
/-
  PLAIN LEMMAS: checks of lists, bounds, the order of strings, the first fault.
-/
open Go Go.Eng
namespace Go.Proofs.YtdenjndllgahgaaGreatDoor.Law
set_option linter.unusedVariables false
set_option linter.unusedSimpArgs false
def bN (s:ByteArray):Prop:=s.size<=1000
theorem cK {s:ByteArray} (h:Nat.ble s.size 1000=true):bN s:=Nat.le_of_ble_eq_true h
theorem mZ {α:Type} (xs ys:List α) (h:xs.length+ys.length<=1000000000):pV xs ys=some (xs++ys):=by unfold pV;rw [if_pos h]
theorem jD {α:Type} {p:α->Prop} {xs:List α} {i:Nat} {a:α} (h:∀x∈xs,p x) (ha:p a):∀x∈xs.set i a,p x:=λx hx=>by
 rcases List.mem_or_eq_of_mem_set hx with h1|h1
 ·exact h x h1
 ·rw [h1];exact ha
theorem rq {α:Type} {i:Int} {xs:List α} (h0:0<=i) (h1:i<xs.length):inR i xs=some ():=by unfold inR;rw [if_pos ⟨h0,by omega⟩]
def sQ (e:Int):Ctl Unit Int:=bif e==0 then .go ()else .ret e
theorem rH (e:Int):dE (sQ e) (λ_=>some (0:Int)) (λr=>some r)=some e:=by
 unfold sQ
 cases h:e==0 with
 | true=>simp only [cond_true,gL];rw [eq_of_beq h]
 | false=>rfl
theorem qB {α:Type} {l:List α} {k:Nat} {x:α} (h:l[k]? = some x) (hk:0<k) (hl:l.length<=1000000000):∃y,idx l (w64 ((k:Int)-1))=some y/\l[k-1]? = some y:=by
 have hlt:k<l.length:=(List.getElem?_eq_some_iff.1 h).1
 rw [dI (by omega),show (k:Int)-1=((k-1:Nat):Int) by omega,mK]
 exact⟨l[k-1],List.getElem?_eq_getElem (by omega),List.getElem?_eq_getElem (by omega)⟩
def yD {α:Type} (stp:Option α->α->Int):Option α->List α->Int
 | _,[]=>0
 | p,x::xs=>bif stp p x==0 then yD stp (some x) xs else stp p x
def sF {α:Type} (l:List α) (k:Nat):Option α:=if k=0 then none else l[k-1]?
theorem oQ {α:Type} {stp:Option α->α->Int} {body:Nat->α->Unit->Option (Ctl Unit Int)} (l:List α):∀(xs:List α) (k:Nat),l.drop k=xs->(∀k x,l[k]? = some x->body k x ()=some (sQ (stp (sF l k) x))) ->
  dF body xs k ()=some (sQ (yD stp (sF l k) xs))
 | [],k,h,hb=>rfl
 | x::xs,k,h,hb=>by
  have hg:=yT h
  rw [dF,hb k x hg,ob_,yD]
  cases he:stp (sF l k) x==0 with
  | true =>
   simp only [sQ,he,cond_true]
   rw [oQ l xs (k+1) (bv h) hb]
   have:sF l (k+1)=some x:=by simp [sF,hg]
   rw [this];rfl
  | false=>simp only [sQ,he,cond_false]
theorem chkG_0 {α:Type} {stp:Option α->α->Int}:∀{l:List α} {p:Option α},yD stp p l=0->match l with
  | []=>True
  | x::xs=>stp p x=0/\yD stp (some x) xs=0
 | [],_,_=>trivial
 | x::xs,p,h=>by
  rw [yD]at h
  cases he:stp p x==0 with
  | true=>rw [he]at h;exact⟨eq_of_beq he,h⟩
  | false=>rw [he,cond_false]at h;rw [h]at he;cases he
def nX (n lo hi:Int):Bool:=decide (n<lo)||decide (n>hi)
theorem uq (n lo hi:Int):eT n lo hi=some (nX n lo hi):=by
 unfold eT nX
 cases decide (n<lo) <;> cases decide (n>hi) <;> rfl
theorem in_eq (n lo hi:Int):mG n lo hi=some (!nX n lo hi):=by
 unfold mG nX
 have e1:decide (lo<=n) = !decide (n<lo):=by rw [Bool.eq_iff_iff];simp
 have e2:decide (n<=hi) = !decide (n>hi):=by rw [Bool.eq_iff_iff];simp
 rw [e1,e2]
 cases decide (n<lo) <;> cases decide (n>hi) <;> rfl
theorem outB_f {n lo hi:Int} (h:nX n lo hi=false):lo<=n/\n<=hi:=by
 simp only [nX,Bool.or_eq_false_iff,decide_eq_false_iff_not]at h;omega
def jM (n:Int):Bool := !nX n 0 345686399999
theorem og (n:Int):dK n=some (jM n):=by
 unfold dK jM nX
 have e1:decide (n>=0) = !decide (n<0):=by rw [Bool.eq_iff_iff];simp
 have e2:decide (n<345686400000) = !decide (n>345686399999):=by rw [Bool.eq_iff_iff];simp;omega
 rw [e1,e2]
 cases decide (n<0) <;> cases decide (n>345686399999) <;> rfl
theorem yf (n:Int):lF n=some (jM n):=by
 unfold lF;rw [in_eq];rfl
theorem uw {n:Int} (h:jM n=true):0<=n/\n<=345686399999:=by
 unfold jM at h;exact outB_f (by simpa using h)
def or0 (a b:Int):Int:=bif a==0 then b else a
theorem errs2 (a b:Int):nO [a,b]=some (or0 a b):=by
 unfold nO or0
 rw [fo (by simp)]
 simp only [dF,lQ]
 cases ha:a==0 with
 | false =>
  have:(a != 0)=true:=by simp [bne,ha]
  simp only [this,cond_true,cond_false,ob_,dE]
 | true =>
  have:(a != 0)=false:=by simp [bne,ha]
  simp only [this,cond_true,cond_false,ob_]
  cases hb:b==0 with
  | false =>
   have:(b != 0)=true:=by simp [bne,hb]
   simp only [this,cond_true,ob_,dE]
  | true =>
   have:(b != 0)=false:=by simp [bne,hb]
   simp only [this,cond_false,ob_,dE]
   rw [eq_of_beq hb]
theorem ru (a b:ByteArray):(lt a b/\qc a b = -1)\/(a=b/\qc a b=0)\/(lt b a/\qc a b=1):=by
 have key:∀(x y:List UInt8),(x<y/\Lib.compareBytes x y = -1)\/(x=y/\Lib.compareBytes x y=0)\/(y<x/\Lib.compareBytes x y=1):=by
  intro x
  induction x with
  | nil=>intro y;cases y with
   | nil=>exact .inr (.inl ⟨rfl,rfl⟩)
   | cons b y=>exact .inl ⟨by simp,rfl⟩
  | cons a x ih=>intro y;cases y with
   | nil=>exact .inr (.inr ⟨by simp,rfl⟩)
   | cons b y =>
    simp only [Lib.compareBytes,List.cons_lt_cons_iff,List.cons.injEq]
    by_cases h1:a<b
    ·exact .inl ⟨.inl h1,by rw [if_pos h1]⟩
    ·by_cases h2:b<a
     ·exact .inr (.inr ⟨.inl h2,by rw [if_neg h1,if_pos h2]⟩)
     ·have e:a=b:=UInt8.le_antisymm (UInt8.not_lt.1 h2) (UInt8.not_lt.1 h1)
      subst e
      rw [if_neg h1,if_neg h1]
      rcases ih y with⟨h,k⟩|⟨h,k⟩|⟨h,k⟩
      ·exact .inl ⟨.inr ⟨rfl,h⟩,k⟩
      ·exact .inr (.inl ⟨⟨rfl,h⟩,k⟩)
      ·exact .inr (.inr ⟨.inr ⟨rfl,h⟩,k⟩)
 unfold qc lt
 rw [toL,toL]
 rcases key a.data.toList b.data.toList with⟨h,k⟩|⟨h,k⟩|⟨h,k⟩
 ·exact .inl ⟨h,k⟩
 ·exact .inr (.inl ⟨tL (by rw [toL,toL];exact h),k⟩)
 ·exact .inr (.inr ⟨h,k⟩)
theorem pO (a b:ByteArray):strings_Compare a b=some (qc a b):=rfl
def CB (a b:Int):Int:=if a<b then -1 else if a>b then 1 else 0
theorem wW (a b:Int):cmp_Compare_int a b=some (CB a b):=by
 have e:∀x:Int,(x != x)=false:=by simp
 unfold cmp_Compare_int cmp_isNaN_int CB
 simp only [e,ob_,cond_false]
 by_cases h:a<b
 ·simp only [decide_eq_true h,cond_true,if_pos h]
 ·by_cases h2:a>b
  ·simp only [decide_eq_false h,decide_eq_true h2,cond_true,cond_false,if_neg h,if_pos h2]
  ·simp only [decide_eq_false h,decide_eq_false h2,cond_false,if_neg h,if_neg h2]
theorem Ew (a b:Int):jy [a,b]=some (or0 a b):=by
 unfold jy or0
 rw [fo (by simp)]
 simp only [dF,jE]
 cases ha:a==0 with
 | false =>
  have:(a != 0)=true:=by simp [bne,ha]
  simp only [this,cond_true,cond_false,ob_,dE]
 | true =>
  have:(a != 0)=false:=by simp [bne,ha]
  simp only [this,cond_true,cond_false,ob_]
  cases hb:b==0 with
  | false =>
   have:(b != 0)=true:=by simp [bne,hb]
   simp only [this,cond_true,ob_,dE]
  | true =>
   have:(b != 0)=false:=by simp [bne,hb]
   simp only [this,cond_false,ob_,dE]
   rw [eq_of_beq hb]
end Go.Proofs.YtdenjndllgahgaaGreatDoor.Law

