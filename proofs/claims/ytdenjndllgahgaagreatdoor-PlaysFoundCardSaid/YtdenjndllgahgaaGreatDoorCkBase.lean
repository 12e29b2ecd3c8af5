import Derived.Test.YtdenjndllgahgaaGreatDoorEpKey
/-
  PLAIN LEMMAS: checks of lists, bounds, the order of strings, the first fault.
-/
open Go Go.Eng
namespace Go.Proofs.YtdenjndllgahgaaGreatDoor.Law
set_option linter.unusedVariables false
set_option linter.unusedSimpArgs false
def eO (s:ByteArray):Prop:=s.size<=1000
theorem dZ {s:ByteArray} (h:Nat.ble s.size 1000=true):eO s:=Nat.le_of_ble_eq_true h
theorem iM {α:Type} (xs ys:List α) (h:xs.length+ys.length<=1000000000):jr xs ys=some (xs++ys):=by unfold jr;rw [if_pos h]
theorem F6 {α:Type} {xs:List α} {i:Nat} {a:α} (h:i<xs.length):(xs.set i a)[i]? = some a:=by simp [h]
theorem get_at {α:Type} {xs:List α} {i:Nat} (h:i<xs.length):xs[i]? = some xs[i]:=List.getElem?_eq_getElem h
theorem kV {α:Type} {p:α->Prop} {xs:List α} {i:Nat} {a:α} (h:∀x∈xs,p x) (ha:p a):∀x∈xs.set i a,p x:=λx hx=>by
 rcases List.mem_or_eq_of_mem_set hx with h1|h1
 ·exact h x h1
 ·rw [h1];exact ha
theorem Ad {α:Type} {i:Int} {xs:List α} (h0:0<=i) (h1:i<xs.length):inR i xs=some ():=by unfold inR;rw [if_pos ⟨h0,by omega⟩]
def o7 (e:Int):Ctl Unit Int:=bif e==0 then .go ()else .ret e
theorem ql (e:Int):bN (o7 e) (λ_=>some (0:Int)) (λr=>some r)=some e:=by
 unfold o7
 cases h:e==0 with
 | true=>simp only [cond_true,fo];rw [eq_of_beq h]
 | false=>rfl
theorem sO {α:Type} {l:List α} {k:Nat} {x:α} (h:l[k]? = some x) (hk:0<k) (hl:l.length<=1000000000):∃y,idx l (w64 ((k:Int)-1))=some y/\l[k-1]? = some y:=by
 have hlt:k<l.length:=(List.getElem?_eq_some_iff.1 h).1
 rw [dx (by omega),show (k:Int)-1=((k-1:Nat):Int) by omega,jL]
 exact⟨l[k-1],List.getElem?_eq_getElem (by omega),List.getElem?_eq_getElem (by omega)⟩
def x9 {α:Type} (stp:Option α->α->Int):Option α->List α->Int
 | _,[]=>0
 | p,x::xs=>bif stp p x==0 then x9 stp (some x) xs else stp p x
def rZ {α:Type} (l:List α) (k:Nat):Option α:=if k=0 then none else l[k-1]?
theorem nL {α:Type} {stp:Option α->α->Int} {body:Nat->α->Unit->Option (Ctl Unit Int)} (l:List α):∀(xs:List α) (k:Nat),l.drop k=xs->(∀k x,l[k]? = some x->body k x ()=some (o7 (stp (rZ l k) x))) ->
  dY body xs k ()=some (o7 (x9 stp (rZ l k) xs))
 | [],k,h,hb=>rfl
 | x::xs,k,h,hb=>by
  have hg:=nH h
  rw [dY,hb k x hg,ob_,x9]
  cases he:stp (rZ l k) x==0 with
  | true =>
   simp only [o7,he,cond_true]
   rw [nL l xs (k+1) (aU h) hb]
   have:rZ l (k+1)=some x:=by simp [rZ,hg]
   rw [this];rfl
  | false=>simp only [o7,he,cond_false]
theorem FE {α:Type} {stp:Option α->α->Int}:∀{l:List α} {p:Option α},x9 stp p l=0->match l with
  | []=>True
  | x::xs=>stp p x=0/\x9 stp (some x) xs=0
 | [],_,_=>trivial
 | x::xs,p,h=>by
  rw [x9]at h
  cases he:stp p x==0 with
  | true=>rw [he]at h;exact⟨eq_of_beq he,h⟩
  | false=>rw [he,cond_false]at h;rw [h]at he;cases he
def nI (n lo hi:Int):Bool:=decide (n<lo)||decide (n>hi)
theorem vT (n lo hi:Int):gD n lo hi=some (nI n lo hi):=by
 unfold gD nI
 cases decide (n<lo) <;> cases decide (n>hi) <;> rfl
theorem in_eq (n lo hi:Int):oH n lo hi=some (!nI n lo hi):=by
 unfold oH nI
 have e1:decide (lo<=n) = !decide (n<lo):=by rw [Bool.eq_iff_iff];simp
 have e2:decide (n<=hi) = !decide (n>hi):=by rw [Bool.eq_iff_iff];simp
 rw [e1,e2]
 cases decide (n<lo) <;> cases decide (n>hi) <;> rfl
theorem Cz {n lo hi:Int} (h:nI n lo hi=false):lo<=n/\n<=hi:=by
 simp only [nI,Bool.or_eq_false_iff,decide_eq_false_iff_not]at h;omega
def momB (n:Int):Bool := !nI n 0 345686399999
theorem mP (n:Int):eQ n=some (momB n):=by
 unfold eQ momB nI
 have e1:decide (n>=0) = !decide (n<0):=by rw [Bool.eq_iff_iff];simp
 have e2:decide (n<345686400000) = !decide (n>345686399999):=by rw [Bool.eq_iff_iff];simp;omega
 rw [e1,e2]
 cases decide (n<0) <;> cases decide (n>345686399999) <;> rfl
theorem lU (n:Int):gQ n=some (momB n):=by
 unfold gQ;rw [in_eq];rfl
theorem q9 {n:Int} (h:momB n=true):0<=n/\n<=345686399999:=by
 unfold momB at h;exact Cz (by simpa using h)
def or0 (a b:Int):Int:=bif a==0 then b else a
theorem Gz (a b:Int):pq [a,b]=some (or0 a b):=by
 unfold pq or0
 rw [fK (by simp)]
 simp only [dY,mO]
 cases ha:a==0 with
 | false =>
  have:(a != 0)=true:=by simp [bne,ha]
  simp only [this,cond_true,cond_false,ob_,bN]
 | true =>
  have:(a != 0)=false:=by simp [bne,ha]
  simp only [this,cond_true,cond_false,ob_]
  cases hb:b==0 with
  | false =>
   have:(b != 0)=true:=by simp [bne,hb]
   simp only [this,cond_true,ob_,bN]
  | true =>
   have:(b != 0)=false:=by simp [bne,hb]
   simp only [this,cond_false,ob_,bN]
   rw [eq_of_beq hb]
theorem nY (a b:ByteArray):(lt a b/\mK a b = -1)\/(a=b/\mK a b=0)\/(lt b a/\mK a b=1):=by
 have key:∀(x y:List UInt8),(x<y/\Lib.compareBytes x y = -1)\/(x=y/\Lib.compareBytes x y=0)\/(y<x/\Lib.compareBytes x y=1):=by
  intro x
  induction x with
  | nil=>intro y;cases y with
   | nil=>exact .inr (.inl ⟨rfl,rfl⟩)
   | cons b y=>exact .inl ⟨by simp,rfl⟩
  | cons a x ih=>intro y;cases y with
   | nil=>exact .inr (.inr ⟨by simp,rfl⟩)
   | cons b y =>
    simp only [Lib.compareBytes,List.cons_lt_cons_iff,List.cons.injEq]
    by_cases h1:a<b
    ·exact .inl ⟨.inl h1,by rw [if_pos h1]⟩
    ·by_cases h2:b<a
     ·exact .inr (.inr ⟨.inl h2,by rw [if_neg h1,if_pos h2]⟩)
     ·have e:a=b:=UInt8.le_antisymm (UInt8.not_lt.1 h2) (UInt8.not_lt.1 h1)
      subst e
      rw [if_neg h1,if_neg h1]
      rcases ih y with⟨h,k⟩|⟨h,k⟩|⟨h,k⟩
      ·exact .inl ⟨.inr ⟨rfl,h⟩,k⟩
      ·exact .inr (.inl ⟨⟨rfl,h⟩,k⟩)
      ·exact .inr (.inr ⟨.inr ⟨rfl,h⟩,k⟩)
 unfold mK lt
 rw [toL,toL]
 rcases key a.data.toList b.data.toList with⟨h,k⟩|⟨h,k⟩|⟨h,k⟩
 ·exact .inl ⟨h,k⟩
 ·exact .inr (.inl ⟨rQ (by rw [toL,toL];exact h),k⟩)
 ·exact .inr (.inr ⟨h,k⟩)
theorem oM (a b:ByteArray):strings_Compare a b=some (mK a b):=rfl
def zW (a b:Int):Int:=if a<b then -1 else if a>b then 1 else 0
theorem uu (a b:Int):cmp_Compare_int a b=some (zW a b):=by
 have e:∀x:Int,(x != x)=false:=by simp
 unfold cmp_Compare_int cmp_isNaN_int zW
 simp only [e,ob_,cond_false]
 by_cases h:a<b
 ·simp only [decide_eq_true h,cond_true,if_pos h]
 ·by_cases h2:a>b
  ·simp only [decide_eq_false h,decide_eq_true h2,cond_true,cond_false,if_neg h,if_pos h2]
  ·simp only [decide_eq_false h,decide_eq_false h2,cond_false,if_neg h,if_neg h2]
theorem GJ (a b:Int):kU [a,b]=some (or0 a b):=by
 unfold kU or0
 rw [fK (by simp)]
 simp only [dY,kY]
 cases ha:a==0 with
 | false =>
  have:(a != 0)=true:=by simp [bne,ha]
  simp only [this,cond_true,cond_false,ob_,bN]
 | true =>
  have:(a != 0)=false:=by simp [bne,ha]
  simp only [this,cond_true,cond_false,ob_]
  cases hb:b==0 with
  | false =>
   have:(b != 0)=true:=by simp [bne,hb]
   simp only [this,cond_true,ob_,bN]
  | true =>
   have:(b != 0)=false:=by simp [bne,hb]
   simp only [this,cond_false,ob_,bN]
   rw [eq_of_beq hb]
end Go.Proofs.YtdenjndllgahgaaGreatDoor.Law

