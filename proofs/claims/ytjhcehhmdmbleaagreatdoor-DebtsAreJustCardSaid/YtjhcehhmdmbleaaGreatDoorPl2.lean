/-
  THE PLAIN LAW (part 2).
-/
import Derived.Test.YtjhcehhmdmbleaaGreatDoorPl1
open Go Go.Eng
namespace Go.Proofs.YtjhcehhmdmbleaaGreatDoor.Law
set_option linter.unusedVariables false
set_option linter.unusedSimpArgs false
def has1 (x y:Int) (r:Rect):Bool:=(decide (r.X≤x) && decide (x < r.X + r.W)) && (decide (r.Y≤y) && decide (y < r.Y + r.H))
def hasB (l:List Rect) (x y:Int):Bool:=l.any (has1 x y)
end Go.Proofs.YtjhcehhmdmbleaaGreatDoor.Law

open Go Go.Eng
namespace Go.Proofs.YtjhcehhmdmbleaaGreatDoor.Law
set_option linter.unusedVariables false
set_option linter.unusedSimpArgs false
theorem xG {α:Type} {l:List α} {k:Nat} {x:α} (h:l[k]? = some x) (hk:0 < k) (hl:l.length≤1000000000):∃ y,idx l (w64 ((k:Int) - 1))=some y∧l[k - 1]? = some y:=by
 have hlt:k < l.length:=(List.getElem?_eq_some_iff.1 h).1
 rw [gN (by omega),show (k:Int) - 1=((k - 1:Nat):Int) by omega,zW]
 exact⟨l[k - 1],List.getElem?_eq_getElem (by omega),List.getElem?_eq_getElem (by omega)⟩
end Go.Proofs.YtjhcehhmdmbleaaGreatDoor.Law

open Go Go.Eng
namespace Go.Proofs.YtjhcehhmdmbleaaGreatDoor.Law
set_option linter.unusedVariables false
set_option linter.unusedSimpArgs false
def Fw (n:Int):Bool := !xR n 0 345686399999
theorem uL (n:Int):bW n=some (Fw n):=by
 unfold bW Fw xR
 have e1:decide (n≥0) = !decide (n < 0):=by rw [Bool.eq_iff_iff]; simp
 have e2:decide (n < 345686400000) = !decide (n > 345686399999):=by rw [Bool.eq_iff_iff]; simp; omega
 rw [e1,e2]
 cases decide (n < 0) <;> cases decide (n > 345686399999) <;> rfl
def or0 (a b:Int):Int:=bif a == 0 then b else a
theorem rH (a b:ByteArray):(lt a b∧vX a b = -1)∨(a=b∧vX a b=0)∨(lt b a∧vX a b=1):=by
 have key:∀ (x y:List UInt8),(x < y∧Lib.compareBytes x y = -1)∨(x=y∧Lib.compareBytes x y=0)∨(y < x∧Lib.compareBytes x y=1):=by
  intro x
  induction x with
  | nil=>intro y; cases y with
   | nil=>exact .inr (.inl ⟨rfl,rfl⟩)
   | cons b y=>exact .inl ⟨by simp,rfl⟩
  | cons a x ih=>intro y; cases y with
   | nil=>exact .inr (.inr ⟨by simp,rfl⟩)
   | cons b y =>
    simp only [Lib.compareBytes,List.cons_lt_cons_iff,List.cons.injEq]
    by_cases h1:a < b
    ·exact .inl ⟨.inl h1,by rw [if_pos h1]⟩
    ·by_cases h2:b < a
     ·exact .inr (.inr ⟨.inl h2,by rw [if_neg h1,if_pos h2]⟩)
     ·have e:a=b:=UInt8.le_antisymm (UInt8.not_lt.1 h2) (UInt8.not_lt.1 h1)
      subst e
      rw [if_neg h1,if_neg h1]
      rcases ih y with⟨h,k⟩ | ⟨h,k⟩ | ⟨h,k⟩
      ·exact .inl ⟨.inr ⟨rfl,h⟩,k⟩
      ·exact .inr (.inl ⟨⟨rfl,h⟩,k⟩)
      ·exact .inr (.inr ⟨.inr ⟨rfl,h⟩,k⟩)
 unfold vX lt
 rw [toL,toL]
 rcases key a.data.toList b.data.toList with⟨h,k⟩ | ⟨h,k⟩ | ⟨h,k⟩
 ·exact .inl ⟨h,k⟩
 ·exact .inr (.inl ⟨Aa (by rw [toL,toL]; exact h),k⟩)
 ·exact .inr (.inr ⟨h,k⟩)
theorem qp (a b:ByteArray):strings_Compare a b=some (vX a b):=rfl
def Gy (a b:Int):Int:=if a < b then -1 else if a > b then 1 else 0
theorem y5 (a b:Int):cmp_Compare_int a b=some (Gy a b):=by
 have e:∀ x:Int,(x != x)=false:=by simp
 unfold cmp_Compare_int cmp_isNaN_int Gy
 simp only [e,Option.bind_some,cond_false]
 by_cases h:a < b
 ·simp only [decide_eq_true h,cond_true,if_pos h]
 ·by_cases h2:a > b
  ·simp only [decide_eq_false h,decide_eq_true h2,cond_true,cond_false,if_neg h,if_pos h2]
  ·simp only [decide_eq_false h,decide_eq_false h2,cond_false,if_neg h,if_neg h2]
theorem GQ (a b:Int):jg [a,b]=some (or0 a b):=by
 unfold jg or0
 rw [qP (by simp)]
 simp only [forR,l6]
 cases ha:a == 0 with
 | false =>
  have:(a != 0)=true:=by simp [bne,ha]
  simp only [this,cond_true,cond_false,Option.bind_some,thenC]
 | true =>
  have:(a != 0)=false:=by simp [bne,ha]
  simp only [this,cond_true,cond_false,Option.bind_some]
  cases hb:b == 0 with
  | false =>
   have:(b != 0)=true:=by simp [bne,hb]
   simp only [this,cond_true,Option.bind_some,thenC]
  | true =>
   have:(b != 0)=false:=by simp [bne,hb]
   simp only [this,cond_false,Option.bind_some,thenC]
   rw [eq_of_beq hb]
theorem inR_ok {α:Type} {i:Int} {xs:List α} (h0:0≤i) (h1:i < xs.length):inR i xs=some ():=by unfold inR; rw [if_pos ⟨h0,by omega⟩]
end Go.Proofs.YtjhcehhmdmbleaaGreatDoor.Law

open Go Go.Eng
namespace Go.Proofs.YtjhcehhmdmbleaaGreatDoor.Law
set_option linter.unusedVariables false
set_option linter.unusedSimpArgs false
theorem or3_eq (a b c:Int):jg [a,b,c]=some (or0 a (or0 b c)):=by
 unfold jg or0
 rw [qP (by simp)]
 simp only [forR,l6]
 cases ha:a == 0 with
 | false =>
  have:(a != 0)=true:=by simp [bne,ha]
  simp only [this,cond_true,cond_false,Option.bind_some,thenC]
 | true =>
  have:(a != 0)=false:=by simp [bne,ha]
  simp only [this,cond_true,cond_false,Option.bind_some]
  cases hb:b == 0 with
  | false =>
   have:(b != 0)=true:=by simp [bne,hb]
   simp only [this,cond_true,cond_false,Option.bind_some,thenC]
  | true =>
   have:(b != 0)=false:=by simp [bne,hb]
   simp only [this,cond_true,cond_false,Option.bind_some]
   cases hc:c == 0 with
   | false =>
    have:(c != 0)=true:=by simp [bne,hc]
    simp only [this,cond_true,Option.bind_some,thenC]
   | true =>
    have:(c != 0)=false:=by simp [bne,hc]
    simp only [this,cond_false,Option.bind_some,thenC]
    rw [eq_of_beq hc]
theorem Hm {a b:ByteArray} (h:lt a b):vX a b = -1:=by
 rcases rH a b with⟨_,e⟩ | ⟨e,_⟩ | ⟨e,_⟩
 ·exact e
 ·rw [e]at h; exact absurd h (iU _)
 ·exact absurd (lt_trans h e) (iU _)
theorem Ji (a:ByteArray):vX a a=0:=by
 rcases rH a a with⟨e,_⟩ | ⟨_,e⟩ | ⟨e,_⟩
 ·exact absurd e (iU _)
 ·exact e
 ·exact absurd e (iU _)
theorem Hq {a b:Int}:or0 a b < 0↔a < 0∨a=0∧b < 0:=by
 unfold or0
 by_cases h:a=0
 ·subst h; simp
 ·have:(a == 0)=false:=by simpa using h
  rw [this,cond_false]; omega
theorem Kv {a b:Int}:Gy a b < 0↔a < b:=by
 unfold Gy
 split
 ·omega
 ·split <;> omega
theorem Jt {a b:Int}:Gy a b=0↔a=b:=by
 unfold Gy
 split
 ·omega
 ·split <;> omega
theorem Ad {a b:ByteArray}:vX a b < 0↔lt a b:=by
 rcases rH a b with⟨h,e⟩ | ⟨h,e⟩ | ⟨h,e⟩
 ·rw [e]; exact⟨fun _=>h,fun _=>by decide⟩
 ·rw [e,h]; exact⟨fun k=>absurd k (by decide),fun k=>absurd k (iU _)⟩
 ·rw [e]; exact⟨fun k=>absurd k (by decide),fun k=>absurd (lt_trans k h) (iU _)⟩
theorem Jm {a b:ByteArray}:vX a b=0↔a=b:=by
 rcases rH a b with⟨h,e⟩ | ⟨h,e⟩ | ⟨h,e⟩
 ·rw [e]; exact⟨fun k=>absurd k (by decide),fun k=>by rw [k]at h; exact absurd h (iU _)⟩
 ·rw [e]; exact⟨fun _=>h,fun _=>rfl⟩
 ·rw [e]; exact⟨fun k=>absurd k (by decide),fun k=>by rw [k]at h; exact absurd h (iU _)⟩
end Go.Proofs.YtjhcehhmdmbleaaGreatDoor.Law

open Go Go.Eng
namespace Go.Proofs.YtjhcehhmdmbleaaGreatDoor.Law
set_option linter.unusedVariables false
set_option linter.unusedSimpArgs false
theorem sort12 {α:Type} {cmp:α→α→Option Int} (c:α→α→Int) {S:List α→Option (List α)} (hS:∀ x,S x=(iA (IntKind.u64.wrap (x.length:Int))).bind fun r_3=>(Gj cmp x 0 (x.length:Int) r_3).bind fun r_5=>(kJ r_5 x).bind fun _=>some r_5)
  {xs:List α} (hl:xs.length≤12) (hF:∀ a∈xs,∀ b∈xs,cmp a b=some (c a b)) (has:∀ a b,c a b < 0 → ¬ c b a < 0) (hn:∀ a b d,¬ c a b < 0 → ¬ c b d < 0 → ¬ c a d < 0) :
  ∃ r,S xs=some r∧r.Perm xs∧r.Pairwise (fun a b => ¬ c b a < 0):=by
 obtain ⟨k,hk⟩:=len_ok xs.length hl
 obtain ⟨s,h1,h2,h3⟩:=pdq_ok (cmp:=cmp) (le:=fun a b => ¬ c b a < 0) (p:=(· ∈ xs)) (fun a b ha hb=>⟨c a b,hF a ha b hb,fun h=>has a b h,fun h=>h⟩) (fun a b d h k=>hn d b a k h) xs hl (fun x hx=>hx) k
 refine⟨s,?_,h2,h3⟩
 have hsm:kJ s xs=some ():=by unfold kJ; rw [if_pos h2.length_eq]
 rw [hS,hk,Option.bind_some,h1,Option.bind_some,hsm]; rfl
end Go.Proofs.YtjhcehhmdmbleaaGreatDoor.Law

open Go Go.Eng
namespace Go.Proofs.YtjhcehhmdmbleaaGreatDoor.Law
set_option linter.unusedVariables false
set_option linter.unusedSimpArgs false
theorem HV {α σ ρ:Type} {body:Nat→α→σ→Option (Ctl σ ρ)} (I:Nat→σ→Prop) (xs:List α):∀ (l:List α) (k:Nat) (s:σ),xs.drop k=l→k≤xs.length→(∀ k x s,xs[k]? = some x→I k s → ∃ s',body k x s=some (.go s')∧I (k + 1) s')→I k s → ∃ s',forR body l k s=some (.go s')∧I xs.length s'
 | [],k,s,hd,hk,h,hi=>by
  have:=List.drop_eq_nil_iff.1 hd
  obtain rfl:k=xs.length:=by omega
  exact⟨s,rfl,hi⟩
 | x::l,k,s,hd,hk,h,hi=>by
  obtain ⟨s1,h1,h2⟩:=h k x s (Lr hd) hi
  obtain ⟨s2,h3,h4⟩:=HV I xs l (k + 1) s1 (aR hd) (by have:=zV hd; omega) h h2
  exact⟨s2,by rw [forR,h1,Option.bind_some]; exact h3,h4⟩
theorem gL {α σ ρ:Type} {body:Nat→α→σ→Option (Ctl σ ρ)} (I:Nat→σ→Prop) {xs:List α} {s:σ} (hl:xs.length≤1000000000000) (h:∀ k x s,xs[k]? = some x→I k s → ∃ s',body k x s=some (.go s')∧I (k + 1) s') (h0:I 0 s):∃ s',forL xs s body=some (.go s')∧I xs.length s':=by
 rw [qP hl]
 exact HV I xs xs 0 s rfl (Nat.zero_le _) h h0
theorem J3 {α β:Type} {f:α→β} {ks:List β} {k:Nat} {x:β} {l:List α} (hx:ks[k]? = some x) (h:(l.map f).Sublist (ks.take k)):(l.map f).Sublist (ks.take (k + 1)) ∧ ∀ c,f c=x→((l ++ [c]).map f).Sublist (ks.take (k + 1)):=by
 have e:ks.take (k + 1)=ks.take k ++ [x]:=by
  rw [List.take_add_one,hx]; rfl
 rw [e]
 refine⟨h.trans (List.sublist_append_left _ _),fun c hc => ?_⟩
 rw [List.map_append]
 refine h.append ?_
 rw [List.map_cons,hc]
 exact List.Sublist.refl _
theorem fQ {a b:ByteArray} (h:sLt a b=true):lt a b:=(zM a b).1 h
end Go.Proofs.YtjhcehhmdmbleaaGreatDoor.Law

open Go Go.Eng
namespace Go.Proofs.YtjhcehhmdmbleaaGreatDoor.Law
set_option linter.unusedVariables false
set_option linter.unusedSimpArgs false
structure Band where
 a:Int
 b:Int
 row:List Run
end Go.Proofs.YtjhcehhmdmbleaaGreatDoor.Law

open Go Go.Eng
namespace Go.Proofs.YtjhcehhmdmbleaaGreatDoor.Law
set_option linter.unusedVariables false
set_option linter.unusedSimpArgs false
end Go.Proofs.YtjhcehhmdmbleaaGreatDoor.Law

open Go Go.Eng
namespace Go.Proofs.YtjhcehhmdmbleaaGreatDoor.Law
set_option linter.unusedVariables false
set_option linter.unusedSimpArgs false
end Go.Proofs.YtjhcehhmdmbleaaGreatDoor.Law

open Go Go.Eng
namespace Go.Proofs.YtjhcehhmdmbleaaGreatDoor.Law
set_option linter.unusedVariables false
set_option linter.unusedSimpArgs false
end Go.Proofs.YtjhcehhmdmbleaaGreatDoor.Law

open Go Go.Eng
namespace Go.Proofs.YtjhcehhmdmbleaaGreatDoor.Law
set_option linter.unusedVariables false
set_option linter.unusedSimpArgs false
def Fits (Rw:Int→List Run) (ys:List Int):Prop :=
 ys.Pairwise (· < ·)∧(∀ y∈ys,-200000 < y)∧(∀ (j:Nat) (a b:Int),ys[j]? = some a→ys[j + 1]? = some b → ∀ y,a≤y→y < b→Rw y=Rw a)∧(∀ y,(∀ a∈ys,a≤y)→Rw y = [])∧(∀ y,(∀ a∈ys,y < a)→Rw y = [])
end Go.Proofs.YtjhcehhmdmbleaaGreatDoor.Law

open Go Go.Eng
namespace Go.Proofs.YtjhcehhmdmbleaaGreatDoor.Law
set_option linter.unusedVariables false
set_option linter.unusedSimpArgs false
end Go.Proofs.YtjhcehhmdmbleaaGreatDoor.Law

open Go Go.Eng
namespace Go.Proofs.YtjhcehhmdmbleaaGreatDoor.Law
set_option linter.unusedVariables false
set_option linter.unusedSimpArgs false
end Go.Proofs.YtjhcehhmdmbleaaGreatDoor.Law

open Go Go.Eng
namespace Go.Proofs.YtjhcehhmdmbleaaGreatDoor.Law
set_option linter.unusedVariables false
set_option linter.unusedSimpArgs false
theorem JA {r:Rect} (h:Fine r):badR r=false:=by
 unfold Fine at h
 unfold badR
 rw [gN (n:=100000 - r.X) (by omega),gN (n:=100000 - r.Y) (by omega),jQ (by omega),jQ (by omega),jQ (by omega),jQ (by omega)]; rfl
end Go.Proofs.YtjhcehhmdmbleaaGreatDoor.Law

open Go Go.Eng
namespace Go.Proofs.YtjhcehhmdmbleaaGreatDoor.Law
set_option linter.unusedVariables false
set_option linter.unusedSimpArgs false
end Go.Proofs.YtjhcehhmdmbleaaGreatDoor.Law

open Go Go.Eng
namespace Go.Proofs.YtjhcehhmdmbleaaGreatDoor.Law
set_option linter.unusedVariables false
set_option linter.unusedSimpArgs false
end Go.Proofs.YtjhcehhmdmbleaaGreatDoor.Law

