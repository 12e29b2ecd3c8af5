/-
  THE PLAIN LAW (part 2).
-/
import Derived.Test.YtjhcehhmdmbleaaGreatDoorPl1
open Go Go.Eng
namespace Go.Proofs.YtjhcehhmdmbleaaGreatDoor.Law
set_option linter.unusedVariables false
set_option linter.unusedSimpArgs false
theorem IK {r:Rect} (h:AU r=false):Fine r:=by
 unfold AU at h
 simp only [Bool.or_eq_false_iff]at h
 obtain ⟨⟨⟨h1,h2⟩,h3⟩,h4⟩:=h
 have h1:=vO h1
 have h2:=vO h2
 rw [dw (by omega)]at h3 h4
 have h3:=vO h3
 have h4:=vO h4
 exact⟨by omega,by omega,by omega,by omega,by omega⟩
def tC (x y:Int) (r:Rect):Bool:=(decide (r.X≤x) && decide (x < r.X + r.W)) && (decide (r.Y≤y) && decide (y < r.Y + r.H))
def hasB (l:List Rect) (x y:Int):Bool:=l.any (tC x y)
theorem JK (l:List Rect) (x y:Int):hasB l x y=true↔oM l x y:=by
 unfold hasB oM
 rw [List.any_eq_true]
 simp only [tC,Bool.and_eq_true,decide_eq_true_eq]
end Go.Proofs.YtjhcehhmdmbleaaGreatDoor.Law

open Go Go.Eng
namespace Go.Proofs.YtjhcehhmdmbleaaGreatDoor.Law
set_option linter.unusedVariables false
set_option linter.unusedSimpArgs false
def pF (e:Int):Ctl Unit Int:=bif e == 0 then .go ()else .ret e
theorem IU (e:Int):thenC (pF e) (fun _=>some (0:Int)) (fun r=>some r)=some e:=by
 unfold pF
 cases h:e == 0 with
 | true=>simp only [cond_true,Eh]; rw [eq_of_beq h]
 | false=>rfl
theorem Fb {α:Type} {l:List α} {k:Nat} {x:α} (h:l[k]? = some x) (hk:0 < k) (hl:l.length≤1000000000):∃ y,idx l (w64 ((k:Int) - 1))=some y∧l[k - 1]? = some y:=by
 have hlt:k < l.length:=(List.getElem?_eq_some_iff.1 h).1
 rw [dw (by omega),show (k:Int) - 1=((k - 1:Nat):Int) by omega,qQ]
 exact⟨l[k - 1],List.getElem?_eq_getElem (by omega),List.getElem?_eq_getElem (by omega)⟩
end Go.Proofs.YtjhcehhmdmbleaaGreatDoor.Law

open Go Go.Eng
namespace Go.Proofs.YtjhcehhmdmbleaaGreatDoor.Law
set_option linter.unusedVariables false
set_option linter.unusedSimpArgs false
def yA (n:Int):Bool := !iK n 0 345686399999
theorem E5 (n:Int):kW n=some (yA n):=by
 unfold kW yA iK
 have e1:decide (n≥0) = !decide (n < 0):=by rw [Bool.eq_iff_iff]; simp
 have e2:decide (n < 345686400000) = !decide (n > 345686399999):=by rw [Bool.eq_iff_iff]; simp; omega
 rw [e1,e2]
 cases decide (n < 0) <;> cases decide (n > 345686399999) <;> rfl
def or0 (a b:Int):Int:=bif a == 0 then b else a
theorem Iu (a b:ByteArray):(lt a b∧xX a b = -1)∨(a=b∧xX a b=0)∨(lt b a∧xX a b=1):=by
 have key:∀ (x y:List UInt8),(x < y∧Lib.compareBytes x y = -1)∨(x=y∧Lib.compareBytes x y=0)∨(y < x∧Lib.compareBytes x y=1):=by
  intro x
  induction x with
  | nil=>intro y; cases y with
   | nil=>exact .inr (.inl ⟨rfl,rfl⟩)
   | cons b y=>exact .inl ⟨by simp,rfl⟩
  | cons a x ih=>intro y; cases y with
   | nil=>exact .inr (.inr ⟨by simp,rfl⟩)
   | cons b y =>
    simp only [Lib.compareBytes,List.cons_lt_cons_iff,List.cons.injEq]
    by_cases h1:a < b
    ·exact .inl ⟨.inl h1,by rw [if_pos h1]⟩
    ·by_cases h2:b < a
     ·exact .inr (.inr ⟨.inl h2,by rw [if_neg h1,if_pos h2]⟩)
     ·have e:a=b:=UInt8.le_antisymm (UInt8.not_lt.1 h2) (UInt8.not_lt.1 h1)
      subst e
      rw [if_neg h1,if_neg h1]
      rcases ih y with⟨h,k⟩ | ⟨h,k⟩ | ⟨h,k⟩
      ·exact .inl ⟨.inr ⟨rfl,h⟩,k⟩
      ·exact .inr (.inl ⟨⟨rfl,h⟩,k⟩)
      ·exact .inr (.inr ⟨.inr ⟨rfl,h⟩,k⟩)
 unfold xX lt
 rw [toL,toL]
 rcases key a.data.toList b.data.toList with⟨h,k⟩ | ⟨h,k⟩ | ⟨h,k⟩
 ·exact .inl ⟨h,k⟩
 ·exact .inr (.inl ⟨yV (by rw [toL,toL]; exact h),k⟩)
 ·exact .inr (.inr ⟨h,k⟩)
theorem qL (a b:ByteArray):strings_Compare a b=some (xX a b):=rfl
def lI (a b:Int):Int:=if a < b then -1 else if a > b then 1 else 0
theorem uj (a b:Int):cmp_Compare_int a b=some (lI a b):=by
 have e:∀ x:Int,(x != x)=false:=by simp
 unfold cmp_Compare_int cmp_isNaN_int lI
 simp only [e,Option.bind_some,cond_false]
 by_cases h:a < b
 ·simp only [decide_eq_true h,cond_true,if_pos h]
 ·by_cases h2:a > b
  ·simp only [decide_eq_false h,decide_eq_true h2,cond_true,cond_false,if_neg h,if_pos h2]
  ·simp only [decide_eq_false h,decide_eq_false h2,cond_false,if_neg h,if_neg h2]
theorem or2_eq (a b:Int):kN [a,b]=some (or0 a b):=by
 unfold kN or0
 rw [iJ (by simp)]
 simp only [forR,lK]
 cases ha:a == 0 with
 | false =>
  have:(a != 0)=true:=by simp [bne,ha]
  simp only [this,cond_true,cond_false,Option.bind_some,thenC]
 | true =>
  have:(a != 0)=false:=by simp [bne,ha]
  simp only [this,cond_true,cond_false,Option.bind_some]
  cases hb:b == 0 with
  | false =>
   have:(b != 0)=true:=by simp [bne,hb]
   simp only [this,cond_true,Option.bind_some,thenC]
  | true =>
   have:(b != 0)=false:=by simp [bne,hb]
   simp only [this,cond_false,Option.bind_some,thenC]
   rw [eq_of_beq hb]
theorem Cg {α:Type} {i:Int} {xs:List α} (h0:0≤i) (h1:i < xs.length):inR i xs=some ():=by unfold inR; rw [if_pos ⟨h0,by omega⟩]
end Go.Proofs.YtjhcehhmdmbleaaGreatDoor.Law

open Go Go.Eng
namespace Go.Proofs.YtjhcehhmdmbleaaGreatDoor.Law
set_option linter.unusedVariables false
set_option linter.unusedSimpArgs false
theorem or3_eq (a b c:Int):kN [a,b,c]=some (or0 a (or0 b c)):=by
 unfold kN or0
 rw [iJ (by simp)]
 simp only [forR,lK]
 cases ha:a == 0 with
 | false =>
  have:(a != 0)=true:=by simp [bne,ha]
  simp only [this,cond_true,cond_false,Option.bind_some,thenC]
 | true =>
  have:(a != 0)=false:=by simp [bne,ha]
  simp only [this,cond_true,cond_false,Option.bind_some]
  cases hb:b == 0 with
  | false =>
   have:(b != 0)=true:=by simp [bne,hb]
   simp only [this,cond_true,cond_false,Option.bind_some,thenC]
  | true =>
   have:(b != 0)=false:=by simp [bne,hb]
   simp only [this,cond_true,cond_false,Option.bind_some]
   cases hc:c == 0 with
   | false =>
    have:(c != 0)=true:=by simp [bne,hc]
    simp only [this,cond_true,Option.bind_some,thenC]
   | true =>
    have:(c != 0)=false:=by simp [bne,hc]
    simp only [this,cond_false,Option.bind_some,thenC]
    rw [eq_of_beq hc]
theorem uA {a b:Int}:or0 a b < 0↔a < 0∨a=0∧b < 0:=by
 unfold or0
 by_cases h:a=0
 ·subst h; simp
 ·have:(a == 0)=false:=by simpa using h
  rw [this,cond_false]; omega
theorem zy {a b:Int}:or0 a b=0↔a=0∧b=0:=by
 unfold or0
 by_cases h:a=0
 ·subst h; simp
 ·have:(a == 0)=false:=by simpa using h
  rw [this,cond_false]; omega
theorem zZ {a b:Int}:lI a b < 0↔a < b:=by
 unfold lI
 split
 ·omega
 ·split <;> omega
theorem xn {a b:Int}:lI a b=0↔a=b:=by
 unfold lI
 split
 ·omega
 ·split <;> omega
theorem zo {a b:ByteArray}:xX a b < 0↔lt a b:=by
 rcases Iu a b with⟨h,e⟩ | ⟨h,e⟩ | ⟨h,e⟩
 ·rw [e]; exact⟨fun _=>h,fun _=>by decide⟩
 ·rw [e,h]; exact⟨fun k=>absurd k (by decide),fun k=>absurd k (tu _)⟩
 ·rw [e]; exact⟨fun k=>absurd k (by decide),fun k=>absurd (lt_trans k h) (tu _)⟩
theorem lt_ntr {a b c:ByteArray} (h:¬ lt a b) (k:¬ lt b c):¬ lt a c:=fun q=>by
 rcases xg a b with e | e | e
 ·exact h e
 ·rw [e]at q; exact k q
 ·exact k (lt_trans e q)
end Go.Proofs.YtjhcehhmdmbleaaGreatDoor.Law

open Go Go.Eng
namespace Go.Proofs.YtjhcehhmdmbleaaGreatDoor.Law
set_option linter.unusedVariables false
set_option linter.unusedSimpArgs false
theorem FN {α:Type} {cmp:α→α→Option Int} (c:α→α→Int) {S:List α→Option (List α)} (hS:∀ x,S x=(ik (IntKind.u64.wrap (x.length:Int))).bind fun r_3=>(Gj cmp x 0 (x.length:Int) r_3).bind fun r_5=>(iP r_5 x).bind fun _=>some r_5)
  {xs:List α} (hl:xs.length≤12) (hF:∀ a∈xs,∀ b∈xs,cmp a b=some (c a b)) (has:∀ a b,c a b < 0 → ¬ c b a < 0) (hn:∀ a b d,¬ c a b < 0 → ¬ c b d < 0 → ¬ c a d < 0) :
  ∃ r,S xs=some r∧r.Perm xs∧r.Pairwise (fun a b => ¬ c b a < 0):=by
 obtain ⟨k,hk⟩:=len_ok xs.length hl
 obtain ⟨s,h1,h2,h3⟩:=pdq_ok (cmp:=cmp) (le:=fun a b => ¬ c b a < 0) (p:=(· ∈ xs)) (fun a b ha hb=>⟨c a b,hF a ha b hb,fun h=>has a b h,fun h=>h⟩) (fun a b d h k=>hn d b a k h) xs hl (fun x hx=>hx) k
 refine⟨s,?_,h2,h3⟩
 have hsm:iP s xs=some ():=by unfold iP; rw [if_pos h2.length_eq]
 rw [hS,hk,Option.bind_some,h1,Option.bind_some,hsm]; rfl
end Go.Proofs.YtjhcehhmdmbleaaGreatDoor.Law

open Go Go.Eng
namespace Go.Proofs.YtjhcehhmdmbleaaGreatDoor.Law
set_option linter.unusedVariables false
set_option linter.unusedSimpArgs false
theorem H7 {α σ ρ:Type} {body:Nat→α→σ→Option (Ctl σ ρ)} (I:Nat→σ→Prop) (xs:List α):∀ (l:List α) (k:Nat) (s:σ),xs.drop k=l→k≤xs.length→(∀ k x s,xs[k]? = some x→I k s → ∃ s',body k x s=some (.go s')∧I (k + 1) s')→I k s → ∃ s',forR body l k s=some (.go s')∧I xs.length s'
 | [],k,s,hd,hk,h,hi=>by
  have:=List.drop_eq_nil_iff.1 hd
  obtain rfl:k=xs.length:=by omega
  exact⟨s,rfl,hi⟩
 | x::l,k,s,hd,hk,h,hi=>by
  obtain ⟨s1,h1,h2⟩:=h k x s (y5 hd) hi
  obtain ⟨s2,h3,h4⟩:=H7 I xs l (k + 1) s1 (aR hd) (by have:=yM hd; omega) h h2
  exact⟨s2,by rw [forR,h1,Option.bind_some]; exact h3,h4⟩
theorem kV {α σ ρ:Type} {body:Nat→α→σ→Option (Ctl σ ρ)} (I:Nat→σ→Prop) {xs:List α} {s:σ} (hl:xs.length≤1000000000000) (h:∀ k x s,xs[k]? = some x→I k s → ∃ s',body k x s=some (.go s')∧I (k + 1) s') (h0:I 0 s):∃ s',forL xs s body=some (.go s')∧I xs.length s':=by
 rw [iJ hl]
 exact H7 I xs xs 0 s rfl (Nat.zero_le _) h h0
theorem KN {α β:Type} {f:α→β} {ks:List β} {k:Nat} {x:β} {l:List α} (hx:ks[k]? = some x) (h:(l.map f).Sublist (ks.take k)):(l.map f).Sublist (ks.take (k + 1)) ∧ ∀ c,f c=x→((l ++ [c]).map f).Sublist (ks.take (k + 1)):=by
 have e:ks.take (k + 1)=ks.take k ++ [x]:=by
  rw [List.take_add_one,hx]; rfl
 rw [e]
 refine⟨h.trans (List.sublist_append_left _ _),fun c hc => ?_⟩
 rw [List.map_append]
 refine h.append ?_
 rw [List.map_cons,hc]
 exact List.Sublist.refl _
theorem lS {a b:ByteArray} (h:sLt a b=true):lt a b:=(yO a b).1 h
end Go.Proofs.YtjhcehhmdmbleaaGreatDoor.Law

open Go Go.Eng
namespace Go.Proofs.YtjhcehhmdmbleaaGreatDoor.Law
set_option linter.unusedVariables false
set_option linter.unusedSimpArgs false
structure Band where
 a:Int
 b:Int
 row:List Run
def Dw (e:Int) (row:List Run):List Band→Prop
 | []=>True
 | q::_=>q.a=e→q.row≠row
def nQ:Int→List Band→Prop
 | _,[]=>True
 | lo,p::l=>lo≤p.a∧p.a < p.b∧p.row ≠ []∧Dw p.b p.row l∧nQ p.b l
def rowAt:List Band→Int→List Run
 | [],_ => []
 | p::l,y=>bif decide (p.a≤y) && decide (y < p.b)then p.row else rowAt l y
theorem kX:∀ {l:List Band} {lo y:Int},nQ lo l→y < lo→rowAt l y = []
 | [],_,_,_,_=>rfl
 | p::l,lo,y,⟨h1,h2,h3,h4,h5⟩,h=>by
  have e1:decide (p.a≤y)=false:=by simp; omega
  rw [rowAt,e1,Bool.false_and,cond_false]
  exact kX h5 (by omega)
theorem jR {p:Band} {l:List Band} {y:Int} (h1:p.a≤y) (h2:y < p.b):rowAt (p::l) y=p.row:=by
 rw [rowAt,decide_eq_true h1,decide_eq_true h2]; rfl
theorem jm {p:Band} {l:List Band} {y:Int} (h:y < p.a∨p.b≤y):rowAt (p::l) y=rowAt l y:=by
 rw [rowAt]
 have:(decide (p.a≤y) && decide (y < p.b))=false:=by
  rw [Bool.and_eq_false_iff]
  rcases h with h | h
  ·left; simp; omega
  ·right; simp; omega
 rw [this]; rfl
theorem BD {p:Band} {l:List Band} (h:Dw p.b p.row l) (hc:nQ p.b l) (hne:p.row ≠ []):rowAt l p.b≠p.row:=by
 cases l with
 | nil=>exact fun e=>hne e.symm
 | cons q l =>
  obtain ⟨h1,h2,h3,h4,h5⟩:=hc
  by_cases e:q.a=p.b
  ·rw [jR (by omega) (by omega)]; exact h e
  ·rw [jm (.inl (by omega)),kX h5 (by omega)]
   exact fun e=>hne e.symm
theorem G6:∀ {l m:List Band} {lo lo':Int},nQ lo l→nQ lo' m→(∀ y,rowAt l y=rowAt m y)→l=m
 | [],[],_,_,_,_,_=>rfl
 | [],q::m,_,_,_,⟨h1,h2,h3,h4,h5⟩,h=>by
  have:=h q.a
  rw [jR (Int.le_refl _) h2]at this
  exact absurd this.symm h3
 | p::l,[],_,_,⟨h1,h2,h3,h4,h5⟩,_,h=>by
  have:=h p.a
  rw [jR (Int.le_refl _) h2]at this
  exact absurd this h3
 | p::l,q::m,lo,lo',⟨a1,a2,a3,a4,a5⟩,⟨b1,b2,b3,b4,b5⟩,h=>by
  have e1:p.a=q.a:=by
   rcases Int.lt_trichotomy p.a q.a with k | k | k
   ·exfalso
    have:=h p.a
    rw [jR (Int.le_refl _) a2,jm (.inl k),kX b5 (by omega)]at this
    exact a3 this
   ·exact k
   ·exfalso
    have:=h q.a
    rw [jR (Int.le_refl _) b2,jm (.inl k),kX a5 (by omega)]at this
    exact b3 this.symm
  have e2:p.row=q.row:=by
   have:=h p.a
   rw [jR (Int.le_refl _) a2,jR (by omega) (by omega)]at this
   exact this
  have e3:p.b=q.b:=by
   rcases Int.lt_trichotomy p.b q.b with k | k | k
   ·exfalso
    have:=h p.b
    rw [jm (.inr (Int.le_refl _)),jR (by omega) k,← e2]at this
    exact BD a4 a5 a3 this
   ·exact k
   ·exfalso
    have:=h q.b
    rw [jR (by omega) k,jm (.inr (Int.le_refl _)),e2]at this
    exact BD b4 b5 b3 this.symm
  have e4:l=m:=G6 a5 b5 (fun y=>by
   rcases Int.lt_or_le y p.b with k | k
   ·rw [kX a5 k,kX b5 (by omega)]
   ·have:=h y
    rw [jm (.inr k),jm (.inr (by omega))]at this
    exact this)
  obtain ⟨pa,pb,pr⟩:=p
  obtain ⟨qa,qb,qr⟩:=q
  simp only at e1 e2 e3
  rw [e1,e2,e3,e4]
end Go.Proofs.YtjhcehhmdmbleaaGreatDoor.Law

open Go Go.Eng
namespace Go.Proofs.YtjhcehhmdmbleaaGreatDoor.Law
set_option linter.unusedVariables false
set_option linter.unusedSimpArgs false
end Go.Proofs.YtjhcehhmdmbleaaGreatDoor.Law

open Go Go.Eng
namespace Go.Proofs.YtjhcehhmdmbleaaGreatDoor.Law
set_option linter.unusedVariables false
set_option linter.unusedSimpArgs false
def rO (l:List Band):List Rect:=l.flatMap fun b=>b.row.map (Cy b.a (b.b - b.a))
end Go.Proofs.YtjhcehhmdmbleaaGreatDoor.Law

open Go Go.Eng
namespace Go.Proofs.YtjhcehhmdmbleaaGreatDoor.Law
set_option linter.unusedVariables false
set_option linter.unusedSimpArgs false
end Go.Proofs.YtjhcehhmdmbleaaGreatDoor.Law

open Go Go.Eng
namespace Go.Proofs.YtjhcehhmdmbleaaGreatDoor.Law
set_option linter.unusedVariables false
set_option linter.unusedSimpArgs false
def Fits (Rw:Int→List Run) (ys:List Int):Prop :=
 ys.Pairwise (· < ·)∧(∀ y∈ys,-200000 < y)∧(∀ (j:Nat) (a b:Int),ys[j]? = some a→ys[j + 1]? = some b → ∀ y,a≤y→y < b→Rw y=Rw a)∧(∀ y,(∀ a∈ys,a≤y)→Rw y = [])∧(∀ y,(∀ a∈ys,y < a)→Rw y = [])
end Go.Proofs.YtjhcehhmdmbleaaGreatDoor.Law

open Go Go.Eng
namespace Go.Proofs.YtjhcehhmdmbleaaGreatDoor.Law
set_option linter.unusedVariables false
set_option linter.unusedSimpArgs false
def nS (f:Int→Int) (lo:Int):Nat→Int
 | 0=>0
 | n + 1=>nS f lo n + f (lo + n)
theorem lT {f g:Int→Int} {lo:Int}:∀ {n:Nat},(∀ x,f x=g x)→nS f lo n=nS g lo n
 | 0,_=>rfl
 | n + 1,h=>by rw [nS,nS,lT (n:=n) h,h]
theorem Ah (f g:Int→Int) (lo:Int):∀ n:Nat,nS (fun x=>f x + g x) lo n=nS f lo n + nS g lo n
 | 0=>rfl
 | n + 1=>by rw [nS,nS,nS,Ah f g lo n]; omega
theorem xu (lo:Int):∀ n:Nat,nS (fun _=>0) lo n=0
 | 0=>rfl
 | n + 1=>by rw [nS,xu lo n]; rfl
theorem zu (c:Int) (f:Int→Int) (lo:Int):∀ n:Nat,nS (fun x=>c * f x) lo n=c * nS f lo n
 | 0=>by simp [nS]
 | n + 1=>by rw [nS,nS,zu c f lo n,Int.mul_add]
def b01 (b:Bool):Int:=bif b then 1 else 0
theorem Hz (a b:Bool):b01 (a && b)=b01 b * b01 a:=by cases a <;> cases b <;> rfl
theorem zt {lo a b:Int} (h1:lo≤a) (h2:a≤b):∀ n:Nat,nS (fun x=>b01 (decide (a≤x) && decide (x < b))) lo n=min b (lo + n) - min a (lo + n)
 | 0=>by simp only [nS]; omega
 | n + 1=>by
  rw [nS,zt h1 h2 n]
  by_cases k1:a≤lo + (n:Int)
  ·by_cases k2:lo + (n:Int) < b
   ·rw [decide_eq_true k1,decide_eq_true k2]; show _ + 1=_; omega
   ·rw [decide_eq_true k1,decide_eq_false k2]; show _ + 0=_; omega
  ·rw [decide_eq_false k1]; show _ + 0=_; omega
def SS (lo:Int) (n:Nat) (f:Int→Int→Int):Int:=nS (fun y=>nS (fun x=>f x y) lo n) lo n
theorem JO {lo:Int} {n:Nat} {f g:Int→Int→Int} (h:∀ x y,f x y=g x y):SS lo n f=SS lo n g:=lT (fun y=>lT (fun x=>h x y))
theorem SS_add (lo:Int) (n:Nat) (f g:Int→Int→Int):SS lo n (fun x y=>f x y + g x y)=SS lo n f + SS lo n g:=by
 unfold SS
 rw [← Ah]
 exact lT (fun y=>Ah _ _ _ _)
theorem SS_zero (lo:Int) (n:Nat):SS lo n (fun _ _=>0)=0:=by
 unfold SS
 rw [lT (g:=fun _=>0) (fun y=>xu lo n),xu]
def kS {α:Type} (f:α→Int):List α→Int
 | []=>0
 | x::l=>f x + kS f l
theorem EW {α:Type} (f:α→Int):∀ l m:List α,kS f (l++m)=kS f l + kS f m
 | [],m=>by simp [kS]
 | x::l,m=>by rw [List.cons_append,kS,kS,EW f l m]; omega
theorem vW {α:Type} {f g:α→Int}:∀ {l:List α},(∀ x∈l,f x=g x)→kS f l=kS g l
 | [],_=>rfl
 | x::l,h=>by rw [kS,kS,h x (by simp),vW (l:=l) (fun y hy=>h y (by simp [hy]))]
theorem Fv {α β:Type} (f:β→Int) (g:α→β):∀ l:List α,kS f (l.map g)=kS (fun x=>f (g x)) l
 | []=>rfl
 | x::l=>by rw [List.map_cons,kS,kS,Fv f g l]
theorem Ff {α:Type} (c:Int) (f:α→Int):∀ l:List α,kS (fun x=>c * f x) l=c * kS f l
 | []=>by simp [kS]
 | x::l=>by rw [kS,kS,Ff c f l,Int.mul_add]
theorem G7 {α:Type} (lo:Int) (n:Nat) (g:α→Int→Int→Int):∀ l:List α,kS (fun r=>SS lo n (g r)) l=SS lo n (fun x y=>kS (fun r=>g r x y) l)
 | []=>(SS_zero lo n).symm
 | r::l=>by
  rw [kS,G7 lo n g l,← SS_add]; rfl
def ind (r:Rect) (x y:Int):Int:=b01 (tC x y r)
theorem Jm {lo:Int} {n:Nat} {r:Rect} (h1:lo≤r.X∧r.X + r.W≤lo + n) (h2:lo≤r.Y∧r.Y + r.H≤lo + n) (h3:0≤r.W) (h4:0≤r.H):SS lo n (ind r)=r.W * r.H:=by
 have e1:nS (fun x=>b01 (decide (r.X≤x) && decide (x < r.X + r.W))) lo n=r.W:=by rw [zt h1.1 (by omega)]; omega
 have e2:nS (fun y=>b01 (decide (r.Y≤y) && decide (y < r.Y + r.H))) lo n=r.H:=by rw [zt h2.1 (by omega)]; omega
 unfold SS ind tC
 rw [lT (g:=fun y=>r.W * b01 (decide (r.Y≤y) && decide (y < r.Y + r.H))) (fun y=>by
  rw [lT (g:=fun x=>b01 (decide (r.Y≤y) && decide (y < r.Y + r.H)) * b01 (decide (r.X≤x) && decide (x < r.X + r.W))) (fun x=>Hz _ _),zu,e1,Int.mul_comm]),zu,e2]
def KZ (l:List Rect):Int:=kS (fun r=>r.W * r.H) l
open Classical in
noncomputable def P01 (p:Prop):Int:=if p then 1 else 0
theorem Hy {p:Prop} (h:p):P01 p=1:=by unfold P01; rw [if_pos h]
theorem yZ {p:Prop} (h:¬ p):P01 p=0:=by unfold P01; rw [if_neg h]
theorem BJ {p q:Prop} (h:p↔q):P01 p=P01 q:=by rw [propext h]
theorem b01_P (b:Bool):b01 b=P01 (b=true):=by
 cases b
 ·rw [yZ (by simp)]; rfl
 ·rw [Hy rfl]; rfl
theorem GR (x:Int):∀ (L:List Run) (lo:Int),fV lo L→kS (fun r=>b01 (decide (r.f_from≤x) && decide (x < r.f_to))) L=P01 (mem x L)
 | [],_,_=>by rw [yZ (wE x)]; rfl
 | r::L,lo,⟨h1,h2,h3⟩=>by
  rw [kS,GR x L _ h3,b01_P]
  simp only [Bool.and_eq_true,decide_eq_true_eq]
  by_cases k:r.f_from≤x∧x < r.f_to
  ·rw [Hy k,yZ (fun m=>by have:=h3.gt m; omega),Hy ((mem_cons _ _ _).2 (.inl k))]; rfl
  ·rw [yZ k,Int.zero_add]
   exact BJ (by rw [mem_cons]; simp [k])
theorem ER (x y:Int):∀ (bs:List Band) (lo:Int),nQ lo bs→(∀ b∈bs,∃ c,fV c b.row)→kS (fun r=>ind r x y) (rO bs)=P01 (mem x (rowAt bs y))
 | [],_,_,_=>by rw [show rowAt [] y = [] from rfl,yZ (wE x)]; rfl
 | p::bs,lo,⟨h1,h2,h3,h4,h5⟩,hc=>by
  have e:rO (p::bs)=p.row.map (Cy p.a (p.b - p.a))++rO bs:=by simp [rO]
  rw [e,EW,Fv,ER x y bs _ h5 (fun b hb=>hc b (by simp [hb]))]
  have e2:∀ r:Run,ind (Cy p.a (p.b - p.a) r) x y=b01 (decide (p.a≤y) && decide (y < p.b)) * b01 (decide (r.f_from≤x) && decide (x < r.f_to)):=fun r=>by
   unfold ind tC Cy
   rw [Hz]
   simp only
   rw [show r.f_from + (r.f_to - r.f_from)=r.f_to by omega,show p.a + (p.b - p.a)=p.b by omega]
  rw [vW (fun r _=>e2 r),Ff]
  obtain ⟨c,hcp⟩:=hc p (by simp)
  rw [GR x p.row c hcp]
  by_cases k1:p.a≤y
  ·by_cases k2:y < p.b
   ·rw [jR k1 k2,kX h5 k2,yZ (wE x),decide_eq_true k1,decide_eq_true k2]
    show 1 * _ + 0=_
    omega
   ·rw [jm (.inr (by omega)),decide_eq_false k2,Bool.and_false]
    show 0 * _ + _=_
    omega
  ·rw [jm (.inl (by omega)),decide_eq_false k1]
   show 0 * _ + _=_
   omega
theorem FP {l m:List Rect} (hfl:∀ r∈l,Fine r) {bs:List Band} (hb:nQ (-200000) bs) (hr:∀ y,fV (-200000) (rowAt bs y)∧(∀ r∈rowAt bs y,Okr r) ∧ ∀ x,mem x (rowAt bs y)↔oM l x y ∧ ¬ oM m x y) :
  (∀ b∈bs,∃ y,b.row=rowAt bs y∧b.a≤y∧y < b.b ∧ -100000≤b.a∧b.b≤100000):=by
 have key:∀ (bs':List Band) (lo:Int),nQ lo bs' → ∀ b∈bs',(∀ y,b.a≤y→y < b.b→rowAt bs' y=b.row)∧b.a < b.b∧b.row ≠ []:=by
  intro bs'
  induction bs' with
  | nil=>intro lo _ b hb; cases hb
  | cons p bs' ih =>
   rintro lo ⟨h1,h2,h3,h4,h5⟩ b hb
   rcases List.mem_cons.1 hb with rfl | hb
   ·exact⟨fun y k1 k2=>jR k1 k2,h2,h3⟩
   ·obtain ⟨i1,i2,i3⟩:=ih _ h5 b hb
    refine⟨fun y k1 k2 => ?_,i2,i3⟩
    have hge:p.b≤y:=by
     rcases Int.lt_or_le y p.b with k | k
     ·have e:=i1 y k1 k2
      rw [kX h5 k]at e
      exact absurd e.symm i3
     ·exact k
    rw [jm (.inr hge)]; exact i1 y k1 k2
 intro b hbm
 obtain ⟨i1,i2,i3⟩:=key bs _ hb b hbm
 have at_:∀ y,b.a≤y→y < b.b → -100000≤y∧y < 100000:=fun y k1 k2=>by
  obtain ⟨q,hq⟩:=List.exists_mem_of_ne_nil _ i3
  obtain ⟨c1,c2,c3⟩:=hr y
  rw [i1 y k1 k2]at c1 c2 c3
  have:=c2 q hq
  have hm:mem q.f_from b.row:=⟨q,hq,Int.le_refl _,this.2.1⟩
  obtain ⟨⟨r,hr,_,k3⟩,_⟩:=(c3 _).1 hm
  obtain ⟨f1,f2,f3,f4⟩:=hfl r hr
  omega
 have a1:=at_ b.a (Int.le_refl _) i2
 have a2:=at_ (b.b - 1) (by omega) (by omega)
 exact⟨b.a,(i1 b.a (Int.le_refl _) i2).symm,Int.le_refl _,i2,by omega,by omega⟩
theorem Fu {l m:List Rect} (hfl:∀ r∈l,Fine r) {bs:List Band} (hb:nQ (-200000) bs) (hr:∀ y,fV (-200000) (rowAt bs y)∧(∀ r∈rowAt bs y,Okr r) ∧ ∀ x,mem x (rowAt bs y)↔oM l x y ∧ ¬ oM m x y) :
  (∀ r∈rO bs,Fine r)∧(∀ x y,kS (fun r=>ind r x y) (rO bs)=P01 (oM l x y ∧ ¬ oM m x y)) ∧ ∀ n:Nat,n=200000→KZ (rO bs)=SS (-100000) n (fun x y=>P01 (oM l x y ∧ ¬ oM m x y)):=by
 have hba:=FP hfl hb hr
 have hfine:∀ r∈rO bs,Fine r:=by
  intro r hrm
  obtain ⟨b,hb',hr'⟩:=List.mem_flatMap.1 hrm
  obtain ⟨q,hq,rfl⟩:=List.mem_map.1 hr'
  obtain ⟨y,e,k1,k2,k3,k4⟩:=hba b hb'
  have ho:=(hr y).2.1 q (by rw [← e]; exact hq)
  unfold Okr at ho
  refine⟨?_,?_,?_,?_⟩
  ·show -100000≤q.f_from∧q.f_from≤100000; omega
  ·show -100000≤b.a∧b.a≤100000; omega
  ·show 1≤q.f_to - q.f_from∧q.f_from + (q.f_to - q.f_from)≤100000; omega
  ·show 1≤b.b - b.a∧b.a + (b.b - b.a)≤100000; omega
 have hind:∀ x y,kS (fun r=>ind r x y) (rO bs)=P01 (oM l x y ∧ ¬ oM m x y):=fun x y=>by
  rw [ER x y bs _ hb (fun b hb'=>by
   obtain ⟨y,e,_⟩:=hba b hb'
   exact⟨_,by rw [e]; exact (hr y).1⟩)]
  exact BJ ((hr y).2.2 x)
 refine⟨hfine,hind,fun n hn => ?_⟩
 unfold KZ
 rw [vW (g:=fun r=>SS (-100000) n (ind r)) (fun r hr'=>by
  obtain ⟨f1,f2,f3,f4⟩:=hfine r hr'
  rw [Jm (by omega) (by omega) (by omega) (by omega)]),G7]
 exact JO hind
end Go.Proofs.YtjhcehhmdmbleaaGreatDoor.Law

open Go Go.Eng
namespace Go.Proofs.YtjhcehhmdmbleaaGreatDoor.Law
set_option linter.unusedVariables false
set_option linter.unusedSimpArgs false
theorem BS {α:Type} [BEq α] [LawfulBEq α]:∀ (l m:List α),l.Nodup→(∀ x∈l,x∈m)→l.length≤m.length
 | [],_,_,_=>Nat.zero_le _
 | x::l,m,hd,hs=>by
  obtain ⟨h1,h2⟩:=List.nodup_cons.1 hd
  have hx:=hs x (by simp)
  have:=BS l (m.erase x) h2 (fun y hy=>(List.mem_erase_of_ne (fun e=>h1 (by rw [← e]; exact hy))).2 (hs y (by simp [hy])))
  have h3:=List.length_erase_of_mem hx
  have h4:=List.length_pos_of_mem hx
  simp only [List.length_cons]; omega
theorem Gq (r:Rect) (x y:Int):ind r x y=0∨ind r x y=1:=by
 unfold ind b01
 cases tC x y r
 ·exact .inl rfl
 ·exact .inr rfl
theorem ind_t {r:Rect} {x y:Int} (h:tC x y r=true):ind r x y=1:=by unfold ind; rw [h]; rfl
def AR (l:List Rect) (x y:Int):Int:=kS (fun r=>ind r x y) l
theorem yw (x y:Int):∀ l:List Rect,0≤AR l x y
 | []=>Int.le_refl _
 | r::l=>by
  have:=yw x y l
  unfold AR at *
  rw [kS]
  rcases Gq r x y with h | h <;> omega
theorem wU (l:List Rect) (x y:Int):oM l x y ↔ ∃ r∈l,tC x y r=true:=by
 rw [← JK,hasB,List.any_eq_true]
theorem Er {x y:Int}:∀ {l:List Rect},oM l x y→1≤AR l x y
 | [],h=>by rw [wU]at h; obtain ⟨r,hr,_⟩:=h; cases hr
 | r::l,h=>by
  have h0:=yw x y l
  unfold AR at *
  rw [kS]
  rw [wU]at h
  obtain ⟨q,hq,hh⟩:=h
  rcases List.mem_cons.1 hq with rfl | hq
  ·rw [ind_t hh]; omega
  ·have:=Er (l:=l) ((wU _ _ _).2 ⟨q,hq,hh⟩)
   unfold AR at this
   rcases Gq r x y with h | h <;> omega
theorem row_nodup (y:Int):∀ l:List Rect,(∀ x,AR l x y≤1)→(∀ r∈l,1≤r.W)→((l.filter (covers y)).map (·.X)).Nodup
 | [],_,_=>List.nodup_nil
 | r::l,h,hw=>by
  have h':∀ x,AR l x y≤1:=fun x=>by
   have:=h x
   unfold AR at *
   rw [kS]at this
   rcases Gq r x y with k | k <;> omega
  have ih:=row_nodup y l h' (fun q hq=>hw q (by simp [hq]))
  rw [List.filter_cons]
  cases hc:covers y r with
  | false=>exact ih
  | true =>
   simp only [if_true,List.map_cons]
   refine List.nodup_cons.2 ⟨fun hm => ?_,ih⟩
   obtain ⟨q,hq,he⟩:=List.mem_map.1 hm
   obtain ⟨q1,q2⟩:=List.mem_filter.1 hq
   have hwr:=hw r (by simp)
   have hwq:=hw q (by simp [q1])
   have e1:tC r.X y r=true:=by
    unfold tC; unfold covers at hc
    rw [hc,decide_eq_true (Int.le_refl _),decide_eq_true (show r.X < r.X + r.W by omega)]; rfl
   have e2:tC r.X y q=true:=by
    unfold tC; unfold covers at q2
    rw [q2,← he,decide_eq_true (Int.le_refl _),decide_eq_true (show q.X < q.X + q.W by omega)]; rfl
   have h1:=h r.X
   have h2:=Er (l:=l) ((wU _ _ _).2 ⟨q,q1,e2⟩)
   unfold AR at h1 h2
   rw [kS,ind_t e1]at h1
   omega
theorem BG:∀ (bs:List Band) (lo:Int),nQ lo bs → ∀ b∈bs,(∀ y,b.a≤y→y < b.b→rowAt bs y=b.row)∧b.a < b.b∧b.row ≠ []
 | [],_,_,b,hb=>by cases hb
 | p::bs,lo,⟨h1,h2,h3,h4,h5⟩,b,hb=>by
  rcases List.mem_cons.1 hb with rfl | hb
  ·exact⟨fun y k1 k2=>jR k1 k2,h2,h3⟩
  ·obtain ⟨i1,i2,i3⟩:=BG bs _ h5 b hb
   refine⟨fun y k1 k2 => ?_,i2,i3⟩
   have hge:p.b≤y:=by
    rcases Int.lt_or_le y p.b with k | k
    ·have e:=i1 y k1 k2
     rw [kX h5 k]at e
     exact absurd e.symm i3
    ·exact k
   rw [jm (.inr hge)]; exact i1 y k1 k2
theorem Jl {bs:List Band} {lo:Int} (h:nQ lo bs) {r:Rect} (hr:r∈rO bs) {y:Int} (h1:r.Y≤y) (h2:y < r.Y + r.H):∃ q∈rowAt bs y,r.X=q.f_from∧r.X + r.W=q.f_to:=by
 obtain ⟨b,hb,hr⟩:=List.mem_flatMap.1 hr
 obtain ⟨q,hq,rfl⟩:=List.mem_map.1 hr
 obtain ⟨i1,i2,i3⟩:=BG bs lo h b hb
 have e:b.a + (b.b - b.a)=b.b:=by omega
 refine⟨q,?_,rfl,by show q.f_from + (q.f_to - q.f_from)=q.f_to; omega⟩
 rw [i1 y h1 (by have:y < b.a + (b.b - b.a):=h2; omega)]; exact hq
theorem zz:∀ {L:List Run} {lo:Int},fV lo L → ∀ q∈L,¬ mem (q.f_from - 1) L
 | [],_,_,q,hq=>by cases hq
 | r::L,lo,⟨h1,h2,h3⟩,q,hq=>by
  rw [mem_cons]
  rcases List.mem_cons.1 hq with rfl | hq
  ·rintro (k | k)
   ·omega
   ·have:=h3.gt k; omega
  ·have h4:=h3.lo q hq
   rintro (k | k)
   ·omega
   ·exact zz h3 q hq k
end Go.Proofs.YtjhcehhmdmbleaaGreatDoor.Law

open Go Go.Eng
namespace Go.Proofs.YtjhcehhmdmbleaaGreatDoor.Law
set_option linter.unusedVariables false
set_option linter.unusedSimpArgs false
def F9 (R:List Rect) (S:Int→Int→Prop):Prop := ∃ bs:List Band,R=rO bs∧nQ (-200000) bs ∧ ∀ y,fV (-200000) (rowAt bs y)∧(∀ r∈rowAt bs y,Okr r) ∧ ∀ x,mem x (rowAt bs y)↔S x y
theorem F9.uniq {R R':List Rect} {S S':Int→Int→Prop} (h:F9 R S) (h':F9 R' S') (e:∀ x y,S x y↔S' x y):R=R':=by
 obtain ⟨b,rfl,b1,b2⟩:=h
 obtain ⟨c,rfl,c1,c2⟩:=h'
 rw [G6 b1 c1 (fun y=>Fe (b2 y).1 (c2 y).1 (fun x=>by rw [(b2 y).2.2,(c2 y).2.2]; exact e x y))]
theorem F9.facts {R l m:List Rect} (h:F9 R (fun x y=>oM l x y ∧ ¬ oM m x y)) (hfl:∀ r∈l,Fine r) :
  (∀ r∈R,Fine r)∧(∀ x y,AR R x y=P01 (oM l x y ∧ ¬ oM m x y)) ∧ ∀ n:Nat,n=200000→KZ R=SS (-100000) n (fun x y=>P01 (oM l x y ∧ ¬ oM m x y)):=by
 obtain ⟨bs,rfl,b1,b2⟩:=h
 exact Fu hfl b1 b2
theorem P01_le (p:Prop):P01 p≤1:=by
 by_cases h:p
 ·rw [Hy h]; omega
 ·rw [yZ h]; omega
theorem F9.row {R l m:List Rect} (h:F9 R (fun x y=>oM l x y ∧ ¬ oM m x y)) (hfl:∀ r∈l,Fine r) (y:Int):(rowB R y).length≤l.length + m.length:=by
 obtain ⟨f1,f2,_⟩:=h.facts hfl
 have hn:=row_nodup y R (fun x=>by rw [f2]; exact P01_le _) (fun r hr=>(f1 r hr).2.2.1.1)
 obtain ⟨bs,rfl,b1,b2⟩:=h
 have hm:∀ v∈((rO bs).filter (covers y)).map (·.X),v∈l.map (·.X)++m.map (fun r=>r.X + r.W):=by
  intro v hv
  obtain ⟨r,hr,rfl⟩:=List.mem_map.1 hv
  obtain ⟨hr1,hr2⟩:=List.mem_filter.1 hr
  have hy:r.Y≤y∧y < r.Y + r.H:=by
   simp only [covers,Bool.and_eq_true,decide_eq_true_eq]at hr2; exact hr2
  obtain ⟨q,hq,e1,e2⟩:=Jl b1 hr1 hy.1 hy.2
  obtain ⟨c1,c2,c3⟩:=b2 y
  have hl:=zz c1 q hq
  have hlt:=(c1.lo q hq).2
  have hin:=(c3 q.f_from).1 ⟨q,hq,Int.le_refl _,hlt⟩
  rw [c3]at hl
  obtain ⟨⟨s,hs,s1,s2⟩,hnm⟩:=hin
  rw [e1]
  by_cases hm':oM m (q.f_from - 1) y
  ·obtain ⟨t,ht,t1,t2⟩:=hm'
   refine List.mem_append.2 (.inr (List.mem_map.2 ⟨t,ht,?_⟩))
   have:¬ (t.X≤q.f_from∧q.f_from < t.X + t.W):=fun k=>hnm ⟨t,ht,k,t2⟩
   omega
  ·refine List.mem_append.2 (.inl (List.mem_map.2 ⟨s,hs,?_⟩))
   have:¬ (s.X≤q.f_from - 1∧q.f_from - 1 < s.X + s.W):=fun k=>hl ⟨⟨s,hs,k,s2⟩,hm'⟩
   omega
 have:=BS _ _ hn hm
 simp only [List.length_map,List.length_append]at this
 unfold rowB
 rw [List.length_map]; exact this
end Go.Proofs.YtjhcehhmdmbleaaGreatDoor.Law

open Go Go.Eng
namespace Go.Proofs.YtjhcehhmdmbleaaGreatDoor.Law
set_option linter.unusedVariables false
set_option linter.unusedSimpArgs false
end Go.Proofs.YtjhcehhmdmbleaaGreatDoor.Law

open Go Go.Eng
namespace Go.Proofs.YtjhcehhmdmbleaaGreatDoor.Law
set_option linter.unusedVariables false
set_option linter.unusedSimpArgs false
end Go.Proofs.YtjhcehhmdmbleaaGreatDoor.Law

