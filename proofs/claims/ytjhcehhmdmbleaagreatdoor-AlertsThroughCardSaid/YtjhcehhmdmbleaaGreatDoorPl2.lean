/-
  THE PLAIN LAW (part 2).
-/
import Derived.Test.YtjhcehhmdmbleaaGreatDoorPl1
open Go Go.Eng
namespace Go.Proofs.YtjhcehhmdmbleaaGreatDoor.Law
set_option linter.unusedVariables false
set_option linter.unusedSimpArgs false
theorem IM {r:Rect} (h:Bb r=false):Fine r:=by
 unfold Bb at h
 simp only [Bool.or_eq_false_iff]at h
 obtain ⟨⟨⟨h1,h2⟩,h3⟩,h4⟩:=h
 have h1:=ve h1
 have h2:=ve h2
 rw [dC (by omega)]at h3 h4
 have h3:=ve h3
 have h4:=ve h4
 exact⟨by omega,by omega,by omega,by omega,by omega⟩
def sI (x y:Int) (r:Rect):Bool:=(decide (r.X≤x) && decide (x < r.X + r.W)) && (decide (r.Y≤y) && decide (y < r.Y + r.H))
def hasB (l:List Rect) (x y:Int):Bool:=l.any (sI x y)
theorem JE (l:List Rect) (x y:Int):hasB l x y=true↔o5 l x y:=by
 unfold hasB o5
 rw [List.any_eq_true]
 simp only [sI,Bool.and_eq_true,decide_eq_true_eq]
end Go.Proofs.YtjhcehhmdmbleaaGreatDoor.Law

open Go Go.Eng
namespace Go.Proofs.YtjhcehhmdmbleaaGreatDoor.Law
set_option linter.unusedVariables false
set_option linter.unusedSimpArgs false
def pE (e:Int):Ctl Unit Int:=bif e == 0 then .go ()else .ret e
theorem Il (e:Int):thenC (pE e) (fun _=>some (0:Int)) (fun r=>some r)=some e:=by
 unfold pE
 cases h:e == 0 with
 | true=>simp only [cond_true,DR]; rw [eq_of_beq h]
 | false=>rfl
theorem DK {α:Type} {l:List α} {k:Nat} {x:α} (h:l[k]? = some x) (hk:0 < k) (hl:l.length≤1000000000):∃ y,idx l (w64 ((k:Int) - 1))=some y∧l[k - 1]? = some y:=by
 have hlt:k < l.length:=(List.getElem?_eq_some_iff.1 h).1
 rw [dC (by omega),show (k:Int) - 1=((k - 1:Nat):Int) by omega,ry]
 exact⟨l[k - 1],List.getElem?_eq_getElem (by omega),List.getElem?_eq_getElem (by omega)⟩
end Go.Proofs.YtjhcehhmdmbleaaGreatDoor.Law

open Go Go.Eng
namespace Go.Proofs.YtjhcehhmdmbleaaGreatDoor.Law
set_option linter.unusedVariables false
set_option linter.unusedSimpArgs false
def yH (n:Int):Bool := !iK n 0 345686399999
theorem En (n:Int):lc n=some (yH n):=by
 unfold lc yH iK
 have e1:decide (n≥0) = !decide (n < 0):=by rw [Bool.eq_iff_iff]; simp
 have e2:decide (n < 345686400000) = !decide (n > 345686399999):=by rw [Bool.eq_iff_iff]; simp; omega
 rw [e1,e2]
 cases decide (n < 0) <;> cases decide (n > 345686399999) <;> rfl
def or0 (a b:Int):Int:=bif a == 0 then b else a
theorem Iu (a b:ByteArray):(lt a b∧xX a b = -1)∨(a=b∧xX a b=0)∨(lt b a∧xX a b=1):=by
 have key:∀ (x y:List UInt8),(x < y∧Lib.compareBytes x y = -1)∨(x=y∧Lib.compareBytes x y=0)∨(y < x∧Lib.compareBytes x y=1):=by
  intro x
  induction x with
  | nil=>intro y; cases y with
   | nil=>exact .inr (.inl ⟨rfl,rfl⟩)
   | cons b y=>exact .inl ⟨by simp,rfl⟩
  | cons a x ih=>intro y; cases y with
   | nil=>exact .inr (.inr ⟨by simp,rfl⟩)
   | cons b y =>
    simp only [Lib.compareBytes,List.cons_lt_cons_iff,List.cons.injEq]
    by_cases h1:a < b
    ·exact .inl ⟨.inl h1,by rw [if_pos h1]⟩
    ·by_cases h2:b < a
     ·exact .inr (.inr ⟨.inl h2,by rw [if_neg h1,if_pos h2]⟩)
     ·have e:a=b:=UInt8.le_antisymm (UInt8.not_lt.1 h2) (UInt8.not_lt.1 h1)
      subst e
      rw [if_neg h1,if_neg h1]
      rcases ih y with⟨h,k⟩ | ⟨h,k⟩ | ⟨h,k⟩
      ·exact .inl ⟨.inr ⟨rfl,h⟩,k⟩
      ·exact .inr (.inl ⟨⟨rfl,h⟩,k⟩)
      ·exact .inr (.inr ⟨.inr ⟨rfl,h⟩,k⟩)
 unfold xX lt
 rw [toL,toL]
 rcases key a.data.toList b.data.toList with⟨h,k⟩ | ⟨h,k⟩ | ⟨h,k⟩
 ·exact .inl ⟨h,k⟩
 ·exact .inr (.inl ⟨yX (by rw [toL,toL]; exact h),k⟩)
 ·exact .inr (.inr ⟨h,k⟩)
theorem qY (a b:ByteArray):strings_Compare a b=some (xX a b):=rfl
def lJ (a b:Int):Int:=if a < b then -1 else if a > b then 1 else 0
theorem ul (a b:Int):cmp_Compare_int a b=some (lJ a b):=by
 have e:∀ x:Int,(x != x)=false:=by simp
 unfold cmp_Compare_int cmp_isNaN_int lJ
 simp only [e,Option.bind_some,cond_false]
 by_cases h:a < b
 ·simp only [decide_eq_true h,cond_true,if_pos h]
 ·by_cases h2:a > b
  ·simp only [decide_eq_false h,decide_eq_true h2,cond_true,cond_false,if_neg h,if_pos h2]
  ·simp only [decide_eq_false h,decide_eq_false h2,cond_false,if_neg h,if_neg h2]
theorem or2_eq (a b:Int):kH [a,b]=some (or0 a b):=by
 unfold kH or0
 rw [iI (by simp)]
 simp only [forR,lH]
 cases ha:a == 0 with
 | false =>
  have:(a != 0)=true:=by simp [bne,ha]
  simp only [this,cond_true,cond_false,Option.bind_some,thenC]
 | true =>
  have:(a != 0)=false:=by simp [bne,ha]
  simp only [this,cond_true,cond_false,Option.bind_some]
  cases hb:b == 0 with
  | false =>
   have:(b != 0)=true:=by simp [bne,hb]
   simp only [this,cond_true,Option.bind_some,thenC]
  | true =>
   have:(b != 0)=false:=by simp [bne,hb]
   simp only [this,cond_false,Option.bind_some,thenC]
   rw [eq_of_beq hb]
theorem Cr {α:Type} {i:Int} {xs:List α} (h0:0≤i) (h1:i < xs.length):inR i xs=some ():=by unfold inR; rw [if_pos ⟨h0,by omega⟩]
end Go.Proofs.YtjhcehhmdmbleaaGreatDoor.Law

open Go Go.Eng
namespace Go.Proofs.YtjhcehhmdmbleaaGreatDoor.Law
set_option linter.unusedVariables false
set_option linter.unusedSimpArgs false
theorem or3_eq (a b c:Int):kH [a,b,c]=some (or0 a (or0 b c)):=by
 unfold kH or0
 rw [iI (by simp)]
 simp only [forR,lH]
 cases ha:a == 0 with
 | false =>
  have:(a != 0)=true:=by simp [bne,ha]
  simp only [this,cond_true,cond_false,Option.bind_some,thenC]
 | true =>
  have:(a != 0)=false:=by simp [bne,ha]
  simp only [this,cond_true,cond_false,Option.bind_some]
  cases hb:b == 0 with
  | false =>
   have:(b != 0)=true:=by simp [bne,hb]
   simp only [this,cond_true,cond_false,Option.bind_some,thenC]
  | true =>
   have:(b != 0)=false:=by simp [bne,hb]
   simp only [this,cond_true,cond_false,Option.bind_some]
   cases hc:c == 0 with
   | false =>
    have:(c != 0)=true:=by simp [bne,hc]
    simp only [this,cond_true,Option.bind_some,thenC]
   | true =>
    have:(c != 0)=false:=by simp [bne,hc]
    simp only [this,cond_false,Option.bind_some,thenC]
    rw [eq_of_beq hc]
theorem uh {a b:Int}:or0 a b < 0↔a < 0∨a=0∧b < 0:=by
 unfold or0
 by_cases h:a=0
 ·subst h; simp
 ·have:(a == 0)=false:=by simpa using h
  rw [this,cond_false]; omega
theorem Ac {a b:Int}:or0 a b=0↔a=0∧b=0:=by
 unfold or0
 by_cases h:a=0
 ·subst h; simp
 ·have:(a == 0)=false:=by simpa using h
  rw [this,cond_false]; omega
theorem zJ {a b:Int}:lJ a b < 0↔a < b:=by
 unfold lJ
 split
 ·omega
 ·split <;> omega
theorem xu {a b:Int}:lJ a b=0↔a=b:=by
 unfold lJ
 split
 ·omega
 ·split <;> omega
theorem y9 {a b:ByteArray}:xX a b < 0↔lt a b:=by
 rcases Iu a b with⟨h,e⟩ | ⟨h,e⟩ | ⟨h,e⟩
 ·rw [e]; exact⟨fun _=>h,fun _=>by decide⟩
 ·rw [e,h]; exact⟨fun k=>absurd k (by decide),fun k=>absurd k (sP _)⟩
 ·rw [e]; exact⟨fun k=>absurd k (by decide),fun k=>absurd (lt_trans k h) (sP _)⟩
theorem lt_ntr {a b c:ByteArray} (h:¬ lt a b) (k:¬ lt b c):¬ lt a c:=fun q=>by
 rcases xB a b with e | e | e
 ·exact h e
 ·rw [e]at q; exact k q
 ·exact k (lt_trans e q)
end Go.Proofs.YtjhcehhmdmbleaaGreatDoor.Law

open Go Go.Eng
namespace Go.Proofs.YtjhcehhmdmbleaaGreatDoor.Law
set_option linter.unusedVariables false
set_option linter.unusedSimpArgs false
theorem Gv {α:Type} {cmp:α→α→Option Int} (c:α→α→Int) {S:List α→Option (List α)} (hS:∀ x,S x=(iq (IntKind.u64.wrap (x.length:Int))).bind fun r_3=>(GD cmp x 0 (x.length:Int) r_3).bind fun r_5=>(iO r_5 x).bind fun _=>some r_5)
  {xs:List α} (hl:xs.length≤12) (hF:∀ a∈xs,∀ b∈xs,cmp a b=some (c a b)) (has:∀ a b,c a b < 0 → ¬ c b a < 0) (hn:∀ a b d,¬ c a b < 0 → ¬ c b d < 0 → ¬ c a d < 0) :
  ∃ r,S xs=some r∧r.Perm xs∧r.Pairwise (fun a b => ¬ c b a < 0):=by
 obtain ⟨k,hk⟩:=len_ok xs.length hl
 obtain ⟨s,h1,h2,h3⟩:=pdq_ok (cmp:=cmp) (le:=fun a b => ¬ c b a < 0) (p:=(· ∈ xs)) (fun a b ha hb=>⟨c a b,hF a ha b hb,fun h=>has a b h,fun h=>h⟩) (fun a b d h k=>hn d b a k h) xs hl (fun x hx=>hx) k
 refine⟨s,?_,h2,h3⟩
 have hsm:iO s xs=some ():=by unfold iO; rw [if_pos h2.length_eq]
 rw [hS,hk,Option.bind_some,h1,Option.bind_some,hsm]; rfl
end Go.Proofs.YtjhcehhmdmbleaaGreatDoor.Law

open Go Go.Eng
namespace Go.Proofs.YtjhcehhmdmbleaaGreatDoor.Law
set_option linter.unusedVariables false
set_option linter.unusedSimpArgs false
theorem GQ {α σ ρ:Type} {body:Nat→α→σ→Option (Ctl σ ρ)} (I:Nat→σ→Prop) (xs:List α):∀ (l:List α) (k:Nat) (s:σ),xs.drop k=l→k≤xs.length→(∀ k x s,xs[k]? = some x→I k s → ∃ s',body k x s=some (.go s')∧I (k + 1) s')→I k s → ∃ s',forR body l k s=some (.go s')∧I xs.length s'
 | [],k,s,hd,hk,h,hi=>by
  have:=List.drop_eq_nil_iff.1 hd
  obtain rfl:k=xs.length:=by omega
  exact⟨s,rfl,hi⟩
 | x::l,k,s,hd,hk,h,hi=>by
  obtain ⟨s1,h1,h2⟩:=h k x s (Am hd) hi
  obtain ⟨s2,h3,h4⟩:=GQ I xs l (k + 1) s1 (aR hd) (by have:=yU hd; omega) h h2
  exact⟨s2,by rw [forR,h1,Option.bind_some]; exact h3,h4⟩
theorem kW {α σ ρ:Type} {body:Nat→α→σ→Option (Ctl σ ρ)} (I:Nat→σ→Prop) {xs:List α} {s:σ} (hl:xs.length≤1000000000000) (h:∀ k x s,xs[k]? = some x→I k s → ∃ s',body k x s=some (.go s')∧I (k + 1) s') (h0:I 0 s):∃ s',forL xs s body=some (.go s')∧I xs.length s':=by
 rw [iI hl]
 exact GQ I xs xs 0 s rfl (Nat.zero_le _) h h0
theorem KS {α β:Type} {f:α→β} {ks:List β} {k:Nat} {x:β} {l:List α} (hx:ks[k]? = some x) (h:(l.map f).Sublist (ks.take k)):(l.map f).Sublist (ks.take (k + 1)) ∧ ∀ c,f c=x→((l ++ [c]).map f).Sublist (ks.take (k + 1)):=by
 have e:ks.take (k + 1)=ks.take k ++ [x]:=by
  rw [List.take_add_one,hx]; rfl
 rw [e]
 refine⟨h.trans (List.sublist_append_left _ _),fun c hc => ?_⟩
 rw [List.map_append]
 refine h.append ?_
 rw [List.map_cons,hc]
 exact List.Sublist.refl _
theorem lZ {a b:ByteArray} (h:sLt a b=true):lt a b:=(yR a b).1 h
end Go.Proofs.YtjhcehhmdmbleaaGreatDoor.Law

open Go Go.Eng
namespace Go.Proofs.YtjhcehhmdmbleaaGreatDoor.Law
set_option linter.unusedVariables false
set_option linter.unusedSimpArgs false
structure Band where
 a:Int
 b:Int
 row:List Run
def EC (e:Int) (row:List Run):List Band→Prop
 | []=>True
 | q::_=>q.a=e→q.row≠row
def nN:Int→List Band→Prop
 | _,[]=>True
 | lo,p::l=>lo≤p.a∧p.a < p.b∧p.row ≠ []∧EC p.b p.row l∧nN p.b l
def rowAt:List Band→Int→List Run
 | [],_ => []
 | p::l,y=>bif decide (p.a≤y) && decide (y < p.b)then p.row else rowAt l y
theorem lg:∀ {l:List Band} {lo y:Int},nN lo l→y < lo→rowAt l y = []
 | [],_,_,_,_=>rfl
 | p::l,lo,y,⟨h1,h2,h3,h4,h5⟩,h=>by
  have e1:decide (p.a≤y)=false:=by simp; omega
  rw [rowAt,e1,Bool.false_and,cond_false]
  exact lg h5 (by omega)
theorem jV {p:Band} {l:List Band} {y:Int} (h1:p.a≤y) (h2:y < p.b):rowAt (p::l) y=p.row:=by
 rw [rowAt,decide_eq_true h1,decide_eq_true h2]; rfl
theorem jf {p:Band} {l:List Band} {y:Int} (h:y < p.a∨p.b≤y):rowAt (p::l) y=rowAt l y:=by
 rw [rowAt]
 have:(decide (p.a≤y) && decide (y < p.b))=false:=by
  rw [Bool.and_eq_false_iff]
  rcases h with h | h
  ·left; simp; omega
  ·right; simp; omega
 rw [this]; rfl
theorem Bq {p:Band} {l:List Band} (h:EC p.b p.row l) (hc:nN p.b l) (hne:p.row ≠ []):rowAt l p.b≠p.row:=by
 cases l with
 | nil=>exact fun e=>hne e.symm
 | cons q l =>
  obtain ⟨h1,h2,h3,h4,h5⟩:=hc
  by_cases e:q.a=p.b
  ·rw [jV (by omega) (by omega)]; exact h e
  ·rw [jf (.inl (by omega)),lg h5 (by omega)]
   exact fun e=>hne e.symm
theorem H9:∀ {l m:List Band} {lo lo':Int},nN lo l→nN lo' m→(∀ y,rowAt l y=rowAt m y)→l=m
 | [],[],_,_,_,_,_=>rfl
 | [],q::m,_,_,_,⟨h1,h2,h3,h4,h5⟩,h=>by
  have:=h q.a
  rw [jV (Int.le_refl _) h2]at this
  exact absurd this.symm h3
 | p::l,[],_,_,⟨h1,h2,h3,h4,h5⟩,_,h=>by
  have:=h p.a
  rw [jV (Int.le_refl _) h2]at this
  exact absurd this h3
 | p::l,q::m,lo,lo',⟨a1,a2,a3,a4,a5⟩,⟨b1,b2,b3,b4,b5⟩,h=>by
  have e1:p.a=q.a:=by
   rcases Int.lt_trichotomy p.a q.a with k | k | k
   ·exfalso
    have:=h p.a
    rw [jV (Int.le_refl _) a2,jf (.inl k),lg b5 (by omega)]at this
    exact a3 this
   ·exact k
   ·exfalso
    have:=h q.a
    rw [jV (Int.le_refl _) b2,jf (.inl k),lg a5 (by omega)]at this
    exact b3 this.symm
  have e2:p.row=q.row:=by
   have:=h p.a
   rw [jV (Int.le_refl _) a2,jV (by omega) (by omega)]at this
   exact this
  have e3:p.b=q.b:=by
   rcases Int.lt_trichotomy p.b q.b with k | k | k
   ·exfalso
    have:=h p.b
    rw [jf (.inr (Int.le_refl _)),jV (by omega) k,← e2]at this
    exact Bq a4 a5 a3 this
   ·exact k
   ·exfalso
    have:=h q.b
    rw [jV (by omega) k,jf (.inr (Int.le_refl _)),e2]at this
    exact Bq b4 b5 b3 this.symm
  have e4:l=m:=H9 a5 b5 (fun y=>by
   rcases Int.lt_or_le y p.b with k | k
   ·rw [lg a5 k,lg b5 (by omega)]
   ·have:=h y
    rw [jf (.inr k),jf (.inr (by omega))]at this
    exact this)
  obtain ⟨pa,pb,pr⟩:=p
  obtain ⟨qa,qb,qr⟩:=q
  simp only at e1 e2 e3
  rw [e1,e2,e3,e4]
end Go.Proofs.YtjhcehhmdmbleaaGreatDoor.Law

open Go Go.Eng
namespace Go.Proofs.YtjhcehhmdmbleaaGreatDoor.Law
set_option linter.unusedVariables false
set_option linter.unusedSimpArgs false
end Go.Proofs.YtjhcehhmdmbleaaGreatDoor.Law

open Go Go.Eng
namespace Go.Proofs.YtjhcehhmdmbleaaGreatDoor.Law
set_option linter.unusedVariables false
set_option linter.unusedSimpArgs false
def rU (l:List Band):List Rect:=l.flatMap fun b=>b.row.map (Db b.a (b.b - b.a))
end Go.Proofs.YtjhcehhmdmbleaaGreatDoor.Law

open Go Go.Eng
namespace Go.Proofs.YtjhcehhmdmbleaaGreatDoor.Law
set_option linter.unusedVariables false
set_option linter.unusedSimpArgs false
end Go.Proofs.YtjhcehhmdmbleaaGreatDoor.Law

open Go Go.Eng
namespace Go.Proofs.YtjhcehhmdmbleaaGreatDoor.Law
set_option linter.unusedVariables false
set_option linter.unusedSimpArgs false
def Fits (Rw:Int→List Run) (ys:List Int):Prop :=
 ys.Pairwise (· < ·)∧(∀ y∈ys,-200000 < y)∧(∀ (j:Nat) (a b:Int),ys[j]? = some a→ys[j + 1]? = some b → ∀ y,a≤y→y < b→Rw y=Rw a)∧(∀ y,(∀ a∈ys,a≤y)→Rw y = [])∧(∀ y,(∀ a∈ys,y < a)→Rw y = [])
end Go.Proofs.YtjhcehhmdmbleaaGreatDoor.Law

open Go Go.Eng
namespace Go.Proofs.YtjhcehhmdmbleaaGreatDoor.Law
set_option linter.unusedVariables false
set_option linter.unusedSimpArgs false
def nU (f:Int→Int) (lo:Int):Nat→Int
 | 0=>0
 | n + 1=>nU f lo n + f (lo + n)
theorem lY {f g:Int→Int} {lo:Int}:∀ {n:Nat},(∀ x,f x=g x)→nU f lo n=nU g lo n
 | 0,_=>rfl
 | n + 1,h=>by rw [nU,nU,lY (n:=n) h,h]
theorem zt (f g:Int→Int) (lo:Int):∀ n:Nat,nU (fun x=>f x + g x) lo n=nU f lo n + nU g lo n
 | 0=>rfl
 | n + 1=>by rw [nU,nU,nU,zt f g lo n]; omega
theorem xI (lo:Int):∀ n:Nat,nU (fun _=>0) lo n=0
 | 0=>rfl
 | n + 1=>by rw [nU,xI lo n]; rfl
theorem zV (c:Int) (f:Int→Int) (lo:Int):∀ n:Nat,nU (fun x=>c * f x) lo n=c * nU f lo n
 | 0=>by simp [nU]
 | n + 1=>by rw [nU,nU,zV c f lo n,Int.mul_add]
def b01 (b:Bool):Int:=bif b then 1 else 0
theorem Hd (a b:Bool):b01 (a && b)=b01 b * b01 a:=by cases a <;> cases b <;> rfl
theorem Aq {lo a b:Int} (h1:lo≤a) (h2:a≤b):∀ n:Nat,nU (fun x=>b01 (decide (a≤x) && decide (x < b))) lo n=min b (lo + n) - min a (lo + n)
 | 0=>by simp only [nU]; omega
 | n + 1=>by
  rw [nU,Aq h1 h2 n]
  by_cases k1:a≤lo + (n:Int)
  ·by_cases k2:lo + (n:Int) < b
   ·rw [decide_eq_true k1,decide_eq_true k2]; show _ + 1=_; omega
   ·rw [decide_eq_true k1,decide_eq_false k2]; show _ + 0=_; omega
  ·rw [decide_eq_false k1]; show _ + 0=_; omega
def SS (lo:Int) (n:Nat) (f:Int→Int→Int):Int:=nU (fun y=>nU (fun x=>f x y) lo n) lo n
theorem JW {lo:Int} {n:Nat} {f g:Int→Int→Int} (h:∀ x y,f x y=g x y):SS lo n f=SS lo n g:=lY (fun y=>lY (fun x=>h x y))
theorem SS_add (lo:Int) (n:Nat) (f g:Int→Int→Int):SS lo n (fun x y=>f x y + g x y)=SS lo n f + SS lo n g:=by
 unfold SS
 rw [← zt]
 exact lY (fun y=>zt _ _ _ _)
theorem SS_zero (lo:Int) (n:Nat):SS lo n (fun _ _=>0)=0:=by
 unfold SS
 rw [lY (g:=fun _=>0) (fun y=>xI lo n),xI]
def kT {α:Type} (f:α→Int):List α→Int
 | []=>0
 | x::l=>f x + kT f l
theorem ET {α:Type} (f:α→Int):∀ l m:List α,kT f (l++m)=kT f l + kT f m
 | [],m=>by simp [kT]
 | x::l,m=>by rw [List.cons_append,kT,kT,ET f l m]; omega
theorem vF {α:Type} {f g:α→Int}:∀ {l:List α},(∀ x∈l,f x=g x)→kT f l=kT g l
 | [],_=>rfl
 | x::l,h=>by rw [kT,kT,h x (by simp),vF (l:=l) (fun y hy=>h y (by simp [hy]))]
theorem Fv {α β:Type} (f:β→Int) (g:α→β):∀ l:List α,kT f (l.map g)=kT (fun x=>f (g x)) l
 | []=>rfl
 | x::l=>by rw [List.map_cons,kT,kT,Fv f g l]
theorem DW {α:Type} (c:Int) (f:α→Int):∀ l:List α,kT (fun x=>c * f x) l=c * kT f l
 | []=>by simp [kT]
 | x::l=>by rw [kT,kT,DW c f l,Int.mul_add]
theorem GH {α:Type} (lo:Int) (n:Nat) (g:α→Int→Int→Int):∀ l:List α,kT (fun r=>SS lo n (g r)) l=SS lo n (fun x y=>kT (fun r=>g r x y) l)
 | []=>(SS_zero lo n).symm
 | r::l=>by
  rw [kT,GH lo n g l,← SS_add]; rfl
def ind (r:Rect) (x y:Int):Int:=b01 (sI x y r)
theorem JR {lo:Int} {n:Nat} {r:Rect} (h1:lo≤r.X∧r.X + r.W≤lo + n) (h2:lo≤r.Y∧r.Y + r.H≤lo + n) (h3:0≤r.W) (h4:0≤r.H):SS lo n (ind r)=r.W * r.H:=by
 have e1:nU (fun x=>b01 (decide (r.X≤x) && decide (x < r.X + r.W))) lo n=r.W:=by rw [Aq h1.1 (by omega)]; omega
 have e2:nU (fun y=>b01 (decide (r.Y≤y) && decide (y < r.Y + r.H))) lo n=r.H:=by rw [Aq h2.1 (by omega)]; omega
 unfold SS ind sI
 rw [lY (g:=fun y=>r.W * b01 (decide (r.Y≤y) && decide (y < r.Y + r.H))) (fun y=>by
  rw [lY (g:=fun x=>b01 (decide (r.Y≤y) && decide (y < r.Y + r.H)) * b01 (decide (r.X≤x) && decide (x < r.X + r.W))) (fun x=>Hd _ _),zV,e1,Int.mul_comm]),zV,e2]
def Jv (l:List Rect):Int:=kT (fun r=>r.W * r.H) l
open Classical in
noncomputable def P01 (p:Prop):Int:=if p then 1 else 0
theorem HY {p:Prop} (h:p):P01 p=1:=by unfold P01; rw [if_pos h]
theorem zO {p:Prop} (h:¬ p):P01 p=0:=by unfold P01; rw [if_neg h]
theorem BO {p q:Prop} (h:p↔q):P01 p=P01 q:=by rw [propext h]
theorem b01_P (b:Bool):b01 b=P01 (b=true):=by
 cases b
 ·rw [zO (by simp)]; rfl
 ·rw [HY rfl]; rfl
theorem Hy (x:Int):∀ (L:List Run) (lo:Int),fV lo L→kT (fun r=>b01 (decide (r.f_from≤x) && decide (x < r.f_to))) L=P01 (mem x L)
 | [],_,_=>by rw [zO (wJ x)]; rfl
 | r::L,lo,⟨h1,h2,h3⟩=>by
  rw [kT,Hy x L _ h3,b01_P]
  simp only [Bool.and_eq_true,decide_eq_true_eq]
  by_cases k:r.f_from≤x∧x < r.f_to
  ·rw [HY k,zO (fun m=>by have:=h3.gt m; omega),HY ((mem_cons _ _ _).2 (.inl k))]; rfl
  ·rw [zO k,Int.zero_add]
   exact BO (by rw [mem_cons]; simp [k])
theorem Dt (x y:Int):∀ (bs:List Band) (lo:Int),nN lo bs→(∀ b∈bs,∃ c,fV c b.row)→kT (fun r=>ind r x y) (rU bs)=P01 (mem x (rowAt bs y))
 | [],_,_,_=>by rw [show rowAt [] y = [] from rfl,zO (wJ x)]; rfl
 | p::bs,lo,⟨h1,h2,h3,h4,h5⟩,hc=>by
  have e:rU (p::bs)=p.row.map (Db p.a (p.b - p.a))++rU bs:=by simp [rU]
  rw [e,ET,Fv,Dt x y bs _ h5 (fun b hb=>hc b (by simp [hb]))]
  have e2:∀ r:Run,ind (Db p.a (p.b - p.a) r) x y=b01 (decide (p.a≤y) && decide (y < p.b)) * b01 (decide (r.f_from≤x) && decide (x < r.f_to)):=fun r=>by
   unfold ind sI Db
   rw [Hd]
   simp only
   rw [show r.f_from + (r.f_to - r.f_from)=r.f_to by omega,show p.a + (p.b - p.a)=p.b by omega]
  rw [vF (fun r _=>e2 r),DW]
  obtain ⟨c,hcp⟩:=hc p (by simp)
  rw [Hy x p.row c hcp]
  by_cases k1:p.a≤y
  ·by_cases k2:y < p.b
   ·rw [jV k1 k2,lg h5 k2,zO (wJ x),decide_eq_true k1,decide_eq_true k2]
    show 1 * _ + 0=_
    omega
   ·rw [jf (.inr (by omega)),decide_eq_false k2,Bool.and_false]
    show 0 * _ + _=_
    omega
  ·rw [jf (.inl (by omega)),decide_eq_false k1]
   show 0 * _ + _=_
   omega
theorem Gj {l m:List Rect} (hfl:∀ r∈l,Fine r) {bs:List Band} (hb:nN (-200000) bs) (hr:∀ y,fV (-200000) (rowAt bs y)∧(∀ r∈rowAt bs y,Okr r) ∧ ∀ x,mem x (rowAt bs y)↔o5 l x y ∧ ¬ o5 m x y) :
  (∀ b∈bs,∃ y,b.row=rowAt bs y∧b.a≤y∧y < b.b ∧ -100000≤b.a∧b.b≤100000):=by
 have key:∀ (bs':List Band) (lo:Int),nN lo bs' → ∀ b∈bs',(∀ y,b.a≤y→y < b.b→rowAt bs' y=b.row)∧b.a < b.b∧b.row ≠ []:=by
  intro bs'
  induction bs' with
  | nil=>intro lo _ b hb; cases hb
  | cons p bs' ih =>
   rintro lo ⟨h1,h2,h3,h4,h5⟩ b hb
   rcases List.mem_cons.1 hb with rfl | hb
   ·exact⟨fun y k1 k2=>jV k1 k2,h2,h3⟩
   ·obtain ⟨i1,i2,i3⟩:=ih _ h5 b hb
    refine⟨fun y k1 k2 => ?_,i2,i3⟩
    have hge:p.b≤y:=by
     rcases Int.lt_or_le y p.b with k | k
     ·have e:=i1 y k1 k2
      rw [lg h5 k]at e
      exact absurd e.symm i3
     ·exact k
    rw [jf (.inr hge)]; exact i1 y k1 k2
 intro b hbm
 obtain ⟨i1,i2,i3⟩:=key bs _ hb b hbm
 have at_:∀ y,b.a≤y→y < b.b → -100000≤y∧y < 100000:=fun y k1 k2=>by
  obtain ⟨q,hq⟩:=List.exists_mem_of_ne_nil _ i3
  obtain ⟨c1,c2,c3⟩:=hr y
  rw [i1 y k1 k2]at c1 c2 c3
  have:=c2 q hq
  have hm:mem q.f_from b.row:=⟨q,hq,Int.le_refl _,this.2.1⟩
  obtain ⟨⟨r,hr,_,k3⟩,_⟩:=(c3 _).1 hm
  obtain ⟨f1,f2,f3,f4⟩:=hfl r hr
  omega
 have a1:=at_ b.a (Int.le_refl _) i2
 have a2:=at_ (b.b - 1) (by omega) (by omega)
 exact⟨b.a,(i1 b.a (Int.le_refl _) i2).symm,Int.le_refl _,i2,by omega,by omega⟩
theorem Em {l m:List Rect} (hfl:∀ r∈l,Fine r) {bs:List Band} (hb:nN (-200000) bs) (hr:∀ y,fV (-200000) (rowAt bs y)∧(∀ r∈rowAt bs y,Okr r) ∧ ∀ x,mem x (rowAt bs y)↔o5 l x y ∧ ¬ o5 m x y) :
  (∀ r∈rU bs,Fine r)∧(∀ x y,kT (fun r=>ind r x y) (rU bs)=P01 (o5 l x y ∧ ¬ o5 m x y)) ∧ ∀ n:Nat,n=200000→Jv (rU bs)=SS (-100000) n (fun x y=>P01 (o5 l x y ∧ ¬ o5 m x y)):=by
 have hba:=Gj hfl hb hr
 have hfine:∀ r∈rU bs,Fine r:=by
  intro r hrm
  obtain ⟨b,hb',hr'⟩:=List.mem_flatMap.1 hrm
  obtain ⟨q,hq,rfl⟩:=List.mem_map.1 hr'
  obtain ⟨y,e,k1,k2,k3,k4⟩:=hba b hb'
  have ho:=(hr y).2.1 q (by rw [← e]; exact hq)
  unfold Okr at ho
  refine⟨?_,?_,?_,?_⟩
  ·show -100000≤q.f_from∧q.f_from≤100000; omega
  ·show -100000≤b.a∧b.a≤100000; omega
  ·show 1≤q.f_to - q.f_from∧q.f_from + (q.f_to - q.f_from)≤100000; omega
  ·show 1≤b.b - b.a∧b.a + (b.b - b.a)≤100000; omega
 have hind:∀ x y,kT (fun r=>ind r x y) (rU bs)=P01 (o5 l x y ∧ ¬ o5 m x y):=fun x y=>by
  rw [Dt x y bs _ hb (fun b hb'=>by
   obtain ⟨y,e,_⟩:=hba b hb'
   exact⟨_,by rw [e]; exact (hr y).1⟩)]
  exact BO ((hr y).2.2 x)
 refine⟨hfine,hind,fun n hn => ?_⟩
 unfold Jv
 rw [vF (g:=fun r=>SS (-100000) n (ind r)) (fun r hr'=>by
  obtain ⟨f1,f2,f3,f4⟩:=hfine r hr'
  rw [JR (by omega) (by omega) (by omega) (by omega)]),GH]
 exact JW hind
end Go.Proofs.YtjhcehhmdmbleaaGreatDoor.Law

open Go Go.Eng
namespace Go.Proofs.YtjhcehhmdmbleaaGreatDoor.Law
set_option linter.unusedVariables false
set_option linter.unusedSimpArgs false
theorem BF {α:Type} [BEq α] [LawfulBEq α]:∀ (l m:List α),l.Nodup→(∀ x∈l,x∈m)→l.length≤m.length
 | [],_,_,_=>Nat.zero_le _
 | x::l,m,hd,hs=>by
  obtain ⟨h1,h2⟩:=List.nodup_cons.1 hd
  have hx:=hs x (by simp)
  have:=BF l (m.erase x) h2 (fun y hy=>(List.mem_erase_of_ne (fun e=>h1 (by rw [← e]; exact hy))).2 (hs y (by simp [hy])))
  have h3:=List.length_erase_of_mem hx
  have h4:=List.length_pos_of_mem hx
  simp only [List.length_cons]; omega
theorem FN (r:Rect) (x y:Int):ind r x y=0∨ind r x y=1:=by
 unfold ind b01
 cases sI x y r
 ·exact .inl rfl
 ·exact .inr rfl
theorem ind_t {r:Rect} {x y:Int} (h:sI x y r=true):ind r x y=1:=by unfold ind; rw [h]; rfl
def AO (l:List Rect) (x y:Int):Int:=kT (fun r=>ind r x y) l
theorem ym (x y:Int):∀ l:List Rect,0≤AO l x y
 | []=>Int.le_refl _
 | r::l=>by
  have:=ym x y l
  unfold AO at *
  rw [kT]
  rcases FN r x y with h | h <;> omega
theorem wh (l:List Rect) (x y:Int):o5 l x y ↔ ∃ r∈l,sI x y r=true:=by
 rw [← JE,hasB,List.any_eq_true]
theorem Ff {x y:Int}:∀ {l:List Rect},o5 l x y→1≤AO l x y
 | [],h=>by rw [wh]at h; obtain ⟨r,hr,_⟩:=h; cases hr
 | r::l,h=>by
  have h0:=ym x y l
  unfold AO at *
  rw [kT]
  rw [wh]at h
  obtain ⟨q,hq,hh⟩:=h
  rcases List.mem_cons.1 hq with rfl | hq
  ·rw [ind_t hh]; omega
  ·have:=Ff (l:=l) ((wh _ _ _).2 ⟨q,hq,hh⟩)
   unfold AO at this
   rcases FN r x y with h | h <;> omega
theorem row_nodup (y:Int):∀ l:List Rect,(∀ x,AO l x y≤1)→(∀ r∈l,1≤r.W)→((l.filter (covers y)).map (·.X)).Nodup
 | [],_,_=>List.nodup_nil
 | r::l,h,hw=>by
  have h':∀ x,AO l x y≤1:=fun x=>by
   have:=h x
   unfold AO at *
   rw [kT]at this
   rcases FN r x y with k | k <;> omega
  have ih:=row_nodup y l h' (fun q hq=>hw q (by simp [hq]))
  rw [List.filter_cons]
  cases hc:covers y r with
  | false=>exact ih
  | true =>
   simp only [if_true,List.map_cons]
   refine List.nodup_cons.2 ⟨fun hm => ?_,ih⟩
   obtain ⟨q,hq,he⟩:=List.mem_map.1 hm
   obtain ⟨q1,q2⟩:=List.mem_filter.1 hq
   have hwr:=hw r (by simp)
   have hwq:=hw q (by simp [q1])
   have e1:sI r.X y r=true:=by
    unfold sI; unfold covers at hc
    rw [hc,decide_eq_true (Int.le_refl _),decide_eq_true (show r.X < r.X + r.W by omega)]; rfl
   have e2:sI r.X y q=true:=by
    unfold sI; unfold covers at q2
    rw [q2,← he,decide_eq_true (Int.le_refl _),decide_eq_true (show q.X < q.X + q.W by omega)]; rfl
   have h1:=h r.X
   have h2:=Ff (l:=l) ((wh _ _ _).2 ⟨q,q1,e2⟩)
   unfold AO at h1 h2
   rw [kT,ind_t e1]at h1
   omega
theorem BI:∀ (bs:List Band) (lo:Int),nN lo bs → ∀ b∈bs,(∀ y,b.a≤y→y < b.b→rowAt bs y=b.row)∧b.a < b.b∧b.row ≠ []
 | [],_,_,b,hb=>by cases hb
 | p::bs,lo,⟨h1,h2,h3,h4,h5⟩,b,hb=>by
  rcases List.mem_cons.1 hb with rfl | hb
  ·exact⟨fun y k1 k2=>jV k1 k2,h2,h3⟩
  ·obtain ⟨i1,i2,i3⟩:=BI bs _ h5 b hb
   refine⟨fun y k1 k2 => ?_,i2,i3⟩
   have hge:p.b≤y:=by
    rcases Int.lt_or_le y p.b with k | k
    ·have e:=i1 y k1 k2
     rw [lg h5 k]at e
     exact absurd e.symm i3
    ·exact k
   rw [jf (.inr hge)]; exact i1 y k1 k2
theorem KP {bs:List Band} {lo:Int} (h:nN lo bs) {r:Rect} (hr:r∈rU bs) {y:Int} (h1:r.Y≤y) (h2:y < r.Y + r.H):∃ q∈rowAt bs y,r.X=q.f_from∧r.X + r.W=q.f_to:=by
 obtain ⟨b,hb,hr⟩:=List.mem_flatMap.1 hr
 obtain ⟨q,hq,rfl⟩:=List.mem_map.1 hr
 obtain ⟨i1,i2,i3⟩:=BI bs lo h b hb
 have e:b.a + (b.b - b.a)=b.b:=by omega
 refine⟨q,?_,rfl,by show q.f_from + (q.f_to - q.f_from)=q.f_to; omega⟩
 rw [i1 y h1 (by have:y < b.a + (b.b - b.a):=h2; omega)]; exact hq
theorem zB:∀ {L:List Run} {lo:Int},fV lo L → ∀ q∈L,¬ mem (q.f_from - 1) L
 | [],_,_,q,hq=>by cases hq
 | r::L,lo,⟨h1,h2,h3⟩,q,hq=>by
  rw [mem_cons]
  rcases List.mem_cons.1 hq with rfl | hq
  ·rintro (k | k)
   ·omega
   ·have:=h3.gt k; omega
  ·have h4:=h3.lo q hq
   rintro (k | k)
   ·omega
   ·exact zB h3 q hq k
end Go.Proofs.YtjhcehhmdmbleaaGreatDoor.Law

open Go Go.Eng
namespace Go.Proofs.YtjhcehhmdmbleaaGreatDoor.Law
set_option linter.unusedVariables false
set_option linter.unusedSimpArgs false
def Gt (R:List Rect) (S:Int→Int→Prop):Prop := ∃ bs:List Band,R=rU bs∧nN (-200000) bs ∧ ∀ y,fV (-200000) (rowAt bs y)∧(∀ r∈rowAt bs y,Okr r) ∧ ∀ x,mem x (rowAt bs y)↔S x y
theorem Gt.uniq {R R':List Rect} {S S':Int→Int→Prop} (h:Gt R S) (h':Gt R' S') (e:∀ x y,S x y↔S' x y):R=R':=by
 obtain ⟨b,rfl,b1,b2⟩:=h
 obtain ⟨c,rfl,c1,c2⟩:=h'
 rw [H9 b1 c1 (fun y=>EK (b2 y).1 (c2 y).1 (fun x=>by rw [(b2 y).2.2,(c2 y).2.2]; exact e x y))]
theorem Gt.facts {R l m:List Rect} (h:Gt R (fun x y=>o5 l x y ∧ ¬ o5 m x y)) (hfl:∀ r∈l,Fine r) :
  (∀ r∈R,Fine r)∧(∀ x y,AO R x y=P01 (o5 l x y ∧ ¬ o5 m x y)) ∧ ∀ n:Nat,n=200000→Jv R=SS (-100000) n (fun x y=>P01 (o5 l x y ∧ ¬ o5 m x y)):=by
 obtain ⟨bs,rfl,b1,b2⟩:=h
 exact Em hfl b1 b2
theorem P01_le (p:Prop):P01 p≤1:=by
 by_cases h:p
 ·rw [HY h]; omega
 ·rw [zO h]; omega
theorem Gt.row {R l m:List Rect} (h:Gt R (fun x y=>o5 l x y ∧ ¬ o5 m x y)) (hfl:∀ r∈l,Fine r) (y:Int):(rowB R y).length≤l.length + m.length:=by
 obtain ⟨f1,f2,_⟩:=h.facts hfl
 have hn:=row_nodup y R (fun x=>by rw [f2]; exact P01_le _) (fun r hr=>(f1 r hr).2.2.1.1)
 obtain ⟨bs,rfl,b1,b2⟩:=h
 have hm:∀ v∈((rU bs).filter (covers y)).map (·.X),v∈l.map (·.X)++m.map (fun r=>r.X + r.W):=by
  intro v hv
  obtain ⟨r,hr,rfl⟩:=List.mem_map.1 hv
  obtain ⟨hr1,hr2⟩:=List.mem_filter.1 hr
  have hy:r.Y≤y∧y < r.Y + r.H:=by
   simp only [covers,Bool.and_eq_true,decide_eq_true_eq]at hr2; exact hr2
  obtain ⟨q,hq,e1,e2⟩:=KP b1 hr1 hy.1 hy.2
  obtain ⟨c1,c2,c3⟩:=b2 y
  have hl:=zB c1 q hq
  have hlt:=(c1.lo q hq).2
  have hin:=(c3 q.f_from).1 ⟨q,hq,Int.le_refl _,hlt⟩
  rw [c3]at hl
  obtain ⟨⟨s,hs,s1,s2⟩,hnm⟩:=hin
  rw [e1]
  by_cases hm':o5 m (q.f_from - 1) y
  ·obtain ⟨t,ht,t1,t2⟩:=hm'
   refine List.mem_append.2 (.inr (List.mem_map.2 ⟨t,ht,?_⟩))
   have:¬ (t.X≤q.f_from∧q.f_from < t.X + t.W):=fun k=>hnm ⟨t,ht,k,t2⟩
   omega
  ·refine List.mem_append.2 (.inl (List.mem_map.2 ⟨s,hs,?_⟩))
   have:¬ (s.X≤q.f_from - 1∧q.f_from - 1 < s.X + s.W):=fun k=>hl ⟨⟨s,hs,k,s2⟩,hm'⟩
   omega
 have:=BF _ _ hn hm
 simp only [List.length_map,List.length_append]at this
 unfold rowB
 rw [List.length_map]; exact this
end Go.Proofs.YtjhcehhmdmbleaaGreatDoor.Law

open Go Go.Eng
namespace Go.Proofs.YtjhcehhmdmbleaaGreatDoor.Law
set_option linter.unusedVariables false
set_option linter.unusedSimpArgs false
end Go.Proofs.YtjhcehhmdmbleaaGreatDoor.Law

open Go Go.Eng
namespace Go.Proofs.YtjhcehhmdmbleaaGreatDoor.Law
set_option linter.unusedVariables false
set_option linter.unusedSimpArgs false
end Go.Proofs.YtjhcehhmdmbleaaGreatDoor.Law

