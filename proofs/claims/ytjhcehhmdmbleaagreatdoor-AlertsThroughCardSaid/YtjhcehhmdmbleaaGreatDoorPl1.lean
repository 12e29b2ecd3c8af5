/-
  THE PLAIN LAW (part 1).
-/
import Derived.Test.YtjhcehhmdmbleaaGreatDoorEng5
import Derived.Test.YtjhcehhmdmbleaaGreatDoorDefs
namespace Go.Eng
set_option linter.unusedVariables false
set_option linter.unusedSimpArgs false
theorem iI {α σ ρ:Type} {body:Nat→α→σ→Option (Ctl σ ρ)} {xs:List α} {s:σ} (hl:xs.length≤1000000000000):forL xs s body=forR body xs 0 s:=by unfold forL; rw [if_pos hl]
theorem EE {α σ ρ:Type} {body:Nat→α→σ→Option (Ctl σ ρ)} (I:Nat→σ→Prop) (N:Nat):∀ (xs:List α) (k:Nat) (s:σ),k + xs.length=N→(∀ k x s,x∈xs→k < N→I k s → ∃ s',body k x s=some (.go s')∧I (k + 1) s')→I k s → ∃ s',forR body xs k s=some (.go s')∧I N s'
 | [],k,s,hN,h,hi=>⟨s,rfl,by simp only [List.length_nil,Nat.add_zero]at hN; rw [← hN]; exact hi⟩
 | x::xs,k,s,hN,h,hi=>by
  simp only [List.length_cons]at hN
  obtain ⟨s1,h1,h2⟩:=h k x s (by simp) (by omega) hi
  obtain ⟨s2,h3,h4⟩:=EE I N xs (k + 1) s1 (by omega) (fun k x s hx=>h k x s (by simp [hx])) h2
  exact⟨s2,by simp only [forR,h1,Option.bind_some]; exact h3,h4⟩
theorem Ef {α σ ρ:Type} {body:Nat→α→σ→Option (Ctl σ ρ)} (I:Nat→σ→Prop) {xs:List α} {s:σ} (hl:xs.length≤1000000000000) (h:∀ k x s,x∈xs→k < xs.length→I k s → ∃ s',body k x s=some (.go s')∧I (k + 1) s') (h0:I 0 s):∃ s',forL xs s body=some (.go s')∧I xs.length s':=by
 obtain ⟨s',h1,h2⟩:=EE I xs.length xs 0 s (by omega) h h0
 exact⟨s',by rw [iI hl]; exact h1,h2⟩
theorem DR {σ ρ τ:Type} (s:σ) (f:σ→Option τ) (g:ρ→Option τ):thenC (.go s) f g=f s:=rfl
theorem IG {σ ρ τ:Type} (r:ρ) (f:σ→Option τ) (g:ρ→Option τ):thenC (.ret r) f g=g r:=rfl
theorem ry {α:Type} (xs:List α) (k:Nat):idx xs (k:Int)=xs[k]? := by simp [idx]
theorem dC {n:Int} (h : -9223372036854775808≤n∧n≤9223372036854775807):w64 n=n:=yZ n h
theorem toL (s:ByteArray):s.toList=s.data.toList:=Go.Lib.toList_data s
theorem yX {a b:ByteArray} (h:a.toList=b.toList):a=b:=by
 rw [toL,toL]at h
 obtain ⟨⟨a⟩⟩:=a
 obtain ⟨⟨b⟩⟩:=b
 simp only at h
 rw [h]
theorem yT (a b:ByteArray):sEq a b=true↔a=b:=by
 simp only [sEq,beq_iff_eq]
 exact⟨yX,fun h=>by rw [h]⟩
theorem uw (a b:ByteArray):sEq a b=decide (a=b):=by
 rw [Bool.eq_iff_iff,yT]; simp
theorem HV (a b:ByteArray):sNe a b = !decide (a=b):=by
 have:=uw a b; simp only [sEq,sNe]at *; rw [this]
abbrev bl:=Op.bytesLess
theorem bl_lt:∀ (x y:List UInt8),bl x y=decide (x < y)
 | _,[]=>by simp [bl,Op.bytesLess]
 | [],_::_=>by simp [bl,Op.bytesLess]
 | a::x,b::y=>by
  have:=bl_lt x y
  simp only [bl,Op.bytesLess]at this ⊢
  rw [this,Bool.eq_iff_iff]
  simp only [Bool.or_eq_true,decide_eq_true_eq,Bool.and_eq_true,beq_iff_eq,List.cons_lt_cons_iff]
def lt (a b:ByteArray):Prop:=a.toList < b.toList
theorem yR (a b:ByteArray):sLt a b=true↔lt a b:=by
 show bl a.toList b.toList=true↔_
 rw [bl_lt]; simp [lt]
theorem sP (a:ByteArray):¬ lt a a:=List.lt_irrefl a.toList
theorem lt_trans {a b c:ByteArray} (h:lt a b) (k:lt b c):lt a c:=List.lt_trans h k
theorem xB (a b:ByteArray):lt a b∨a=b∨lt b a:=by
 rcases Classical.em (lt a b)with h | h
 ·exact .inl h
 ·rcases Classical.em (lt b a)with h2 | h2
  ·exact .inr (.inr h2)
  ·exact .inr (.inl (yX (List.le_antisymm (List.not_lt.1 h2) (List.not_lt.1 h))))
theorem sLe_iff (a b:ByteArray):sLe a b=true ↔ ¬ lt b a:=by
 have h1:=yR a b
 have h2:=yT a b
 simp only [sLe,Bool.or_eq_true]
 constructor
 ·rintro (h | h)
  ·exact fun k=>sP _ (lt_trans (h1.1 h) k)
  ·rw [h2.1 h]; exact sP _
 ·intro h
  rcases xB a b with k | k | k
  ·exact .inl (h1.2 k)
  ·exact .inr (h2.2 k)
  ·exact absurd k h
theorem sLe_nil (a:ByteArray):sLe a ⟨#[]⟩=decide (a.size=0):=by
 rw [Bool.eq_iff_iff,sLe_iff,lt,toL,toL,Go.Lib.size_eq]
 cases a.data.toList <;> simp
theorem sNe_nil (a:ByteArray):sNe a ⟨#[]⟩=decide (a.size≠0):=by
 rw [HV,Go.Lib.size_eq,Bool.eq_iff_iff]
 simp only [Bool.not_eq_true',decide_eq_false_iff_not,decide_eq_true_eq,ne_eq]
 refine not_congr ⟨fun h=>by rw [h]; rfl,fun h => ?_⟩
 exact yX (by rw [toL,List.eq_nil_of_length_eq_zero h,toL])
end Go.Eng

open Go Go.Eng
namespace Go.Proofs.YtjhcehhmdmbleaaGreatDoor.Law
set_option linter.unusedVariables false
set_option linter.unusedSimpArgs false
def iK (n lo hi:Int):Bool:=decide (n < lo) || decide (n > hi)
theorem lT (n lo hi:Int):bW n lo hi=some (iK n lo hi):=by
 unfold bW iK
 cases decide (n < lo) <;> cases decide (n > hi) <;> rfl
theorem yx (n lo hi:Int):jg n lo hi=some (!iK n lo hi):=by
 unfold jg iK
 have e1:decide (lo≤n) = !decide (n < lo):=by rw [Bool.eq_iff_iff]; simp
 have e2:decide (n≤hi) = !decide (n > hi):=by rw [Bool.eq_iff_iff]; simp
 rw [e1,e2]
 cases decide (n < lo) <;> cases decide (n > hi) <;> rfl
theorem ve {n lo hi:Int} (h:iK n lo hi=false):lo≤n∧n≤hi:=by
 simp only [iK,Bool.or_eq_false_iff,decide_eq_false_iff_not]at h; omega
def Bb (r:Rect):Bool:=iK r.X (-100000) 100000 || iK r.Y (-100000) 100000 || iK r.W 1 (w64 (100000 - r.X)) || iK r.H 1 (w64 (100000 - r.Y))
theorem CG (r:Rect):ja r=some (bif Bb r then 1 else 0):=by
 unfold ja Bb
 simp only [lT,Option.bind_some]
 cases iK r.X (-100000) 100000 <;> cases iK r.Y (-100000) 100000 <;> cases iK r.W 1 (w64 (100000 - r.X)) <;> cases iK r.H 1 (w64 (100000 - r.Y)) <;> rfl
theorem Cf (r:Rect):lK r=some (bif Bb r then 1 else 0):=by
 unfold lK Bb
 simp only [yx,Option.bind_some,Bool.not_not]
 cases iK r.X (-100000) 100000 <;> cases iK r.Y (-100000) 100000 <;> cases iK r.W 1 (w64 (100000 - r.X)) <;> cases iK r.H 1 (w64 (100000 - r.Y)) <;> rfl
end Go.Proofs.YtjhcehhmdmbleaaGreatDoor.Law

open Go Go.Eng
namespace Go.Proofs.YtjhcehhmdmbleaaGreatDoor.Law
set_option linter.unusedVariables false
set_option linter.unusedSimpArgs false
def Ok (s:Stream) (b:Int):Prop:=0≤s.f_at∧s.f_at≤b
theorem Ok.mono {s:Stream} {b c:Int} (h:Ok s b) (hc:b≤c):Ok s c:=⟨h.1,Int.le_trans h.2 hc⟩
theorem zY (x n:Int) (h:1≤n) (hn:n≤4611686018427387904):∃ r,o9 x n=some r∧0≤r∧r < n:=by
 have h1:x.tmod n < n:=Int.tmod_lt_of_pos x (by omega)
 have h2 : -n < x.tmod n:=Int.lt_tmod_of_pos x (by omega)
 have hb:decide (n < 1)=false:=by simp; omega
 have hn0:n≠0:=by omega
 simp only [o9,hb,cond_false,IB,if_neg hn0,Option.bind_some]
 cases hd:decide (x.tmod n < 0)with
 | true =>
  simp only [decide_eq_true_eq]at hd
  exact⟨_,rfl,by rw [dC (by omega)]; omega,by rw [dC (by omega)]; omega⟩
 | false =>
  simp only [decide_eq_false_iff_not]at hd
  exact⟨_,rfl,by omega,h1⟩
theorem om (s:Stream) (n:Int) {b:Int} (hs:Ok s b) (hb:b≤1000000) (h:1≤n) (hn:n≤4611686018427387904):∃ r s',cZ s n=some (r,s')∧0≤r∧r < n∧Ok s' (b + 1):=by
 obtain ⟨h0,h1⟩:=hs
 have e1:w64 (s.f_at + 1)=s.f_at + 1:=dC (by omega)
 have e2:w64 (s.f_at + 1 - 1)=s.f_at:=by rw [dC (by omega)]; omega
 simp only [cZ,e1,e2]
 by_cases hl:s.L.length=0
 ·have:((s.L.length:Int) == 0)=true:=by simp [hl]
  simp only [this,cond_true]
  obtain ⟨r,hr,h2,h3⟩:=zY (w64 ((s.f_at + 1) * 7919)) n h hn
  exact⟨r,_,by rw [hr]; rfl,h2,h3,⟨by show 0≤s.f_at + 1; omega,by show s.f_at + 1≤b + 1; omega⟩⟩
 ·have hne:(s.L.length:Int)≠0:=by omega
  have:((s.L.length:Int) == 0)=false:=by simpa using hl
  simp only [this,cond_false,IB,quoO,if_neg hne,Option.bind_some]
  have h2:0≤s.f_at.tmod s.L.length:=Int.tmod_nonneg _ h0
  have hp:(0:Int) < (s.L.length:Int):=by have:=Nat.pos_of_ne_zero hl; omega
  have h3:s.f_at.tmod s.L.length < s.L.length:=Int.tmod_lt_of_pos _ hp
  have hi:idx s.L (s.f_at.tmod s.L.length)=some s.L[(s.f_at.tmod s.L.length).toNat]:=by
   simp only [idx,if_pos h2]
   exact List.getElem?_eq_getElem (by omega)
  obtain ⟨r1,hr1,_,_⟩:=zY s.L[(s.f_at.tmod s.L.length).toNat] 1073741824 (by decide) (by decide)
  simp only [hi,hr1,Option.bind_some]
  generalize w64 (r1 + _)=y
  obtain ⟨r,hr,h4,h5⟩:=zY y n h hn
  exact⟨r,_,by rw [hr]; rfl,h4,h5,⟨by show 0≤s.f_at + 1; omega,by show s.f_at + 1≤b + 1; omega⟩⟩
theorem ou (s:Stream) (n:Int) {b:Int} (hs:Ok s b) (hb:b≤1000000) (h:1≤n) (hn:n≤1000):∃ r s',dJ s n=some (r,s')∧Ok s' (b + 1):=by
 obtain ⟨r,s',h1,_,_,h2⟩:=om s n hs hb h (by omega)
 exact⟨r == 0,s',by simp only [dJ,h1,Option.bind_some],h2⟩
theorem Cj {α:Type} {l:List α} {r:Int} (h0:0≤r) (h1:r < l.length):∃ y,idx l r=some y∧y∈l:=by
 refine⟨l[r.toNat]'(by omega),?_,List.getElem_mem _⟩
 simp only [idx,if_pos h0]
 exact List.getElem?_eq_getElem (by omega)
theorem oq (s:Stream) (l:List Int) {b:Int} (hs:Ok s b) (hb:b≤1000000) (h:1≤l.length) (hn:l.length≤1000):∃ r s',dI s l=some (r,s')∧r∈l∧Ok s' (b + 1):=by
 obtain ⟨r,s',h1,h2,h3,h4⟩:=om s l.length hs hb (by omega) (by omega)
 obtain ⟨y,hy,hm⟩:=Cj h2 h3
 exact⟨y,s',by simp only [dI,h1,hy,Option.bind_some],hm,h4⟩
theorem rD (s:Stream) (l:List ByteArray) {b:Int} (hs:Ok s b) (hb:b≤1000000) (h:1≤l.length) (hn:l.length≤1000):∃ r s',dH s l=some (r,s')∧r∈l∧Ok s' (b + 1):=by
 obtain ⟨r,s',h1,h2,h3,h4⟩:=om s l.length hs hb (by omega) (by omega)
 obtain ⟨y,hy,hm⟩:=Cj h2 h3
 exact⟨y,s',by simp only [dH,h1,hy,Option.bind_some],hm,h4⟩
theorem ig (s:Stream) (lo hi:Int) {b:Int} (hs:Ok s b) (hb:b≤1000000) (h:lo≤hi) (h1 : -1000000000000≤lo) (h2:hi≤1000000000000):∃ r s',bA s lo hi=some (r,s')∧lo≤r∧r≤hi∧Ok s' (b + 1):=by
 have hd:decide (hi < lo)=false:=by simp; omega
 have e1:w64 (hi - lo)=hi - lo:=dC (by omega)
 have e2:w64 (hi - lo + 1)=hi - lo + 1:=dC (by omega)
 obtain ⟨r,s',k1,k2,k3,k4⟩:=om s (hi - lo + 1) hs hb (by omega) (by omega)
 simp only [bA,hd,cond_false,e1,e2,k1,Option.bind_some]
 exact⟨_,s',rfl,by rw [dC (by omega)]; omega,by rw [dC (by omega)]; omega,k4⟩
theorem Fz (s:Stream) (lo hi:Int) {b:Int} (hs:Ok s b) (hb:b≤900000) (h:lo≤hi) (h1 : -1000000000000≤lo) (h2:hi≤1000000000000):∃ r s',bQ s lo hi=some (r,s')∧Ok s' (b + 2):=by
 obtain ⟨c,s1,k1,k2⟩:=ou s 12 hs (by omega) (by decide) (by decide)
 simp only [bQ,k1,Option.bind_some]
 cases c with
 | true =>
  obtain ⟨r,s2,m1,_,m2⟩:=oq s1 [(w64 (lo - 1)),(w64 (hi + 1)),lo,hi,(-1099511627776),1099511627776] k2 (by omega) (by simp) (by simp)
  simp only [cond_true,m1,Option.bind_some]
  exact⟨_,_,rfl,m2.mono (by omega)⟩
 | false =>
  obtain ⟨r,s2,m1,_,_,m2⟩:=ig s1 lo hi k2 (by omega) h h1 h2
  simp only [cond_false,m1,Option.bind_some]
  exact⟨_,_,rfl,m2.mono (by omega)⟩
end Go.Proofs.YtjhcehhmdmbleaaGreatDoor.Law

open Go Go.Eng
namespace Go.Proofs.YtjhcehhmdmbleaaGreatDoor.Law
set_option linter.unusedVariables false
set_option linter.unusedSimpArgs false
def AA (b:UInt8):Bool:=decide (97≤b.toNat) && decide (b.toNat≤122)
def EM (b:UInt8):Bool:=(decide (48≤b.toNat) && decide (b.toNat≤57)) || (b.toNat == 45) || (b.toNat == 95)
def okB (i:Nat) (b:UInt8):Bool:=AA b || (decide (0 < i) && EM b)
def gz (s:ByteArray) (i:Nat):UInt8:=s.data.toList.getD i 0
def kG (s:ByteArray):Bool:=decide (s.size≠0) && (decide (s.size≤40) && (List.range s.size).all fun i=>okB i (gz s i))
theorem E9 (s:ByteArray) (k:Nat) (h:k < s.size):su s (k:Int)=some (gz s k):=by
 have h1:s[k]? = some s[k]:=by simp [h]
 have h2:gz s k=s[k]:=by
  have hl:k < s.data.toList.length:=by rw [← Go.Lib.size_eq]; exact h
  simp only [gz,List.getD_eq_getElem?_getD,List.getElem?_eq_getElem hl,Option.getD_some]
  simp
  rfl
 simp only [su,if_pos (Int.natCast_nonneg k),Int.toNat_natCast,h1,h2]
theorem EJ (s:ByteArray) (k:Nat) (hs:s.size≤1000000000):iQ s (k:Int)=some (if k < s.size then (bif okB k (gz s k)then .go ((k + 1:Nat):Int)else .ret false)else .brk (k:Int)):=by
 unfold iQ
 by_cases h:k < s.size
 ·have hd:decide ((k:Int) < (s.size:Int))=true:=by simp; omega
  have hw:w64 ((k:Int) + 1)=((k + 1:Nat):Int):=by rw [dC (by omega)]; omega
  simp only [hd,cond_true,E9 s k h,Option.bind_some,if_pos h,hw]
  generalize gz s k=b
  simp only [okB,AA,EM]
  have e1:decide ((b.toNat:Int)≥97)=decide (97≤b.toNat):=decide_eq_decide.2 (by omega)
  have e2:decide ((b.toNat:Int)≤122)=decide (b.toNat≤122):=decide_eq_decide.2 (by omega)
  have e3:decide ((k:Int) > 0)=decide (0 < k):=decide_eq_decide.2 (by omega)
  have e4:decide ((b.toNat:Int)≥48)=decide (48≤b.toNat):=decide_eq_decide.2 (by omega)
  have e5:decide ((b.toNat:Int)≤57)=decide (b.toNat≤57):=decide_eq_decide.2 (by omega)
  have e6:((b.toNat:Int) == 45)=(b.toNat == 45):=by rw [Bool.eq_iff_iff]; simp; omega
  have e7:((b.toNat:Int) == 95)=(b.toNat == 95):=by rw [Bool.eq_iff_iff]; simp; omega
  rw [e1,e2,e3,e4,e5,e6,e7]
  cases decide (97≤b.toNat) <;> cases decide (b.toNat≤122) <;> cases decide (0 < k) <;> cases decide (48≤b.toNat) <;> cases decide (b.toNat≤57) <;> cases (b.toNat == 45) <;> cases (b.toNat == 95) <;> rfl
 ·have hd:decide ((k:Int) < (s.size:Int))=false:=by simp; omega
  simp only [hd,cond_false,if_neg h]
theorem zF (s:ByteArray) (hs:s.size≤1000000000):∀ (n k:Nat),k + n=s.size→iterN (fun i=>iQ s i) (n + 1) (k:Int)=some (bif (List.range' k n).all (fun j=>okB j (gz s j))then .go (s.size:Int)else .ret false)
 | 0,k,h=>by
  have hk:¬ k < s.size:=by omega
  simp only [iterN,EJ s k hs,if_neg hk,Option.bind_some,List.range'_zero,List.all_nil,cond_true]
  rw [show (k:Int)=s.size by omega]
 | n + 1,k,h=>by
  have hk:k < s.size:=by omega
  rw [iterN,EJ s k hs,if_pos hk,Option.bind_some,List.range'_succ,List.all_cons]
  cases okB k (gz s k)with
  | true=>simp only [cond_true,Bool.true_and]; exact zF s hs n (k + 1) (by omega)
  | false=>rfl
theorem tN (s:ByteArray) (hs:s.size≤1000000000):kit_IsKey s=some (kG s):=by
 have h:=iV (zF s hs s.size 0 (by omega))
 unfold kit_IsKey
 have h':ic (0:Int) (fun s_1=>iQ s s_1)=_:=h
 rw [h',Option.bind_some,← List.range_eq_range']
 have e:decide ((s.size:Int)≤40)=decide (s.size≤40):=decide_eq_decide.2 (by omega)
 simp only [kG]
 cases (List.range s.size).all (fun i=>okB i (gz s i))with
 | true =>
  rw [cond_true,DR,sNe_nil,e,Bool.and_true]
  cases decide (s.size≠0) <;> rfl
 | false=>simp only [cond_false,IG,Bool.and_false]
def qf (t:ByteArray) (b:UInt8):Bool := !decide (ixB t (b.toNat:Int) < 0)
theorem only_L1 (s t:ByteArray) (k x:Nat) (h:k < s.size):l5 s t k x ()=some (bif qf t (gz s k)then .go ()else .ret false):=by
 simp only [l5,E9 s k h,strings_IndexByte,eF,Option.bind_some,qf]
 cases decide (ixB t ((gz s k).toNat:Int) < 0) <;> rfl
theorem EW (s t:ByteArray):∀ (xs:List Nat) (k:Nat),k + xs.length=s.size→forR (fun k x u=>l5 s t k x u) xs k ()=some (bif (List.range' k xs.length).all (fun j=>qf t (gz s j))then .go ()else .ret false)
 | [],k,h=>rfl
 | x::xs,k,h=>by
  simp only [List.length_cons]at h ⊢
  have hk:k < s.size:=by omega
  rw [forR,only_L1 s t k x hk,Option.bind_some,List.range'_succ,List.all_cons]
  cases qf t (gz s k)with
  | true=>simp only [cond_true,Bool.true_and]; exact EW s t xs (k + 1) (by omega)
  | false=>rfl
theorem Hw (s t:ByteArray) (hs:s.size≤1000000000):qj s t=some ((List.range s.size).all fun i=>qf t (gz s i)):=by
 unfold qj
 rw [Int.toNat_natCast,iI (by simp; omega),EW s t _ 0 (by simp),Option.bind_some,List.length_range,← List.range_eq_range']
 cases (List.range s.size).all (fun i=>qf t (gz s i)) <;> rfl
def BQ:ByteArray:=⟨#[97,98,99,100,101,102,103,104,105,106,107,108,109,110,111,112,113,114,115,116,117,118,119,120,121,122]⟩
def Au:ByteArray:=⟨#[97,98,99,100,101,102,103,104,105,106,107,108,109,110,111,112,113,114,115,116,117,118,119,120,121,122,48,49,50,51,52,53,54,55,56,57,45,95]⟩
theorem Bl:∀ n:Fin 256,qf BQ (UInt8.ofNat n.val)=AA (UInt8.ofNat n.val)∧qf Au (UInt8.ofNat n.val)=(AA (UInt8.ofNat n.val) || EM (UInt8.ofNat n.val)):=by decide +kernel
theorem EA (b:UInt8):qf BQ b=AA b:=by
 have:=(Bl ⟨b.toNat,b.toNat_lt⟩).1
 simpa using this
theorem Dz (b:UInt8):qf Au b=(AA b || EM b):=by
 have:=(Bl ⟨b.toNat,b.toNat_lt⟩).2
 simpa using this
theorem uy (s:ByteArray) (hs:s.size≤1000000000):pU s=some (kG s):=by
 unfold pU jg
 have e1:decide ((1:Int)≤(s.size:Int))=decide (s.size≠0):=decide_eq_decide.2 (by omega)
 have e2:decide ((s.size:Int)≤40)=decide (s.size≤40):=decide_eq_decide.2 (by omega)
 rw [e1,e2]
 by_cases h1:s.size≠0
 ·by_cases h2:s.size≤40
  ·have hsub:zP s 0 1=some (s.extract 0 1):=by
    unfold zP; rw [if_pos ⟨by omega,by omega,by decide,by show 1≤s.size; omega⟩]; rfl
   have hsz:(s.extract 0 1).size=1:=by simp [ByteArray.size_extract]; omega
   have hb:gz (s.extract 0 1) 0=gz s 0:=by
    obtain ⟨⟨l⟩⟩:=s
    simp only [gz]
    cases l with
    | nil=>exact absurd rfl h1
    | cons b l=>simp [ByteArray.extract,ByteArray.copySlice]
   simp only [decide_eq_true h1,decide_eq_true h2,cond_true,Option.bind_some,hsub]
   have o1:=Hw (s.extract 0 1) BQ (by omega)
   have o2:=Hw s Au hs
   unfold BQ at o1
   unfold Au at o2
   rw [o1,Option.bind_some,o2]
   have e3:(List.range (s.extract 0 1).size).all (fun i=>qf BQ (gz (s.extract 0 1) i))=AA (gz s 0):=by
    rw [hsz]
    simp only [List.range_succ,List.range_zero,List.nil_append,List.all_cons,List.all_nil,Bool.and_true]
    rw [hb,EA]
   have e3':=e3
   unfold BQ at e3'
   rw [e3']
   have e4:∀ i,qf Au (gz s i)=(AA (gz s i) || EM (gz s i)):=fun i=>Dz _
   have e5:kG s=(AA (gz s 0) && (List.range s.size).all (fun i=>qf Au (gz s i))):=by
    simp only [kG,decide_eq_true h1,decide_eq_true h2,Bool.true_and,e4]
    rw [Bool.eq_iff_iff]
    simp only [List.all_eq_true,List.mem_range,Bool.and_eq_true,okB,Bool.or_eq_true,decide_eq_true_eq]
    constructor
    ·intro h
     refine⟨?_,fun i hi=>(h i hi).imp id (fun h=>h.2)⟩
     rcases h 0 (by omega)with h | h
     ·exact h
     ·exact absurd h.1 (by omega)
    ·rintro ⟨h3,h4⟩ i hi
     by_cases e:i=0
     ·rw [e]; exact .inl h3
     ·exact (h4 i hi).imp id (fun h=>⟨by omega,h⟩)
   unfold Au at e5
   rw [e5]
   cases AA (gz s 0) <;> rfl
  ·simp only [decide_eq_true h1,decide_eq_false h2,cond_true,cond_false,Option.bind_some,kG,Bool.false_and,Bool.and_false]
 ·simp only [decide_eq_false h1,cond_false,Option.bind_some,kG,Bool.false_and]
theorem keyB_ne {s:ByteArray} (h:kG s=true):s.size≠0:=by
 simp only [kG,Bool.and_eq_true,decide_eq_true_eq]at h
 exact h.1
end Go.Proofs.YtjhcehhmdmbleaaGreatDoor.Law

open Go Go.Eng
namespace Go.Proofs.YtjhcehhmdmbleaaGreatDoor.Law
set_option linter.unusedVariables false
set_option linter.unusedSimpArgs false
def mem (x:Int) (L:List Run):Prop := ∃ r∈L,r.f_from≤x∧x < r.f_to
def fV:Int→List Run→Prop
 | _,[]=>True
 | lo,r::rs=>lo < r.f_from∧r.f_from < r.f_to∧fV r.f_to rs
theorem wJ (x:Int):¬ mem x []:=fun⟨r,h,_⟩=>by cases h
theorem mem_cons (x:Int) (r:Run) (L:List Run):mem x (r::L)↔(r.f_from≤x∧x < r.f_to)∨mem x L:=by
 constructor
 ·rintro ⟨q,h,k⟩
  rcases List.mem_cons.1 h with rfl | h
  ·exact .inl k
  ·exact .inr ⟨q,h,k⟩
 ·rintro (k | ⟨q,h,k⟩)
  ·exact⟨r,by simp,k⟩
  ·exact⟨q,by simp [h],k⟩
theorem fV.lo:∀ {L:List Run} {lo:Int},fV lo L → ∀ r∈L,lo < r.f_from∧r.f_from < r.f_to
 | [],_,_,r,hr=>by cases hr
 | q::L,lo,h,r,hr=>by
  obtain ⟨h1,h2,h3⟩:=h
  rcases List.mem_cons.1 hr with rfl | hr
  ·exact⟨h1,h2⟩
  ·have:=h3.lo r hr; omega
theorem fV.gt {L:List Run} {lo:Int} (h:fV lo L) {x:Int} (hx:mem x L):lo < x:=by
 obtain ⟨r,hr,k⟩:=hx
 have:=h.lo r hr; omega
theorem fV.mono {L:List Run} {lo lo':Int} (h:fV lo L) (hl:lo'≤lo):fV lo' L:=by
 cases L with
 | nil=>trivial
 | cons r L=>exact⟨by have:=h.1; omega,h.2⟩
theorem EK:∀ {L M:List Run} {lo lo':Int},fV lo L→fV lo' M→(∀ x,mem x L↔mem x M)→L=M
 | [],[],_,_,_,_,_=>rfl
 | [],q::M,_,_,_,hM,h=>absurd ((h q.f_from).2 ((mem_cons _ _ _).2 (.inl ⟨Int.le_refl _,hM.2.1⟩))) (wJ _)
 | r::L,[],_,_,hL,_,h=>absurd ((h r.f_from).1 ((mem_cons _ _ _).2 (.inl ⟨Int.le_refl _,hL.2.1⟩))) (wJ _)
 | r::L,q::M,lo,lo',⟨a1,a2,a3⟩,⟨b1,b2,b3⟩,h=>by
  have lowL:∀ x,mem x (r::L)→r.f_from≤x:=fun x hx=>by
   rcases (mem_cons _ _ _).1 hx with k | k
   ·exact k.1
   ·have:=a3.gt k; omega
  have lowM:∀ x,mem x (q::M)→q.f_from≤x:=fun x hx=>by
   rcases (mem_cons _ _ _).1 hx with k | k
   ·exact k.1
   ·have:=b3.gt k; omega
  have e1:r.f_from=q.f_from:=by
   have k1:=lowM _ ((h r.f_from).1 ((mem_cons _ _ _).2 (.inl ⟨Int.le_refl _,a2⟩)))
   have k2:=lowL _ ((h q.f_from).2 ((mem_cons _ _ _).2 (.inl ⟨Int.le_refl _,b2⟩)))
   omega
  have e2:r.f_to=q.f_to:=by
   rcases Int.lt_trichotomy r.f_to q.f_to with k | k | k
   ·exfalso
    have:mem r.f_to (r::L):=(h r.f_to).2 ((mem_cons _ _ _).2 (.inl ⟨by omega,k⟩))
    rcases (mem_cons _ _ _).1 this with m | m
    ·omega
    ·have:=a3.gt m; omega
   ·exact k
   ·exfalso
    have:mem q.f_to (q::M):=(h q.f_to).1 ((mem_cons _ _ _).2 (.inl ⟨by omega,k⟩))
    rcases (mem_cons _ _ _).1 this with m | m
    ·omega
    ·have:=b3.gt m; omega
  have e3:L=M:=EK a3 b3 (fun x=>by
   have hx:=h x
   rw [mem_cons,mem_cons,e1,e2]at hx
   constructor
   ·intro k
    have:=a3.gt k
    rcases hx.1 (.inr k)with m | m
    ·omega
    ·exact m
   ·intro k
    have:=b3.gt k
    rcases hx.2 (.inr k)with m | m
    ·omega
    ·exact m)
  subst e3
  obtain ⟨f1,t1⟩:=r
  obtain ⟨f2,t2⟩:=q
  simp only at e1 e2
  rw [e1,e2]
def sub (rt:Int):Int→List Run→List Run
 | rf,[]=>bif decide (rf < rt)then [⟨rf,rt⟩]else []
 | rf,q::M=>bif decide (q.f_from < rt)then (bif decide (q.f_from > rf)then [⟨rf,q.f_from⟩]else [])++sub rt (max rf q.f_to) M else bif decide (rf < rt)then [⟨rf,rt⟩]else []
end Go.Proofs.YtjhcehhmdmbleaaGreatDoor.Law

namespace Go.Eng
set_option linter.unusedVariables false
set_option linter.unusedSimpArgs false
def Hz {α:Type} (cmp:α→α→Option Int) (a_2:Int) (s_21:(List α)×Int):Option (Ctl ((List α)×Int) (Unit)) :=
 (bif (decide (s_21.2 > a_2))then (inR s_21.2 s_21.1).bind fun _=>(s_21.1[(0 + (s_21.2).toNat)]?).bind fun e_30=>(inR (w64 (s_21.2 - 1)) s_21.1).bind fun _=>(s_21.1[(0 + ((w64 (s_21.2 - 1))).toNat)]?).bind fun e_33=>(cmp e_30 e_33).bind fun r_35=>some (decide (r_35 < 0))else some false).bind fun v_26=>bif v_26 then (inR (w64 (s_21.2 - 1)) s_21.1).bind fun _=>(s_21.1[(0 + ((w64 (s_21.2 - 1))).toNat)]?).bind fun e_39=>(inR s_21.2 s_21.1).bind fun _=>(s_21.1[(0 + (s_21.2).toNat)]?).bind fun e_42=>(inR s_21.2 s_21.1).bind fun _=>(s_21.1[(0 + (s_21.2).toNat)]?).bind fun e_45=>(inR (w64 (s_21.2 - 1)) (s_21.1.set (0 + (s_21.2).toNat) e_39)).bind fun _=>((s_21.1.set (0 + (s_21.2).toNat) e_39)[(0 + ((w64 (s_21.2 - 1))).toNat)]?).bind fun e_48=>some (.go (((s_21.1.set (0 + (s_21.2).toNat) e_39).set (0 + ((w64 (s_21.2 - 1))).toNat) e_42),(w64 (s_21.2 - 1))))else some (.brk (s_21.1,s_21.2))
noncomputable def EN {α:Type} (cmp:α→α→Option Int) (b_3:Int) (a_2:Int) (s_10:(List α)×Int):Option (Ctl ((List α)×Int) (Unit)) :=
 bif (decide (s_10.2 < b_3))then (ic (s_10.1,s_10.2) (fun s=>Hz cmp a_2 s)).bind fun o_24=>thenC o_24 (fun s_21=>some (.go (s_21.1,(w64 (s_10.2 + 1))))) (fun _=>none)else some (.brk (s_10.1,s_10.2))
noncomputable def FC {α:Type} (cmp:α→α→Option Int) (data_1:(List α)) (a_2:Int) (b_3:Int):Option ((List α)) :=
 (ic (data_1,(w64 (a_2 + 1))) (fun s=>EN cmp b_3 a_2 s)).bind fun o_13=>thenC o_13 (fun s_10=>some s_10.1) (fun _=>none)
noncomputable def KT {α:Type} (cmp:α→α→Option Int) (b_3:Int) (a_2:Int) (data_1:(List α)) (limit_4:Int) (s_11:Unit):Option (Ctl (Unit) ((List α))) :=
 bif (decide ((w64 (b_3 - a_2))≤12))then (FC cmp data_1 a_2 b_3).bind fun r_17=>(iO r_17 data_1).bind fun _=>some (.ret r_17)else bif (limit_4 == 0)then none else none
noncomputable def GD {α:Type} (cmp:α→α→Option Int) (data_1:(List α)) (a_2:Int) (b_3:Int) (limit_4:Int):Option ((List α)) :=
 (ic () (fun s=>KT cmp b_3 a_2 data_1 limit_4 s)).bind fun o_14=>thenC o_14 (fun s_11=>some data_1) (fun r=>some r)
theorem G5 {α:Type} (u v:α) (C:List α):∀ A:List α,((A++u::v::C).set (A.length + 1) u).set A.length v=A++v::u::C
 | []=>rfl
 | a::A=>by simp only [List.cons_append,List.length_cons,List.set_cons_succ,G5 u v C A]
theorem get_0 {α:Type} (u:α) (C A:List α):(A++u::C)[A.length]? = some u:=by simp
theorem get_1 {α:Type} (u v:α) (C A:List α):(A++u::v::C)[A.length + 1]? = some v:=by
 rw [List.getElem?_append_right (by omega)]; simp
theorem Ji {α:Type} (u v w:α) (C:List α):∀ A:List α,(A++u::v::C).set (A.length + 1) w=A++u::w::C
 | []=>rfl
 | a::A=>by simp only [List.cons_append,List.length_cons,List.set_cons_succ,Ji u v w C A]
theorem Gu {α:Type} {xs:List α} {i:Nat} (h:i < xs.length):inR (i:Int) xs=some ():=by
 unfold inR; rw [if_pos ⟨by omega,by simpa using h⟩]
section
variable {α:Type} {cmp:α→α→Option Int} {le:α→α→Prop} {p:α→Prop}
theorem insL1_s (u v:α) (A C:List α) {c:Int} (hc:cmp v u=some c) (hl:A.length≤1000000000):Hz cmp 0 (A++u::v::C,((A.length + 1:Nat):Int))=some (bif decide (c < 0)then .go (A++v::u::C,(A.length:Int))else .brk (A++u::v::C,((A.length + 1:Nat):Int))):=by
 have hw:w64 (((A.length + 1:Nat):Int) - 1)=(A.length:Int):=by rw [yZ _ (by omega)]; omega
 have h1:inR ((A.length + 1:Nat):Int) (A++u::v::C)=some ():=Gu (by simp)
 have h2:inR (A.length:Int) (A++u::v::C)=some ():=Gu (by simp)
 have h3:inR (A.length:Int) (A++u::u::C)=some ():=Gu (by simp)
 have hd:decide (((A.length + 1:Nat):Int) > 0)=true:=by simp <;> omega
 have e1:0 + ((A.length + 1:Nat):Int).toNat=A.length + 1:=by omega
 have e2:0 + ((A.length:Nat):Int).toNat=A.length:=by omega
 unfold Hz
 simp only [hw,h1,h2,hd,e1,e2,get_0,get_1,Option.bind_some,hc,cond_true,Ji,h3]
 cases decide (c < 0)with
 | false=>rfl
 | true =>
  simp only [cond_true]
  have:=G5 u v C A
  rw [Ji]at this
  rw [this]
theorem BX (hc:∀ a b,p a→p b → ∃ c,cmp a b=some c∧(c < 0→le a b)∧(¬ c < 0→le b a)) (tr:∀ a b c,le a b→le b c→le a c) (v:α) (hv:p v) (R:List α):∀ (n:Nat) (A B:List α),A.length=n→n≤1000000000→(∀ a∈A,p a)→(A++B).Pairwise le→(∀ b∈B,le v b) →
  ∃ A' B',iterN (fun s=>Hz cmp 0 s) (n + 1) (A++v::(B++R),(A.length:Int))=some (.go (A'++v::(B'++R),(A'.length:Int)))∧A'++B'=A++B∧(A'++v::B').Pairwise le
 | 0,A,B,hA,hn,hpa,hp,hb=>by
  have:A = []:=List.eq_nil_of_length_eq_zero hA
  subst this
  exact⟨[],B,by simp only [List.nil_append,List.length_nil,iterN,Option.bind]; rfl,rfl,by simpa using ⟨hb,hp⟩⟩
 | n + 1,A,B,hA,hn,hpa,hp,hb=>by
  rcases List.eq_nil_or_concat A with h | ⟨A0,u,h⟩
  ·rw [h]at hA; cases hA
  ·subst h
   simp only [List.concat_eq_append]at hA hp hpa ⊢
   have hA0:A0.length=n:=by simpa using hA
   have hl:(A0 ++ [u]).length=A0.length + 1:=by simp
   have e:A0 ++ [u]++v::(B++R)=A0++u::v::(B++R):=by simp
   obtain ⟨c,h1,h2,h3⟩:=hc v u hv (hpa u (by simp))
   rw [hl,e,iterN,insL1_s u v A0 (B++R) h1 (by omega),Option.bind_some]
   by_cases hcn:c < 0
   ·simp only [decide_eq_true hcn,cond_true]
    have hp':(A0++(u::B)).Pairwise le:=by simpa using hp
    obtain ⟨A',B',k1,k2,k3⟩:=BX hc tr v hv R n A0 (u::B) hA0 (by omega) (fun a ha=>hpa a (by simp [ha])) hp' (fun b hb'=>by
     rcases List.mem_cons.1 hb' with rfl | hb'
     ·exact h2 hcn
     ·exact hb b hb')
    refine⟨A',B',?_,by rw [k2]; simp,k3⟩
    rw [← k1]; simp
   ·simp only [decide_eq_false hcn,cond_false]
    refine⟨A0 ++ [u],B,by simp,rfl,?_⟩
    have huv:=h3 hcn
    rw [List.pairwise_append]at hp ⊢
    obtain ⟨p1,p2,p3⟩:=hp
    refine⟨p1,List.pairwise_cons.2 ⟨hb,p2⟩,fun a ha b hb' => ?_⟩
    rcases List.mem_cons.1 hb' with rfl | hb'
    ·rcases List.mem_append.1 ha with ha | ha
     ·rw [List.pairwise_append]at p1
      exact tr _ _ _ (p1.2.2 a ha u (by simp)) huv
     ·rw [List.mem_singleton]at ha; subst ha; exact huv
    ·exact p3 a ha b hb'
theorem Bj (hc:∀ a b,p a→p b → ∃ c,cmp a b=some c∧(c < 0→le a b)∧(¬ c < 0→le b a)) (tr:∀ a b c,le a b→le b c→le a c):∀ (Q P:List α),P.length + Q.length≤1000000000→(∀ x∈P++Q,p x)→P.Pairwise le →
  ∃ s,iterN (fun s=>EN cmp ((P.length + Q.length:Nat):Int) 0 s) (Q.length + 1) (P++Q,(P.length:Int))=some (.go (s,((P.length + Q.length:Nat):Int)))∧s.Perm (P++Q)∧s.Pairwise le
 | [],P,hl,hpx,hp=>by
  refine⟨P,?_,by simp,hp⟩
  have hd:decide ((P.length:Int) < ((P.length + ([]:List α).length:Nat):Int))=false:=by simp
  simp only [iterN,EN,hd,cond_false,Option.bind_some,List.append_nil]
  simp
 | v::Q,P,hl,hpx,hp=>by
  simp only [List.length_cons]at hl
  have hd:decide ((P.length:Int) < ((P.length + (v::Q).length:Nat):Int))=true:=by simp only [decide_eq_true_eq,List.length_cons]; omega
  obtain ⟨A',B',k1,k2,k3⟩:=BX hc tr v (hpx v (by simp)) Q P.length P [] rfl (by omega) (fun a ha=>hpx a (by simp [ha])) (by simpa using hp) (fun b hb=>by cases hb)
  rw [List.nil_append]at k1
  have hlo:=iV k1
  rw [List.length_cons,iterN]
  have hw:w64 ((P.length:Int) + 1)=((A'++v::B').length:Int):=by
   have:=congrArg List.length k2
   simp only [List.length_append,List.length_nil]at this
   rw [yZ _ (by omega)]; simp only [List.length_append,List.length_cons]; omega
  have h1:EN cmp ((P.length + (Q.length + 1):Nat):Int) 0 (P++v::Q,(P.length:Int))=some (.go (A'++v::(B'++Q),((A'++v::B').length:Int))):=by
   have hd':decide ((P.length:Int) < ((P.length + (Q.length + 1):Nat):Int))=true:=hd
   unfold EN
   simp only [hd',cond_true,hlo,Option.bind_some,thenC,hw]
  have hlen:(A'++v::B').length=P.length + 1:=by
   have:=congrArg List.length k2
   simp only [List.length_append,List.length_nil,List.length_cons]at this ⊢
   omega
  have hk:(A'++B').Perm P:=by rw [k2]; simp
  have hperm:(A'++v::B').Perm (P ++ [v]):=(List.perm_middle).trans ((List.Perm.cons v hk).trans (List.perm_append_comm (l₁ := [v]) (l₂:=P)))
  obtain ⟨s,m1,m2,m3⟩:=Bj hc tr Q (A'++v::B') (by omega) (fun x hx=>by
   rcases List.mem_append.1 hx with hx | hx
   ·have:=hperm.mem_iff.1 hx
    exact hpx x (by rcases List.mem_append.1 this with h | h <;> simp_all)
   ·exact hpx x (by simp [hx])) k3
  rw [h1,Option.bind_some]
  have e:A'++v::(B'++Q)=(A'++v::B')++Q:=by simp
  have e2:P.length + (Q.length + 1)=(A'++v::B').length + Q.length:=by omega
  simp only
  rw [e,e2]
  refine⟨s,m1,m2.trans ?_,m3⟩
  have:=List.Perm.append_right Q hperm
  simpa using this
theorem pdq_ok (hc:∀ a b,p a→p b → ∃ c,cmp a b=some c∧(c < 0→le a b)∧(¬ c < 0→le b a)) (tr:∀ a b c,le a b→le b c→le a c) (l:List α) (hl:l.length≤12) (hpl:∀ x∈l,p x) (lim:Int):∃ s,GD cmp l 0 (l.length:Int) lim=some s∧s.Perm l∧s.Pairwise le:=by
 have key:∃ s,FC cmp l 0 (l.length:Int)=some s∧s.Perm l∧s.Pairwise le:=by
  unfold FC
  have hw:w64 (0 + 1)=1:=rfl
  rw [hw]
  cases l with
  | nil=>exact⟨[],by rw [iV (n:=1) (o := .go ([],1)) rfl]; rfl,.nil,.nil⟩
  | cons v Q =>
   obtain ⟨s,m1,m2,m3⟩:=Bj hc tr Q [v] (by simp only [List.length_cons,List.length_nil]at hl ⊢; omega) (fun x hx=>hpl x (by simpa using hx)) (List.pairwise_singleton _ _)
   have e:([v].length + Q.length:Nat)=(v::Q).length:=by simp only [List.length_cons,List.length_nil]; omega
   rw [e]at m1
   have:=iV m1
   refine⟨s,?_,m2,m3⟩
   show (ic (v::Q,1) _).bind _=_
   have e2:(([v]++Q,(([v]:List α).length:Int)):List α×Int)=(v::Q,1):=rfl
   rw [e2]at this
   rw [this]; rfl
 obtain ⟨s,h1,h2,h3⟩:=key
 refine⟨s,?_,h2,h3⟩
 have hsm:iO s l=some ():=by unfold iO; rw [if_pos h2.length_eq]
 have hd:decide (w64 ((l.length:Int) - 0)≤12)=true:=by
  have:(l.length:Int) - 0=l.length:=by omega
  rw [this,yZ _ (by omega)]; simp; omega
 have:ic () (fun s=>KT cmp (l.length:Int) 0 l lim s)=some (.ret s):=by
  refine iV (n:=1) ?_
  simp only [iterN,KT,hd,cond_true,h1,hsm,Option.bind_some]
 unfold GD
 rw [this]; rfl
end
end Go.Eng

open Go Go.Eng
namespace Go.Proofs.YtjhcehhmdmbleaaGreatDoor.Law
set_option linter.unusedVariables false
set_option linter.unusedSimpArgs false
theorem lN {α:Type} (xs ys:List α) (h:xs.length + ys.length≤1000000000):pJ xs ys=some (xs++ys):=by unfold pJ; rw [if_pos h]
def Fine (r:Rect):Prop:=(-100000≤r.X∧r.X≤100000)∧(-100000≤r.Y∧r.Y≤100000)∧(1≤r.W∧r.X + r.W≤100000)∧1≤r.H∧r.Y + r.H≤100000
def o5 (l:List Rect) (x y:Int):Prop := ∃ r∈l,(r.X≤x∧x < r.X + r.W)∧r.Y≤y∧y < r.Y + r.H
def covers (y:Int) (r:Rect):Bool:=decide (r.Y≤y) && decide (y < r.Y + r.H)
def toRun (r:Rect):Run:=⟨r.X,r.X + r.W⟩
def rowB (l:List Rect) (y:Int):List Run:=(l.filter (covers y)).map toRun
def Okr (r:Run):Prop := -100000≤r.f_from∧r.f_from < r.f_to∧r.f_to≤100000
theorem len_ok:∀ n:Nat,n≤12 → ∃ k,iq (IntKind.u64.wrap (n:Int))=some k:=by
 have h:(List.range 13).all (fun n=>(iq (IntKind.u64.wrap (n:Int))).isSome)=true:=by kernel_rfl
 intro n hn
 have:=List.all_eq_true.1 h n (by simp; omega)
 exact Option.isSome_iff_exists.1 this
end Go.Proofs.YtjhcehhmdmbleaaGreatDoor.Law

open Go Go.Eng
namespace Go.Proofs.YtjhcehhmdmbleaaGreatDoor.Law
set_option linter.unusedVariables false
set_option linter.unusedSimpArgs false
end Go.Proofs.YtjhcehhmdmbleaaGreatDoor.Law

open Go Go.Eng
namespace Go.Proofs.YtjhcehhmdmbleaaGreatDoor.Law
set_option linter.unusedVariables false
set_option linter.unusedSimpArgs false
def dd:List Int→List Int
 | [] => []
 | [x] => [x]
 | x::y::l=>bif x == y then dd (y::l)else x::dd (y::l)
theorem G6 (x:Int):∀ (l:List Int) (b:Int),l.getLast? = some b→dd (l ++ [x])=bif b == x then dd l else dd l ++ [x]
 | [],b,h=>by cases h
 | [a],b,h=>by
  simp only [List.getLast?_singleton,Option.some.injEq]at h
  subst h
  simp only [List.cons_append,List.nil_append,dd]
  cases hx:a == x with
  | true=>rw [eq_of_beq hx]
  | false=>rfl
 | a::c::l,b,h=>by
  have ih:=G6 x (c::l) b (by rw [← h]; simp [List.getLast?_cons_cons])
  simp only [List.cons_append]at ih ⊢
  rw [dd,ih,dd]
  cases a == c <;> cases b == x <;> rfl
theorem Ho (s:List Int) (p:Nat) (a b:Int) (hp:1≤p) (ha:s[p]? = some a) (hb:s[p - 1]? = some b):dd (s.take (p + 1))=bif b == a then dd (s.take p)else dd (s.take p) ++ [a]:=by
 have hlt:=(List.getElem?_eq_some_iff.1 ha).1
 have e:s.take (p + 1)=s.take p ++ [a]:=by rw [List.take_add_one,ha]; rfl
 rw [e]
 refine G6 a _ b ?_
 rw [List.getLast?_eq_getElem?,List.length_take,List.getElem?_take,if_pos (by omega),← hb]
 congr 1; omega
theorem CE (x:Int):∀ l:List Int,x∈dd l↔x∈l
 | []=>Iff.rfl
 | [a]=>Iff.rfl
 | a::b::l=>by
  rw [dd]
  cases h:a == b with
  | true =>
   rw [cond_true,CE x (b::l),eq_of_beq h]; simp
  | false=>rw [cond_false,List.mem_cons,CE x (b::l),List.mem_cons (a:=x) (b:=a)]
theorem Cc:∀ l:List Int,l.Pairwise (· ≤ ·)→(dd l).Pairwise (· < ·)
 | [],_ => .nil
 | [a],_=>List.pairwise_singleton _ _
 | a::b::l,h=>by
  rw [dd]
  obtain ⟨h1,h2⟩:=List.pairwise_cons.1 h
  cases hx:a == b with
  | true=>exact Cc (b::l) h2
  | false =>
   refine List.pairwise_cons.2 ⟨fun c hc => ?_,Cc (b::l) h2⟩
   have hc:=(CE c (b::l)).1 hc
   have hab:a < b:=by
    have:=h1 b (by simp)
    have hne:a≠b:=by simpa using hx
    omega
   rcases List.mem_cons.1 hc with rfl | hc
   ·exact hab
   ·have:=(List.pairwise_cons.1 h2).1 c hc; omega
theorem JO:∀ l:List Int,(dd l).length≤l.length
 | []=>Nat.le_refl _
 | [a]=>Nat.le_refl _
 | a::b::l=>by
  have:=JO (b::l)
  rw [dd]
  cases a == b with
  | true=>rw [cond_true]; simp only [List.length_cons]at *; omega
  | false=>rw [cond_false]; simp only [List.length_cons]at *; omega
theorem JN {i:Int} {n:Nat} (h0:0≤i) (h1:i < n):inN i n=some ():=by unfold inN; rw [if_pos ⟨h0,by omega⟩]
theorem Dr {α:Type} {xs:List α} {i:Nat} (h:i < xs.length):inR (i:Int) xs=some ():=by
 unfold inR; rw [if_pos ⟨by omega,by simpa using h⟩]
theorem comp_L1 (s data:List Int) (k0 i2 k:Nat) (a b:Int) (hn:s.length≤1000000000) (hd:data.length=s.length) (h1:1≤i2) (hp:k0 + i2 < s.length) (hk:k < s.length) (ha:data[k0 + i2]? = some a) (hb:data[k0 + i2 - 1]? = some b) :
  bH s (k0:Int) (data,(k:Int),(i2:Int))=some (.go (bif b == a then (data,(k:Int),((i2 + 1:Nat):Int))else (data.set k a,((k + 1:Nat):Int),((i2 + 1:Nat):Int)))):=by
 unfold bH
 have e0:((s.length:Int).toNat - (k0:Int).toNat)=s.length - k0:=by omega
 have hc:decide ((i2:Int) < ((s.length - k0:Nat):Int))=true:=by simp; omega
 have hw:w64 ((i2:Int) - 1)=((i2 - 1:Nat):Int):=by rw [dC (by omega)]; omega
 have hw2:w64 ((i2:Int) + 1)=((i2 + 1:Nat):Int):=by rw [dC (by omega)]; omega
 have hw3:w64 ((k:Int) + 1)=((k + 1:Nat):Int):=by rw [dC (by omega)]; omega
 have i1:inN (i2:Int) (s.length - k0)=some ():=JN (by omega) (by omega)
 have i3:inN ((i2 - 1:Nat):Int) (s.length - k0)=some ():=JN (by omega) (by omega)
 have i4:inR (k:Int) data=some ():=Dr (by omega)
 have g1:(k0:Int).toNat + (i2:Int).toNat=k0 + i2:=by omega
 have g2:(k0:Int).toNat + ((i2 - 1:Nat):Int).toNat=k0 + i2 - 1:=by omega
 have g3:0 + (k:Int).toNat=k:=by omega
 have hkd:data[k]? = some data[k]:=List.getElem?_eq_getElem (by omega)
 simp only [e0,hc,cond_true,hw,hw2,hw3,i1,i3,i4,g1,g2,g3,Option.bind_some,ha,hb,hkd]
 have hne:(a != b) = !(b == a):=by rw [bne_comm]; rfl
 rw [hne]
 cases b == a <;> rfl
theorem vK (s:List Int) (k0:Nat) (hn:s.length≤1000000000):∀ (m i2 k:Nat) (data:List Int),k0 + i2 + m=s.length→1≤i2→data.length=s.length→k≤k0 + i2 - 1→data.take k=dd (s.take (k0 + i2))→data.drop (k0 + i2 - 1)=s.drop (k0 + i2 - 1) →
  ∃ (data':List Int) (k':Nat),iterN (fun t=>bH s (k0:Int) t) (m + 1) (data,(k:Int),(i2:Int))=some (.go (data',(k':Int),((s.length - k0:Nat):Int)))∧data'.length=s.length∧k'≤s.length∧data'.take k'=dd s
 | 0,i2,k,data,hm,h1,hd,hk,ht,hr=>by
  refine⟨data,k,?_,hd,by omega,?_⟩
  ·have e0:((s.length:Int).toNat - (k0:Int).toNat)=s.length - k0:=by omega
   have hc:decide ((i2:Int) < ((s.length - k0:Nat):Int))=false:=by simp; omega
   simp only [iterN,bH,e0,hc,cond_false,Option.bind_some]
   rw [show s.length - k0=i2 by omega]
  ·rw [ht,show k0 + i2=s.length by omega,List.take_length]
 | m + 1,i2,k,data,hm,h1,hd,hk,ht,hr=>by
  have hp:k0 + i2 < s.length:=by omega
  have hga:data[k0 + i2]? = some s[k0 + i2]:=by
   have:=congrArg (fun l=>l[1]?) hr
   simp only [List.getElem?_drop]at this
   rw [show k0 + i2 - 1 + 1=k0 + i2 by omega]at this
   rw [this,List.getElem?_eq_getElem hp]
  have hgb:data[k0 + i2 - 1]? = some (s[k0 + i2 - 1]'(by omega)):=by
   have:=congrArg (fun l=>l[0]?) hr
   simp only [List.getElem?_drop,Nat.add_zero]at this
   rw [this,List.getElem?_eq_getElem (by omega)]
  have hdt:=Ho s (k0 + i2) s[k0 + i2] (s[k0 + i2 - 1]'(by omega)) (by omega) (List.getElem?_eq_getElem hp) (List.getElem?_eq_getElem (by omega))
  rw [iterN,comp_L1 s data k0 i2 k _ _ hn hd h1 hp (by omega) hga hgb,Option.bind_some]
  cases hx:s[k0 + i2 - 1]'(by omega) == s[k0 + i2]with
  | true =>
   rw [hx,cond_true]at hdt
   simp only [cond_true]
   refine vK s k0 hn m (i2 + 1) k data (by omega) (by omega) hd (by omega) (by rw [ht,← hdt]; rfl) ?_
   have:=congrArg (List.drop 1) hr
   simp only [List.drop_drop]at this
   rw [show k0 + i2 - 1 + 1=k0 + (i2 + 1) - 1 by omega]at this
   exact this
  | false =>
   rw [hx,cond_false]at hdt
   simp only [cond_false]
   have hkl:k < data.length:=by omega
   refine vK s k0 hn m (i2 + 1) (k + 1) (data.set k s[k0 + i2]) (by omega) (by omega) (by simpa using hd) (by omega) ?_ ?_
   ·rw [List.take_add_one,List.getElem?_set_self hkl,List.take_set_of_le (Nat.le_refl _),ht]
    show _=dd (s.take (k0 + i2 + 1))
    rw [hdt]; rfl
   ·rw [List.drop_set_of_lt (by omega)]
    have:=congrArg (List.drop 1) hr
    simp only [List.drop_drop]at this
    rw [show k0 + i2 - 1 + 1=k0 + (i2 + 1) - 1 by omega]at this
    exact this
theorem zy (s:List Int) (hn:s.length≤1000000000):∀ (m i:Nat),i + m=s.length→1≤i→dd (s.take i)=s.take i →
  (iterN (fun t=>aN s t) (m + 1) (i:Int)=some (.go (s.length:Int))∧dd s=s)∨iterN (fun t=>aN s t) (m + 1) (i:Int)=some (.ret (dd s))
 | 0,i,hm,h1,hd=>by
  refine .inl ⟨?_,?_⟩
  ·have hc:decide ((i:Int) < (s.length:Int))=false:=by simp; omega
   simp only [iterN,aN,hc,cond_false,Option.bind_some]
   rw [show i=s.length by omega]
  ·rw [show i=s.length by omega,List.take_length]at hd; exact hd
 | m + 1,i,hm,h1,hd=>by
  have hi:i < s.length:=by omega
  have hc:decide ((i:Int) < (s.length:Int))=true:=by simp; omega
  have hw:w64 ((i:Int) - 1)=((i - 1:Nat):Int):=by rw [dC (by omega)]; omega
  have hw2:w64 ((i:Int) + 1)=((i + 1:Nat):Int):=by rw [dC (by omega)]; omega
  have e1:0 + (i:Int).toNat=i:=by omega
  have e2:0 + ((i - 1:Nat):Int).toNat=i - 1:=by omega
  have hga:s[i]? = some s[i]:=List.getElem?_eq_getElem hi
  have hgb:s[i - 1]? = some (s[i - 1]'(by omega)):=List.getElem?_eq_getElem (by omega)
  have hdt:=Ho s i s[i] (s[i - 1]'(by omega)) h1 hga hgb
  have i1:inR (i:Int) s=some ():=Dr hi
  have i2:inR ((i - 1:Nat):Int) s=some ():=Dr (by omega)
  rw [iterN]
  have hswap:(s[i] == s[i - 1]'(by omega))=(s[i - 1]'(by omega) == s[i]):=by rw [BEq.comm]
  cases hx:s[i - 1]'(by omega) == s[i]with
  | false =>
   have:aN s (i:Int)=some (.go ((i + 1:Nat):Int)):=by
    unfold aN
    simp only [hc,cond_true,hw,hw2,e1,e2,i1,i2,hga,hgb,Option.bind_some,hswap,hx,cond_false]
   rw [this,Option.bind_some]
   rw [hx,cond_false,hd]at hdt
   refine zy s hn m (i + 1) (by omega) (by omega) ?_
   rw [hdt,List.take_add_one,hga]; rfl
  | true =>
   right
   rw [hx,cond_true,hd]at hdt
   obtain ⟨data',k',q1,q2,q3,q4⟩:=vK s i hn (s.length - (i + 1)) 1 i s (by omega) (by omega) rfl (by omega) hdt.symm rfl
   have hlo:=iV q1
   have hne:neL s=some ():=by
    cases s with
    | nil=>simp at hi
    | cons a l=>rfl
   have hsr:vz s (i:Int) (s.length:Int)=some ():=by unfold vz; rw [if_pos ⟨by omega,by omega,by omega,by omega⟩]
   have hsr2:vz data' (k':Int) (data'.length:Int)=some ():=by unfold vz; rw [if_pos ⟨by omega,by omega,by omega,by omega⟩]
   have hlen:(data'.take k'++List.replicate (data'.length - k') (0:Int)++data'.drop (k' + (data'.length - k'))).length=data'.length:=by simp; omega
   have hsr3:vz (data'.take k'++List.replicate (data'.length - k') (0:Int)++data'.drop (k' + (data'.length - k'))) 0 (k':Int)=some ():=by unfold vz; rw [if_pos ⟨by omega,by omega,by omega,by rw [hlen]; omega⟩]
   have n1:((data'.length:Int)).toNat=data'.length:=by omega
   have n2:(k':Int).toNat=k':=by omega
   have:aN s (i:Int)=some (.ret (dd s)):=by
    unfold aN
    have one:((1:Nat):Int)=1:=rfl
    rw [one]at hlo
    simp only [hc,cond_true,hw,e1,e2,i1,i2,hga,hgb,Option.bind_some,hswap,hx,hne,hsr,hlo,thenC,hsr2,n1,n2,hsr3]
    congr 2
    show List.take k' (List.drop 0 _)=dd s
    rw [List.drop_zero,List.append_assoc,List.take_append_of_le_length (by rw [List.length_take]; omega),List.take_take,Nat.min_self,q4]
   rw [this]; rfl
theorem Gw (s:List Int) (hn:s.length≤1000000000):bS s=some (dd s):=by
 unfold bS
 by_cases h:(s.length:Int) < 2
 ·rw [decide_eq_true h,cond_true]
  match s,h with
  | [],_=>rfl
  | [a],_=>rfl
  | a::b::l,h=>simp at h; omega
 ·rw [decide_eq_false h,cond_false]
  have h1:dd (s.take 1)=s.take 1:=by
   match s with
   | []=>rfl
   | a::l=>rfl
  rcases zy s hn (s.length - 1) 1 (by omega) (Nat.le_refl _) h1 with⟨h2,h3⟩ | h2
  ·have:=iV h2
   show (ic 1 _).bind _=_
   rw [show ((1:Nat):Int)=1 from rfl]at this
   rw [this,h3]; rfl
  ·have:=iV h2
   show (ic 1 _).bind _=_
   rw [show ((1:Nat):Int)=1 from rfl]at this
   rw [this]; rfl
theorem sortC (e:List Int) (hn:e.length≤1000000000):∃ s c,eO e=some s∧s.length=e.length∧bS s=some c∧c.Pairwise (· < ·)∧(∀ x,x∈c↔x∈e)∧c.length≤e.length:=by
 have hs:eO e=some (e.mergeSort fun x y=>decide (x≤y)):=by
  unfold eO Ia; rw [if_pos (by omega)]
 have hl:(e.mergeSort fun x y=>decide (x≤y)).length=e.length:=List.length_mergeSort e
 refine⟨_,_,hs,hl,Gw _ (by rw [hl]; exact hn),Cc _ ?_,fun x => ?_,by rw [← hl]; exact JO _⟩
 ·have:=List.pairwise_mergeSort (le:=fun (x y:Int)=>decide (x≤y)) (fun a b c=>by simp; omega) (fun a b=>by simp; omega) e
  exact this.imp (by simp)
 ·rw [CE]; exact List.mem_mergeSort
end Go.Proofs.YtjhcehhmdmbleaaGreatDoor.Law

open Go Go.Eng
namespace Go.Proofs.YtjhcehhmdmbleaaGreatDoor.Law
set_option linter.unusedVariables false
set_option linter.unusedSimpArgs false
def Db (y h:Int) (r:Run):Rect:=⟨r.f_from,y,r.f_to - r.f_from,h⟩
section
variable {is:Int→Int→Option Bool} {xs ys:List Int} {s13:(List Rect)×(List Rect)×Int} {y y2:Int} {j:Nat}
end
end Go.Proofs.YtjhcehhmdmbleaaGreatDoor.Law

open Go Go.Eng
namespace Go.Proofs.YtjhcehhmdmbleaaGreatDoor.Law
set_option linter.unusedVariables false
set_option linter.unusedSimpArgs false
end Go.Proofs.YtjhcehhmdmbleaaGreatDoor.Law

open Go Go.Eng
namespace Go.Proofs.YtjhcehhmdmbleaaGreatDoor.Law
set_option linter.unusedVariables false
set_option linter.unusedSimpArgs false
end Go.Proofs.YtjhcehhmdmbleaaGreatDoor.Law

