/-
  THE PLAIN LAW (part 1).
-/
import Derived.Test.YtjhcehhmdmbleaaGreatEng5
import Derived.Test.YtjhcehhmdmbleaaGreatDefs
namespace Go.Eng
set_option linter.unusedVariables false
set_option linter.unusedSimpArgs false
theorem forL_eq {α σ ρ:Type} {body:Nat→α→σ→Option (Ctl σ ρ)} {xs:List α} {s:σ} (hl:xs.length≤1000000000000):forL xs s body=forR body xs 0 s:=by unfold forL; rw [if_pos hl]
theorem forR_inv {α σ ρ:Type} {body:Nat→α→σ→Option (Ctl σ ρ)} (I:Nat→σ→Prop) (N:Nat):∀ (xs:List α) (k:Nat) (s:σ),k + xs.length=N→(∀ k x s,x∈xs→k < N→I k s → ∃ s',body k x s=some (.go s')∧I (k + 1) s')→I k s → ∃ s',forR body xs k s=some (.go s')∧I N s'
 | [],k,s,hN,h,hi=>⟨s,rfl,by simp only [List.length_nil,Nat.add_zero]at hN; rw [← hN]; exact hi⟩
 | x::xs,k,s,hN,h,hi=>by
  simp only [List.length_cons]at hN
  obtain ⟨s1,h1,h2⟩:=h k x s (by simp) (by omega) hi
  obtain ⟨s2,h3,h4⟩:=forR_inv I N xs (k + 1) s1 (by omega) (fun k x s hx=>h k x s (by simp [hx])) h2
  exact⟨s2,by simp only [forR,h1,Option.bind_some]; exact h3,h4⟩
theorem forL_inv {α σ ρ:Type} {body:Nat→α→σ→Option (Ctl σ ρ)} (I:Nat→σ→Prop) {xs:List α} {s:σ} (hl:xs.length≤1000000000000) (h:∀ k x s,x∈xs→k < xs.length→I k s → ∃ s',body k x s=some (.go s')∧I (k + 1) s') (h0:I 0 s):∃ s',forL xs s body=some (.go s')∧I xs.length s':=by
 obtain ⟨s',h1,h2⟩:=forR_inv I xs.length xs 0 s (by omega) h h0
 exact⟨s',by rw [forL_eq hl]; exact h1,h2⟩
theorem thenC_go {σ ρ τ:Type} (s:σ) (f:σ→Option τ) (g:ρ→Option τ):thenC (.go s) f g=f s:=rfl
theorem thenC_ret {σ ρ τ:Type} (r:ρ) (f:σ→Option τ) (g:ρ→Option τ):thenC (.ret r) f g=g r:=rfl
theorem idx_nat {α:Type} (xs:List α) (k:Nat):idx xs (k:Int)=xs[k]? := by simp [idx]
theorem w64_id {n:Int} (h : -9223372036854775808≤n∧n≤9223372036854775807):w64 n=n:=w64_in n h
theorem toL (s:ByteArray):s.toList=s.data.toList:=Go.Lib.toList_data s
theorem str_ext {a b:ByteArray} (h:a.toList=b.toList):a=b:=by
 rw [toL,toL]at h
 obtain ⟨⟨a⟩⟩:=a
 obtain ⟨⟨b⟩⟩:=b
 simp only at h
 rw [h]
theorem sEq_iff (a b:ByteArray):sEq a b=true↔a=b:=by
 simp only [sEq,beq_iff_eq]
 exact⟨str_ext,fun h=>by rw [h]⟩
theorem sEq_dec (a b:ByteArray):sEq a b=decide (a=b):=by
 rw [Bool.eq_iff_iff,sEq_iff]; simp
theorem sNe_dec (a b:ByteArray):sNe a b = !decide (a=b):=by
 have:=sEq_dec a b; simp only [sEq,sNe]at *; rw [this]
abbrev bl:=Op.bytesLess
theorem bl_lt:∀ (x y:List UInt8),bl x y=decide (x < y)
 | _,[]=>by simp [bl,Op.bytesLess]
 | [],_::_=>by simp [bl,Op.bytesLess]
 | a::x,b::y=>by
  have:=bl_lt x y
  simp only [bl,Op.bytesLess]at this ⊢
  rw [this,Bool.eq_iff_iff]
  simp only [Bool.or_eq_true,decide_eq_true_eq,Bool.and_eq_true,beq_iff_eq,List.cons_lt_cons_iff]
def lt (a b:ByteArray):Prop:=a.toList < b.toList
theorem sLt_iff (a b:ByteArray):sLt a b=true↔lt a b:=by
 show bl a.toList b.toList=true↔_
 rw [bl_lt]; simp [lt]
theorem lt_irr (a:ByteArray):¬ lt a a:=List.lt_irrefl a.toList
theorem lt_trans {a b c:ByteArray} (h:lt a b) (k:lt b c):lt a c:=List.lt_trans h k
theorem lt_tri (a b:ByteArray):lt a b∨a=b∨lt b a:=by
 rcases Classical.em (lt a b)with h | h
 ·exact .inl h
 ·rcases Classical.em (lt b a)with h2 | h2
  ·exact .inr (.inr h2)
  ·exact .inr (.inl (str_ext (List.le_antisymm (List.not_lt.1 h2) (List.not_lt.1 h))))
theorem sLe_iff (a b:ByteArray):sLe a b=true ↔ ¬ lt b a:=by
 have h1:=sLt_iff a b
 have h2:=sEq_iff a b
 simp only [sLe,Bool.or_eq_true]
 constructor
 ·rintro (h | h)
  ·exact fun k=>lt_irr _ (lt_trans (h1.1 h) k)
  ·rw [h2.1 h]; exact lt_irr _
 ·intro h
  rcases lt_tri a b with k | k | k
  ·exact .inl (h1.2 k)
  ·exact .inr (h2.2 k)
  ·exact absurd k h
theorem sLe_nil (a:ByteArray):sLe a ⟨#[]⟩=decide (a.size=0):=by
 rw [Bool.eq_iff_iff,sLe_iff,lt,toL,toL,Go.Lib.size_eq]
 cases a.data.toList <;> simp
theorem sNe_nil (a:ByteArray):sNe a ⟨#[]⟩=decide (a.size≠0):=by
 rw [sNe_dec,Go.Lib.size_eq,Bool.eq_iff_iff]
 simp only [Bool.not_eq_true',decide_eq_false_iff_not,decide_eq_true_eq,ne_eq]
 refine not_congr ⟨fun h=>by rw [h]; rfl,fun h => ?_⟩
 exact str_ext (by rw [toL,List.eq_nil_of_length_eq_zero h,toL])
end Go.Eng

open Go Go.Eng
namespace Go.Proofs.YtjhcehhmdmbleaaGreat.Law
set_option linter.unusedVariables false
set_option linter.unusedSimpArgs false
def Ok (s:Stream) (b:Int):Prop:=0≤s.f_at∧s.f_at≤b
theorem Ok.mono {s:Stream} {b c:Int} (h:Ok s b) (hc:b≤c):Ok s c:=⟨h.1,Int.le_trans h.2 hc⟩
theorem below_ok (x n:Int) (h:1≤n) (hn:n≤4611686018427387904):∃ r,mk_Below x n=some r∧0≤r∧r < n:=by
 have h1:x.tmod n < n:=Int.tmod_lt_of_pos x (by omega)
 have h2 : -n < x.tmod n:=Int.lt_tmod_of_pos x (by omega)
 have hb:decide (n < 1)=false:=by simp; omega
 have hn0:n≠0:=by omega
 simp only [mk_Below,hb,cond_false,remO,if_neg hn0,Option.bind_some]
 cases hd:decide (x.tmod n < 0)with
 | true =>
  simp only [decide_eq_true_eq]at hd
  exact⟨_,rfl,by rw [w64_id (by omega)]; omega,by rw [w64_id (by omega)]; omega⟩
 | false =>
  simp only [decide_eq_false_iff_not]at hd
  exact⟨_,rfl,by omega,h1⟩
theorem next_ok (s:Stream) (n:Int) {b:Int} (hs:Ok s b) (hb:b≤1000000) (h:1≤n) (hn:n≤4611686018427387904):∃ r s',mk_Stream_Next s n=some (r,s')∧0≤r∧r < n∧Ok s' (b + 1):=by
 obtain ⟨h0,h1⟩:=hs
 have e1:w64 (s.f_at + 1)=s.f_at + 1:=w64_id (by omega)
 have e2:w64 (s.f_at + 1 - 1)=s.f_at:=by rw [w64_id (by omega)]; omega
 simp only [mk_Stream_Next,e1,e2]
 by_cases hl:s.L.length=0
 ·have:((s.L.length:Int) == 0)=true:=by simp [hl]
  simp only [this,cond_true]
  obtain ⟨r,hr,h2,h3⟩:=below_ok (w64 ((s.f_at + 1) * 7919)) n h hn
  exact⟨r,_,by rw [hr]; rfl,h2,h3,⟨by show 0≤s.f_at + 1; omega,by show s.f_at + 1≤b + 1; omega⟩⟩
 ·have hne:(s.L.length:Int)≠0:=by omega
  have:((s.L.length:Int) == 0)=false:=by simpa using hl
  simp only [this,cond_false,remO,quoO,if_neg hne,Option.bind_some]
  have h2:0≤s.f_at.tmod s.L.length:=Int.tmod_nonneg _ h0
  have hp:(0:Int) < (s.L.length:Int):=by have:=Nat.pos_of_ne_zero hl; omega
  have h3:s.f_at.tmod s.L.length < s.L.length:=Int.tmod_lt_of_pos _ hp
  have hi:idx s.L (s.f_at.tmod s.L.length)=some s.L[(s.f_at.tmod s.L.length).toNat]:=by
   simp only [idx,if_pos h2]
   exact List.getElem?_eq_getElem (by omega)
  obtain ⟨r1,hr1,_,_⟩:=below_ok s.L[(s.f_at.tmod s.L.length).toNat] 1073741824 (by decide) (by decide)
  simp only [hi,hr1,Option.bind_some]
  generalize w64 (r1 + _)=y
  obtain ⟨r,hr,h4,h5⟩:=below_ok y n h hn
  exact⟨r,_,by rw [hr]; rfl,h4,h5,⟨by show 0≤s.f_at + 1; omega,by show s.f_at + 1≤b + 1; omega⟩⟩
theorem flip_ok (s:Stream) (n:Int) {b:Int} (hs:Ok s b) (hb:b≤1000000) (h:1≤n) (hn:n≤1000):∃ r s',mk_Stream_Flip s n=some (r,s')∧Ok s' (b + 1):=by
 obtain ⟨r,s',h1,_,_,h2⟩:=next_ok s n hs hb h (by omega)
 exact⟨r == 0,s',by simp only [mk_Stream_Flip,h1,Option.bind_some],h2⟩
theorem idx_mem {α:Type} {l:List α} {r:Int} (h0:0≤r) (h1:r < l.length):∃ y,idx l r=some y∧y∈l:=by
 refine⟨l[r.toNat]'(by omega),?_,List.getElem_mem _⟩
 simp only [idx,if_pos h0]
 exact List.getElem?_eq_getElem (by omega)
theorem pick_ok (s:Stream) (l:List Int) {b:Int} (hs:Ok s b) (hb:b≤1000000) (h:1≤l.length) (hn:l.length≤1000):∃ r s',mk_Stream_Pick s l=some (r,s')∧r∈l∧Ok s' (b + 1):=by
 obtain ⟨r,s',h1,h2,h3,h4⟩:=next_ok s l.length hs hb (by omega) (by omega)
 obtain ⟨y,hy,hm⟩:=idx_mem h2 h3
 exact⟨y,s',by simp only [mk_Stream_Pick,h1,hy,Option.bind_some],hm,h4⟩
theorem some_ok (s:Stream) (l:List ByteArray) {b:Int} (hs:Ok s b) (hb:b≤1000000) (h:1≤l.length) (hn:l.length≤1000):∃ r s',mk_Stream_Some s l=some (r,s')∧r∈l∧Ok s' (b + 1):=by
 obtain ⟨r,s',h1,h2,h3,h4⟩:=next_ok s l.length hs hb (by omega) (by omega)
 obtain ⟨y,hy,hm⟩:=idx_mem h2 h3
 exact⟨y,s',by simp only [mk_Stream_Some,h1,hy,Option.bind_some],hm,h4⟩
theorem range_ok (s:Stream) (lo hi:Int) {b:Int} (hs:Ok s b) (hb:b≤1000000) (h:lo≤hi) (h1 : -1000000000000≤lo) (h2:hi≤1000000000000):∃ r s',mk_Stream_Range s lo hi=some (r,s')∧lo≤r∧r≤hi∧Ok s' (b + 1):=by
 have hd:decide (hi < lo)=false:=by simp; omega
 have e1:w64 (hi - lo)=hi - lo:=w64_id (by omega)
 have e2:w64 (hi - lo + 1)=hi - lo + 1:=w64_id (by omega)
 obtain ⟨r,s',k1,k2,k3,k4⟩:=next_ok s (hi - lo + 1) hs hb (by omega) (by omega)
 simp only [mk_Stream_Range,hd,cond_false,e1,e2,k1,Option.bind_some]
 exact⟨_,s',rfl,by rw [w64_id (by omega)]; omega,by rw [w64_id (by omega)]; omega,k4⟩
theorem odd_ok (s:Stream) (lo hi:Int) {b:Int} (hs:Ok s b) (hb:b≤900000) (h:lo≤hi) (h1 : -1000000000000≤lo) (h2:hi≤1000000000000):∃ r s',mk_Stream_Odd s lo hi=some (r,s')∧Ok s' (b + 2):=by
 obtain ⟨c,s1,k1,k2⟩:=flip_ok s 12 hs (by omega) (by decide) (by decide)
 simp only [mk_Stream_Odd,k1,Option.bind_some]
 cases c with
 | true =>
  obtain ⟨r,s2,m1,_,m2⟩:=pick_ok s1 [(w64 (lo - 1)),(w64 (hi + 1)),lo,hi,(-1099511627776),1099511627776] k2 (by omega) (by simp) (by simp)
  simp only [cond_true,m1,Option.bind_some]
  exact⟨_,_,rfl,m2.mono (by omega)⟩
 | false =>
  obtain ⟨r,s2,m1,_,_,m2⟩:=range_ok s1 lo hi k2 (by omega) h h1 h2
  simp only [cond_false,m1,Option.bind_some]
  exact⟨_,_,rfl,m2.mono (by omega)⟩
end Go.Proofs.YtjhcehhmdmbleaaGreat.Law

open Go Go.Eng
namespace Go.Proofs.YtjhcehhmdmbleaaGreat.Law
set_option linter.unusedVariables false
set_option linter.unusedSimpArgs false
def lowB (b:UInt8):Bool:=decide (97≤b.toNat) && decide (b.toNat≤122)
def moreB (b:UInt8):Bool:=(decide (48≤b.toNat) && decide (b.toNat≤57)) || (b.toNat == 45) || (b.toNat == 95)
def okB (i:Nat) (b:UInt8):Bool:=lowB b || (decide (0 < i) && moreB b)
def byteAt (s:ByteArray) (i:Nat):UInt8:=s.data.toList.getD i 0
def keyB (s:ByteArray):Bool:=decide (s.size≠0) && (decide (s.size≤40) && (List.range s.size).all fun i=>okB i (byteAt s i))
theorem idxS_nat (s:ByteArray) (k:Nat) (h:k < s.size):idxS s (k:Int)=some (byteAt s k):=by
 have h1:s[k]? = some s[k]:=by simp [h]
 have h2:byteAt s k=s[k]:=by
  have hl:k < s.data.toList.length:=by rw [← Go.Lib.size_eq]; exact h
  simp only [byteAt,List.getD_eq_getElem?_getD,List.getElem?_eq_getElem hl,Option.getD_some]
  simp
  rfl
 simp only [idxS,if_pos (Int.natCast_nonneg k),Int.toNat_natCast,h1,h2]
theorem isKey_L1 (s:ByteArray) (k:Nat) (hs:s.size≤1000000000):kit_IsKey_L1 s (k:Int)=some (if k < s.size then (bif okB k (byteAt s k)then .go ((k + 1:Nat):Int)else .ret false)else .brk (k:Int)):=by
 unfold kit_IsKey_L1
 by_cases h:k < s.size
 ·have hd:decide ((k:Int) < (s.size:Int))=true:=by simp; omega
  have hw:w64 ((k:Int) + 1)=((k + 1:Nat):Int):=by rw [w64_id (by omega)]; omega
  simp only [hd,cond_true,idxS_nat s k h,Option.bind_some,if_pos h,hw]
  generalize byteAt s k=b
  simp only [okB,lowB,moreB]
  have e1:decide ((b.toNat:Int)≥97)=decide (97≤b.toNat):=decide_eq_decide.2 (by omega)
  have e2:decide ((b.toNat:Int)≤122)=decide (b.toNat≤122):=decide_eq_decide.2 (by omega)
  have e3:decide ((k:Int) > 0)=decide (0 < k):=decide_eq_decide.2 (by omega)
  have e4:decide ((b.toNat:Int)≥48)=decide (48≤b.toNat):=decide_eq_decide.2 (by omega)
  have e5:decide ((b.toNat:Int)≤57)=decide (b.toNat≤57):=decide_eq_decide.2 (by omega)
  have e6:((b.toNat:Int) == 45)=(b.toNat == 45):=by rw [Bool.eq_iff_iff]; simp; omega
  have e7:((b.toNat:Int) == 95)=(b.toNat == 95):=by rw [Bool.eq_iff_iff]; simp; omega
  rw [e1,e2,e3,e4,e5,e6,e7]
  cases decide (97≤b.toNat) <;> cases decide (b.toNat≤122) <;> cases decide (0 < k) <;> cases decide (48≤b.toNat) <;> cases decide (b.toNat≤57) <;> cases (b.toNat == 45) <;> cases (b.toNat == 95) <;> rfl
 ·have hd:decide ((k:Int) < (s.size:Int))=false:=by simp; omega
  simp only [hd,cond_false,if_neg h]
theorem isKey_iter (s:ByteArray) (hs:s.size≤1000000000):∀ (n k:Nat),k + n=s.size→iterN (fun i=>kit_IsKey_L1 s i) (n + 1) (k:Int)=some (bif (List.range' k n).all (fun j=>okB j (byteAt s j))then .go (s.size:Int)else .ret false)
 | 0,k,h=>by
  have hk:¬ k < s.size:=by omega
  simp only [iterN,isKey_L1 s k hs,if_neg hk,Option.bind_some,List.range'_zero,List.all_nil,cond_true]
  rw [show (k:Int)=s.size by omega]
 | n + 1,k,h=>by
  have hk:k < s.size:=by omega
  rw [iterN,isKey_L1 s k hs,if_pos hk,Option.bind_some,List.range'_succ,List.all_cons]
  cases okB k (byteAt s k)with
  | true=>simp only [cond_true,Bool.true_and]; exact isKey_iter s hs n (k + 1) (by omega)
  | false=>rfl
theorem isKey_eq (s:ByteArray) (hs:s.size≤1000000000):kit_IsKey s=some (keyB s):=by
 have h:=iter_loopO (isKey_iter s hs s.size 0 (by omega))
 unfold kit_IsKey
 have h':loopO (0:Int) (fun s_1=>kit_IsKey_L1 s s_1)=_:=h
 rw [h',Option.bind_some,← List.range_eq_range']
 have e:decide ((s.size:Int)≤40)=decide (s.size≤40):=decide_eq_decide.2 (by omega)
 simp only [keyB]
 cases (List.range s.size).all (fun i=>okB i (byteAt s i))with
 | true =>
  rw [cond_true,thenC_go,sNe_nil,e,Bool.and_true]
  cases decide (s.size≠0) <;> rfl
 | false=>simp only [cond_false,thenC_ret,Bool.and_false]
def inSet (t:ByteArray) (b:UInt8):Bool := !decide (ixB t (b.toNat:Int) < 0)
theorem only_L1 (s t:ByteArray) (k x:Nat) (h:k < s.size):ref_only_L1 s t k x ()=some (bif inSet t (byteAt s k)then .go ()else .ret false):=by
 simp only [ref_only_L1,idxS_nat s k h,strings_IndexByte,internal_stringslite_IndexByte,Option.bind_some,inSet]
 cases decide (ixB t ((byteAt s k).toNat:Int) < 0) <;> rfl
theorem only_run (s t:ByteArray):∀ (xs:List Nat) (k:Nat),k + xs.length=s.size→forR (fun k x u=>ref_only_L1 s t k x u) xs k ()=some (bif (List.range' k xs.length).all (fun j=>inSet t (byteAt s j))then .go ()else .ret false)
 | [],k,h=>rfl
 | x::xs,k,h=>by
  simp only [List.length_cons]at h ⊢
  have hk:k < s.size:=by omega
  rw [forR,only_L1 s t k x hk,Option.bind_some,List.range'_succ,List.all_cons]
  cases inSet t (byteAt s k)with
  | true=>simp only [cond_true,Bool.true_and]; exact only_run s t xs (k + 1) (by omega)
  | false=>rfl
theorem only_eq (s t:ByteArray) (hs:s.size≤1000000000):ref_only s t=some ((List.range s.size).all fun i=>inSet t (byteAt s i)):=by
 unfold ref_only
 rw [Int.toNat_natCast,forL_eq (by simp; omega),only_run s t _ 0 (by simp),Option.bind_some,List.length_range,← List.range_eq_range']
 cases (List.range s.size).all (fun i=>inSet t (byteAt s i)) <;> rfl
def alpha:ByteArray:=⟨#[97,98,99,100,101,102,103,104,105,106,107,108,109,110,111,112,113,114,115,116,117,118,119,120,121,122]⟩
def alnum:ByteArray:=⟨#[97,98,99,100,101,102,103,104,105,106,107,108,109,110,111,112,113,114,115,116,117,118,119,120,121,122,48,49,50,51,52,53,54,55,56,57,45,95]⟩
theorem inSet_all:∀ n:Fin 256,inSet alpha (UInt8.ofNat n.val)=lowB (UInt8.ofNat n.val)∧inSet alnum (UInt8.ofNat n.val)=(lowB (UInt8.ofNat n.val) || moreB (UInt8.ofNat n.val)):=by decide +kernel
theorem inSet_alpha (b:UInt8):inSet alpha b=lowB b:=by
 have:=(inSet_all ⟨b.toNat,b.toNat_lt⟩).1
 simpa using this
theorem inSet_alnum (b:UInt8):inSet alnum b=(lowB b || moreB b):=by
 have:=(inSet_all ⟨b.toNat,b.toNat_lt⟩).2
 simpa using this
theorem refKey_eq (s:ByteArray) (hs:s.size≤1000000000):ref_Key s=some (keyB s):=by
 unfold ref_Key ref_in
 have e1:decide ((1:Int)≤(s.size:Int))=decide (s.size≠0):=decide_eq_decide.2 (by omega)
 have e2:decide ((s.size:Int)≤40)=decide (s.size≤40):=decide_eq_decide.2 (by omega)
 rw [e1,e2]
 by_cases h1:s.size≠0
 ·by_cases h2:s.size≤40
  ·have hsub:subS s 0 1=some (s.extract 0 1):=by
    unfold subS; rw [if_pos ⟨by omega,by omega,by decide,by show 1≤s.size; omega⟩]; rfl
   have hsz:(s.extract 0 1).size=1:=by simp [ByteArray.size_extract]; omega
   have hb:byteAt (s.extract 0 1) 0=byteAt s 0:=by
    obtain ⟨⟨l⟩⟩:=s
    simp only [byteAt]
    cases l with
    | nil=>exact absurd rfl h1
    | cons b l=>simp [ByteArray.extract,ByteArray.copySlice]
   simp only [decide_eq_true h1,decide_eq_true h2,cond_true,Option.bind_some,hsub]
   have o1:=only_eq (s.extract 0 1) alpha (by omega)
   have o2:=only_eq s alnum hs
   unfold alpha at o1
   unfold alnum at o2
   rw [o1,Option.bind_some,o2]
   have e3:(List.range (s.extract 0 1).size).all (fun i=>inSet alpha (byteAt (s.extract 0 1) i))=lowB (byteAt s 0):=by
    rw [hsz]
    simp only [List.range_succ,List.range_zero,List.nil_append,List.all_cons,List.all_nil,Bool.and_true]
    rw [hb,inSet_alpha]
   have e3':=e3
   unfold alpha at e3'
   rw [e3']
   have e4:∀ i,inSet alnum (byteAt s i)=(lowB (byteAt s i) || moreB (byteAt s i)):=fun i=>inSet_alnum _
   have e5:keyB s=(lowB (byteAt s 0) && (List.range s.size).all (fun i=>inSet alnum (byteAt s i))):=by
    simp only [keyB,decide_eq_true h1,decide_eq_true h2,Bool.true_and,e4]
    rw [Bool.eq_iff_iff]
    simp only [List.all_eq_true,List.mem_range,Bool.and_eq_true,okB,Bool.or_eq_true,decide_eq_true_eq]
    constructor
    ·intro h
     refine⟨?_,fun i hi=>(h i hi).imp id (fun h=>h.2)⟩
     rcases h 0 (by omega)with h | h
     ·exact h
     ·exact absurd h.1 (by omega)
    ·rintro ⟨h3,h4⟩ i hi
     by_cases e:i=0
     ·rw [e]; exact .inl h3
     ·exact (h4 i hi).imp id (fun h=>⟨by omega,h⟩)
   unfold alnum at e5
   rw [e5]
   cases lowB (byteAt s 0) <;> rfl
  ·simp only [decide_eq_true h1,decide_eq_false h2,cond_true,cond_false,Option.bind_some,keyB,Bool.false_and,Bool.and_false]
 ·simp only [decide_eq_false h1,cond_false,Option.bind_some,keyB,Bool.false_and]
theorem keyB_ne {s:ByteArray} (h:keyB s=true):s.size≠0:=by
 simp only [keyB,Bool.and_eq_true,decide_eq_true_eq]at h
 exact h.1
end Go.Proofs.YtjhcehhmdmbleaaGreat.Law

open Go Go.Eng
namespace Go.Proofs.YtjhcehhmdmbleaaGreat.Law
set_option linter.unusedVariables false
set_option linter.unusedSimpArgs false
def Short (s:ByteArray):Prop:=s.size≤1000
def GoodE (x:Entry):Prop:=Short x.Key∧Short x.Item∧x.Except.length≤50∧x.Tags.length≤20 ∧ ∀ t∈x.Tags,Short t
def GoodP (x:Player):Prop:=Short x.Key∧Short x.Screen∧x.Tags.length≤20 ∧ ∀ t∈x.Tags,Short t
theorem short_lit {s:ByteArray} (h:Nat.ble s.size 1000=true):Short s:=Nat.le_of_ble_eq_true h
theorem appL_ok {α:Type} (xs ys:List α) (h:xs.length + ys.length≤1000000000):appL xs ys=some (xs++ys):=by unfold appL; rw [if_pos h]
theorem some_of {α:Type} {L:Nat→α→(List α×List Int×Int)→Option (Ctl (List α×List Int×Int) Unit)} {n:Int} (hn:1≤n) (hn2:n≤1000) (p:α→Prop)
  (hL:∀ k x s,L k x s=(mk_Stream_Flip (⟨s.2.1,s.2.2⟩:Stream) n).bind fun r=>(bif r.1 then (appL s.1 ([x]:List α)).bind fun a=>some a else some s.1).bind fun v=>some (.go (v,r.2.L,r.2.f_at)))
  {xs:List α} (hx:∀ x∈xs,p x) (hl:xs.length≤10) (s:Stream) {b:Int} (hs:Ok s b) (hb:b≤900000) :
  ∃ t s',forL xs (([]:List α),s.L,s.f_at) (fun k x s=>L k x s)=some (.go (t,s'.L,s'.f_at))∧Ok s' (b + 10)∧t.length≤10 ∧ ∀ x∈t,p x:=by
 obtain ⟨s',h1,h2,h3,h4⟩:=forL_inv (body:=fun k x s=>L k x s) (fun k s=>Ok ⟨s.2.1,s.2.2⟩ (b + k)∧s.1.length≤k ∧ ∀ x∈s.1,p x) (xs:=xs) (s:=(([]:List α),s.L,s.f_at)) (by omega) (fun k x s hxm hk ⟨i1,i2,i3⟩=>by
   obtain ⟨c,s1,k1,k2⟩:=flip_ok _ n i1 (by omega) hn hn2
   simp only [hL,k1,Option.bind_some]
   cases c with
   | true =>
    simp only [cond_true,appL_ok s.1 [x] (by simp; omega),Option.bind_some]
    refine⟨_,rfl,k2.mono (by omega),by simp; omega,fun y hy => ?_⟩
    rcases List.mem_append.1 hy with hy | hy
    ·exact i3 y hy
    ·rw [List.mem_singleton.1 hy]; exact hx x hxm
   | false =>
    simp only [cond_false,Option.bind_some]
    exact⟨_,rfl,k2.mono (by omega),by show s.1.length≤_; omega,i3⟩) ⟨by simpa using hs,by simp,by simp⟩
 exact⟨s'.1,⟨s'.2.1,s'.2.2⟩,h1,h2.mono (by omega),by omega,h4⟩
theorem set_at {α:Type} {xs:List α} {i:Nat} {a:α} (h:i < xs.length):(xs.set i a)[i]? = some a:=by simp [h]
theorem get_at {α:Type} {xs:List α} {i:Nat} (h:i < xs.length):xs[i]? = some xs[i]:=List.getElem?_eq_getElem h
theorem all_set {α:Type} {p:α→Prop} {xs:List α} {i:Nat} {a:α} (h:∀ x∈xs,p x) (ha:p a):∀ x∈xs.set i a,p x:=fun x hx=>by
 rcases List.mem_or_eq_of_mem_set hx with h1 | h1
 ·exact h x h1
 ·rw [h1]; exact ha
theorem inR_ok {α:Type} {i:Int} {xs:List α} (h0:0≤i) (h1:i < xs.length):inR i xs=some ():=by unfold inR; rw [if_pos ⟨h0,by omega⟩]
theorem rightPlayer_ok (s:Stream) {b:Int} (hs:Ok s b) (hb:b≤800000):∃ p s',mk_Stream_RightPlayer s=some (p,s')∧Ok s' (b + 2)∧GoodP p:=by
 obtain ⟨z,s1,h1,_,h2⟩:=pick_ok s [0,0,60,(-90),1440] hs (by omega) (by simp) (by simp)
 obtain ⟨j,s2,h3,h4,h5,h6⟩:=next_ok s1 3 h2 (by omega) (by decide) (by decide)
 obtain ⟨tg,n1,n2⟩:=idx_mem (l := [([]:List ByteArray),([(⟨#[99,105,116,121]⟩:ByteArray)]:List ByteArray),([(⟨#[99,105,116,121]⟩:ByteArray),(⟨#[109,97,108,108]⟩:ByteArray)]:List ByteArray)]) h4 (by simpa using h5)
 simp only [mk_Stream_RightPlayer,h1,h3,n1,Option.bind_some]
 refine⟨_,_,rfl,h6.mono (by omega),short_lit rfl,short_lit rfl,?_⟩
 simp only [List.mem_cons,List.not_mem_nil,or_false]at n2
 rcases n2 with rfl | rfl | rfl
 ·exact⟨by simp,by simp⟩
 ·exact⟨by simp,by intro t ht; simp only [List.mem_cons,List.not_mem_nil,or_false]at ht; rw [ht]; exact short_lit rfl⟩
 ·exact⟨by simp,by intro t ht; simp only [List.mem_cons,List.not_mem_nil,or_false]at ht; rcases ht with rfl | rfl <;> exact short_lit rfl⟩
theorem player_ok (s:Stream) {b:Int} (hs:Ok s b) (hb:b≤800000):∃ p s',mk_Stream_Player s=some (p,s')∧Ok s' (b + 20)∧GoodP p:=by
 obtain ⟨p,s1,h1,h2,h3⟩:=rightPlayer_ok s hs hb
 obtain ⟨c,s2,h4,h5⟩:=flip_ok s1 15 h2 (by omega) (by decide) (by decide)
 simp only [mk_Stream_Player,h1,h4,Option.bind_some]
 cases c with
 | false=>exact⟨_,_,rfl,h5.mono (by omega),h3⟩
 | true =>
  obtain ⟨k1,s3,m1,m2,m3⟩:=some_ok s2 [(⟨#[112]⟩:ByteArray),(⟨#[]⟩:ByteArray)] h5 (by omega) (by simp) (by simp)
  obtain ⟨k2,s4,m4,m5,m6⟩:=some_ok s3 [(⟨#[115,97]⟩:ByteArray),(⟨#[65]⟩:ByteArray)] m3 (by omega) (by simp) (by simp)
  obtain ⟨z,s5,m7,m8⟩:=odd_ok s4 (-1440) 1440 m6 (by omega) (by decide) (by decide) (by decide)
  obtain ⟨j,s6,m9,m10,m11,m12⟩:=next_ok s5 3 m8 (by omega) (by decide) (by decide)
  obtain ⟨tg,n1,n2⟩:=idx_mem (l := [([(⟨#[109,97,108,108]⟩:ByteArray),(⟨#[99,105,116,121]⟩:ByteArray)]:List ByteArray),([(⟨#[]⟩:ByteArray)]:List ByteArray),([]:List ByteArray)]) m10 (by simpa using m11)
  simp only [cond_true,m1,m4,m7,m9,n1,Option.bind_some]
  refine⟨_,_,rfl,m12.mono (by omega),?_,?_,?_⟩
  ·simp only [List.mem_cons,List.not_mem_nil,or_false]at m2
   rcases m2 with rfl | rfl <;> exact short_lit rfl
  ·simp only [List.mem_cons,List.not_mem_nil,or_false]at m5
   rcases m5 with rfl | rfl <;> exact short_lit rfl
  ·simp only [List.mem_cons,List.not_mem_nil,or_false]at n2
   rcases n2 with rfl | rfl | rfl
   ·exact⟨by simp,by intro t ht; simp only [List.mem_cons,List.not_mem_nil,or_false]at ht; rcases ht with rfl | rfl <;> exact short_lit rfl⟩
   ·exact⟨by simp,by intro t ht; simp only [List.mem_cons,List.not_mem_nil,or_false]at ht; rw [ht]; exact short_lit rfl⟩
   ·exact⟨by simp,by simp⟩
theorem rightEntries_ok (s:Stream) {b:Int} (hs:Ok s b) (hb:b≤800000):∃ xs s',mk_Stream_RightEntries s=some (xs,s')∧Ok s' (b + 200)∧xs.length≤4∧(∀ x∈xs,GoodE x∧x.Except.length≤10):=by
 unfold mk_Stream_RightEntries
 obtain ⟨s',h1,h2,h3,h4⟩:=forL_inv (body:=fun k x s=>mk_Stream_RightEntries_L3 k x s) (fun k s=>Ok ⟨s.2.1,s.2.2⟩ (b + 40 * k)∧s.1.length≤k ∧ ∀ x∈s.1,GoodE x∧x.Except.length≤10)
  (xs := [(⟨#[101,97]⟩:ByteArray),(⟨#[101,98]⟩:ByteArray),(⟨#[101,99]⟩:ByteArray),(⟨#[101,100]⟩:ByteArray)]) (s:=(([]:List Entry),s.L,s.f_at)) (by simp) (fun k x t hxm hk ⟨i1,i2,i3⟩=>by
   have hk5:k < 4:=hk
   obtain ⟨c,s1,k1,k2⟩:=flip_ok _ 4 i1 (by omega) (by decide) (by decide)
   simp only [mk_Stream_RightEntries_L3,k1,Option.bind_some]
   cases c with
   | true=>exact⟨_,rfl,k2.mono (by omega),by show t.1.length≤_; omega,i3⟩
   | false =>
    obtain ⟨it,s2,a1,ai,a2⟩:=some_ok s1 [(⟨#[105,97]⟩:ByteArray),(⟨#[105,98]⟩:ByteArray),(⟨#[105,99]⟩:ByteArray)] k2 (by omega) (by simp) (by simp)
    obtain ⟨v,s3,a3,_,_,a4⟩:=range_ok s2 0 2 a2 (by omega) (by decide) (by decide) (by decide)
    obtain ⟨p1,s4,m1,_,n1⟩:=pick_ok s3 [0,0,1,3] a4 (by omega) (by simp) (by simp)
    obtain ⟨p2,s5,m2,_,n2⟩:=pick_ok s4 [1,1,2,3,7] n1 (by omega) (by simp) (by simp)
    obtain ⟨p3,s6,m3,_,n3⟩:=pick_ok s5 [127,127,31,96,1,2] n2 (by omega) (by simp) (by simp)
    obtain ⟨p4,s7,m4,_,n4⟩:=pick_ok s6 [0,0,60,600,1380] n3 (by omega) (by simp) (by simp)
    obtain ⟨p5,s8,m5,_,n5⟩:=pick_ok s7 [0,60,120,600,720,1439] n4 (by omega) (by simp) (by simp)
    obtain ⟨p6,s9,m6,_,n6⟩:=pick_ok s8 [0,0,1,5] n5 (by omega) (by simp) (by simp)
    obtain ⟨g,s10,m7,n7⟩:=flip_ok s9 8 n6 (by omega) (by decide) (by decide)
    obtain ⟨p7,s11,m8,_,n8⟩:=pick_ok s10 [0,1,5,10,30] n7 (by omega) (by simp) (by simp)
    obtain ⟨ex,s12,m9,n9,l9,_⟩:=some_of (L:=mk_Stream_RightEntries_L1) (n:=4) (by decide) (by decide) (fun _=>True) (fun _ _ _=>rfl) (xs := [1,2,8]) (fun _ _=>trivial) (by simp) s11 n8 (by omega)
    obtain ⟨tg,s13,m10,n10,l10,q10⟩:=some_of (L:=mk_Stream_RightEntries_L2) (n:=4) (by decide) (by decide) Short (fun _ _ _=>rfl) (xs := [(⟨#[99,105,116,121]⟩:ByteArray),(⟨#[109,97,108,108]⟩:ByteArray)])
     (by intro x hx; simp only [List.mem_cons,List.not_mem_nil,or_false]at hx; rcases hx with rfl | rfl <;> exact short_lit rfl) (by simp) s12 n9 (by omega)
    simp only [cond_false,a1,a3,m1,m2,m3,m4,m5,m6,m7,m8,m9,m10,Option.bind_some,thenC_go,appL_ok t.1 _ (show t.1.length + [_].length≤_ by simp; omega)]
    refine⟨_,rfl,n10.mono (by omega),by simp; omega,fun y hy => ?_⟩
    rcases List.mem_append.1 hy with hy | hy
    ·exact i3 y hy
    ·rw [List.mem_singleton.1 hy]
     refine⟨⟨?_,?_,by show ex.length≤50; omega,by show tg.length≤20; omega,q10⟩,l9⟩
     ·simp only [List.mem_cons,List.not_mem_nil,or_false]at hxm
      rcases hxm with rfl | rfl | rfl | rfl <;> exact short_lit rfl
     ·simp only [List.mem_cons,List.not_mem_nil,or_false]at ai
      rcases ai with rfl | rfl | rfl <;> exact short_lit rfl) ⟨by simpa using hs,by simp,by simp⟩
 rw [h1]
 exact⟨s'.1,⟨s'.2.1,s'.2.2⟩,rfl,h2.mono (by simp),h3,h4⟩
theorem entries_ok (s:Stream) {b:Int} (hs:Ok s b) (hb:b≤700000):∃ xs s',mk_Stream_Entries s=some (xs,s')∧Ok s' (b + 300)∧xs.length≤4 ∧ ∀ x∈xs,GoodE x:=by
 obtain ⟨xs,s1,h1,h2,h3,h4'⟩:=rightEntries_ok s hs (by omega)
 have h4:∀ x∈xs,GoodE x:=fun x hx=>(h4' x hx).1
 simp only [mk_Stream_Entries,h1,Option.bind_some]
 obtain ⟨v,s2,h5,h6,h7⟩:∃ (v:Bool) (s2:Stream),(bif decide ((xs.length:Int) > 0)then (mk_Stream_Flip s1 10).bind fun r_9=>some (r_9.1,r_9.2.L,r_9.2.f_at)else some (false,s1.L,s1.f_at))=some (v,s2.L,s2.f_at)∧Ok s2 (b + 201)∧(v=true→0 < xs.length):=by
  cases hd:decide ((xs.length:Int) > 0)with
  | true =>
   obtain ⟨c,s2,k1,k2⟩:=flip_ok s1 10 h2 (by omega) (by decide) (by decide)
   simp only [decide_eq_true_eq]at hd
   exact⟨c,s2,by simp only [cond_true,k1,Option.bind_some],k2.mono (by omega),fun _=>by omega⟩
  | false=>exact⟨false,s1,rfl,h2.mono (by omega),fun h=>by cases h⟩
 simp only [h5,Option.bind_some]
 cases v with
 | false=>exact⟨xs,_,rfl,h6.mono (by omega),h3,h4⟩
 | true =>
  have hpos:=h7 rfl
  have e2:(⟨s2.L,s2.f_at⟩:Stream)=s2:=rfl
  obtain ⟨i,s3,k1,k2,k3,k4⟩:=next_ok s2 xs.length h6 (by omega) (by omega) (by omega)
  have hi:0 + i.toNat < xs.length:=by omega
  have ho:=(h4 _ (List.getElem_mem hi))
  have ho':=(h4' _ (List.getElem_mem hi)).2
  obtain ⟨w,s4,m1,_,_,m2⟩:=next_ok s3 6 k4 (by omega) (by decide) (by decide)
  have hset:∀ a,0 + i.toNat < (xs.set (0 + i.toNat) a).length:=fun a=>by simpa using hi
  simp only [cond_true,e2,k1,Option.bind_some,inR_ok k2 k3,m1]
  cases hw0:(w == 0)with
  | true =>
   obtain ⟨key,s5,n1,n2,n3⟩:=some_ok s4 [xs[0 + i.toNat].Key,(⟨#[]⟩:ByteArray),(⟨#[65]⟩:ByteArray),(⟨#[101,97]⟩:ByteArray)] m2 (by omega) (by simp) (by simp)
   obtain ⟨cl,s6,n4,n5,n6⟩:=some_ok s5 [(⟨#[105,97]⟩:ByteArray),(⟨#[]⟩:ByteArray),(⟨#[66]⟩:ByteArray)] n3 (by omega) (by simp) (by simp)
   simp only [cond_true,get_at hi,n1,n4,Option.bind_some,set_at hi,List.set_set]
   refine⟨_,_,rfl,n6.mono (by omega),by simpa using h3,all_set h4 ⟨?_,?_,ho.2.2⟩⟩
   ·simp only [List.mem_cons,List.not_mem_nil,or_false]at n2
    rcases n2 with rfl | rfl | rfl | rfl
    ·exact ho.1
    ·exact short_lit rfl
    ·exact short_lit rfl
    ·exact short_lit rfl
   ·simp only [List.mem_cons,List.not_mem_nil,or_false]at n5
    rcases n5 with rfl | rfl | rfl <;> exact short_lit rfl
  | false =>
  simp only [cond_false]
  cases hw1:(w == 1)with
  | true =>
   obtain ⟨a,s5,n1,n2⟩:=odd_ok s4 0 10 m2 (by omega) (by decide) (by decide) (by decide)
   obtain ⟨c,s6,n3,n4⟩:=odd_ok s5 0 4000 n2 (by omega) (by decide) (by decide) (by decide)
   simp only [cond_true,get_at hi,n1,n3,Option.bind_some,set_at hi,set_at (hset _),List.set_set]
   exact⟨_,_,rfl,n4.mono (by omega),by simpa using h3,all_set h4 ho⟩
  | false =>
  simp only [cond_false]
  cases hw2:(w == 2)with
  | true =>
   obtain ⟨a,s5,n1,n2⟩:=odd_ok s4 1 400 m2 (by omega) (by decide) (by decide) (by decide)
   obtain ⟨c,s6,n3,n4⟩:=odd_ok s5 1 127 n2 (by omega) (by decide) (by decide) (by decide)
   simp only [cond_true,get_at hi,n1,n3,Option.bind_some,set_at hi,set_at (hset _),List.set_set]
   exact⟨_,_,rfl,n4.mono (by omega),by simpa using h3,all_set h4 ho⟩
  | false =>
  simp only [cond_false]
  cases hw3:(w == 3)with
  | true =>
   obtain ⟨a,s5,n1,n2⟩:=odd_ok s4 0 4000 m2 (by omega) (by decide) (by decide) (by decide)
   generalize hx:xs[0 + i.toNat]=e at *
   have a1:slices_Clone_int_int e.Except=some e.Except:=by
    simp only [slices_Clone_int_int,appL_ok [] e.Except (show 0 + e.Except.length≤_ by omega),List.nil_append,Option.bind_some]
   have a2:appL e.Except [a]=some (e.Except ++ [a]):=appL_ok _ _ (show e.Except.length + 1≤_ by omega)
   have a3:xs[0 + i.toNat]? = some e:=by rw [get_at hi,hx]
   simp only [cond_true,a3,n1,a1,a2,Option.bind_some]
   exact⟨_,_,rfl,n2.mono (by omega),by simpa using h3,all_set h4 ⟨ho.1,ho.2.1,by show (e.Except ++ [a]).length≤50; rw [List.length_append]; show _ + 1≤50; omega,ho.2.2.2⟩⟩
  | false =>
  simp only [cond_false]
  cases hw4:(w == 4)with
  | true =>
   obtain ⟨a,s5,n1,n2⟩:=odd_ok s4 0 1439 m2 (by omega) (by decide) (by decide) (by decide)
   obtain ⟨c,s6,n3,n4⟩:=odd_ok s5 0 1439 n2 (by omega) (by decide) (by decide) (by decide)
   simp only [cond_true,get_at hi,n1,n3,Option.bind_some,set_at hi,set_at (hset _),List.set_set]
   exact⟨_,_,rfl,n4.mono (by omega),by simpa using h3,all_set h4 ho⟩
  | false =>
   obtain ⟨j,s5,n1,n2,n3,n4⟩:=next_ok s4 3 m2 (by omega) (by decide) (by decide)
   obtain ⟨tg,n5,n6⟩:=idx_mem (l := [([(⟨#[109,97,108,108]⟩:ByteArray),(⟨#[99,105,116,121]⟩:ByteArray)]:List ByteArray),([(⟨#[]⟩:ByteArray)]:List ByteArray),([(⟨#[97]⟩:ByteArray),(⟨#[97]⟩:ByteArray)]:List ByteArray)]) n2 (by simpa using n3)
   obtain ⟨a,s6,n7,n8⟩:=odd_ok s5 0 9 n4 (by omega) (by decide) (by decide) (by decide)
   simp only [cond_false,get_at hi,n1,n5,n7,Option.bind_some,set_at hi,set_at (hset _),List.set_set]
   refine⟨_,_,rfl,n8.mono (by omega),by simpa using h3,all_set h4 ⟨ho.1,ho.2.1,ho.2.2.1,?_⟩⟩
   simp only [List.mem_cons,List.not_mem_nil,or_false]at n6
   rcases n6 with rfl | rfl | rfl
   ·exact⟨by simp,by intro t ht; simp only [List.mem_cons,List.not_mem_nil,or_false]at ht; rcases ht with rfl | rfl <;> exact short_lit rfl⟩
   ·exact⟨by simp,by intro t ht; simp only [List.mem_cons,List.not_mem_nil,or_false]at ht; rw [ht]; exact short_lit rfl⟩
   ·exact⟨by simp,by intro t ht; simp only [List.mem_cons,List.not_mem_nil,or_false,or_self]at ht; rw [ht]; exact short_lit rfl⟩
end Go.Proofs.YtjhcehhmdmbleaaGreat.Law

open Go Go.Eng
namespace Go.Proofs.YtjhcehhmdmbleaaGreat.Law
set_option linter.unusedVariables false
set_option linter.unusedSimpArgs false
def nilS:ByteArray:=⟨#[]⟩
def prevK {α:Type} (key:α→ByteArray) (l:List α) (k:Nat):ByteArray:=if k=0 then nilS else match l[k - 1]? with | some y=>key y | none=>nilS
def chk {α:Type} (key:α→ByteArray) (stp:ByteArray→α→Int):ByteArray→List α→Int
 | _,[]=>0
 | last,x::xs=>bif stp last x == 0 then chk key stp (key x) xs else stp last x
def outC (e:Int):Ctl Unit Int:=bif e == 0 then .go ()else .ret e
theorem chk_prev {α:Type} {key:α→ByteArray} {stp:ByteArray→α→Int} {body:Nat→α→Unit→Option (Ctl Unit Int)} (l:List α):∀ (xs:List α) (k:Nat),l.drop k=xs→(∀ k x,l[k]? = some x→body k x ()=some (outC (stp (prevK key l k) x))) →
  forR body xs k ()=some (outC (chk key stp (prevK key l k) xs))
 | [],k,h,hb=>rfl
 | x::xs,k,h,hb=>by
  have hg:=drop_get h
  rw [forR,hb k x hg,Option.bind_some,chk]
  cases he:stp (prevK key l k) x == 0 with
  | true =>
   simp only [outC,he,cond_true]
   rw [chk_prev l xs (k + 1) (drop_next h) hb]
   have:prevK key l (k + 1)=key x:=by simp [prevK,hg]
   rw [this]; rfl
  | false=>simp only [outC,he,cond_false]
theorem chk_last {α:Type} {key:α→ByteArray} {stp:ByteArray→α→Int} {body:Nat→α→ByteArray→Option (Ctl ByteArray Int)}:∀ (xs:List α) (k:Nat) (last:ByteArray),(∀ k x last,x∈xs→body k x last=some (bif stp last x == 0 then .go (key x)else .ret (stp last x))) →
  ∃ o,forR body xs k last=some o∧thenC o (fun _=>some (0:Int)) (fun r=>some r)=some (chk key stp last xs)
 | [],k,last,hb=>⟨_,rfl,rfl⟩
 | x::xs,k,last,hb=>by
  rw [forR,hb k x last (by simp),Option.bind_some,chk]
  cases he:stp last x == 0 with
  | true=>exact chk_last xs (k + 1) (key x) (fun k y last hy=>hb k y last (by simp [hy]))
  | false=>exact⟨_,rfl,rfl⟩
theorem outC_then (e:Int):thenC (outC e) (fun _=>some (0:Int)) (fun r=>some r)=some e:=by
 unfold outC
 cases h:e == 0 with
 | true=>simp only [cond_true,thenC_go]; rw [eq_of_beq h]
 | false=>rfl
def tagStp (last x:ByteArray):Int:=bif !keyB x then 5 else bif sLe x last then 7 else 0
def tagsF (l:List ByteArray):Int:=bif decide (l.length > 20)then 2 else chk id tagStp nilS l
theorem idx_prev {α:Type} {l:List α} {k:Nat} {x:α} (h:l[k]? = some x) (hk:0 < k) (hl:l.length≤1000000000):∃ y,idx l (w64 ((k:Int) - 1))=some y∧l[k - 1]? = some y:=by
 have hlt:k < l.length:=(List.getElem?_eq_some_iff.1 h).1
 rw [w64_id (by omega),show (k:Int) - 1=((k - 1:Nat):Int) by omega,idx_nat]
 exact⟨l[k - 1],List.getElem?_eq_getElem (by omega),List.getElem?_eq_getElem (by omega)⟩
theorem prev_test {α:Type} {key:α→ByteArray} {l:List α} {k:Nat} {x:α} {s:ByteArray} (h:l[k]? = some x) (hl:l.length≤1000000000) (hs:s.size≠0) :
  (bif decide ((k:Int) > 0)then (idx l (w64 ((k:Int) - 1))).bind fun y=>some (sLe s (key y))else some false)=some (sLe s (prevK key l k)):=by
 by_cases hk:0 < k
 ·obtain ⟨y,h1,h2⟩:=idx_prev h hk hl
  have hd:decide ((k:Int) > 0)=true:=by simp; omega
  simp only [hd,cond_true,h1,Option.bind_some,prevK,if_neg (show ¬ k=0 by omega),h2]
 ·have hk0:k=0:=by omega
  subst hk0
  simp only [prevK,if_pos,nilS,sLe_nil,decide_eq_false hs]
  rfl
theorem tagsK (l:List ByteArray) (hs:∀ t∈l,Short t) (hl:l.length≤1000000000):schedule_tagsFault l=some (tagsF l):=by
 unfold schedule_tagsFault tagsF
 have e:decide ((l.length:Int) > 20)=decide (l.length > 20):=decide_eq_decide.2 (by omega)
 rw [e]
 cases decide (l.length > 20)with
 | true=>rfl
 | false =>
  simp only [cond_false]
  unfold kit_RisingFault
  rw [forL_eq (by omega),chk_prev (key:=id) (stp:=tagStp) l l 0 rfl (fun k x hx => ?_)]
  ·simp only [Option.bind_some,outC_then]; rfl
  ·have hxs:Short x:=hs x (List.mem_of_getElem? hx)
   simp only [kit_RisingFault_L1,isKey_eq x (by unfold Short at hxs; omega),Option.bind_some,tagStp]
   cases hk:keyB x with
   | false=>rfl
   | true =>
    simp only [Bool.not_true,cond_false]
    have:=prev_test (key:=id) hx hl (keyB_ne hk)
    simp only [id]at this
    rw [this,Option.bind_some]
    cases sLe x (prevK id l k) <;> rfl
theorem tagsR (l:List ByteArray) (hs:∀ t∈l,Short t) (hl:l.length≤1000000000):ref_TagsFault l=some (tagsF l):=by
 unfold ref_TagsFault tagsF
 have e:decide ((l.length:Int) > 20)=decide (l.length > 20):=decide_eq_decide.2 (by omega)
 rw [e]
 cases decide (l.length > 20)with
 | true=>rfl
 | false =>
  simp only [cond_false]
  unfold ref_risingFault
  rw [forL_eq (by omega),chk_prev (key:=id) (stp:=tagStp) l l 0 rfl (fun k x hx => ?_)]
  ·simp only [Option.bind_some,outC_then]; rfl
  ·have hxs:Short x:=hs x (List.mem_of_getElem? hx)
   simp only [ref_risingFault_L1,refKey_eq x (by unfold Short at hxs; omega),Option.bind_some,tagStp]
   cases hk:keyB x with
   | false=>rfl
   | true =>
    simp only [Bool.not_true,cond_false]
    have:=prev_test (key:=id) hx hl (keyB_ne hk)
    simp only [id]at this
    rw [this,Option.bind_some]
    cases sLe x (prevK id l k) <;> rfl
def chkG {α:Type} (stp:Option α→α→Int):Option α→List α→Int
 | _,[]=>0
 | p,x::xs=>bif stp p x == 0 then chkG stp (some x) xs else stp p x
def prevO {α:Type} (l:List α) (k:Nat):Option α:=if k=0 then none else l[k - 1]?
theorem chkG_prev {α:Type} {stp:Option α→α→Int} {body:Nat→α→Unit→Option (Ctl Unit Int)} (l:List α):∀ (xs:List α) (k:Nat),l.drop k=xs→(∀ k x,l[k]? = some x→body k x ()=some (outC (stp (prevO l k) x))) →
  forR body xs k ()=some (outC (chkG stp (prevO l k) xs))
 | [],k,h,hb=>rfl
 | x::xs,k,h,hb=>by
  have hg:=drop_get h
  rw [forR,hb k x hg,Option.bind_some,chkG]
  cases he:stp (prevO l k) x == 0 with
  | true =>
   simp only [outC,he,cond_true]
   rw [chkG_prev l xs (k + 1) (drop_next h) hb]
   have:prevO l (k + 1)=some x:=by simp [prevO,hg]
   rw [this]; rfl
  | false=>simp only [outC,he,cond_false]
def outB (n lo hi:Int):Bool:=decide (n < lo) || decide (n > hi)
theorem outside_eq (n lo hi:Int):kit_Outside n lo hi=some (outB n lo hi):=by
 unfold kit_Outside outB
 cases decide (n < lo) <;> cases decide (n > hi) <;> rfl
theorem in_eq (n lo hi:Int):ref_in n lo hi=some (!outB n lo hi):=by
 unfold ref_in outB
 have e1:decide (lo≤n) = !decide (n < lo):=by rw [Bool.eq_iff_iff]; simp
 have e2:decide (n≤hi) = !decide (n > hi):=by rw [Bool.eq_iff_iff]; simp
 rw [e1,e2]
 cases decide (n < lo) <;> cases decide (n > hi) <;> rfl
def leP (p:Option Int) (x:Int):Bool:=match p with
 | none=>false
 | some y=>decide (x≤y)
def exStp (p:Option Int) (x:Int):Int:=bif outB x 0 4000 then 1 else bif leP p x then 7 else 0
def exF (l:List Int):Int:=bif decide (l.length > 100)then 2 else chkG exStp none l
theorem prevI_test {l:List Int} {k:Nat} {x:Int} (h:l[k]? = some x) (hl:l.length≤1000000000) :
  (bif decide ((k:Int) > 0)then (idx l (w64 ((k:Int) - 1))).bind fun y=>some (decide (x≤y))else some false)=some (leP (prevO l k) x):=by
 by_cases hk:0 < k
 ·obtain ⟨y,h1,h2⟩:=idx_prev h hk hl
  have hd:decide ((k:Int) > 0)=true:=by simp; omega
  simp only [hd,cond_true,h1,Option.bind_some,prevO,if_neg (show ¬ k=0 by omega),h2,leP]
 ·have hk0:k=0:=by omega
  subst hk0
  rfl
theorem isDay_eq (n:Int):kit_IsDay n=some (!outB n 0 4000):=by
 unfold kit_IsDay outB
 have e1:decide (n≥0) = !decide (n < 0):=by rw [Bool.eq_iff_iff]; simp
 have e2:decide (n≤4000) = !decide (n > 4000):=by rw [Bool.eq_iff_iff]; simp
 rw [e1,e2]
 cases decide (n < 0) <;> cases decide (n > 4000) <;> rfl
theorem exK (l:List Int) (hl:l.length≤1000000000):schedule_exceptFault l=some (exF l):=by
 unfold schedule_exceptFault exF
 have e:decide ((l.length:Int) > 100)=decide (l.length > 100):=decide_eq_decide.2 (by omega)
 rw [e]
 cases decide (l.length > 100)with
 | true=>rfl
 | false =>
  simp only [cond_false]
  rw [forL_eq (by omega),chkG_prev (stp:=exStp) l l 0 rfl (fun k x hx => ?_)]
  ·simp only [Option.bind_some,outC_then]; rfl
  ·simp only [schedule_exceptFault_L1,isDay_eq,Option.bind_some,exStp]
   cases outB x 0 4000 with
   | true=>rfl
   | false =>
    simp only [Bool.not_false,Bool.not_true,cond_false]
    rw [prevI_test hx hl,Option.bind_some]
    cases leP (prevO l k) x <;> rfl
def entF (e:Entry):Int :=
 bif !keyB e.Key || !keyB e.Item then 5 else
 bif outB e.Version 0 1000000 || (outB e.First 0 e.Last || (decide (e.Last > 4000) || (outB e.Every 1 400 || outB e.Days 1 127)))then 1 else
 bif exF e.Except == 0 then (bif outB e.From 0 1439 || (outB e.To 0 1439 || outB e.Prio 0 9)then 1 else tagsF e.Tags)else exF e.Except
theorem entK (e:Entry) (h:GoodE e):schedule_entryFault e=some (entF e):=by
 obtain ⟨h1,h2,h3,h4,h5⟩:=h
 unfold Short at h1 h2
 unfold schedule_entryFault entF
 simp only [isKey_eq e.Key (by omega),isKey_eq e.Item (by omega),outside_eq,exK e.Except (by omega),tagsK e.Tags h5 (by omega),Option.bind_some]
 cases keyB e.Key with
 | false=>rfl
 | true =>
 cases keyB e.Item with
 | false=>rfl
 | true =>
 simp only [Bool.not_true,cond_false,Option.bind_some,Bool.or_self,Bool.false_or]
 cases outB e.Version 0 1000000 with
 | true=>rfl
 | false =>
 cases outB e.First 0 e.Last with
 | true=>rfl
 | false =>
 cases decide (e.Last > 4000)with
 | true=>rfl
 | false =>
 cases outB e.Every 1 400 with
 | true=>rfl
 | false =>
 cases outB e.Days 1 127 with
 | true=>rfl
 | false =>
 simp only [cond_false,Option.bind_some,Bool.or_self]
 cases hx:exF e.Except == 0 with
 | false =>
  have:(exF e.Except != 0)=true:=by simp [bne,hx]
  simp only [this,cond_true,cond_false]
 | true =>
  have:(exF e.Except != 0)=false:=by simp [bne,hx]
  simp only [this,cond_true,cond_false]
  cases outB e.From 0 1439 with
  | true=>rfl
  | false =>
  cases outB e.To 0 1439 with
  | true=>rfl
  | false =>
  cases outB e.Prio 0 9 with
  | true=>rfl
  | false=>rfl
theorem entR (e:Entry) (h:GoodE e):ref_entryFault e=some (entF e):=by
 obtain ⟨h1,h2,h3,h4,h5⟩:=h
 unfold Short at h1 h2
 unfold ref_entryFault entF
 simp only [refKey_eq e.Key (by omega),refKey_eq e.Item (by omega),in_eq,tagsR e.Tags h5 (by omega),Option.bind_some,Bool.not_not]
 cases keyB e.Key with
 | false=>rfl
 | true =>
 cases keyB e.Item with
 | false=>rfl
 | true =>
 simp only [Bool.not_true,cond_false,Option.bind_some,Bool.or_self,Bool.false_or]
 cases outB e.Version 0 1000000 with
 | true=>rfl
 | false =>
 cases outB e.First 0 e.Last with
 | true=>rfl
 | false =>
 cases decide (e.Last > 4000)with
 | true=>rfl
 | false =>
 cases outB e.Every 1 400 with
 | true=>rfl
 | false =>
 cases outB e.Days 1 127 with
 | true=>rfl
 | false =>
 simp only [cond_false,Option.bind_some,Bool.or_self]
 have el:decide ((e.Except.length:Int) > 100)=decide (e.Except.length > 100):=decide_eq_decide.2 (by omega)
 rw [el]
 unfold exF
 cases decide (e.Except.length > 100)with
 | true=>rfl
 | false =>
 simp only [cond_false]
 rw [forL_eq (by omega),chkG_prev (stp:=exStp) e.Except e.Except 0 rfl (fun k x hx => ?_)]
 ·simp only [Option.bind_some]
  show thenC (outC (chkG exStp none e.Except)) _ _=_
  unfold outC
  cases hx:chkG exStp none e.Except == 0 with
  | false=>rfl
  | true =>
   simp only [cond_true,thenC_go]
   cases outB e.From 0 1439 with
   | true=>rfl
   | false =>
   cases outB e.To 0 1439 with
   | true=>rfl
   | false =>
   cases outB e.Prio 0 9 with
   | true=>rfl
   | false=>rfl
 ·simp only [ref_entryFault_L1,in_eq,Option.bind_some,exStp]
  cases outB x 0 4000 with
  | true=>rfl
  | false =>
   simp only [Bool.not_false,Bool.not_true,cond_false]
   rw [prevI_test hx (by omega),Option.bind_some]
   cases leP (prevO e.Except k) x <;> rfl
theorem entF_key {e:Entry} (h:entF e=0):e.Key.size≠0:=by
 unfold entF at h
 cases hk:keyB e.Key with
 | false=>rw [hk]at h; cases h
 | true=>exact keyB_ne hk
theorem oneK (e:Entry) (h:GoodE e):schedule_CheckEntries [e]=some (entF e):=by
 unfold schedule_CheckEntries
 have:decide ((([e]:List Entry).length:Int) > 200)=false:=rfl
 rw [this,cond_false,forL_eq (by simp)]
 simp only [forR,schedule_CheckEntries_L1,entK e h,Option.bind_some]
 cases hx:entF e == 0 with
 | false =>
  have:(entF e != 0)=true:=by simp [bne,hx]
  simp only [this,cond_true,Option.bind_some,thenC_ret]
 | true =>
  have:(entF e != 0)=false:=by simp [bne,hx]
  rw [eq_of_beq hx]
  rfl
def playF (p:Player):Int:=bif !keyB p.Key || !keyB p.Screen then 5 else bif outB p.Zone (-1440) 1440 then 1 else tagsF p.Tags
theorem playK (p:Player) (h:GoodP p):schedule_CheckPlayer p=some (playF p):=by
 obtain ⟨h1,h2,h4,h5⟩:=h
 unfold Short at h1 h2
 unfold schedule_CheckPlayer playF
 simp only [isKey_eq p.Key (by omega),isKey_eq p.Screen (by omega),outside_eq,tagsK p.Tags h5 (by omega),Option.bind_some]
 cases keyB p.Key with
 | false=>rfl
 | true =>
 cases keyB p.Screen with
 | false=>rfl
 | true=>cases outB p.Zone (-1440) 1440 <;> rfl
theorem playR (p:Player) (h:GoodP p):ref_PlayerFault p=some (playF p):=by
 obtain ⟨h1,h2,h4,h5⟩:=h
 unfold Short at h1 h2
 unfold ref_PlayerFault playF
 simp only [refKey_eq p.Key (by omega),refKey_eq p.Screen (by omega),in_eq,tagsR p.Tags h5 (by omega),Option.bind_some]
 cases keyB p.Key with
 | false=>rfl
 | true =>
 cases keyB p.Screen with
 | false=>rfl
 | true=>cases outB p.Zone (-1440) 1440 <;> rfl
def winF (w:Window):Int:=bif outB w.From 0 w.To || decide (w.To > 345686400000)then 1 else bif decide (w64 (w.To - w.From) > 34560000000)then 2 else 0
theorem winK (w:Window):schedule_windowFault w=some (winF w):=by
 unfold schedule_windowFault winF
 simp only [outside_eq,Option.bind_some]
 cases outB w.From 0 w.To with
 | true=>rfl
 | false =>
 cases decide (w.To > 345686400000)with
 | true=>rfl
 | false=>cases decide (w64 (w.To - w.From) > 34560000000) <;> rfl
def or0 (a b:Int):Int:=bif a == 0 then b else a
theorem errs3 (a b c:Int):law_errs [a,b,c]=some (or0 a (or0 b c)):=by
 unfold law_errs or0
 rw [forL_eq (by simp)]
 simp only [forR,law_errs_L1]
 cases ha:a == 0 with
 | false =>
  have:(a != 0)=true:=by simp [bne,ha]
  simp only [this,cond_true,cond_false,Option.bind_some,thenC]
 | true =>
  have:(a != 0)=false:=by simp [bne,ha]
  simp only [this,cond_true,cond_false,Option.bind_some]
  cases hb:b == 0 with
  | false =>
   have:(b != 0)=true:=by simp [bne,hb]
   simp only [this,cond_true,cond_false,Option.bind_some,thenC]
  | true =>
   have:(b != 0)=false:=by simp [bne,hb]
   simp only [this,cond_true,cond_false,Option.bind_some]
   cases hc:c == 0 with
   | false =>
    have:(c != 0)=true:=by simp [bne,hc]
    simp only [this,cond_true,cond_false,Option.bind_some,thenC]
   | true =>
    have:(c != 0)=false:=by simp [bne,hc]
    simp only [this,cond_true,cond_false,Option.bind_some,thenC]
    rw [eq_of_beq hc]
end Go.Proofs.YtjhcehhmdmbleaaGreat.Law

open Go Go.Eng
namespace Go.Proofs.YtjhcehhmdmbleaaGreat.Law
set_option linter.unusedVariables false
set_option linter.unusedSimpArgs false
def memB (v:ByteArray) (l:List ByteArray):Bool:=l.any fun x=>decide (v=x)
theorem memB_iff {v:ByteArray} {l:List ByteArray}:memB v l=true↔v∈l:=by simp [memB]
theorem memB_f {v:ByteArray} {l:List ByteArray} (h:v∉l):memB v l=false:=by
 cases hb:memB v l with
 | false=>rfl
 | true=>exact absurd (memB_iff.1 hb) h
theorem index_run (l:List ByteArray) (v:ByteArray):∀ (xs:List ByteArray) (k:Nat),∃ o,forR (fun k x s=>slices_Index_string_string_L1 v k x s) xs k ()=some o ∧ ∃ r:Int,thenC o (fun _=>some (-1)) (fun r=>some r)=some r∧decide (r≥0)=memB v xs
 | [],k=>⟨.go (),rfl,-1,rfl,by simp [memB]⟩
 | x::xs,k=>by
  have hst:slices_Index_string_string_L1 v k x ()=some (bif decide (v=x)then .ret (k:Int)else .go ()):=by
   simp only [slices_Index_string_string_L1,sEq_dec]; cases decide (v=x) <;> rfl
  rw [forR,hst,Option.bind_some]
  by_cases h:v=x
  ·simp only [decide_eq_true h,cond_true]
   exact⟨_,rfl,_,rfl,by simp [memB,h]⟩
  ·simp only [decide_eq_false h,cond_false]
   obtain ⟨o,h1,r,h2,h3⟩:=index_run l v xs (k + 1)
   exact⟨o,h1,r,h2,by rw [h3]; simp [memB,h]⟩
theorem contains_eq (l:List ByteArray) (v:ByteArray) (hl:l.length≤1000000):slices_Contains_string_string l v=some (memB v l):=by
 obtain ⟨o,h1,r,h2,h3⟩:=index_run l v l 0
 unfold slices_Contains_string_string slices_Index_string_string
 rw [forL_eq (by omega),h1,Option.bind_some,h2,Option.bind_some,h3]
theorem containsF_eq (l:List ByteArray) (f:ByteArray→Option Bool) (p:ByteArray→Bool) (hf:∀ x∈l,f x=some (p x)) (hl:l.length≤1000000):slices_ContainsFunc_string_string l f=some (l.any p):=by
 have run:∀ (xs:List ByteArray) (k:Nat),(∀ x∈xs,f x=some (p x)) → ∃ o,forR (fun k x s=>slices_IndexFunc_string_string_L1 f k x s) xs k ()=some o ∧ ∃ r:Int,thenC o (fun _=>some (-1)) (fun r=>some r)=some r∧decide (r≥0)=xs.any p:=by
  intro xs
  induction xs with
  | nil=>exact fun k _=>⟨.go (),rfl,-1,rfl,by simp⟩
  | cons x xs ih =>
   intro k hf
   have hst:slices_IndexFunc_string_string_L1 f k x ()=some (bif p x then .ret (k:Int)else .go ()):=by
    simp only [slices_IndexFunc_string_string_L1,hf x (by simp),Option.bind_some]; cases p x <;> rfl
   rw [forR,hst,Option.bind_some]
   cases hp:p x with
   | true=>exact⟨_,rfl,_,rfl,by simp [hp]⟩
   | false =>
    simp only [cond_false]
    obtain ⟨o,h1,r,h2,h3⟩:=ih (k + 1) (fun y hy=>hf y (by simp [hy]))
    exact⟨o,h1,r,h2,by rw [h3]; simp [hp]⟩
 obtain ⟨o,h1,r,h2,h3⟩:=run l 0 hf
 unfold slices_ContainsFunc_string_string slices_IndexFunc_string_string
 rw [forL_eq (by omega),h1,Option.bind_some,h2,Option.bind_some,h3]
def Rises (l:List ByteArray):Prop := ∀ i j (hi:i < l.length) (hj:j < l.length),i < j→lt l[i] l[j]
theorem chk_rises:∀ (l:List ByteArray) (last:ByteArray),chk id tagStp last l=0→Rises l ∧ ∀ x∈l,lt last x
 | [],last,h=>⟨fun i j hi=>absurd hi (Nat.not_lt_zero i),by simp⟩
 | x::xs,last,h=>by
  rw [chk]at h
  cases he:tagStp last x == 0 with
  | false=>rw [he]at h; simp only [cond_false]at h; rw [h]at he; cases he
  | true =>
   rw [he]at h
   simp only [cond_true,id]at h
   obtain ⟨h1,h2⟩:=chk_rises xs x h
   have hx:lt last x:=by
    unfold tagStp at he
    cases hk:keyB x with
    | false=>rw [hk]at he; cases he
    | true =>
     cases hl:sLe x last with
     | true=>rw [hk,hl]at he; cases he
     | false =>
      have:=mt (sLe_iff x last).2 (by rw [hl]; simp)
      exact Classical.not_not.1 this
   refine⟨fun i j hi hj hij => ?_,fun y hy => ?_⟩
   ·cases i with
    | zero=>cases j with
     | zero=>omega
     | succ j=>exact h2 _ (List.getElem_mem _)
    | succ i=>cases j with
     | zero=>omega
     | succ j=>exact h1 i j (by simpa using hi) (by simpa using hj) (by omega)
   ·rcases List.mem_cons.1 hy with rfl | hy
    ·exact hx
    ·exact lt_trans hx (h2 y hy)
theorem tagsF_0 {l:List ByteArray} (h:tagsF l=0):l.length≤20∧Rises l:=by
 unfold tagsF at h
 by_cases hl:l.length > 20
 ·rw [decide_eq_true hl]at h; cases h
 ·rw [decide_eq_false hl]at h
  exact⟨by omega,(chk_rises l nilS h).1⟩
theorem less_eq (x y:ByteArray):cmp_Less_string x y=some (sLt x y):=by
 unfold cmp_Less_string cmp_isNaN_string
 have:sNe x x=false:=by rw [sNe_dec]; simp
 rw [this]; rfl
theorem half (i j:Nat) (h:i≤1000000∧j≤1000000):shrO .u64 (IntKind.u64.wrap (w64 ((i:Int) + (j:Int)))) 1=some (((i + j) / 2:Nat):Int):=by
 have e1:w64 ((i:Int) + j)=((i + j:Nat):Int):=by rw [w64_id (by omega)]; omega
 have e2:IntKind.u64.wrap ((i + j:Nat):Int)=((i + j:Nat):Int):=IntWalk.u64_in _ (by omega)
 rw [e1,e2]
 unfold shrO
 rw [if_neg (by omega)]
 congr 1
 show Int.fdiv _ (2 ^ 1)=_
 rw [Int.fdiv_eq_ediv_of_nonneg _ (by decide)]
 omega
structure Ends (l:List ByteArray) (t:ByteArray) (i j:Nat):Prop where
 le:i≤j
 len:j≤l.length
 lo:∀ k (h:k < l.length),k < i→lt l[k] t
 hi:∀ k (h:k < l.length),j≤k → ¬ lt l[k] t
theorem bs_step (l:List ByteArray) (t:ByteArray) (i j:Nat) (hij:i < j) (hm:(i + j) / 2 < l.length) (hl:j≤1000) :
  slices_BinarySearch_string_string_L1 l t ((i:Int),(j:Int))=some (bif sLt l[(i + j) / 2] t then .go ((((i + j) / 2 + 1:Nat):Int),(j:Int))else .go ((i:Int),(((i + j) / 2:Nat):Int))):=by
 have e1:decide ((i:Int) < (j:Int))=true:=by simp; omega
 have ew:w64 (((i + j) / 2:Nat):Int)=(((i + j) / 2:Nat):Int):=w64_id (by omega)
 have ew2:w64 ((((i + j) / 2:Nat):Int) + 1)=(((i + j) / 2 + 1:Nat):Int):=by rw [w64_id (by omega)]; omega
 simp only [slices_BinarySearch_string_string_L1,e1,cond_true,half i j (by omega),Option.bind_some,ew,ew2,idx_nat,List.getElem?_eq_getElem hm,less_eq]
 cases sLt l[(i + j) / 2] t <;> rfl
theorem bs_iter (l:List ByteArray) (t:ByteArray) (hr:Rises l) (hl:l.length≤1000):∀ (d i j:Nat),j - i≤d→Ends l t i j → ∃ m:Nat,iterN (fun s=>slices_BinarySearch_string_string_L1 l t s) (d + 1) ((i:Int),(j:Int))=some (.go ((m:Int),(m:Int)))∧Ends l t m m
 | d,i,j,hd,he=>by
  have hlen:=he.len
  have hle:=he.le
  by_cases hij:i < j
  ·have hm:(i + j) / 2 < l.length:=by omega
   rw [iterN,bs_step l t i j hij hm (by omega),Option.bind_some]
   cases d with
   | zero=>omega
   | succ d =>
    cases hc:sLt l[(i + j) / 2] t with
    | true =>
     have hlt:=(sLt_iff _ _).1 hc
     simp only [cond_true]
     refine bs_iter l t hr hl d ((i + j) / 2 + 1) j (by omega) ⟨by omega,hlen,fun k hk hki => ?_,he.hi⟩
     rcases Nat.lt_or_ge k ((i + j) / 2)with h | h
     ·exact lt_trans (hr k _ hk hm h) hlt
     ·have:k=(i + j) / 2:=by omega
      subst this; exact hlt
    | false =>
     have hlt:=mt (sLt_iff _ _).2 (by rw [hc]; simp)
     simp only [cond_false]
     refine bs_iter l t hr hl d i ((i + j) / 2) (by omega) ⟨by omega,by omega,he.lo,fun k hk hki => ?_⟩
     rcases Nat.lt_or_ge ((i + j) / 2) k with h | h
     ·exact fun hx=>hlt (lt_trans (hr _ k hm hk h) hx)
     ·have:k=(i + j) / 2:=by omega
      subst this; exact hlt
  ·have e1:decide ((i:Int) < (j:Int))=false:=by simp; omega
   have:i=j:=by omega
   subst this
   have hst:slices_BinarySearch_string_string_L1 l t ((i:Int),(i:Int))=some (.brk ((i:Int),(i:Int))):=by simp only [slices_BinarySearch_string_string_L1,e1,cond_false]
   rw [iterN,hst,Option.bind_some]
   exact⟨i,rfl,he⟩
theorem bs_eq (l:List ByteArray) (t:ByteArray) (hr:Rises l) (hl:l.length≤1000):∃ i:Int,slices_BinarySearch_string_string l t=some (i,memB t l):=by
 obtain ⟨m,h1,h2⟩:=bs_iter l t hr hl l.length 0 l.length (by omega) ⟨by omega,Nat.le_refl _,fun k _ h=>absurd h (Nat.not_lt_zero k),fun k hk h=>absurd h (by omega)⟩
 have h3:=iter_loopO h1
 refine⟨m,?_⟩
 unfold slices_BinarySearch_string_string
 have h4:loopO ((0:Int),(l.length:Int)) (fun s=>slices_BinarySearch_string_string_L1 l t s)=some (Ctl.go ((m:Int),(m:Int))):=h3
 rw [h4,Option.bind_some,thenC_go]
 have key:t∈l ↔ ∃ h:m < l.length,l[m]=t:=by
  constructor
  ·intro hm
   obtain ⟨k,hk,he⟩:=List.getElem_of_mem hm
   have hk1:¬ k < m:=fun h=>by have:=h2.lo k hk h; rw [he]at this; exact lt_irr _ this
   have hml:m < l.length:=by omega
   refine⟨hml,?_⟩
   rcases Nat.lt_or_ge m k with h | h
   ·have h5:=hr m k hml hk h
    rw [he]at h5
    exact absurd h5 (h2.hi m hml (Nat.le_refl _))
   ·have:k=m:=by omega
    subst this; exact he
  ·rintro ⟨h,he⟩
   rw [← he]; exact List.getElem_mem _
 by_cases hml:m < l.length
 ·have e1:decide ((m:Int) < (l.length:Int))=true:=by simp; omega
  simp only [e1,cond_true,idx_nat,List.getElem?_eq_getElem hml,Option.bind_some,sEq_dec]
  have hn:slices_isNaN_string l[m]=some false:=by
   unfold slices_isNaN_string; rw [sNe_dec]; simp
  rw [hn]
  by_cases he:l[m]=t
  ·simp only [decide_eq_true he,cond_true,Option.bind_some,memB_iff.2 (key.2 ⟨hml,he⟩)]
  ·simp only [decide_eq_false he,cond_false,Option.bind_some,memB_f (fun h=>he (key.1 h).2)]
 ·have e1:decide ((m:Int) < (l.length:Int))=false:=by simp; omega
  simp only [e1,cond_false,Option.bind_some]
  rw [memB_f (fun h=>hml (key.1 h).1)]
namespace I
def lt (a b:Int):Prop:=a < b
theorem lt_irr (a:Int):¬ lt a a:=Int.lt_irrefl a
theorem lt_trans {a b c:Int} (h:lt a b) (k:lt b c):lt a c:=Int.lt_trans h k
def sLt (a b:Int):Bool:=decide (a < b)
theorem sLt_iff (a b:Int):sLt a b=true↔lt a b:=by simp [sLt,lt]
def memB (v:Int) (l:List Int):Bool:=l.any fun x=>decide (v=x)
theorem memB_iff {v:Int} {l:List Int}:memB v l=true↔v∈l:=by simp [memB]
theorem memB_f {v:Int} {l:List Int} (h:v∉l):memB v l=false:=by
 cases hb:memB v l with
 | false=>rfl
 | true=>exact absurd (memB_iff.1 hb) h
def Rises (l:List Int):Prop := ∀ i j (hi:i < l.length) (hj:j < l.length),i < j→lt l[i] l[j]
theorem less_eq (x y:Int):cmp_Less_int x y=some (sLt x y):=by
 unfold cmp_Less_int cmp_isNaN_int
 have:(x != x)=false:=by simp
 rw [this]; rfl
structure Ends (l:List Int) (t:Int) (i j:Nat):Prop where
 le:i≤j
 len:j≤l.length
 lo:∀ k (h:k < l.length),k < i→lt l[k] t
 hi:∀ k (h:k < l.length),j≤k → ¬ lt l[k] t
theorem bs_step (l:List Int) (t:Int) (i j:Nat) (hij:i < j) (hm:(i + j) / 2 < l.length) (hl:j≤1000) :
  slices_BinarySearch_int_int_L1 l t ((i:Int),(j:Int))=some (bif sLt l[(i + j) / 2] t then .go ((((i + j) / 2 + 1:Nat):Int),(j:Int))else .go ((i:Int),(((i + j) / 2:Nat):Int))):=by
 have e1:decide ((i:Int) < (j:Int))=true:=by simp; omega
 have ew:w64 (((i + j) / 2:Nat):Int)=(((i + j) / 2:Nat):Int):=w64_id (by omega)
 have ew2:w64 ((((i + j) / 2:Nat):Int) + 1)=(((i + j) / 2 + 1:Nat):Int):=by rw [w64_id (by omega)]; omega
 simp only [slices_BinarySearch_int_int_L1,e1,cond_true,half i j (by omega),Option.bind_some,ew,ew2,idx_nat,List.getElem?_eq_getElem hm,less_eq]
 cases sLt l[(i + j) / 2] t <;> rfl
theorem bs_iter (l:List Int) (t:Int) (hr:Rises l) (hl:l.length≤1000):∀ (d i j:Nat),j - i≤d→Ends l t i j → ∃ m:Nat,iterN (fun s=>slices_BinarySearch_int_int_L1 l t s) (d + 1) ((i:Int),(j:Int))=some (.go ((m:Int),(m:Int)))∧Ends l t m m
 | d,i,j,hd,he=>by
  have hlen:=he.len
  have hle:=he.le
  by_cases hij:i < j
  ·have hm:(i + j) / 2 < l.length:=by omega
   rw [iterN,bs_step l t i j hij hm (by omega),Option.bind_some]
   cases d with
   | zero=>omega
   | succ d =>
    cases hc:sLt l[(i + j) / 2] t with
    | true =>
     have hlt:=(sLt_iff _ _).1 hc
     simp only [cond_true]
     refine bs_iter l t hr hl d ((i + j) / 2 + 1) j (by omega) ⟨by omega,hlen,fun k hk hki => ?_,he.hi⟩
     rcases Nat.lt_or_ge k ((i + j) / 2)with h | h
     ·exact lt_trans (hr k _ hk hm h) hlt
     ·have:k=(i + j) / 2:=by omega
      subst this; exact hlt
    | false =>
     have hlt:=mt (sLt_iff _ _).2 (by rw [hc]; simp)
     simp only [cond_false]
     refine bs_iter l t hr hl d i ((i + j) / 2) (by omega) ⟨by omega,by omega,he.lo,fun k hk hki => ?_⟩
     rcases Nat.lt_or_ge ((i + j) / 2) k with h | h
     ·exact fun hx=>hlt (lt_trans (hr _ k hm hk h) hx)
     ·have:k=(i + j) / 2:=by omega
      subst this; exact hlt
  ·have e1:decide ((i:Int) < (j:Int))=false:=by simp; omega
   have:i=j:=by omega
   subst this
   have hst:slices_BinarySearch_int_int_L1 l t ((i:Int),(i:Int))=some (.brk ((i:Int),(i:Int))):=by simp only [slices_BinarySearch_int_int_L1,e1,cond_false]
   rw [iterN,hst,Option.bind_some]
   exact⟨i,rfl,he⟩
theorem bs_eq (l:List Int) (t:Int) (hr:Rises l) (hl:l.length≤1000):∃ i:Int,slices_BinarySearch_int_int l t=some (i,memB t l):=by
 obtain ⟨m,h1,h2⟩:=bs_iter l t hr hl l.length 0 l.length (by omega) ⟨by omega,Nat.le_refl _,fun k _ h=>absurd h (Nat.not_lt_zero k),fun k hk h=>absurd h (by omega)⟩
 have h3:=iter_loopO h1
 refine⟨m,?_⟩
 unfold slices_BinarySearch_int_int
 have h4:loopO ((0:Int),(l.length:Int)) (fun s=>slices_BinarySearch_int_int_L1 l t s)=some (Ctl.go ((m:Int),(m:Int))):=h3
 rw [h4,Option.bind_some,thenC_go]
 have key:t∈l ↔ ∃ h:m < l.length,l[m]=t:=by
  constructor
  ·intro hm
   obtain ⟨k,hk,he⟩:=List.getElem_of_mem hm
   have hk1:¬ k < m:=fun h=>by have:=h2.lo k hk h; rw [he]at this; exact lt_irr _ this
   have hml:m < l.length:=by omega
   refine⟨hml,?_⟩
   rcases Nat.lt_or_ge m k with h | h
   ·have h5:=hr m k hml hk h
    rw [he]at h5
    exact absurd h5 (h2.hi m hml (Nat.le_refl _))
   ·have:k=m:=by omega
    subst this; exact he
  ·rintro ⟨h,he⟩
   rw [← he]; exact List.getElem_mem _
 by_cases hml:m < l.length
 ·have e1:decide ((m:Int) < (l.length:Int))=true:=by simp; omega
  simp only [e1,cond_true,idx_nat,List.getElem?_eq_getElem hml,Option.bind_some,Bool.beq_eq_decide_eq]
  have hn:slices_isNaN_int l[m]=some false:=by
   unfold slices_isNaN_int; simp
  rw [hn]
  by_cases he:l[m]=t
  ·simp only [decide_eq_true he,cond_true,Option.bind_some,memB_iff.2 (key.2 ⟨hml,he⟩)]
  ·simp only [decide_eq_false he,cond_false,Option.bind_some,memB_f (fun h=>he (key.1 h).2)]
 ·have e1:decide ((m:Int) < (l.length:Int))=false:=by simp; omega
  simp only [e1,cond_false,Option.bind_some]
  rw [memB_f (fun h=>hml (key.1 h).1)]
theorem index_run (l:List Int) (v:Int):∀ (xs:List Int) (k:Nat),∃ o,forR (fun k x s=>slices_Index_int_int_L1 v k x s) xs k ()=some o ∧ ∃ r:Int,thenC o (fun _=>some (-1)) (fun r=>some r)=some r∧decide (r≥0)=memB v xs
 | [],k=>⟨.go (),rfl,-1,rfl,by simp [memB]⟩
 | x::xs,k=>by
  have hst:slices_Index_int_int_L1 v k x ()=some (bif decide (v=x)then .ret (k:Int)else .go ()):=by
   simp only [slices_Index_int_int_L1,Bool.beq_eq_decide_eq]; cases decide (v=x) <;> rfl
  rw [forR,hst,Option.bind_some]
  cases hd:decide (v=x)with
  | true=>exact⟨_,rfl,_,rfl,by simp [memB,hd]⟩
  | false =>
   simp only [cond_false]
   obtain ⟨o,h1,r,h2,h3⟩:=index_run l v xs (k + 1)
   exact⟨o,h1,r,h2,by rw [h3]; simp [memB,hd]⟩
theorem contains_eq (l:List Int) (v:Int) (hl:l.length≤1000000):slices_Contains_int_int l v=some (memB v l):=by
 obtain ⟨o,h1,r,h2,h3⟩:=index_run l v l 0
 unfold slices_Contains_int_int slices_Index_int_int
 rw [forL_eq (by omega),h1,Option.bind_some,h2,Option.bind_some,h3]
theorem chk_rises:∀ (l:List Int) (p:Option Int),chkG exStp p l=0→Rises l ∧ ∀ x∈l,∀ y,p=some y→lt y x
 | [],p,h=>⟨fun i j hi=>absurd hi (Nat.not_lt_zero i),by simp⟩
 | x::xs,p,h=>by
  rw [chkG]at h
  cases he:exStp p x == 0 with
  | false=>rw [he]at h; simp only [cond_false]at h; rw [h]at he; cases he
  | true =>
   rw [he]at h
   simp only [cond_true]at h
   obtain ⟨h1,h2⟩:=chk_rises xs (some x) h
   have hx:∀ y,p=some y→lt y x:=fun y hy=>by
    subst hy
    unfold exStp at he
    cases hk:outB x 0 4000 with
    | true=>rw [hk]at he; cases he
    | false =>
     cases hl:leP (some y) x with
     | true=>rw [hk,hl]at he; cases he
     | false =>
      simp only [leP,decide_eq_false_iff_not]at hl
      show y < x
      omega
   refine⟨fun i j hi hj hij => ?_,fun y hy z hz => ?_⟩
   ·cases i with
    | zero=>cases j with
     | zero=>omega
     | succ j=>exact h2 _ (List.getElem_mem _) x rfl
    | succ i=>cases j with
     | zero=>omega
     | succ j=>exact h1 i j (by simpa using hi) (by simpa using hj) (by omega)
   ·rcases List.mem_cons.1 hy with rfl | hy
    ·exact hx z hz
    ·exact lt_trans (hx z hz) (h2 y hy x rfl)
theorem exF_0 {l:List Int} (h:exF l=0):l.length≤100∧Rises l:=by
 unfold exF at h
 by_cases hl:l.length > 100
 ·rw [decide_eq_true hl]at h; cases h
 ·rw [decide_eq_false hl]at h
  exact⟨by omega,(chk_rises l none h).1⟩
end I
def fitB (e:Entry) (p:Player):Bool := !(e.Tags.any fun t => !memB t p.Tags)
theorem fitR (e:Entry) (p:Player) (h1:e.Tags.length≤1000) (h2:p.Tags.length≤1000):ref_FitsOf e p=some (fitB e p):=by
 unfold ref_FitsOf fitB
 rw [containsF_eq e.Tags (fun x0=>ref_FitsOf_1 x0 p) (fun t => !memB t p.Tags) (fun x _=>by simp only [ref_FitsOf_1,contains_eq _ _ (show p.Tags.length≤1000000 by omega),Option.bind_some]) (by omega)]
 rfl
theorem fitK (e:Entry) (p:Player) (h1:e.Tags.length≤1000) (h2:tagsF p.Tags=0):schedule_fits e p=some (fitB e p):=by
 obtain ⟨hl,hr⟩:=tagsF_0 h2
 have run:∀ (xs:List ByteArray) (k:Nat),forR (fun k x u=>schedule_fits_L1 p k x u) xs k ()=some (bif xs.any (fun t => !memB t p.Tags)then .ret false else .go ()):=by
  intro xs
  induction xs with
  | nil=>exact fun k=>rfl
  | cons x xs ih =>
   intro k
   obtain ⟨i,hi⟩:=bs_eq p.Tags x hr (by omega)
   have hst:schedule_fits_L1 p k x ()=some (bif !memB x p.Tags then .ret false else .go ()):=by
    simp only [schedule_fits_L1,hi,Option.bind_some]; cases memB x p.Tags <;> rfl
   rw [forR,hst,Option.bind_some]
   cases hm:memB x p.Tags with
   | true=>simp only [Bool.not_true,cond_false,List.any_cons,hm,Bool.false_or]; exact ih (k + 1)
   | false=>simp [hm]
 unfold schedule_fits fitB
 rw [forL_eq (by omega),run e.Tags 0,Option.bind_some]
 cases e.Tags.any (fun t => !memB t p.Tags) <;> rfl
end Go.Proofs.YtjhcehhmdmbleaaGreat.Law

open Go Go.Eng
namespace Go.Proofs.YtjhcehhmdmbleaaGreat.Law
set_option linter.unusedVariables false
set_option linter.unusedSimpArgs false
def collect (p:Int→Bool) (f:Int→Window):Nat→Int→List Window
 | 0,_ => []
 | n + 1,d=>(bif p d then [f d]else [])++collect p f n (d + 1)
theorem collect_len (p:Int→Bool) (f:Int→Window):∀ (n:Nat) (d:Int),(collect p f n d).length≤n
 | 0,_=>Nat.le_refl 0
 | n + 1,d=>by
  have:=collect_len p f n (d + 1)
  simp only [collect,List.length_append]
  cases p d <;> simp <;> omega
theorem collect_nil {p:Int→Bool} {f:Int→Window}:∀ (n:Nat) (d:Int),(∀ x,d≤x→x < d + n→p x=false)→collect p f n d = []
 | 0,_,_=>rfl
 | n + 1,d,h=>by
  simp only [collect,h d (by omega) (by omega),cond_false,List.nil_append]
  exact collect_nil n (d + 1) (fun x h1 h2=>h x (by omega) (by omega))
theorem collect_congr {p p':Int→Bool} {f f':Int→Window}:∀ (n:Nat) (d:Int),(∀ x,d≤x→x < d + n→p x=p' x∧f x=f' x)→collect p f n d=collect p' f' n d
 | 0,_,_=>rfl
 | n + 1,d,h=>by
  obtain ⟨h1,h2⟩:=h d (by omega) (by omega)
  simp only [collect,h1,h2]
  rw [collect_congr n (d + 1) (fun x h1 h2=>h x (by omega) (by omega))]
theorem collect_split (p:Int→Bool) (f:Int→Window):∀ (n m:Nat) (d:Int),collect p f (n + m) d=collect p f n d++collect p f m (d + n)
 | 0,m,d=>by simp [collect]
 | n + 1,m,d=>by
  rw [show n + 1 + m=(n + m) + 1 by omega]
  simp only [collect,List.append_assoc]
  rw [collect_split p f n m (d + 1),show d + 1 + (n:Int)=d + ((n + 1:Nat):Int) by omega]
theorem collect_map (p:Int→Bool) (f:Int→Window) (g:Window→Window):∀ (n:Nat) (d:Int),(collect p f n d).map g=collect p (fun x=>g (f x)) n d
 | 0,_=>rfl
 | n + 1,d=>by
  simp only [collect,List.map_append,collect_map p f g n (d + 1)]
  cases p d <;> rfl
theorem collect_cut (p:Int→Bool) (f:Int→Window) (a b lo hi:Int) (h1:a≤lo) (h2:hi≤b) (h:∀ x,a≤x→x≤b→p x=true→lo≤x∧x≤hi) :
  collect p f (b + 1 - a).toNat a=collect p f (hi + 1 - lo).toNat lo:=by
 by_cases hh:lo≤hi
 ·have e:(b + 1 - a).toNat=(lo - a).toNat + ((hi + 1 - lo).toNat + (b - hi).toNat):=by omega
  rw [e,collect_split,collect_split,show a + ((lo - a).toNat:Int)=lo by omega,collect_nil (lo - a).toNat a (fun x x1 x2 => ?_),collect_nil (b - hi).toNat _ (fun x x1 x2 => ?_),List.nil_append,List.append_nil]
  ·cases hp:p x with
   | false=>rfl
   | true=>have:=h x (by omega) (by omega) hp; omega
  ·cases hp:p x with
   | false=>rfl
   | true=>have:=h x (by omega) (by omega) hp; omega
 ·rw [show (hi + 1 - lo).toNat=0 by omega,collect_nil (b + 1 - a).toNat a (fun x x1 x2 => ?_)]
  ·rfl
  ·cases hp:p x with
   | false=>rfl
   | true=>have:=h x (by omega) (by omega) hp; omega
theorem days_iter {ρ:Type} {body:List Window×Int→Option (Ctl (List Window×Int) ρ)} {p:Int→Bool} {f:Int→Window} (lo hi:Int)
  (hb:∀ (acc:List Window) d,lo≤d→d≤hi→acc.length≤1000000→body (acc,d)=some (.go (acc++(bif p d then [f d]else []),d + 1))) (he:∀ acc d,hi < d→body (acc,d)=some (.brk (acc,d))) :
  ∀ (n:Nat) (acc:List Window) (d:Int),lo≤d→(hi + 1 - d).toNat=n→acc.length + n≤1000000 → ∃ d',iterN body (n + 1) (acc,d)=some (.go (acc++collect p f n d,d'))
 | 0,acc,d,hlo,hn,hl=>by
  rw [iterN,he acc d (by omega),Option.bind_some]
  exact⟨d,by simp [collect]⟩
 | n + 1,acc,d,hlo,hn,hl=>by
  rw [iterN,hb acc d hlo (by omega) (by omega),Option.bind_some]
  have hle:(bif p d then [f d]else []).length≤1:=by cases p d <;> simp
  obtain ⟨d',h⟩:=days_iter lo hi hb he n (acc++(bif p d then [f d]else [])) (d + 1) (by omega) (by omega) (by rw [List.length_append]; omega)
  refine⟨d',?_⟩
  simp only [h,collect,List.append_assoc]
theorem days_loop {ρ:Type} {body:List Window×Int→Option (Ctl (List Window×Int) ρ)} {p:Int→Bool} {f:Int→Window} (lo hi:Int) (hl:hi - lo≤100000)
  (hb:∀ (acc:List Window) d,lo≤d→d≤hi→acc.length≤1000000→body (acc,d)=some (.go (acc++(bif p d then [f d]else []),d + 1))) (he:∀ acc d,hi < d→body (acc,d)=some (.brk (acc,d))) :
  ∃ d',loopO ([],lo) body=some (.go (collect p f (hi + 1 - lo).toNat lo,d')):=by
 obtain ⟨d',h⟩:=days_iter lo hi hb he (hi + 1 - lo).toNat [] lo (Int.le_refl _) rfl (by simp; omega)
 exact⟨d',by have:=iter_loopO h; simpa using this⟩
def bitB (a r:Int):Bool:=match shrO .i64 a r with
 | some y=>andI .i64 y 1 == 1
 | none=>false
def bitsOk (a r:Nat):Bool:=match shlO .i64 1 (r:Int),shrO .i64 (a:Int) (r:Int)with
 | some x,some y=>(andI .i64 (a:Int) x == 0) == !(andI .i64 y 1 == 1)
 | _,_=>false
theorem bits_all:∀ a:Fin 128,∀ r:Fin 7,bitsOk a.val r.val=true:=by decide +kernel
theorem bits (a r:Int) (ha:0≤a∧a≤127) (hr:0≤r∧r < 7):∃ x y,shlO .i64 1 r=some x∧shrO .i64 a r=some y∧(andI .i64 a x == 0) = !(andI .i64 y 1 == 1)∧bitB a r=(andI .i64 y 1 == 1):=by
 have h:=bits_all ⟨a.toNat,by omega⟩ ⟨r.toNat,by omega⟩
 simp only [bitsOk,show ((a.toNat:Nat):Int)=a by omega,show ((r.toNat:Nat):Int)=r by omega]at h
 unfold bitB
 cases h1:shlO .i64 1 r with
 | none=>rw [h1]at h; cases h
 | some x =>
  cases h2:shrO .i64 a r with
  | none=>rw [h1,h2]at h; cases h
  | some y =>
   rw [h1,h2]at h
   exact⟨x,y,rfl,rfl,eq_of_beq h,rfl⟩
def dayB (e:Entry) (d:Int):Bool:=((d - e.First).tmod e.Every == 0) && (bitB e.Days (d.tmod 7) && !I.memB d e.Except)
structure Right (e:Entry):Prop where
 first:0≤e.First∧e.First≤e.Last
 last:e.Last≤4000
 every:1≤e.Every
 days:1≤e.Days∧e.Days≤127
 ex:exF e.Except=0
 from_:0≤e.From∧e.From≤1439
 to_:0≤e.To∧e.To≤1439
theorem outB_f {n lo hi:Int} (h:outB n lo hi=false):lo≤n∧n≤hi:=by
 simp only [outB,Bool.or_eq_false_iff,decide_eq_false_iff_not]at h; omega
theorem outB_in {n lo hi:Int} (h:lo≤n∧n≤hi):outB n lo hi=false:=by
 simp only [outB,Bool.or_eq_false_iff,decide_eq_false_iff_not]; omega
theorem entF_0 {e:Entry} (h:entF e=0):Right e:=by
 unfold entF at h
 cases hk:(!keyB e.Key || !keyB e.Item)with
 | true=>rw [hk]at h; cases h
 | false =>
 rw [hk,cond_false]at h
 cases hb:(outB e.Version 0 1000000 || (outB e.First 0 e.Last || (decide (e.Last > 4000) || (outB e.Every 1 400 || outB e.Days 1 127))))with
 | true=>rw [hb]at h; cases h
 | false =>
 rw [hb,cond_false]at h
 simp only [Bool.or_eq_false_iff,decide_eq_false_iff_not]at hb
 cases hx:exF e.Except == 0 with
 | false=>rw [hx,cond_false]at h; rw [h]at hx; cases hx
 | true =>
 rw [hx,cond_true]at h
 cases hc:(outB e.From 0 1439 || (outB e.To 0 1439 || outB e.Prio 0 9))with
 | true=>rw [hc]at h; cases h
 | false =>
 simp only [Bool.or_eq_false_iff]at hc
 exact⟨outB_f hb.2.1,by omega,(outB_f hb.2.2.2.1).1,outB_f hb.2.2.2.2,eq_of_beq hx,outB_f hc.1,outB_f hc.2.1⟩
theorem dayK (e:Entry) (h:Right e) (d:Int) (h1:e.First≤d) (h2:d≤e.Last):schedule_isDay e d=some (dayB e d):=by
 have hl:=h.last
 have hf:=h.first
 have hd:=h.days
 obtain ⟨x,y,b1,b2,b3,b4⟩:=bits e.Days (d.tmod 7) (by omega) ⟨Int.tmod_nonneg _ (by omega),Int.tmod_lt_of_pos _ (by decide)⟩
 obtain ⟨hx1,hx2⟩:=I.exF_0 h.ex
 obtain ⟨i,hi⟩:=I.bs_eq e.Except d hx2 (by omega)
 have he0:e.Every≠0:=by have:=h.every; omega
 unfold schedule_isDay dayB
 simp only [outside_eq,outB_in ⟨h1,h2⟩,Option.bind_some,cond_false,w64_id (show -9223372036854775808≤d - e.First∧d - e.First≤9223372036854775807 by omega),remO,if_neg he0,b1,b3,b4,hi]
 cases hq:(d - e.First).tmod e.Every == 0 with
 | false =>
  have:((d - e.First).tmod e.Every != 0)=true:=by simp [bne,hq]
  simp only [this,cond_true,Option.bind_some,Bool.false_and]
 | true =>
  have:((d - e.First).tmod e.Every != 0)=false:=by simp [bne,hq]
  simp only [this,cond_false,Option.bind_some,Bool.true_and]
  cases (andI .i64 y 1 == 1) <;> simp
theorem dayR (e:Entry) (h:Right e) (d:Int) (h1:e.First≤d) (h2:d≤e.Last):ref_dayOf e d=some (dayB e d):=by
 have hl:=h.last
 have hf:=h.first
 have hd:=h.days
 obtain ⟨x,y,b1,b2,b3,b4⟩:=bits e.Days (d.tmod 7) (by omega) ⟨Int.tmod_nonneg _ (by omega),Int.tmod_lt_of_pos _ (by decide)⟩
 obtain ⟨hx1,hx2⟩:=I.exF_0 h.ex
 have he0:e.Every≠0:=by have:=h.every; omega
 unfold ref_dayOf dayB
 simp only [in_eq,outB_in ⟨h1,h2⟩,Option.bind_some,Bool.not_false,cond_true,w64_id (show -9223372036854775808≤d - e.First∧d - e.First≤9223372036854775807 by omega),remO,if_neg he0,b2,b4,I.contains_eq e.Except d (by omega)]
 cases hq:(d - e.First).tmod e.Every == 0 with
 | false=>simp only [cond_false,Option.bind_some,Bool.false_and]
 | true =>
  simp only [cond_true,Option.bind_some,Bool.true_and]
  cases (andI .i64 y 1 == 1) <;> simp
end Go.Proofs.YtjhcehhmdmbleaaGreat.Law

open Go Go.Eng
namespace Go.Proofs.YtjhcehhmdmbleaaGreat.Law
set_option linter.unusedVariables false
set_option linter.unusedSimpArgs false
def tF (e:Entry) (z d:Int):Int:=(d * 1440 + e.From - z) * 60000
def mins (e:Entry):Int:=if e.To - e.From≤0 then e.To - e.From + 1440 else e.To - e.From
def tW (e:Entry) (z d:Int):Window:=⟨tF e z d,tF e z d + mins e * 60000⟩
theorem timeK (e:Entry) (h:Right e) (z d:Int) (hz : -1440≤z∧z≤1440) (hd:0≤d∧d≤4000):schedule_timeOf e z d=some (tW e z d):=by
 have h1:=h.from_
 have h2:=h.to_
 unfold schedule_timeOf tW tF mins
 rw [w64_id (n:=e.To - e.From) (by omega)]
 by_cases hc:e.To - e.From≤0
 ·simp only [decide_eq_true hc,cond_true,Option.bind_some,if_pos hc]
  rw [w64_id (n:=e.To - e.From + 1440) (by omega),w64_id (n:=d * 1440) (by omega),w64_id (n:=d * 1440 + e.From) (by omega),w64_id (n:=d * 1440 + e.From - z) (by omega),w64_id (n:=(d * 1440 + e.From - z) * 60000) (by omega),w64_id (n:=(e.To - e.From + 1440) * 60000) (by omega),w64_id (by omega)]
 ·simp only [decide_eq_false hc,cond_false,Option.bind_some,if_neg hc]
  rw [w64_id (n:=d * 1440) (by omega),w64_id (n:=d * 1440 + e.From) (by omega),w64_id (n:=d * 1440 + e.From - z) (by omega),w64_id (n:=(d * 1440 + e.From - z) * 60000) (by omega),w64_id (n:=(e.To - e.From) * 60000) (by omega),w64_id (by omega)]
theorem timeR (e:Entry) (h:Right e) (z d:Int) (hz : -1440≤z∧z≤1440) (hd:0≤d∧d≤4000):ref_timeOf e z d=some (tW e z d):=by
 have h1:=h.from_
 have h2:=h.to_
 unfold ref_timeOf tW tF mins
 by_cases hc:e.To≤e.From
 ·simp only [decide_eq_true hc,cond_true,Option.bind_some,if_pos (show e.To - e.From≤0 by omega)]
  rw [w64_id (n:=e.To + 1440) (by omega),w64_id (n:=d * 86400000) (by omega),w64_id (n:=z * 60000) (by omega),w64_id (n:=d * 86400000 - z * 60000) (by omega),w64_id (n:=e.From * 60000) (by omega),w64_id (n:=(e.To + 1440) * 60000) (by omega),w64_id (by omega),w64_id (by omega)]
  congr 2 <;> omega
 ·simp only [decide_eq_false hc,cond_false,Option.bind_some,if_neg (show ¬ e.To - e.From≤0 by omega)]
  rw [w64_id (n:=d * 86400000) (by omega),w64_id (n:=z * 60000) (by omega),w64_id (n:=d * 86400000 - z * 60000) (by omega),w64_id (n:=e.From * 60000) (by omega),w64_id (n:=e.To * 60000) (by omega),w64_id (by omega),w64_id (by omega)]
  congr 2 <;> omega
def cutW (w t:Window):Window:=⟨maxI t.From w.From,minI t.To w.To⟩
def pR (e:Entry) (z:Int) (w:Window) (d:Int):Bool := !e.Gone && (dayB e d && decide (maxI (tF e z d) w.From < minI (tF e z d + mins e * 60000) w.To))
def pK (e:Entry) (z:Int) (w:Window) (d:Int):Bool:=dayB e d && (decide (tF e z d < w.To) && decide (tF e z d + mins e * 60000 > w.From))
def wants (e:Entry) (z:Int) (w:Window):List Window:=collect (pR e z w) (fun d=>cutW w (tW e z d)) (e.Last + 1 - e.First).toNat e.First
theorem timesR (e:Entry) (h:Right e) (z:Int) (w:Window) (hz : -1440≤z∧z≤1440):ref_TimesOf e z w=some (wants e z w):=by
 have hf:=h.first
 have hl:=h.last
 obtain ⟨d',hd⟩:=days_loop (ρ:=Unit) (body:=fun s=>ref_TimesOf_L1 e z w s) (p:=pR e z w) (f:=fun d=>cutW w (tW e z d)) e.First e.Last (by omega) (fun acc d h1 h2 h3=>by
   have hc:decide (d≤e.Last)=true:=decide_eq_true h2
   simp only [ref_TimesOf_L1,hc,cond_true,timeR e h z d hz (by omega),Option.bind_some,dayR e h d h1 h2,w64_id (n:=d + 1) (by omega),pR,tW]
   cases e.Gone with
   | true=>simp
   | false =>
    simp only [Bool.not_false,cond_true,Option.bind_some,Bool.true_and]
    cases dayB e d with
    | false=>simp
    | true =>
     simp only [cond_true,Option.bind_some,Bool.true_and]
     cases decide (maxI (tF e z d) w.From < minI (tF e z d + mins e * 60000) w.To)with
     | false=>simp
     | true=>simp only [cond_true,appL_ok acc [_] (show acc.length + 1≤_ by omega),Option.bind_some]; rfl)
  (fun acc d h1=>by
   have hc:decide (d≤e.Last)=false:=decide_eq_false (by omega)
   simp only [ref_TimesOf_L1,hc,cond_false])
 unfold ref_TimesOf wants
 rw [hd,Option.bind_some,thenC_go]
theorem tdivB (x q:Int) (h:x.tdiv 86400000=q):(0≤x→q * 86400000≤x∧x < q * 86400000 + 86400000)∧(x < 0→x≤q * 86400000∧q * 86400000 - 86400000 < x):=by
 have h1:=Int.mul_tdiv_add_tmod x 86400000
 rw [h]at h1
 refine⟨fun hx => ?_,fun hx => ?_⟩
 ·have h2:=Int.tmod_nonneg 86400000 hx
  have h3:=Int.tmod_lt_of_pos x (show (0:Int) < 86400000 by decide)
  omega
 ·have h3:=Int.lt_tmod_of_pos x (show (0:Int) < 86400000 by decide)
  have h4:x.tmod 86400000≤0:=by
   have h5:=Int.tmod_nonneg 86400000 (show (0:Int) ≤ -x by omega)
   rw [Int.neg_tmod]at h5
   omega
  omega
def WinOK (w:Window):Prop:=0≤w.From∧w.From≤w.To∧w.To≤345686400000
theorem mins_b (e:Entry) (h:Right e):1≤mins e∧mins e≤1440:=by
 have h1:=h.from_
 have h2:=h.to_
 unfold mins
 split <;> omega
theorem timesK (e:Entry) (h:Right e) (z:Int) (w:Window) (hz : -1440≤z∧z≤1440) (hw:WinOK w):∃ l,schedule_times e z w=some l∧l.length≤100000∧l.map (cutW w)=wants e z w:=by
 obtain ⟨w1,w2,w3⟩:=hw
 have hf:=h.first
 have hl:=h.last
 have hm:=mins_b e h
 have hfr:=h.from_
 unfold schedule_times
 cases hg:e.Gone with
 | true =>
  simp only [cond_true,Option.bind_some]
  refine⟨[],rfl,by simp,?_⟩
  unfold wants
  rw [collect_nil _ _ (fun x _ _=>by simp only [pR,hg,Bool.not_true,Bool.false_and])]; rfl
 | false =>
 simp only [cond_false,Option.bind_some]
 by_cases hlt:w.From≥w.To
 ·simp only [decide_eq_true hlt,cond_true]
  refine⟨[],rfl,by simp,?_⟩
  unfold wants
  rw [collect_nil _ _ (fun x _ _=>by
   have:decide (maxI (tF e z x) w.From < minI (tF e z x + mins e * 60000) w.To)=false:=decide_eq_false (by unfold maxI minI; split <;> split <;> omega)
   simp only [pR,this,Bool.and_false])]; rfl
 ·simp only [decide_eq_false hlt,cond_false]
  rw [w64_id (n:=z * 60000) (by omega),w64_id (n:=w.From + z * 60000) (by omega)]
  obtain ⟨a,ha⟩:∃ a,(w.From + z * 60000).tdiv 86400000=a:=⟨_,rfl⟩
  obtain ⟨b,hb⟩:∃ b,(w.To + z * 60000).tdiv 86400000=b:=⟨_,rfl⟩
  have ha2:=tdivB _ _ ha
  have hb2:=tdivB _ _ hb
  rw [ha,w64_id (n:=a) (by omega),w64_id (n:=a - 2) (by omega)]
  obtain ⟨lo,hlo⟩:∃ lo,maxI (a - 2) e.First=lo:=⟨_,rfl⟩
  obtain ⟨hi,hhi⟩:∃ hi,minI (b + 1) e.Last=hi:=⟨_,rfl⟩
  have hlo2:e.First≤lo∧a - 2≤lo∧(lo=e.First∨lo=a - 2):=by unfold maxI at hlo; split at hlo <;> omega
  have hhi2:hi≤e.Last∧hi≤b + 1∧(hi=e.Last∨hi=b + 1):=by unfold minI at hhi; split at hhi <;> omega
  have hend:∀ d,decide (d≤minI (w64 (w64 ((w64 (w.To + w64 (z * 60000))).tdiv 86400000) + 1)) e.Last)=decide (d≤hi):=fun d=>by
   rw [w64_id (n:=z * 60000) (by omega),w64_id (n:=w.To + z * 60000) (by omega),hb,w64_id (n:=b) (by omega),w64_id (n:=b + 1) (by omega),hhi]
  rw [hlo]
  obtain ⟨d',hd⟩:=days_loop (ρ:=Unit) (body:=fun s=>schedule_times_L1 w z e s) (p:=pK e z w) (f:=tW e z) lo hi (by omega) (fun acc d h1 h2 h3=>by
    have hc:decide (d≤hi)=true:=decide_eq_true h2
    simp only [schedule_times_L1,hend,hc,cond_true,timeK e h z d hz (by omega),Option.bind_some,dayK e h d (by omega) (by omega),w64_id (n:=d + 1) (by omega),pK]
    cases dayB e d with
    | false=>simp
    | true =>
     simp only [Bool.not_true,cond_false,Option.bind_some,Bool.true_and]
     by_cases hA:tF e z d < w.To
     ·have hA1:decide (tF e z d < w.To)=true:=decide_eq_true hA
      have hA2:decide ((tW e z d).From < w.To)=true:=decide_eq_true hA
      by_cases hB:tF e z d + mins e * 60000 > w.From
      ·have hB1:decide (tF e z d + mins e * 60000 > w.From)=true:=decide_eq_true hB
       have hB2:decide ((tW e z d).To > w.From)=true:=decide_eq_true hB
       simp only [hA1,hA2,hB1,hB2,cond_true,Bool.and_self,Option.bind_some,appL_ok acc [tW e z d] (show acc.length + 1≤_ by omega)]
      ·have hB1:decide (tF e z d + mins e * 60000 > w.From)=false:=decide_eq_false hB
       have hB2:decide ((tW e z d).To > w.From)=false:=decide_eq_false hB
       simp only [hA1,hA2,hB1,hB2,cond_true,cond_false,Bool.and_false,Option.bind_some,List.append_nil]
     ·have hA1:decide (tF e z d < w.To)=false:=decide_eq_false hA
      have hA2:decide ((tW e z d).From < w.To)=false:=decide_eq_false hA
      simp only [hA1,hA2,cond_false,Bool.false_and,Option.bind_some,List.append_nil])
   (fun acc d h1=>by
    have hc:decide (d≤hi)=false:=decide_eq_false (by omega)
    simp only [schedule_times_L1,hend,hc,cond_false])
  refine⟨collect (pK e z w) (tW e z) (hi + 1 - lo).toNat lo,by rw [hd,Option.bind_some,thenC_go],?_,?_⟩
  ·have:=collect_len (pK e z w) (tW e z) (hi + 1 - lo).toNat lo
   omega
  ·rw [collect_map]
   unfold wants
   rw [collect_cut (pR e z w) _ e.First e.Last lo hi (by omega) (by omega) (fun x x1 x2 hp => ?_)]
   ·refine collect_congr _ _ (fun x x1 x2=>⟨?_,rfl⟩)
    simp only [pK,pR,hg,Bool.not_false,Bool.true_and]
    congr 1
    rw [Bool.eq_iff_iff,Bool.and_eq_true,decide_eq_true_eq,decide_eq_true_eq,decide_eq_true_eq]
    unfold maxI minI
    split <;> split <;> omega
   ·simp only [pR,hg,Bool.not_false,Bool.true_and,Bool.and_eq_true,decide_eq_true_eq]at hp
    have hp2:=hp.2
    unfold tF at hp2
    unfold maxI minI at hp2
    split at hp2 <;> split at hp2 <;> omega
theorem cut_loop (w:Window) (r:List Window) (hr:r.length≤1000000):forL (List.range ((r.length:Int)).toNat) r (fun k x s=>schedule_Times_L1 w k x s)=some (.go (r.map (cutW w))):=by
 obtain ⟨s',h1,h2,h3⟩:=forL_inv (ρ:=Unit) (body:=fun k x s=>schedule_Times_L1 w k x s) (fun k s=>s.length=r.length ∧ ∀ i,s[i]? = if i < k then (r.map (cutW w))[i]? else r[i]?) (xs:=List.range ((r.length:Int)).toNat) (s:=r) (by simp; omega) (fun k x s hx hk ⟨i1,i2⟩=>by
   simp only [List.length_range,Int.toNat_natCast]at hk
   have hg:r[k]? = some r[k]:=List.getElem?_eq_getElem hk
   have hs:s[0 + ((k:Int)).toNat]? = some r[k]:=by
    rw [show 0 + ((k:Int)).toNat=k by omega,i2 k,if_neg (by omega),hg]
   have hin:inR (k:Int) s=some ():=inR_ok (by omega) (by omega)
   simp only [schedule_Times_L1,hin,hs,schedule_cut,Option.bind_some]
   refine⟨_,rfl,by simpa using i1,fun i => ?_⟩
   rw [show 0 + ((k:Int)).toNat=k by omega,List.getElem?_set]
   by_cases hik:k=i
   ·subst hik
    rw [if_pos rfl,if_pos (by omega),if_pos (by omega),List.getElem?_map,hg]; rfl
   ·rw [if_neg hik,i2 i]
    by_cases h5:i < k
    ·rw [if_pos h5,if_pos (by omega)]
    ·rw [if_neg h5,if_neg (by omega)]) ⟨rfl,fun i=>by simp⟩
 rw [h1]
 congr 2
 refine List.ext_getElem? (fun i => ?_)
 rw [h3 i]
 simp only [List.length_range,Int.toNat_natCast]
 split
 ·rfl
 ·rw [List.getElem?_eq_none (by omega),List.getElem?_eq_none (by simp; omega)]
def zF (z:Int):Int:=bif outB z (-1440) 1440 then 1 else 0
theorem winF_0 {w:Window} (h:winF w=0):WinOK w:=by
 unfold winF at h
 cases hb:(outB w.From 0 w.To || decide (w.To > 345686400000))with
 | true=>rw [hb]at h; cases h
 | false =>
  simp only [Bool.or_eq_false_iff,decide_eq_false_iff_not]at hb
  have:=outB_f hb.1
  exact⟨by omega,by omega,by omega⟩
theorem or0_0 {a b:Int} (h:or0 a b=0):a=0∧b=0:=by
 unfold or0 at h
 cases ha:a == 0 with
 | true=>rw [ha]at h; exact⟨eq_of_beq ha,h⟩
 | false=>rw [ha,cond_false]at h; rw [h]at ha; cases ha
theorem times_eq (e:Entry) (z:Int) (w:Window) (he:GoodE e):schedule_Times e z w=some (bif or0 (entF e) (or0 (zF z) (winF w)) == 0 then (wants e z w,0)else ([],or0 (entF e) (or0 (zF z) (winF w)))):=by
 unfold schedule_Times
 rw [oneK e he,Option.bind_some,outside_eq,winK]
 cases h:entF e == 0 with
 | false =>
  have:(entF e != 0)=true:=by simp [bne,h]
  have h2:or0 (entF e) (or0 (zF z) (winF w))=entF e:=by unfold or0; rw [h,cond_false]
  simp only [this,cond_true,h2,h,cond_false]
 | true =>
  have:(entF e != 0)=false:=by simp [bne,h]
  have h2:or0 (entF e) (or0 (zF z) (winF w))=or0 (zF z) (winF w):=by unfold or0; rw [h,cond_true]
  simp only [this,cond_false,h2,Option.bind_some]
  cases hz:outB z (-1440) 1440 with
  | true =>
   have h3:or0 (zF z) (winF w)=1:=by unfold or0 zF; rw [hz]; rfl
   rw [h3]; rfl
  | false =>
   have h3:or0 (zF z) (winF w)=winF w:=by unfold or0 zF; rw [hz]; rfl
   simp only [h3,cond_false]
   cases hw:winF w == 0 with
   | false =>
    have:(winF w != 0)=true:=by simp [bne,hw]
    simp only [this,cond_true,cond_false]
   | true =>
    have:(winF w != 0)=false:=by simp [bne,hw]
    simp only [this,cond_true,cond_false]
    obtain ⟨l,k1,k2,k3⟩:=timesK e (entF_0 (eq_of_beq h)) z w (outB_f hz) (winF_0 (eq_of_beq hw))
    rw [k1,Option.bind_some,cut_loop w l (by omega),Option.bind_some,thenC_go,k3]
theorem when_eq (b:Bool):law_when b 1=some (bif b then 1 else 0):=by cases b <;> rfl
theorem timed_ok:law_timed=some true:=by
 unfold law_timed
 rw [times_eq _ _ _ ⟨short_lit rfl,short_lit rfl,by simp,by simp,by simp⟩]
 decide +kernel
end Go.Proofs.YtjhcehhmdmbleaaGreat.Law

open Go Go.Eng
namespace Go.Proofs.YtjhcehhmdmbleaaGreat.Law
set_option linter.unusedVariables false
set_option linter.unusedSimpArgs false
theorem forR_at {α σ ρ:Type} {body:Nat→α→σ→Option (Ctl σ ρ)} (I:Nat→σ→Prop) (xs:List α):∀ (l:List α) (k:Nat) (s:σ),xs.drop k=l→k≤xs.length→(∀ k x s,xs[k]? = some x→I k s → ∃ s',body k x s=some (.go s')∧I (k + 1) s')→I k s → ∃ s',forR body l k s=some (.go s')∧I xs.length s'
 | [],k,s,hd,hk,h,hi=>by
  have:=List.drop_eq_nil_iff.1 hd
  obtain rfl:k=xs.length:=by omega
  exact⟨s,rfl,hi⟩
 | x::l,k,s,hd,hk,h,hi=>by
  obtain ⟨s1,h1,h2⟩:=h k x s (drop_get hd) hi
  obtain ⟨s2,h3,h4⟩:=forR_at I xs l (k + 1) s1 (drop_next hd) (by have:=drop_lt hd; omega) h h2
  exact⟨s2,by rw [forR,h1,Option.bind_some]; exact h3,h4⟩
theorem forL_at {α σ ρ:Type} {body:Nat→α→σ→Option (Ctl σ ρ)} (I:Nat→σ→Prop) {xs:List α} {s:σ} (hl:xs.length≤1000000000000) (h:∀ k x s,xs[k]? = some x→I k s → ∃ s',body k x s=some (.go s')∧I (k + 1) s') (h0:I 0 s):∃ s',forL xs s body=some (.go s')∧I xs.length s':=by
 rw [forL_eq hl]
 exact forR_at I xs xs 0 s rfl (Nat.zero_le _) h h0
end Go.Proofs.YtjhcehhmdmbleaaGreat.Law

