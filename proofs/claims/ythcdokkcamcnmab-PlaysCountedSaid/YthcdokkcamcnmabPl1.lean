/-
  THE PLAIN LAW (part 1).
-/
import Derived.Test.YthcdokkcamcnmabEng5
import Derived.Test.YthcdokkcamcnmabDefs
namespace Go.Eng
set_option linter.unusedVariables false
set_option linter.unusedSimpArgs false
theorem forL_eq {α σ ρ:Type} {body:Nat→α→σ→Option (Ctl σ ρ)} {xs:List α} {s:σ} (hl:xs.length≤1000000000000):forL xs s body=forR body xs 0 s:=by unfold forL; rw [if_pos hl]
theorem forR_inv {α σ ρ:Type} {body:Nat→α→σ→Option (Ctl σ ρ)} (I:Nat→σ→Prop) (N:Nat):∀ (xs:List α) (k:Nat) (s:σ),k + xs.length=N→(∀ k x s,x∈xs→k < N→I k s → ∃ s',body k x s=some (.go s')∧I (k + 1) s')→I k s → ∃ s',forR body xs k s=some (.go s')∧I N s'
 | [],k,s,hN,h,hi=>⟨s,rfl,by simp only [List.length_nil,Nat.add_zero]at hN; rw [← hN]; exact hi⟩
 | x::xs,k,s,hN,h,hi=>by
  simp only [List.length_cons]at hN
  obtain ⟨s1,h1,h2⟩:=h k x s (by simp) (by omega) hi
  obtain ⟨s2,h3,h4⟩:=forR_inv I N xs (k + 1) s1 (by omega) (fun k x s hx=>h k x s (by simp [hx])) h2
  exact⟨s2,by simp only [forR,h1,Option.bind_some]; exact h3,h4⟩
theorem forL_inv {α σ ρ:Type} {body:Nat→α→σ→Option (Ctl σ ρ)} (I:Nat→σ→Prop) {xs:List α} {s:σ} (hl:xs.length≤1000000000000) (h:∀ k x s,x∈xs→k < xs.length→I k s → ∃ s',body k x s=some (.go s')∧I (k + 1) s') (h0:I 0 s):∃ s',forL xs s body=some (.go s')∧I xs.length s':=by
 obtain ⟨s',h1,h2⟩:=forR_inv I xs.length xs 0 s (by omega) h h0
 exact⟨s',by rw [forL_eq hl]; exact h1,h2⟩
theorem thenC_go {σ ρ τ:Type} (s:σ) (f:σ→Option τ) (g:ρ→Option τ):thenC (.go s) f g=f s:=rfl
theorem thenC_ret {σ ρ τ:Type} (r:ρ) (f:σ→Option τ) (g:ρ→Option τ):thenC (.ret r) f g=g r:=rfl
theorem idx_nat {α:Type} (xs:List α) (k:Nat):idx xs (k:Int)=xs[k]? := by simp [idx]
theorem w64_id {n:Int} (h : -9223372036854775808≤n∧n≤9223372036854775807):w64 n=n:=w64_in n h
theorem toL (s:ByteArray):s.toList=s.data.toList:=Go.Lib.toList_data s
theorem str_ext {a b:ByteArray} (h:a.toList=b.toList):a=b:=by
 rw [toL,toL]at h
 obtain ⟨⟨a⟩⟩:=a
 obtain ⟨⟨b⟩⟩:=b
 simp only at h
 rw [h]
theorem sEq_iff (a b:ByteArray):sEq a b=true↔a=b:=by
 simp only [sEq,beq_iff_eq]
 exact⟨str_ext,fun h=>by rw [h]⟩
theorem sEq_dec (a b:ByteArray):sEq a b=decide (a=b):=by
 rw [Bool.eq_iff_iff,sEq_iff]; simp
theorem sNe_dec (a b:ByteArray):sNe a b = !decide (a=b):=by
 have:=sEq_dec a b; simp only [sEq,sNe]at *; rw [this]
abbrev bl:=Op.bytesLess
theorem bl_lt:∀ (x y:List UInt8),bl x y=decide (x < y)
 | _,[]=>by simp [bl,Op.bytesLess]
 | [],_::_=>by simp [bl,Op.bytesLess]
 | a::x,b::y=>by
  have:=bl_lt x y
  simp only [bl,Op.bytesLess]at this ⊢
  rw [this,Bool.eq_iff_iff]
  simp only [Bool.or_eq_true,decide_eq_true_eq,Bool.and_eq_true,beq_iff_eq,List.cons_lt_cons_iff]
def lt (a b:ByteArray):Prop:=a.toList < b.toList
theorem sLt_iff (a b:ByteArray):sLt a b=true↔lt a b:=by
 show bl a.toList b.toList=true↔_
 rw [bl_lt]; simp [lt]
theorem lt_irr (a:ByteArray):¬ lt a a:=List.lt_irrefl a.toList
theorem lt_trans {a b c:ByteArray} (h:lt a b) (k:lt b c):lt a c:=List.lt_trans h k
theorem lt_tri (a b:ByteArray):lt a b∨a=b∨lt b a:=by
 rcases Classical.em (lt a b)with h | h
 ·exact .inl h
 ·rcases Classical.em (lt b a)with h2 | h2
  ·exact .inr (.inr h2)
  ·exact .inr (.inl (str_ext (List.le_antisymm (List.not_lt.1 h2) (List.not_lt.1 h))))
theorem sLe_iff (a b:ByteArray):sLe a b=true ↔ ¬ lt b a:=by
 have h1:=sLt_iff a b
 have h2:=sEq_iff a b
 simp only [sLe,Bool.or_eq_true]
 constructor
 ·rintro (h | h)
  ·exact fun k=>lt_irr _ (lt_trans (h1.1 h) k)
  ·rw [h2.1 h]; exact lt_irr _
 ·intro h
  rcases lt_tri a b with k | k | k
  ·exact .inl (h1.2 k)
  ·exact .inr (h2.2 k)
  ·exact absurd k h
theorem sGt_iff (a b:ByteArray):sGt a b=true↔lt b a:=by
 have:=sLe_iff a b
 simp only [sGt,sLe]at *
 rw [Bool.not_eq_true',← Bool.not_eq_true,this]; simp
theorem sNe_nil (a:ByteArray):sNe a ⟨#[]⟩=decide (a.size≠0):=by
 rw [sNe_dec,Go.Lib.size_eq,Bool.eq_iff_iff]
 simp only [Bool.not_eq_true',decide_eq_false_iff_not,decide_eq_true_eq,ne_eq]
 refine not_congr ⟨fun h=>by rw [h]; rfl,fun h => ?_⟩
 exact str_ext (by rw [toL,List.eq_nil_of_length_eq_zero h,toL])
end Go.Eng

open Go Go.Eng
namespace Go.Proofs.Ythcdokkcamcnmab.Law
set_option linter.unusedVariables false
set_option linter.unusedSimpArgs false
def Ok (s:Stream) (b:Int):Prop:=0≤s.f_at∧s.f_at≤b
theorem Ok.mono {s:Stream} {b c:Int} (h:Ok s b) (hc:b≤c):Ok s c:=⟨h.1,Int.le_trans h.2 hc⟩
theorem below_ok (x n:Int) (h:1≤n) (hn:n≤4611686018427387904):∃ r,mk_Below x n=some r∧0≤r∧r < n:=by
 have h1:x.tmod n < n:=Int.tmod_lt_of_pos x (by omega)
 have h2 : -n < x.tmod n:=Int.lt_tmod_of_pos x (by omega)
 have hb:decide (n < 1)=false:=by simp; omega
 have hn0:n≠0:=by omega
 simp only [mk_Below,hb,cond_false,remO,if_neg hn0,Option.bind_some]
 cases hd:decide (x.tmod n < 0)with
 | true =>
  simp only [decide_eq_true_eq]at hd
  exact⟨_,rfl,by rw [w64_id (by omega)]; omega,by rw [w64_id (by omega)]; omega⟩
 | false =>
  simp only [decide_eq_false_iff_not]at hd
  exact⟨_,rfl,by omega,h1⟩
theorem next_ok (s:Stream) (n:Int) {b:Int} (hs:Ok s b) (hb:b≤1000000) (h:1≤n) (hn:n≤4611686018427387904):∃ r s',mk_Stream_Next s n=some (r,s')∧0≤r∧r < n∧Ok s' (b + 1):=by
 obtain ⟨h0,h1⟩:=hs
 have e1:w64 (s.f_at + 1)=s.f_at + 1:=w64_id (by omega)
 have e2:w64 (s.f_at + 1 - 1)=s.f_at:=by rw [w64_id (by omega)]; omega
 simp only [mk_Stream_Next,e1,e2]
 by_cases hl:s.L.length=0
 ·have:((s.L.length:Int) == 0)=true:=by simp [hl]
  simp only [this,cond_true]
  obtain ⟨r,hr,h2,h3⟩:=below_ok (w64 ((s.f_at + 1) * 7919)) n h hn
  exact⟨r,_,by rw [hr]; rfl,h2,h3,⟨by show 0≤s.f_at + 1; omega,by show s.f_at + 1≤b + 1; omega⟩⟩
 ·have hne:(s.L.length:Int)≠0:=by omega
  have:((s.L.length:Int) == 0)=false:=by simpa using hl
  simp only [this,cond_false,remO,quoO,if_neg hne,Option.bind_some]
  have h2:0≤s.f_at.tmod s.L.length:=Int.tmod_nonneg _ h0
  have hp:(0:Int) < (s.L.length:Int):=by have:=Nat.pos_of_ne_zero hl; omega
  have h3:s.f_at.tmod s.L.length < s.L.length:=Int.tmod_lt_of_pos _ hp
  have hi:idx s.L (s.f_at.tmod s.L.length)=some s.L[(s.f_at.tmod s.L.length).toNat]:=by
   simp only [idx,if_pos h2]
   exact List.getElem?_eq_getElem (by omega)
  obtain ⟨r1,hr1,_,_⟩:=below_ok s.L[(s.f_at.tmod s.L.length).toNat] 1073741824 (by decide) (by decide)
  simp only [hi,hr1,Option.bind_some]
  generalize w64 (r1 + _)=y
  obtain ⟨r,hr,h4,h5⟩:=below_ok y n h hn
  exact⟨r,_,by rw [hr]; rfl,h4,h5,⟨by show 0≤s.f_at + 1; omega,by show s.f_at + 1≤b + 1; omega⟩⟩
theorem flip_ok (s:Stream) (n:Int) {b:Int} (hs:Ok s b) (hb:b≤1000000) (h:1≤n) (hn:n≤1000):∃ r s',mk_Stream_Flip s n=some (r,s')∧Ok s' (b + 1):=by
 obtain ⟨r,s',h1,_,_,h2⟩:=next_ok s n hs hb h (by omega)
 exact⟨r == 0,s',by simp only [mk_Stream_Flip,h1,Option.bind_some],h2⟩
theorem idx_mem {α:Type} {l:List α} {r:Int} (h0:0≤r) (h1:r < l.length):∃ y,idx l r=some y∧y∈l:=by
 refine⟨l[r.toNat]'(by omega),?_,List.getElem_mem _⟩
 simp only [idx,if_pos h0]
 exact List.getElem?_eq_getElem (by omega)
theorem pick_ok (s:Stream) (l:List Int) {b:Int} (hs:Ok s b) (hb:b≤1000000) (h:1≤l.length) (hn:l.length≤1000):∃ r s',mk_Stream_Pick s l=some (r,s')∧r∈l∧Ok s' (b + 1):=by
 obtain ⟨r,s',h1,h2,h3,h4⟩:=next_ok s l.length hs hb (by omega) (by omega)
 obtain ⟨y,hy,hm⟩:=idx_mem h2 h3
 exact⟨y,s',by simp only [mk_Stream_Pick,h1,hy,Option.bind_some],hm,h4⟩
theorem some_ok (s:Stream) (l:List ByteArray) {b:Int} (hs:Ok s b) (hb:b≤1000000) (h:1≤l.length) (hn:l.length≤1000):∃ r s',mk_Stream_Some s l=some (r,s')∧r∈l∧Ok s' (b + 1):=by
 obtain ⟨r,s',h1,h2,h3,h4⟩:=next_ok s l.length hs hb (by omega) (by omega)
 obtain ⟨y,hy,hm⟩:=idx_mem h2 h3
 exact⟨y,s',by simp only [mk_Stream_Some,h1,hy,Option.bind_some],hm,h4⟩
theorem range_ok (s:Stream) (lo hi:Int) {b:Int} (hs:Ok s b) (hb:b≤1000000) (h:lo≤hi) (h1 : -1000000000000≤lo) (h2:hi≤1000000000000):∃ r s',mk_Stream_Range s lo hi=some (r,s')∧lo≤r∧r≤hi∧Ok s' (b + 1):=by
 have hd:decide (hi < lo)=false:=by simp; omega
 have e1:w64 (hi - lo)=hi - lo:=w64_id (by omega)
 have e2:w64 (hi - lo + 1)=hi - lo + 1:=w64_id (by omega)
 obtain ⟨r,s',k1,k2,k3,k4⟩:=next_ok s (hi - lo + 1) hs hb (by omega) (by omega)
 simp only [mk_Stream_Range,hd,cond_false,e1,e2,k1,Option.bind_some]
 exact⟨_,s',rfl,by rw [w64_id (by omega)]; omega,by rw [w64_id (by omega)]; omega,k4⟩
end Go.Proofs.Ythcdokkcamcnmab.Law

open Go Go.Eng
namespace Go.Proofs.Ythcdokkcamcnmab.Law
set_option linter.unusedVariables false
set_option linter.unusedSimpArgs false
def lowB (b:UInt8):Bool:=decide (97≤b.toNat) && decide (b.toNat≤122)
def moreB (b:UInt8):Bool:=(decide (48≤b.toNat) && decide (b.toNat≤57)) || (b.toNat == 45) || (b.toNat == 95)
def okB (i:Nat) (b:UInt8):Bool:=lowB b || (decide (0 < i) && moreB b)
def byteAt (s:ByteArray) (i:Nat):UInt8:=s.data.toList.getD i 0
def keyB (s:ByteArray):Bool:=decide (s.size≠0) && (decide (s.size≤40) && (List.range s.size).all fun i=>okB i (byteAt s i))
theorem idxS_nat (s:ByteArray) (k:Nat) (h:k < s.size):idxS s (k:Int)=some (byteAt s k):=by
 have h1:s[k]? = some s[k]:=by simp [h]
 have h2:byteAt s k=s[k]:=by
  have hl:k < s.data.toList.length:=by rw [← Go.Lib.size_eq]; exact h
  simp only [byteAt,List.getD_eq_getElem?_getD,List.getElem?_eq_getElem hl,Option.getD_some]
  simp
  rfl
 simp only [idxS,if_pos (Int.natCast_nonneg k),Int.toNat_natCast,h1,h2]
theorem isKey_L1 (s:ByteArray) (k:Nat) (hs:s.size≤1000000000):kit_IsKey_L1 s (k:Int)=some (if k < s.size then (bif okB k (byteAt s k)then .go ((k + 1:Nat):Int)else .ret false)else .brk (k:Int)):=by
 unfold kit_IsKey_L1
 by_cases h:k < s.size
 ·have hd:decide ((k:Int) < (s.size:Int))=true:=by simp; omega
  have hw:w64 ((k:Int) + 1)=((k + 1:Nat):Int):=by rw [w64_id (by omega)]; omega
  simp only [hd,cond_true,idxS_nat s k h,Option.bind_some,if_pos h,hw]
  generalize byteAt s k=b
  simp only [okB,lowB,moreB]
  have e1:decide ((b.toNat:Int)≥97)=decide (97≤b.toNat):=decide_eq_decide.2 (by omega)
  have e2:decide ((b.toNat:Int)≤122)=decide (b.toNat≤122):=decide_eq_decide.2 (by omega)
  have e3:decide ((k:Int) > 0)=decide (0 < k):=decide_eq_decide.2 (by omega)
  have e4:decide ((b.toNat:Int)≥48)=decide (48≤b.toNat):=decide_eq_decide.2 (by omega)
  have e5:decide ((b.toNat:Int)≤57)=decide (b.toNat≤57):=decide_eq_decide.2 (by omega)
  have e6:((b.toNat:Int) == 45)=(b.toNat == 45):=by rw [Bool.eq_iff_iff]; simp; omega
  have e7:((b.toNat:Int) == 95)=(b.toNat == 95):=by rw [Bool.eq_iff_iff]; simp; omega
  rw [e1,e2,e3,e4,e5,e6,e7]
  cases decide (97≤b.toNat) <;> cases decide (b.toNat≤122) <;> cases decide (0 < k) <;> cases decide (48≤b.toNat) <;> cases decide (b.toNat≤57) <;> cases (b.toNat == 45) <;> cases (b.toNat == 95) <;> rfl
 ·have hd:decide ((k:Int) < (s.size:Int))=false:=by simp; omega
  simp only [hd,cond_false,if_neg h]
theorem isKey_iter (s:ByteArray) (hs:s.size≤1000000000):∀ (n k:Nat),k + n=s.size→iterN (fun i=>kit_IsKey_L1 s i) (n + 1) (k:Int)=some (bif (List.range' k n).all (fun j=>okB j (byteAt s j))then .go (s.size:Int)else .ret false)
 | 0,k,h=>by
  have hk:¬ k < s.size:=by omega
  simp only [iterN,isKey_L1 s k hs,if_neg hk,Option.bind_some,List.range'_zero,List.all_nil,cond_true]
  rw [show (k:Int)=s.size by omega]
 | n + 1,k,h=>by
  have hk:k < s.size:=by omega
  rw [iterN,isKey_L1 s k hs,if_pos hk,Option.bind_some,List.range'_succ,List.all_cons]
  cases okB k (byteAt s k)with
  | true=>simp only [cond_true,Bool.true_and]; exact isKey_iter s hs n (k + 1) (by omega)
  | false=>rfl
theorem isKey_eq (s:ByteArray) (hs:s.size≤1000000000):kit_IsKey s=some (keyB s):=by
 have h:=iter_loopO (isKey_iter s hs s.size 0 (by omega))
 unfold kit_IsKey
 have h':loopO (0:Int) (fun s_1=>kit_IsKey_L1 s s_1)=_:=h
 rw [h',Option.bind_some,← List.range_eq_range']
 have e:decide ((s.size:Int)≤40)=decide (s.size≤40):=decide_eq_decide.2 (by omega)
 simp only [keyB]
 cases (List.range s.size).all (fun i=>okB i (byteAt s i))with
 | true =>
  rw [cond_true,thenC_go,sNe_nil,e,Bool.and_true]
  cases decide (s.size≠0) <;> rfl
 | false=>simp only [cond_false,thenC_ret,Bool.and_false]
def inSet (t:ByteArray) (b:UInt8):Bool := !decide (ixB t (b.toNat:Int) < 0)
theorem only_L1 (s t:ByteArray) (k x:Nat) (h:k < s.size):ref_only_L1 s t k x ()=some (bif inSet t (byteAt s k)then .go ()else .ret false):=by
 simp only [ref_only_L1,idxS_nat s k h,strings_IndexByte,internal_stringslite_IndexByte,Option.bind_some,inSet]
 cases decide (ixB t ((byteAt s k).toNat:Int) < 0) <;> rfl
theorem only_run (s t:ByteArray):∀ (xs:List Nat) (k:Nat),k + xs.length=s.size→forR (fun k x u=>ref_only_L1 s t k x u) xs k ()=some (bif (List.range' k xs.length).all (fun j=>inSet t (byteAt s j))then .go ()else .ret false)
 | [],k,h=>rfl
 | x::xs,k,h=>by
  simp only [List.length_cons]at h ⊢
  have hk:k < s.size:=by omega
  rw [forR,only_L1 s t k x hk,Option.bind_some,List.range'_succ,List.all_cons]
  cases inSet t (byteAt s k)with
  | true=>simp only [cond_true,Bool.true_and]; exact only_run s t xs (k + 1) (by omega)
  | false=>rfl
theorem only_eq (s t:ByteArray) (hs:s.size≤1000000000):ref_only s t=some ((List.range s.size).all fun i=>inSet t (byteAt s i)):=by
 unfold ref_only
 rw [Int.toNat_natCast,forL_eq (by simp; omega),only_run s t _ 0 (by simp),Option.bind_some,List.length_range,← List.range_eq_range']
 cases (List.range s.size).all (fun i=>inSet t (byteAt s i)) <;> rfl
def alpha:ByteArray:=⟨#[97,98,99,100,101,102,103,104,105,106,107,108,109,110,111,112,113,114,115,116,117,118,119,120,121,122]⟩
def alnum:ByteArray:=⟨#[97,98,99,100,101,102,103,104,105,106,107,108,109,110,111,112,113,114,115,116,117,118,119,120,121,122,48,49,50,51,52,53,54,55,56,57,45,95]⟩
theorem inSet_all:∀ n:Fin 256,inSet alpha (UInt8.ofNat n.val)=lowB (UInt8.ofNat n.val)∧inSet alnum (UInt8.ofNat n.val)=(lowB (UInt8.ofNat n.val) || moreB (UInt8.ofNat n.val)):=by decide +kernel
theorem inSet_alpha (b:UInt8):inSet alpha b=lowB b:=by
 have:=(inSet_all ⟨b.toNat,b.toNat_lt⟩).1
 simpa using this
theorem inSet_alnum (b:UInt8):inSet alnum b=(lowB b || moreB b):=by
 have:=(inSet_all ⟨b.toNat,b.toNat_lt⟩).2
 simpa using this
theorem refKey_eq (s:ByteArray) (hs:s.size≤1000000000):ref_Key s=some (keyB s):=by
 unfold ref_Key ref_in
 have e1:decide ((1:Int)≤(s.size:Int))=decide (s.size≠0):=decide_eq_decide.2 (by omega)
 have e2:decide ((s.size:Int)≤40)=decide (s.size≤40):=decide_eq_decide.2 (by omega)
 rw [e1,e2]
 by_cases h1:s.size≠0
 ·by_cases h2:s.size≤40
  ·have hsub:subS s 0 1=some (s.extract 0 1):=by
    unfold subS; rw [if_pos ⟨by omega,by omega,by decide,by show 1≤s.size; omega⟩]; rfl
   have hsz:(s.extract 0 1).size=1:=by simp [ByteArray.size_extract]; omega
   have hb:byteAt (s.extract 0 1) 0=byteAt s 0:=by
    obtain ⟨⟨l⟩⟩:=s
    simp only [byteAt]
    cases l with
    | nil=>exact absurd rfl h1
    | cons b l=>simp [ByteArray.extract,ByteArray.copySlice]
   simp only [decide_eq_true h1,decide_eq_true h2,cond_true,Option.bind_some,hsub]
   have o1:=only_eq (s.extract 0 1) alpha (by omega)
   have o2:=only_eq s alnum hs
   unfold alpha at o1
   unfold alnum at o2
   rw [o1,Option.bind_some,o2]
   have e3:(List.range (s.extract 0 1).size).all (fun i=>inSet alpha (byteAt (s.extract 0 1) i))=lowB (byteAt s 0):=by
    rw [hsz]
    simp only [List.range_succ,List.range_zero,List.nil_append,List.all_cons,List.all_nil,Bool.and_true]
    rw [hb,inSet_alpha]
   have e3':=e3
   unfold alpha at e3'
   rw [e3']
   have e4:∀ i,inSet alnum (byteAt s i)=(lowB (byteAt s i) || moreB (byteAt s i)):=fun i=>inSet_alnum _
   have e5:keyB s=(lowB (byteAt s 0) && (List.range s.size).all (fun i=>inSet alnum (byteAt s i))):=by
    simp only [keyB,decide_eq_true h1,decide_eq_true h2,Bool.true_and,e4]
    rw [Bool.eq_iff_iff]
    simp only [List.all_eq_true,List.mem_range,Bool.and_eq_true,okB,Bool.or_eq_true,decide_eq_true_eq]
    constructor
    ·intro h
     refine⟨?_,fun i hi=>(h i hi).imp id (fun h=>h.2)⟩
     rcases h 0 (by omega)with h | h
     ·exact h
     ·exact absurd h.1 (by omega)
    ·rintro ⟨h3,h4⟩ i hi
     by_cases e:i=0
     ·rw [e]; exact .inl h3
     ·exact (h4 i hi).imp id (fun h=>⟨by omega,h⟩)
   unfold alnum at e5
   rw [e5]
   cases lowB (byteAt s 0) <;> rfl
  ·simp only [decide_eq_true h1,decide_eq_false h2,cond_true,cond_false,Option.bind_some,keyB,Bool.false_and,Bool.and_false]
 ·simp only [decide_eq_false h1,cond_false,Option.bind_some,keyB,Bool.false_and]
end Go.Proofs.Ythcdokkcamcnmab.Law

open Go Go.Eng
namespace Go.Proofs.Ythcdokkcamcnmab.Law
set_option linter.unusedVariables false
set_option linter.unusedSimpArgs false
def Short (s:ByteArray):Prop:=s.size≤1000
theorem short_lit {s:ByteArray} (h:Nat.ble s.size 1000=true):Short s:=Nat.le_of_ble_eq_true h
theorem appL_ok {α:Type} (xs ys:List α) (h:xs.length + ys.length≤1000000000):appL xs ys=some (xs++ys):=by unfold appL; rw [if_pos h]
theorem set_at {α:Type} {xs:List α} {i:Nat} {a:α} (h:i < xs.length):(xs.set i a)[i]? = some a:=by simp [h]
theorem all_set {α:Type} {p:α→Prop} {xs:List α} {i:Nat} {a:α} (h:∀ x∈xs,p x) (ha:p a):∀ x∈xs.set i a,p x:=fun x hx=>by
 rcases List.mem_or_eq_of_mem_set hx with h1 | h1
 ·exact h x h1
 ·rw [h1]; exact ha
theorem inR_ok {α:Type} {i:Int} {xs:List α} (h0:0≤i) (h1:i < xs.length):inR i xs=some ():=by unfold inR; rw [if_pos ⟨h0,by omega⟩]
def outC (e:Int):Ctl Unit Int:=bif e == 0 then .go ()else .ret e
theorem outC_then (e:Int):thenC (outC e) (fun _=>some (0:Int)) (fun r=>some r)=some e:=by
 unfold outC
 cases h:e == 0 with
 | true=>simp only [cond_true,thenC_go]; rw [eq_of_beq h]
 | false=>rfl
theorem idx_prev {α:Type} {l:List α} {k:Nat} {x:α} (h:l[k]? = some x) (hk:0 < k) (hl:l.length≤1000000000):∃ y,idx l (w64 ((k:Int) - 1))=some y∧l[k - 1]? = some y:=by
 have hlt:k < l.length:=(List.getElem?_eq_some_iff.1 h).1
 rw [w64_id (by omega),show (k:Int) - 1=((k - 1:Nat):Int) by omega,idx_nat]
 exact⟨l[k - 1],List.getElem?_eq_getElem (by omega),List.getElem?_eq_getElem (by omega)⟩
def chkG {α:Type} (stp:Option α→α→Int):Option α→List α→Int
 | _,[]=>0
 | p,x::xs=>bif stp p x == 0 then chkG stp (some x) xs else stp p x
def prevO {α:Type} (l:List α) (k:Nat):Option α:=if k=0 then none else l[k - 1]?
theorem chkG_prev {α:Type} {stp:Option α→α→Int} {body:Nat→α→Unit→Option (Ctl Unit Int)} (l:List α):∀ (xs:List α) (k:Nat),l.drop k=xs→(∀ k x,l[k]? = some x→body k x ()=some (outC (stp (prevO l k) x))) →
  forR body xs k ()=some (outC (chkG stp (prevO l k) xs))
 | [],k,h,hb=>rfl
 | x::xs,k,h,hb=>by
  have hg:=drop_get h
  rw [forR,hb k x hg,Option.bind_some,chkG]
  cases he:stp (prevO l k) x == 0 with
  | true =>
   simp only [outC,he,cond_true]
   rw [chkG_prev l xs (k + 1) (drop_next h) hb]
   have:prevO l (k + 1)=some x:=by simp [prevO,hg]
   rw [this]; rfl
  | false=>simp only [outC,he,cond_false]
theorem chkG_0 {α:Type} {stp:Option α→α→Int}:∀ {l:List α} {p:Option α},chkG stp p l=0→match l with
  | []=>True
  | x::xs=>stp p x=0∧chkG stp (some x) xs=0
 | [],_,_=>trivial
 | x::xs,p,h=>by
  rw [chkG]at h
  cases he:stp p x == 0 with
  | true=>rw [he]at h; exact⟨eq_of_beq he,h⟩
  | false=>rw [he,cond_false]at h; rw [h]at he; cases he
def outB (n lo hi:Int):Bool:=decide (n < lo) || decide (n > hi)
theorem outside_eq (n lo hi:Int):kit_Outside n lo hi=some (outB n lo hi):=by
 unfold kit_Outside outB
 cases decide (n < lo) <;> cases decide (n > hi) <;> rfl
theorem in_eq (n lo hi:Int):ref_in n lo hi=some (!outB n lo hi):=by
 unfold ref_in outB
 have e1:decide (lo≤n) = !decide (n < lo):=by rw [Bool.eq_iff_iff]; simp
 have e2:decide (n≤hi) = !decide (n > hi):=by rw [Bool.eq_iff_iff]; simp
 rw [e1,e2]
 cases decide (n < lo) <;> cases decide (n > hi) <;> rfl
theorem outB_f {n lo hi:Int} (h:outB n lo hi=false):lo≤n∧n≤hi:=by
 simp only [outB,Bool.or_eq_false_iff,decide_eq_false_iff_not]at h; omega
theorem outB_in {n lo hi:Int} (h:lo≤n∧n≤hi):outB n lo hi=false:=by
 simp only [outB,Bool.or_eq_false_iff,decide_eq_false_iff_not]; omega
def momB (n:Int):Bool := !outB n 0 345686399999
theorem isMoment_eq (n:Int):kit_IsMoment n=some (momB n):=by
 unfold kit_IsMoment momB outB
 have e1:decide (n≥0) = !decide (n < 0):=by rw [Bool.eq_iff_iff]; simp
 have e2:decide (n < 345686400000) = !decide (n > 345686399999):=by rw [Bool.eq_iff_iff]; simp; omega
 rw [e1,e2]
 cases decide (n < 0) <;> cases decide (n > 345686399999) <;> rfl
theorem refMoment_eq (n:Int):ref_Moment n=some (momB n):=by
 unfold ref_Moment; rw [in_eq]; rfl
theorem momB_t {n:Int} (h:momB n=true):0≤n∧n≤345686399999:=by
 unfold momB at h; exact outB_f (by simpa using h)
def or0 (a b:Int):Int:=bif a == 0 then b else a
theorem or0_0 {a b:Int} (h:or0 a b=0):a=0∧b=0:=by
 unfold or0 at h
 cases ha:a == 0 with
 | true=>rw [ha]at h; exact⟨eq_of_beq ha,h⟩
 | false=>rw [ha,cond_false]at h; rw [h]at ha; cases ha
theorem errs2 (a b:Int):law_errs [a,b]=some (or0 a b):=by
 unfold law_errs or0
 rw [forL_eq (by simp)]
 simp only [forR,law_errs_L1]
 cases ha:a == 0 with
 | false =>
  have:(a != 0)=true:=by simp [bne,ha]
  simp only [this,cond_true,cond_false,Option.bind_some,thenC]
 | true =>
  have:(a != 0)=false:=by simp [bne,ha]
  simp only [this,cond_true,cond_false,Option.bind_some]
  cases hb:b == 0 with
  | false =>
   have:(b != 0)=true:=by simp [bne,hb]
   simp only [this,cond_true,Option.bind_some,thenC]
  | true =>
   have:(b != 0)=false:=by simp [bne,hb]
   simp only [this,cond_false,Option.bind_some,thenC]
   rw [eq_of_beq hb]
theorem errs3 (a b c:Int):law_errs [a,b,c]=some (or0 a (or0 b c)):=by
 unfold law_errs or0
 rw [forL_eq (by simp)]
 simp only [forR,law_errs_L1]
 cases ha:a == 0 with
 | false =>
  have:(a != 0)=true:=by simp [bne,ha]
  simp only [this,cond_true,cond_false,Option.bind_some,thenC]
 | true =>
  have:(a != 0)=false:=by simp [bne,ha]
  simp only [this,cond_true,cond_false,Option.bind_some]
  cases hb:b == 0 with
  | false =>
   have:(b != 0)=true:=by simp [bne,hb]
   simp only [this,cond_true,cond_false,Option.bind_some,thenC]
  | true =>
   have:(b != 0)=false:=by simp [bne,hb]
   simp only [this,cond_true,cond_false,Option.bind_some]
   cases hc:c == 0 with
   | false =>
    have:(c != 0)=true:=by simp [bne,hc]
    simp only [this,cond_true,cond_false,Option.bind_some,thenC]
   | true =>
    have:(c != 0)=false:=by simp [bne,hc]
    simp only [this,cond_true,cond_false,Option.bind_some,thenC]
    rw [eq_of_beq hc]
theorem when_eq (b:Bool) (e:Int):law_when b e=some (bif b then e else 0):=by cases b <;> rfl
theorem cmpB_spec (a b:ByteArray):(lt a b∧cmpB a b = -1)∨(a=b∧cmpB a b=0)∨(lt b a∧cmpB a b=1):=by
 have key:∀ (x y:List UInt8),(x < y∧Lib.compareBytes x y = -1)∨(x=y∧Lib.compareBytes x y=0)∨(y < x∧Lib.compareBytes x y=1):=by
  intro x
  induction x with
  | nil=>intro y; cases y with
   | nil=>exact .inr (.inl ⟨rfl,rfl⟩)
   | cons b y=>exact .inl ⟨by simp,rfl⟩
  | cons a x ih=>intro y; cases y with
   | nil=>exact .inr (.inr ⟨by simp,rfl⟩)
   | cons b y =>
    simp only [Lib.compareBytes,List.cons_lt_cons_iff,List.cons.injEq]
    by_cases h1:a < b
    ·exact .inl ⟨.inl h1,by rw [if_pos h1]⟩
    ·by_cases h2:b < a
     ·exact .inr (.inr ⟨.inl h2,by rw [if_neg h1,if_pos h2]⟩)
     ·have e:a=b:=UInt8.le_antisymm (UInt8.not_lt.1 h2) (UInt8.not_lt.1 h1)
      subst e
      rw [if_neg h1,if_neg h1]
      rcases ih y with⟨h,k⟩ | ⟨h,k⟩ | ⟨h,k⟩
      ·exact .inl ⟨.inr ⟨rfl,h⟩,k⟩
      ·exact .inr (.inl ⟨⟨rfl,h⟩,k⟩)
      ·exact .inr (.inr ⟨.inr ⟨rfl,h⟩,k⟩)
 unfold cmpB lt
 rw [toL,toL]
 rcases key a.data.toList b.data.toList with⟨h,k⟩ | ⟨h,k⟩ | ⟨h,k⟩
 ·exact .inl ⟨h,k⟩
 ·exact .inr (.inl ⟨str_ext (by rw [toL,toL]; exact h),k⟩)
 ·exact .inr (.inr ⟨h,k⟩)
theorem compare_eq (a b:ByteArray):strings_Compare a b=some (cmpB a b):=rfl
def cmpI (a b:Int):Int:=if a < b then -1 else if a > b then 1 else 0
theorem cmpInt_eq (a b:Int):cmp_Compare_int a b=some (cmpI a b):=by
 have e:∀ x:Int,(x != x)=false:=by simp
 unfold cmp_Compare_int cmp_isNaN_int cmpI
 simp only [e,Option.bind_some,cond_false]
 by_cases h:a < b
 ·simp only [decide_eq_true h,cond_true,if_pos h]
 ·by_cases h2:a > b
  ·simp only [decide_eq_false h,decide_eq_true h2,cond_true,cond_false,if_neg h,if_pos h2]
  ·simp only [decide_eq_false h,decide_eq_false h2,cond_false,if_neg h,if_neg h2]
theorem or2_eq (a b:Int):cmp_Or_int [a,b]=some (or0 a b):=by
 unfold cmp_Or_int or0
 rw [forL_eq (by simp)]
 simp only [forR,cmp_Or_int_L1]
 cases ha:a == 0 with
 | false =>
  have:(a != 0)=true:=by simp [bne,ha]
  simp only [this,cond_true,cond_false,Option.bind_some,thenC]
 | true =>
  have:(a != 0)=false:=by simp [bne,ha]
  simp only [this,cond_true,cond_false,Option.bind_some]
  cases hb:b == 0 with
  | false =>
   have:(b != 0)=true:=by simp [bne,hb]
   simp only [this,cond_true,Option.bind_some,thenC]
  | true =>
   have:(b != 0)=false:=by simp [bne,hb]
   simp only [this,cond_false,Option.bind_some,thenC]
   rw [eq_of_beq hb]
end Go.Proofs.Ythcdokkcamcnmab.Law

namespace Go.Eng
set_option linter.unusedVariables false
set_option linter.unusedSimpArgs false
def ixBody {α:Type} (f:α→Option Bool) (xs:List α) (k x:Nat) (s:Unit):Option (Ctl Unit Int) :=
 (inR (k:Int) xs).bind fun _=>(xs[(0 + ((k:Int)).toNat)]?).bind fun e=>(f e).bind fun r=>bif r then some (.ret (k:Int))else some (.go ())
def ixF {α:Type} (f:α→Option Bool) (xs:List α):Option Int :=
 (forL (List.range ((xs.length:Int)).toNat) () (fun k x s=>ixBody f xs k x s)).bind fun o=>thenC o (fun _=>some (-1)) (fun r=>some r)
def delBody {α:Type} (f:α→Option Bool) (s:List α×Int×Int):Option (Ctl (List α×Int×Int) Unit) :=
 bif (decide (s.2.2 < (s.1.length:Int)))then (inR s.2.2 s.1).bind fun _=>(s.1[(0 + (s.2.2).toNat)]?).bind fun e=>(f e).bind fun r=>(bif (!r)then (inR s.2.1 s.1).bind fun _=>(s.1[(0 + (s.2.1).toNat)]?).bind fun e_29=>some ((s.1.set (0 + (s.2.1).toNat) e),(w64 (s.2.1 + 1)))else some (s.1,s.2.1)).bind fun v=>some (.go (v.1,v.2,(w64 (s.2.2 + 1))))else some (.brk (s.1,s.2.1,s.2.2))
theorem inR_nat {α:Type} {xs:List α} {k:Nat} (h:k < xs.length):inR (k:Int) xs=some ():=by unfold inR; rw [if_pos ⟨by omega,by omega⟩]
theorem ixF_eq {α:Type} {f:α→Option Bool} {q:α→Bool} {xs:List α} (hf:∀ x∈xs,f x=some (q x)) (hl:xs.length≤1000000000) :
  (ixF f xs=some (-1) ∧ ∀ x∈xs,q x=false) ∨ ∃ (k:Nat) (h:k < xs.length),ixF f xs=some (k:Int)∧q xs[k]=true ∧ ∀ x∈xs.take k,q x=false:=by
 have run:∀ (ys:List Nat) (k:Nat),k + ys.length=xs.length→(∀ x∈xs.take k,q x=false) →
   (forR (fun k x s=>ixBody f xs k x s) ys k ()=some (.go ()) ∧ ∀ x∈xs,q x=false) ∨ ∃ (j:Nat) (h:j < xs.length),forR (fun k x s=>ixBody f xs k x s) ys k ()=some (.ret (j:Int))∧q xs[j]=true ∧ ∀ x∈xs.take j,q x=false:=by
  intro ys
  induction ys with
  | nil=>intro k h hq; exact .inl ⟨rfl,by rw [List.length_nil,Nat.add_zero]at h; rw [h,List.take_length]at hq; exact hq⟩
  | cons y ys ih =>
   intro k h hq
   simp only [List.length_cons]at h
   have hk:k < xs.length:=by omega
   have hst:ixBody f xs k y ()=some (bif q xs[k]then .ret (k:Int)else .go ()):=by
    unfold ixBody
    simp only [inR_nat hk,Option.bind_some,Int.toNat_natCast,Nat.zero_add,List.getElem?_eq_getElem hk,hf _ (List.getElem_mem hk)]
    cases q xs[k] <;> rfl
   rw [forR,hst,Option.bind_some]
   cases hqk:q xs[k]with
   | true=>exact .inr ⟨k,hk,rfl,hqk,hq⟩
   | false =>
    refine ih (k + 1) (by omega) (fun x hx => ?_)
    rw [List.take_succ_eq_append_getElem hk]at hx
    rcases List.mem_append.1 hx with hx | hx
    ·exact hq x hx
    ·rw [List.mem_singleton.1 hx]; exact hqk
 unfold ixF
 rw [Int.toNat_natCast,forL_eq (by simp; omega)]
 rcases run (List.range xs.length) 0 (by simp) (by simp)with⟨h1,h2⟩ | ⟨k,hk,h1,h2,h3⟩
 ·exact .inl ⟨by rw [h1]; rfl,h2⟩
 ·exact .inr ⟨k,hk,by rw [h1]; rfl,h2,h3⟩
theorem filter_all {α:Type} {p:α→Bool} {xs:List α} (h:∀ x∈xs,p x=true):xs.filter p=xs:=List.filter_eq_self.2 h
theorem del_iter {α:Type} {f:α→Option Bool} {q:α→Bool} {xs:List α} (hf:∀ x∈xs,f x=some (q x)) (hl:xs.length≤1000000000) :
  ∀ (m:Nat) (l:List α) (i j:Nat),j + m=xs.length→i≤j→l.length=xs.length→l.take i=(xs.take j).filter (fun x => !q x)→l.drop j=xs.drop j →
   ∃ l' i',iterN (fun s=>delBody f s) (m + 1) (l,(i:Int),(j:Int))=some (.go (l',(i':Nat),(xs.length:Int)))∧i'≤xs.length∧l'.length=xs.length∧l'.take i'=xs.filter (fun x => !q x)
 | 0,l,i,j,hj,hij,hll,ht,hd=>by
  have hj':j=xs.length:=by omega
  subst hj'
  have hc:decide ((xs.length:Int) < (l.length:Int))=false:=by simp [hll]
  refine⟨l,i,?_,hij,hll,by rw [ht,List.take_length]⟩
  simp only [iterN,delBody,hc,cond_false,Option.bind_some]
 | m + 1,l,i,j,hj,hij,hll,ht,hd=>by
  have hjx:j < xs.length:=by omega
  have hjl:j < l.length:=by omega
  have hil:i < l.length:=by omega
  have hc:decide ((j:Int) < (l.length:Int))=true:=by simp; omega
  have he:l[j]=xs[j]:=by
   have h1:(l.drop j)[0]? = (xs.drop j)[0]? := by rw [hd]
   rw [List.getElem?_drop,List.getElem?_drop,Nat.add_zero,List.getElem?_eq_getElem hjl,List.getElem?_eq_getElem hjx]at h1
   exact Option.some.inj h1
  have w1:w64 ((j:Int) + 1)=((j + 1:Nat):Int):=by rw [w64_id (by omega)]; omega
  have w2:w64 ((i:Int) + 1)=((i + 1:Nat):Int):=by rw [w64_id (by omega)]; omega
  have hfe:=hf _ (List.getElem_mem hjx)
  have hdrop:(l.drop j).drop 1=(xs.drop j).drop 1:=by rw [hd]
  rw [List.drop_drop,List.drop_drop]at hdrop
  cases hq:q xs[j]with
  | false =>
   have hst:delBody f (l,(i:Int),(j:Int))=some (.go (l.set i xs[j],((i + 1:Nat):Int),((j + 1:Nat):Int))):=by
    simp only [delBody,hc,cond_true,inR_nat hjl,inR_nat hil,Option.bind_some,Int.toNat_natCast,Nat.zero_add,List.getElem?_eq_getElem hjl,List.getElem?_eq_getElem hil,he,hfe,hq,Bool.not_false,w1,w2]
   rw [iterN,hst,Option.bind_some]
   refine del_iter hf hl m (l.set i xs[j]) (i + 1) (j + 1) (by omega) (by omega) (by simpa using hll) ?_ ?_
   ·rw [List.take_succ_eq_append_getElem (by simpa using hil),List.take_set_of_le (Nat.le_refl _),ht,List.take_succ_eq_append_getElem hjx,List.filter_append]
    simp [hq]
   ·rw [List.drop_set_of_lt (by omega)]; exact hdrop
  | true =>
   have hst:delBody f (l,(i:Int),(j:Int))=some (.go (l,(i:Int),((j + 1:Nat):Int))):=by
    simp only [delBody,hc,cond_true,inR_nat hjl,Option.bind_some,Int.toNat_natCast,Nat.zero_add,List.getElem?_eq_getElem hjl,he,hfe,hq,Bool.not_true,cond_false,w1]
   rw [iterN,hst,Option.bind_some]
   refine del_iter hf hl m l i (j + 1) (by omega) (by omega) hll ?_ hdrop
   rw [ht,List.take_succ_eq_append_getElem hjx,List.filter_append]
   simp [hq]
end Go.Eng

namespace Go.Eng
set_option linter.unusedVariables false
set_option linter.unusedSimpArgs false
def insL1 {α:Type} (cmp:α→α→Option Int) (a_2:Int) (s_21:(List α)×Int):Option (Ctl ((List α)×Int) (Unit)) :=
 (bif (decide (s_21.2 > a_2))then (inR s_21.2 s_21.1).bind fun _=>(s_21.1[(0 + (s_21.2).toNat)]?).bind fun e_30=>(inR (w64 (s_21.2 - 1)) s_21.1).bind fun _=>(s_21.1[(0 + ((w64 (s_21.2 - 1))).toNat)]?).bind fun e_33=>(cmp e_30 e_33).bind fun r_35=>some (decide (r_35 < 0))else some false).bind fun v_26=>bif v_26 then (inR (w64 (s_21.2 - 1)) s_21.1).bind fun _=>(s_21.1[(0 + ((w64 (s_21.2 - 1))).toNat)]?).bind fun e_39=>(inR s_21.2 s_21.1).bind fun _=>(s_21.1[(0 + (s_21.2).toNat)]?).bind fun e_42=>(inR s_21.2 s_21.1).bind fun _=>(s_21.1[(0 + (s_21.2).toNat)]?).bind fun e_45=>(inR (w64 (s_21.2 - 1)) (s_21.1.set (0 + (s_21.2).toNat) e_39)).bind fun _=>((s_21.1.set (0 + (s_21.2).toNat) e_39)[(0 + ((w64 (s_21.2 - 1))).toNat)]?).bind fun e_48=>some (.go (((s_21.1.set (0 + (s_21.2).toNat) e_39).set (0 + ((w64 (s_21.2 - 1))).toNat) e_42),(w64 (s_21.2 - 1))))else some (.brk (s_21.1,s_21.2))
noncomputable def insL2 {α:Type} (cmp:α→α→Option Int) (b_3:Int) (a_2:Int) (s_10:(List α)×Int):Option (Ctl ((List α)×Int) (Unit)) :=
 bif (decide (s_10.2 < b_3))then (loopO (s_10.1,s_10.2) (fun s=>insL1 cmp a_2 s)).bind fun o_24=>thenC o_24 (fun s_21=>some (.go (s_21.1,(w64 (s_10.2 + 1))))) (fun _=>none)else some (.brk (s_10.1,s_10.2))
noncomputable def insAll {α:Type} (cmp:α→α→Option Int) (data_1:(List α)) (a_2:Int) (b_3:Int):Option ((List α)) :=
 (loopO (data_1,(w64 (a_2 + 1))) (fun s=>insL2 cmp b_3 a_2 s)).bind fun o_13=>thenC o_13 (fun s_10=>some s_10.1) (fun _=>none)
noncomputable def pdqL1 {α:Type} (cmp:α→α→Option Int) (b_3:Int) (a_2:Int) (data_1:(List α)) (limit_4:Int) (s_11:Unit):Option (Ctl (Unit) ((List α))) :=
 bif (decide ((w64 (b_3 - a_2))≤12))then (insAll cmp data_1 a_2 b_3).bind fun r_17=>(sameL r_17 data_1).bind fun _=>some (.ret r_17)else bif (limit_4 == 0)then none else none
noncomputable def pdqAll {α:Type} (cmp:α→α→Option Int) (data_1:(List α)) (a_2:Int) (b_3:Int) (limit_4:Int):Option ((List α)) :=
 (loopO () (fun s=>pdqL1 cmp b_3 a_2 data_1 limit_4 s)).bind fun o_14=>thenC o_14 (fun s_11=>some data_1) (fun r=>some r)
theorem set_two {α:Type} (u v:α) (C:List α):∀ A:List α,((A++u::v::C).set (A.length + 1) u).set A.length v=A++v::u::C
 | []=>rfl
 | a::A=>by simp only [List.cons_append,List.length_cons,List.set_cons_succ,set_two u v C A]
theorem get_0 {α:Type} (u:α) (C A:List α):(A++u::C)[A.length]? = some u:=by simp
theorem get_1 {α:Type} (u v:α) (C A:List α):(A++u::v::C)[A.length + 1]? = some v:=by
 rw [List.getElem?_append_right (by omega)]; simp
theorem set_1 {α:Type} (u v w:α) (C:List α):∀ A:List α,(A++u::v::C).set (A.length + 1) w=A++u::w::C
 | []=>rfl
 | a::A=>by simp only [List.cons_append,List.length_cons,List.set_cons_succ,set_1 u v w C A]
theorem inR_at {α:Type} {xs:List α} {i:Nat} (h:i < xs.length):inR (i:Int) xs=some ():=by
 unfold inR; rw [if_pos ⟨by omega,by simpa using h⟩]
section
variable {α:Type} {cmp:α→α→Option Int} {le:α→α→Prop} {p:α→Prop}
theorem insL1_s (u v:α) (A C:List α) {c:Int} (hc:cmp v u=some c) (hl:A.length≤1000000000):insL1 cmp 0 (A++u::v::C,((A.length + 1:Nat):Int))=some (bif decide (c < 0)then .go (A++v::u::C,(A.length:Int))else .brk (A++u::v::C,((A.length + 1:Nat):Int))):=by
 have hw:w64 (((A.length + 1:Nat):Int) - 1)=(A.length:Int):=by rw [w64_in _ (by omega)]; omega
 have h1:inR ((A.length + 1:Nat):Int) (A++u::v::C)=some ():=inR_at (by simp)
 have h2:inR (A.length:Int) (A++u::v::C)=some ():=inR_at (by simp)
 have h3:inR (A.length:Int) (A++u::u::C)=some ():=inR_at (by simp)
 have hd:decide (((A.length + 1:Nat):Int) > 0)=true:=by simp <;> omega
 have e1:0 + ((A.length + 1:Nat):Int).toNat=A.length + 1:=by omega
 have e2:0 + ((A.length:Nat):Int).toNat=A.length:=by omega
 unfold insL1
 simp only [hw,h1,h2,hd,e1,e2,get_0,get_1,Option.bind_some,hc,cond_true,set_1,h3]
 cases decide (c < 0)with
 | false=>rfl
 | true =>
  simp only [cond_true]
  have:=set_two u v C A
  rw [set_1]at this
  rw [this]
theorem ins_inner (hc:∀ a b,p a→p b → ∃ c,cmp a b=some c∧(c < 0→le a b)∧(¬ c < 0→le b a)) (tr:∀ a b c,le a b→le b c→le a c) (v:α) (hv:p v) (R:List α):∀ (n:Nat) (A B:List α),A.length=n→n≤1000000000→(∀ a∈A,p a)→(A++B).Pairwise le→(∀ b∈B,le v b) →
  ∃ A' B',iterN (fun s=>insL1 cmp 0 s) (n + 1) (A++v::(B++R),(A.length:Int))=some (.go (A'++v::(B'++R),(A'.length:Int)))∧A'++B'=A++B∧(A'++v::B').Pairwise le
 | 0,A,B,hA,hn,hpa,hp,hb=>by
  have:A = []:=List.eq_nil_of_length_eq_zero hA
  subst this
  exact⟨[],B,by simp only [List.nil_append,List.length_nil,iterN,Option.bind]; rfl,rfl,by simpa using ⟨hb,hp⟩⟩
 | n + 1,A,B,hA,hn,hpa,hp,hb=>by
  rcases List.eq_nil_or_concat A with h | ⟨A0,u,h⟩
  ·rw [h]at hA; cases hA
  ·subst h
   simp only [List.concat_eq_append]at hA hp hpa ⊢
   have hA0:A0.length=n:=by simpa using hA
   have hl:(A0 ++ [u]).length=A0.length + 1:=by simp
   have e:A0 ++ [u]++v::(B++R)=A0++u::v::(B++R):=by simp
   obtain ⟨c,h1,h2,h3⟩:=hc v u hv (hpa u (by simp))
   rw [hl,e,iterN,insL1_s u v A0 (B++R) h1 (by omega),Option.bind_some]
   by_cases hcn:c < 0
   ·simp only [decide_eq_true hcn,cond_true]
    have hp':(A0++(u::B)).Pairwise le:=by simpa using hp
    obtain ⟨A',B',k1,k2,k3⟩:=ins_inner hc tr v hv R n A0 (u::B) hA0 (by omega) (fun a ha=>hpa a (by simp [ha])) hp' (fun b hb'=>by
     rcases List.mem_cons.1 hb' with rfl | hb'
     ·exact h2 hcn
     ·exact hb b hb')
    refine⟨A',B',?_,by rw [k2]; simp,k3⟩
    rw [← k1]; simp
   ·simp only [decide_eq_false hcn,cond_false]
    refine⟨A0 ++ [u],B,by simp,rfl,?_⟩
    have huv:=h3 hcn
    rw [List.pairwise_append]at hp ⊢
    obtain ⟨p1,p2,p3⟩:=hp
    refine⟨p1,List.pairwise_cons.2 ⟨hb,p2⟩,fun a ha b hb' => ?_⟩
    rcases List.mem_cons.1 hb' with rfl | hb'
    ·rcases List.mem_append.1 ha with ha | ha
     ·rw [List.pairwise_append]at p1
      exact tr _ _ _ (p1.2.2 a ha u (by simp)) huv
     ·rw [List.mem_singleton]at ha; subst ha; exact huv
    ·exact p3 a ha b hb'
theorem ins_outer (hc:∀ a b,p a→p b → ∃ c,cmp a b=some c∧(c < 0→le a b)∧(¬ c < 0→le b a)) (tr:∀ a b c,le a b→le b c→le a c):∀ (Q P:List α),P.length + Q.length≤1000000000→(∀ x∈P++Q,p x)→P.Pairwise le →
  ∃ s,iterN (fun s=>insL2 cmp ((P.length + Q.length:Nat):Int) 0 s) (Q.length + 1) (P++Q,(P.length:Int))=some (.go (s,((P.length + Q.length:Nat):Int)))∧s.Perm (P++Q)∧s.Pairwise le
 | [],P,hl,hpx,hp=>by
  refine⟨P,?_,by simp,hp⟩
  have hd:decide ((P.length:Int) < ((P.length + ([]:List α).length:Nat):Int))=false:=by simp
  simp only [iterN,insL2,hd,cond_false,Option.bind_some,List.append_nil]
  simp
 | v::Q,P,hl,hpx,hp=>by
  simp only [List.length_cons]at hl
  have hd:decide ((P.length:Int) < ((P.length + (v::Q).length:Nat):Int))=true:=by simp only [decide_eq_true_eq,List.length_cons]; omega
  obtain ⟨A',B',k1,k2,k3⟩:=ins_inner hc tr v (hpx v (by simp)) Q P.length P [] rfl (by omega) (fun a ha=>hpx a (by simp [ha])) (by simpa using hp) (fun b hb=>by cases hb)
  rw [List.nil_append]at k1
  have hlo:=iter_loopO k1
  rw [List.length_cons,iterN]
  have hw:w64 ((P.length:Int) + 1)=((A'++v::B').length:Int):=by
   have:=congrArg List.length k2
   simp only [List.length_append,List.length_nil]at this
   rw [w64_in _ (by omega)]; simp only [List.length_append,List.length_cons]; omega
  have h1:insL2 cmp ((P.length + (Q.length + 1):Nat):Int) 0 (P++v::Q,(P.length:Int))=some (.go (A'++v::(B'++Q),((A'++v::B').length:Int))):=by
   have hd':decide ((P.length:Int) < ((P.length + (Q.length + 1):Nat):Int))=true:=hd
   unfold insL2
   simp only [hd',cond_true,hlo,Option.bind_some,thenC,hw]
  have hlen:(A'++v::B').length=P.length + 1:=by
   have:=congrArg List.length k2
   simp only [List.length_append,List.length_nil,List.length_cons]at this ⊢
   omega
  have hk:(A'++B').Perm P:=by rw [k2]; simp
  have hperm:(A'++v::B').Perm (P ++ [v]):=(List.perm_middle).trans ((List.Perm.cons v hk).trans (List.perm_append_comm (l₁ := [v]) (l₂:=P)))
  obtain ⟨s,m1,m2,m3⟩:=ins_outer hc tr Q (A'++v::B') (by omega) (fun x hx=>by
   rcases List.mem_append.1 hx with hx | hx
   ·have:=hperm.mem_iff.1 hx
    exact hpx x (by rcases List.mem_append.1 this with h | h <;> simp_all)
   ·exact hpx x (by simp [hx])) k3
  rw [h1,Option.bind_some]
  have e:A'++v::(B'++Q)=(A'++v::B')++Q:=by simp
  have e2:P.length + (Q.length + 1)=(A'++v::B').length + Q.length:=by omega
  simp only
  rw [e,e2]
  refine⟨s,m1,m2.trans ?_,m3⟩
  have:=List.Perm.append_right Q hperm
  simpa using this
theorem pdq_ok (hc:∀ a b,p a→p b → ∃ c,cmp a b=some c∧(c < 0→le a b)∧(¬ c < 0→le b a)) (tr:∀ a b c,le a b→le b c→le a c) (l:List α) (hl:l.length≤12) (hpl:∀ x∈l,p x) (lim:Int):∃ s,pdqAll cmp l 0 (l.length:Int) lim=some s∧s.Perm l∧s.Pairwise le:=by
 have key:∃ s,insAll cmp l 0 (l.length:Int)=some s∧s.Perm l∧s.Pairwise le:=by
  unfold insAll
  have hw:w64 (0 + 1)=1:=rfl
  rw [hw]
  cases l with
  | nil=>exact⟨[],by rw [iter_loopO (n:=1) (o := .go ([],1)) rfl]; rfl,.nil,.nil⟩
  | cons v Q =>
   obtain ⟨s,m1,m2,m3⟩:=ins_outer hc tr Q [v] (by simp only [List.length_cons,List.length_nil]at hl ⊢; omega) (fun x hx=>hpl x (by simpa using hx)) (List.pairwise_singleton _ _)
   have e:([v].length + Q.length:Nat)=(v::Q).length:=by simp only [List.length_cons,List.length_nil]; omega
   rw [e]at m1
   have:=iter_loopO m1
   refine⟨s,?_,m2,m3⟩
   show (loopO (v::Q,1) _).bind _=_
   have e2:(([v]++Q,(([v]:List α).length:Int)):List α×Int)=(v::Q,1):=rfl
   rw [e2]at this
   rw [this]; rfl
 obtain ⟨s,h1,h2,h3⟩:=key
 refine⟨s,?_,h2,h3⟩
 have hsm:sameL s l=some ():=by unfold sameL; rw [if_pos h2.length_eq]
 have hd:decide (w64 ((l.length:Int) - 0)≤12)=true:=by
  have:(l.length:Int) - 0=l.length:=by omega
  rw [this,w64_in _ (by omega)]; simp; omega
 have:loopO () (fun s=>pdqL1 cmp (l.length:Int) 0 l lim s)=some (.ret s):=by
  refine iter_loopO (n:=1) ?_
  simp only [iterN,pdqL1,hd,cond_true,h1,hsm,Option.bind_some]
 unfold pdqAll
 rw [this]; rfl
end
end Go.Eng

open Go Go.Eng
namespace Go.Proofs.Ythcdokkcamcnmab.Law
set_option linter.unusedVariables false
set_option linter.unusedSimpArgs false
noncomputable def delG {α:Type} (z:α) (f:α→Option Bool) (xs:List α):Option (List α) :=
 (ixF f xs).bind fun r=>bif (r == (-1))then some xs else (loopO (xs,r,(w64 (r + 1))) (fun s=>delBody f s)).bind fun o=>thenC o (fun s_12=>(subR s_12.1 s_12.2.1 (s_12.1.length:Int)).bind fun _=>(subR (s_12.1.take ((s_12.2.1).toNat)++List.replicate (((s_12.1.length:Int)).toNat - (s_12.2.1).toNat) z++s_12.1.drop (((s_12.2.1).toNat) + (((s_12.1.length:Int)).toNat - (s_12.2.1).toNat))) 0 s_12.2.1).bind fun _=>some ((s_12.1.take ((s_12.2.1).toNat)++List.replicate (((s_12.1.length:Int)).toNat - (s_12.2.1).toNat) z++s_12.1.drop (((s_12.2.1).toNat) + (((s_12.1.length:Int)).toNat - (s_12.2.1).toNat))).take ((s_12.2.1).toNat))) (fun _=>none)
theorem delG_eq {α:Type} {z:α} {f:α→Option Bool} {q:α→Bool} {xs:List α} (hf:∀ x∈xs,f x=some (q x)) (hl:xs.length≤1000000000):delG z f xs=some (xs.filter (fun x => !q x)):=by
 unfold delG
 rcases ixF_eq hf hl with⟨h1,h2⟩ | ⟨k,hk,h1,h2,h3⟩
 ·rw [h1,Option.bind_some,filter_all (fun x hx=>by rw [h2 x hx]; rfl)]; rfl
 ·have hne:((k:Int) == (-1))=false:=by simp
  have w1:w64 ((k:Int) + 1)=((k + 1:Nat):Int):=by rw [w64_id (by omega)]; omega
  obtain ⟨l',i',g1,g2,g3,g4⟩:=del_iter hf hl (xs.length - (k + 1)) xs k (k + 1) (by omega) (by omega) rfl (by
   rw [List.take_succ_eq_append_getElem hk,List.filter_append,filter_all (fun x hx=>by rw [h3 x hx]; rfl)]; simp [h2]) rfl
  have g1':=iter_loopO g1
  rw [h1,Option.bind_some,hne,cond_false,w1,g1',Option.bind_some,thenC_go]
  have hs1:subR l' (i':Int) (l'.length:Int)=some ():=by
   unfold subR; rw [if_pos ⟨by omega,by omega,by omega,by omega⟩]
  simp only [hs1,Option.bind_some,Int.toNat_natCast]
  generalize hL:(l'.take i'++List.replicate (l'.length - i') z++l'.drop (i' + (l'.length - i')))=L
  have hLt:L.take i'=l'.take i':=by
   rw [← hL,List.append_assoc,List.take_append_of_le_length (by rw [List.length_take]; omega),List.take_take,Nat.min_self]
  have hLl:i'≤L.length:=by
   rw [← hL]; simp only [List.length_append,List.length_take,List.length_replicate]; omega
  have hs2:subR L 0 (i':Int)=some ():=by
   unfold subR; rw [if_pos ⟨by omega,by omega,by omega,by omega⟩]
  rw [hs2,Option.bind_some,hLt,g4]
theorem len_ok:∀ n:Nat,n≤12 → ∃ k,math_bits_Len (IntKind.u64.wrap (n:Int))=some k:=by
 have h:(List.range 13).all (fun n=>(math_bits_Len (IntKind.u64.wrap (n:Int))).isSome)=true:=by kernel_rfl
 intro n hn
 have:=List.all_eq_true.1 h n (by simp; omega)
 exact Option.isSome_iff_exists.1 this
theorem sort12 {α:Type} {cmp:α→α→Option Int} (c:α→α→Int) {S:List α→Option (List α)} (hS:∀ x,S x=(math_bits_Len (IntKind.u64.wrap (x.length:Int))).bind fun r_3=>(pdqAll cmp x 0 (x.length:Int) r_3).bind fun r_5=>(sameL r_5 x).bind fun _=>some r_5)
  {xs:List α} (hl:xs.length≤12) (hF:∀ a∈xs,∀ b∈xs,cmp a b=some (c a b)) (has:∀ a b,c a b < 0 → ¬ c b a < 0) (hn:∀ a b d,¬ c a b < 0 → ¬ c b d < 0 → ¬ c a d < 0) :
  ∃ r,S xs=some r∧r.Perm xs∧r.Pairwise (fun a b => ¬ c b a < 0):=by
 obtain ⟨k,hk⟩:=len_ok xs.length hl
 obtain ⟨s,h1,h2,h3⟩:=pdq_ok (cmp:=cmp) (le:=fun a b => ¬ c b a < 0) (p:=(· ∈ xs)) (fun a b ha hb=>⟨c a b,hF a ha b hb,fun h=>has a b h,fun h=>h⟩) (fun a b d h k=>hn d b a k h) xs hl (fun x hx=>hx) k
 refine⟨s,?_,h2,h3⟩
 have hsm:sameL s xs=some ():=by unfold sameL; rw [if_pos h2.length_eq]
 rw [hS,hk,Option.bind_some,h1,Option.bind_some,hsm]; rfl
theorem perm_uniq {α:Type} {R:α→α→Prop} (has:∀ a b,R a b → ¬ R b a) {a b:List α} (h:a.Perm b) (ha:a.Pairwise R) (hb:b.Pairwise R):a=b :=
 List.Perm.eq_of_pairwise (fun x y _ _ h1 h2=>absurd h2 (has x y h1)) ha hb h
theorem odd_in (s:Stream) (lo hi:Int) {b:Int} (hs:Ok s b) (hb:b≤900000) (h:lo≤hi) (h1 : -1000000000000≤lo) (h2:hi≤1000000000000):∃ r s',mk_Stream_Odd s lo hi=some (r,s')∧(-2000000000000≤r∧r≤2000000000000)∧Ok s' (b + 2):=by
 obtain ⟨c,s1,k1,k2⟩:=flip_ok s 12 hs (by omega) (by decide) (by decide)
 simp only [mk_Stream_Odd,k1,Option.bind_some]
 cases c with
 | true =>
  obtain ⟨r,s2,m1,m3,m2⟩:=pick_ok s1 [(w64 (lo - 1)),(w64 (hi + 1)),lo,hi,(-1099511627776),1099511627776] k2 (by omega) (by simp) (by simp)
  simp only [cond_true,m1,Option.bind_some]
  refine⟨_,_,rfl,?_,m2.mono (by omega)⟩
  rw [w64_id (n:=lo - 1) (by omega),w64_id (n:=hi + 1) (by omega)]at m3
  simp only [List.mem_cons,List.not_mem_nil,or_false]at m3
  omega
 | false =>
  obtain ⟨r,s2,m1,m3,m4,m2⟩:=range_ok s1 lo hi k2 (by omega) h h1 h2
  simp only [cond_false,m1,Option.bind_some]
  exact⟨_,_,rfl,by omega,m2.mono (by omega)⟩
end Go.Proofs.Ythcdokkcamcnmab.Law

open Go Go.Eng
namespace Go.Proofs.Ythcdokkcamcnmab.Law
set_option linter.unusedVariables false
set_option linter.unusedSimpArgs false
theorem forR_at {α σ ρ:Type} {body:Nat→α→σ→Option (Ctl σ ρ)} (I:Nat→σ→Prop) (xs:List α):∀ (l:List α) (k:Nat) (s:σ),xs.drop k=l→k≤xs.length→(∀ k x s,xs[k]? = some x→I k s → ∃ s',body k x s=some (.go s')∧I (k + 1) s')→I k s → ∃ s',forR body l k s=some (.go s')∧I xs.length s'
 | [],k,s,hd,hk,h,hi=>by
  have:=List.drop_eq_nil_iff.1 hd
  obtain rfl:k=xs.length:=by omega
  exact⟨s,rfl,hi⟩
 | x::l,k,s,hd,hk,h,hi=>by
  obtain ⟨s1,h1,h2⟩:=h k x s (drop_get hd) hi
  obtain ⟨s2,h3,h4⟩:=forR_at I xs l (k + 1) s1 (drop_next hd) (by have:=drop_lt hd; omega) h h2
  exact⟨s2,by rw [forR,h1,Option.bind_some]; exact h3,h4⟩
theorem forL_at {α σ ρ:Type} {body:Nat→α→σ→Option (Ctl σ ρ)} (I:Nat→σ→Prop) {xs:List α} {s:σ} (hl:xs.length≤1000000000000) (h:∀ k x s,xs[k]? = some x→I k s → ∃ s',body k x s=some (.go s')∧I (k + 1) s') (h0:I 0 s):∃ s',forL xs s body=some (.go s')∧I xs.length s':=by
 rw [forL_eq hl]
 exact forR_at I xs xs 0 s rfl (Nat.zero_le _) h h0
theorem lt_lit {a b:ByteArray} (h:sLt a b=true):lt a b:=(sLt_iff a b).1 h
end Go.Proofs.Ythcdokkcamcnmab.Law

open Go Go.Eng
namespace Go.Proofs.Ythcdokkcamcnmab.Law
set_option linter.unusedVariables false
set_option linter.unusedSimpArgs false
def paS:ByteArray:=⟨#[112,97]⟩
def pbS:ByteArray:=⟨#[112,98]⟩
def iaS:ByteArray:=⟨#[105,97]⟩
def ibS:ByteArray:=⟨#[105,98]⟩
def befP (a b:Play):Prop:=lt a.Player b.Player∨a.Player=b.Player∧a.At < b.At
structure RightP (x:Play):Prop where
 pl:x.Player=paS∨x.Player=pbS
 it:x.Item=iaS∨x.Item=ibS
 at_:0≤x.At∧x.At≤86400290
 lo:1≤x.Long∧x.Long≤20
theorem lt_pa_pb:lt paS pbS:=lt_lit (by kernel_rfl)
theorem inner_gen (P:ByteArray) (hP:P=paS∨P=pbS) (n:Int) (hn:0≤n∧n≤10) (l0:List Play) (a0:Int) (ha:0≤a0∧a0≤86399990) (s:Stream) {b:Int} (hs:Ok s b) (hb:b≤800000)
  (hr:∀ x∈l0,RightP x) (hpw:l0.Pairwise befP) (hlt:∀ y∈l0,lt y.Player P) (hl:l0.length≤100) :
  ∃ l a s',forL (List.range n.toNat) (l0,a0,s.L,s.f_at) (fun k x s=>mk_Stream_RightPlays_L1 P k x s)=some (.go (l,a,s'.L,s'.f_at))∧(∀ x∈l,RightP x)∧l.Pairwise befP∧(∀ y∈l,y.Player=P∨lt y.Player P)∧l.length≤l0.length + n.toNat∧Ok s' (b + 30):=by
 obtain ⟨t,t1,t2,t3,t4,t5,t6,t7,t8⟩:=forL_inv (body:=fun k x s=>mk_Stream_RightPlays_L1 P k x s) (s:=(l0,a0,s.L,s.f_at)) (xs:=List.range n.toNat)
  (fun j t=>t.1.length=l0.length + j∧(∀ x∈t.1,RightP x)∧t.1.Pairwise befP∧(∀ y∈t.1,y.Player=P∨lt y.Player P)∧(∀ y∈t.1,y.Player=P→y.At < t.2.1)∧(0≤t.2.1∧t.2.1≤86399990 + 30 * j)∧Ok ⟨t.2.2.1,t.2.2.2⟩ (b + 3 * j)) (by simp; omega) (fun j x t hx hj ⟨i1,i2,i3,i4,i5,i6,i7⟩=>by
  simp only [List.length_range]at hj
  obtain ⟨it,s1,c1,c2,c3⟩:=some_ok ⟨t.2.2.1,t.2.2.2⟩ [(⟨#[105,97]⟩:ByteArray),(⟨#[105,98]⟩:ByteArray)] i7 (by omega) (by simp) (by simp)
  obtain ⟨lg,s2,d1,d2,d3⟩:=pick_ok s1 [1,5,10,20] c3 (by omega) (by simp) (by simp)
  obtain ⟨st,s3,e1,e2,e3⟩:=pick_ok s2 [1,5,10,30] d3 (by omega) (by simp) (by simp)
  have hlg:1≤lg∧lg≤20:=by
   simp only [List.mem_cons,List.not_mem_nil,or_false]at d2; omega
  have hst:1≤st∧st≤30:=by
   simp only [List.mem_cons,List.not_mem_nil,or_false]at e2; omega
  have hit:it=iaS∨it=ibS:=by
   simp only [List.mem_cons,List.not_mem_nil,or_false]at c2; exact c2
  unfold mk_Stream_RightPlays_L1
  simp only [c1,d1,e1,Option.bind_some]
  rw [appL_ok _ _ (by simp; omega),Option.bind_some,w64_id (n:=t.2.1 + st) (by omega)]
  refine⟨_,rfl,by simp; omega,fun y hy => ?_,?_,fun y hy => ?_,fun y hy hp => ?_,by simp only []; omega,e3.mono (by omega)⟩
  ·rcases List.mem_append.1 hy with hy | hy
   ·exact i2 y hy
   ·rw [List.mem_singleton.1 hy]
    exact⟨hP,hit,by show 0≤t.2.1∧t.2.1≤86400290; omega,hlg⟩
  ·refine List.pairwise_append.2 ⟨i3,List.pairwise_singleton _ _,fun y hy z hz => ?_⟩
   rw [List.mem_singleton.1 hz]
   rcases i4 y hy with h | h
   ·exact .inr ⟨h,i5 y hy h⟩
   ·exact .inl h
  ·rcases List.mem_append.1 hy with hy | hy
   ·exact i4 y hy
   ·rw [List.mem_singleton.1 hy]; exact .inl rfl
  ·show y.At < t.2.1 + st
   rcases List.mem_append.1 hy with hy | hy
   ·have:=i5 y hy hp; omega
   ·rw [List.mem_singleton.1 hy]; show t.2.1 < t.2.1 + st; omega)
  ⟨rfl,hr,hpw,fun y hy => .inr (hlt y hy),fun y hy e=>absurd (hlt y hy) (by rw [e]; exact lt_irr P),(by show 0≤a0∧a0≤86399990 + 30 * ((0:Nat):Int); omega),hs.mono (by omega)⟩
 rw [List.length_range]at t2 t7 t8
 exact⟨t.1,t.2.1,⟨t.2.2.1,t.2.2.2⟩,t1,t3,t4,t5,by omega,t8.mono (by omega)⟩
theorem one_gen (P:ByteArray) (hP:P=paS∨P=pbS) (most:Int) (hm:0≤most∧most≤10) (l0:List Play) (s:Stream) {b:Int} (hs:Ok s b) (hb:b≤700000)
  (hr:∀ x∈l0,RightP x) (hpw:l0.Pairwise befP) (hlt:∀ y∈l0,lt y.Player P) (hl:l0.length≤100) (k:Nat) :
  ∃ l s',mk_Stream_RightPlays_L2 most k P (l0,s.L,s.f_at)=some (.go (l,s'.L,s'.f_at))∧(∀ x∈l,RightP x)∧l.Pairwise befP∧(∀ y∈l,y.Player=P∨lt y.Player P)∧l.length≤l0.length + most.toNat∧Ok s' (b + 40):=by
 obtain ⟨a0,s1,c1,c2,c3⟩:=pick_ok s [0,5,86399990] hs (by omega) (by simp) (by simp)
 obtain ⟨n,s2,d1,d2,d3,d4⟩:=range_ok s1 0 most c3 (by omega) (by omega) (by decide) (by omega)
 have ha:0≤a0∧a0≤86399990:=by
  simp only [List.mem_cons,List.not_mem_nil,or_false]at c2; omega
 obtain ⟨l,a,s3,e1,e2,e3,e4,e5,e6⟩:=inner_gen P hP n (by omega) l0 a0 ha s2 d4 (by omega) hr hpw hlt hl
 refine⟨l,s3,?_,e2,e3,e4,by omega,e6.mono (by omega)⟩
 unfold mk_Stream_RightPlays_L2
 have e0:(⟨s.L,s.f_at⟩:Stream)=s:=rfl
 simp only [e0,c1,d1,e1,Option.bind_some,thenC]
structure RPlays (l:List Play):Prop where
 right:∀ x∈l,RightP x
 rise:l.Pairwise befP
 len:l.length≤20
theorem rightPlays (most:Int) (hm:0≤most∧most≤10) (s:Stream) {b:Int} (hs:Ok s b) (hb:b≤600000):∃ l s',mk_Stream_RightPlays s most=some (l,s')∧RPlays l∧l.length≤2 * most.toNat∧Ok s' (b + 80):=by
 obtain ⟨l1,s1,c1,c2,c3,c4,c5,c6⟩:=one_gen paS (.inl rfl) most hm [] s hs (by omega) (fun x hx=>by cases hx) .nil (fun y hy=>by cases hy) (by simp) 0
 obtain ⟨l2,s2,d1,d2,d3,d4,d5,d6⟩:=one_gen pbS (.inr rfl) most hm l1 s1 c6 (by omega) c2 c3 (fun y hy=>by
  rcases c4 y hy with h | h
  ·rw [h]; exact lt_pa_pb
  ·exact lt_trans h lt_pa_pb) (by simp at c5; omega) 1
 refine⟨l2,s2,?_,⟨d2,d3,by simp at c5; omega⟩,by simp at c5; omega,d6.mono (by omega)⟩
 unfold mk_Stream_RightPlays
 rw [forL_eq (by simp)]
 have e1:mk_Stream_RightPlays_L2 most 0 (⟨#[112,97]⟩:ByteArray) (([]:List Play),s.L,s.f_at)=some (.go (l1,s1.L,s1.f_at)):=c1
 have e2:mk_Stream_RightPlays_L2 most (0 + 1) (⟨#[112,98]⟩:ByteArray) (l1,s1.L,s1.f_at)=some (.go (l2,s2.L,s2.f_at)):=d1
 simp only [forR,e1,e2,Option.bind_some,thenC]
theorem pair_prev {α:Type} {R:α→α→Prop} {l:List α} (h:l.Pairwise R) {i j:Nat} {x y:α} (hi:l[i]? = some x) (hj:l[j]? = some y) (hij:i < j):R x y:=by
 obtain ⟨l1,rfl⟩:=List.getElem?_eq_some_iff.1 hi
 obtain ⟨l2,rfl⟩:=List.getElem?_eq_some_iff.1 hj
 exact List.pairwise_iff_getElem.1 h i j l1 l2 hij
end Go.Proofs.Ythcdokkcamcnmab.Law

open Go Go.Eng
namespace Go.Proofs.Ythcdokkcamcnmab.Law
set_option linter.unusedVariables false
set_option linter.unusedSimpArgs false
structure GoodP (x:Play):Prop where
 pl:Short x.Player
 it:Short x.Item
 at_ : -2000000000000≤x.At∧x.At≤2000000000000
 lo : -2000000000000≤x.Long∧x.Long≤2000000000000
theorem rightP_good {x:Play} (h:RightP x):GoodP x:=by
 obtain ⟨h1,h2,h3,h4⟩:=h
 refine⟨?_,?_,by omega,by omega⟩
 ·rcases h1 with e | e <;> rw [e] <;> exact short_lit (by decide)
 ·rcases h2 with e | e <;> rw [e] <;> exact short_lit (by decide)
theorem plays_ok (most:Int) (hm:0≤most∧most≤6) (s:Stream) {b:Int} (hs:Ok s b) (hb:b≤500000):∃ l s',mk_Stream_Plays s most=some (l,s')∧(∀ x∈l,GoodP x)∧l.length≤12∧Ok s' (b + 100):=by
 obtain ⟨l,s1,a1,a2,a3,a4⟩:=rightPlays most (by omega) s hs (by omega)
 have hg:∀ x∈l,GoodP x:=fun x hx=>rightP_good (a2.right x hx)
 have hlen:l.length≤12:=by omega
 unfold mk_Stream_Plays
 rw [a1,Option.bind_some]
 simp only []
 by_cases h0:l.length=0
 ·rw [decide_eq_false (by omega)]
  exact⟨l,s1,rfl,hg,hlen,a4.mono (by omega)⟩
 ·rw [decide_eq_true (by omega),cond_true]
  obtain ⟨c,s2,b1,b2⟩:=flip_ok s1 12 a4 (by omega) (by decide) (by decide)
  rw [b1,Option.bind_some,Option.bind_some]
  cases c with
  | false=>exact⟨l,s2,rfl,hg,hlen,b2.mono (by omega)⟩
  | true =>
   simp only [cond_true]
   obtain ⟨i,s3,c1,c2,c3,c4⟩:=next_ok s2 (l.length:Int) b2 (by omega) (by omega) (by omega)
   have hil:i.toNat < l.length:=by omega
   have hx:l[0 + i.toNat]? = some l[i.toNat]:=by rw [Nat.zero_add]; exact List.getElem?_eq_getElem hil
   have gx:=hg _ (List.getElem_mem hil)
   obtain ⟨p,s4,d1,d2,d3⟩:=some_ok s3 [l[i.toNat].Player,(⟨#[]⟩:ByteArray),(⟨#[112,97]⟩:ByteArray)] c4 (by omega) (by simp) (by simp)
   obtain ⟨q,s5,e1,e2,e3⟩:=some_ok s4 [(⟨#[105,97]⟩:ByteArray),(⟨#[65]⟩:ByteArray)] d3 (by omega) (by simp) (by simp)
   obtain ⟨at_,s6,f1,f2,f3⟩:=odd_in s5 0 100 e3 (by omega) (by decide) (by decide) (by decide)
   obtain ⟨lo,s7,g1,g2,g3⟩:=odd_in s6 1 50 f3 (by omega) (by decide) (by decide) (by decide)
   have es:(⟨s2.L,s2.f_at⟩:Stream)=s2:=rfl
   simp only [es,c1,Option.bind_some,inR_ok c2 (show i < l.length by omega),hx,d1,e1,f1,g1]
   have hset:∀ (y:Play),(l.set (0 + i.toNat) y)[0 + i.toNat]? = some y:=fun y=>set_at (by omega)
   simp only [List.set_set,hset,Option.bind_some]
   refine⟨_,s7,rfl,all_set hg ⟨?_,?_,f2,g2⟩,by rw [List.length_set]; exact hlen,g3.mono (by omega)⟩
   ·show Short p
    simp only [List.mem_cons,List.not_mem_nil,or_false]at d2
    rcases d2 with e | e | e <;> rw [e]
    ·exact gx.pl
    ·exact short_lit (by decide)
    ·exact short_lit (by decide)
   ·show Short q
    simp only [List.mem_cons,List.not_mem_nil,or_false]at e2
    rcases e2 with e | e <;> rw [e] <;> exact short_lit (by decide)
end Go.Proofs.Ythcdokkcamcnmab.Law

open Go Go.Eng
namespace Go.Proofs.Ythcdokkcamcnmab.Law
set_option linter.unusedVariables false
set_option linter.unusedSimpArgs false
def longB (n:Int):Bool:=outB n 1 86400000
def plE (p:Play):Int:=bif !keyB p.Player || !keyB p.Item then 5 else bif !momB p.At || longB p.Long then 1 else 0
instance (a b:ByteArray):Decidable (lt a b):=by unfold lt; exact inferInstance
def befB (a b:Play):Bool:=decide (lt a.Player b.Player) || (decide (a.Player=b.Player) && decide (a.At < b.At))
theorem befB_iff {a b:Play}:befB a b=true↔befP a b:=by
 unfold befB befP; simp
def plStp (o:Option Play) (p:Play):Int:=bif plE p == 0 then (match o with | none=>0 | some q=>bif befB q p then 0 else 7)else plE p
def playsV (l:List Play):Int:=chkG plStp none l
theorem comparePlays_eq (a b:Play):∃ n,proof_comparePlays a b=some n∧(decide (n≥0)) = !befB a b:=by
 refine⟨_,by simp only [proof_comparePlays,compare_eq,cmpInt_eq,or2_eq,Option.bind_some]; rfl,?_⟩
 have key:(or0 (cmpB a.Player b.Player) (cmpI a.At b.At) < 0)↔befP a b:=by
  unfold or0 cmpI befP
  rcases cmpB_spec a.Player b.Player with⟨h,e⟩ | ⟨h,e⟩ | ⟨h,e⟩
  ·rw [e]; simp [h]
  ·rw [e,h]
   have hn:¬ lt b.Player b.Player:=lt_irr _
   by_cases h1:a.At < b.At
   ·simp [h1]
   ·by_cases h2:a.At > b.At <;> simp [h1,h2,hn]
  ·have hn:¬ lt a.Player b.Player:=fun k=>lt_irr _ (lt_trans h k)
   have hn2:a.Player≠b.Player:=fun k=>by rw [k]at h; exact lt_irr _ h
   rw [e]; simp [hn,hn2]
 rw [Bool.eq_iff_iff]
 simp only [decide_eq_true_eq,Bool.not_eq_true',Bool.eq_false_iff,ne_eq,befB_iff,← key]
 omega
theorem sign_eq (n:Int):ref_sign n=some (cmpI n 0):=by
 unfold ref_sign cmpI
 by_cases h1:n < 0
 ·rw [decide_eq_true h1,if_pos h1]; rfl
 ·rw [decide_eq_false h1,if_neg h1]
  by_cases h2:n > 0
  ·rw [decide_eq_true h2,if_pos h2]; rfl
  ·rw [decide_eq_false h2,if_neg h2]; rfl
theorem playOrder_eq {a b:Play} (ha:GoodP a) (hb:GoodP b):∃ n,ref_PlayOrder a b=some n∧(decide (n≥0)) = !befB a b:=by
 have h1:=ha.at_; have h2:=hb.at_
 unfold ref_PlayOrder
 rw [sNe_dec,sign_eq,compare_eq,w64_id (n:=a.At - b.At) (by omega)]
 rcases cmpB_spec a.Player b.Player with⟨h,e⟩ | ⟨h,e⟩ | ⟨h,e⟩
 ·have hn:a.Player≠b.Player:=fun k=>by rw [k]at h; exact lt_irr _ h
  rw [decide_eq_false hn]
  refine⟨_,rfl,?_⟩
  have hb':befB a b=true:=befB_iff.2 (.inl h)
  rw [e,hb']; rfl
 ·rw [decide_eq_true h]
  refine⟨_,rfl,?_⟩
  rw [Bool.eq_iff_iff]
  simp only [decide_eq_true_eq,Bool.not_eq_true',Bool.eq_false_iff,ne_eq,befB_iff]
  unfold befP cmpI
  have hn:¬ lt a.Player b.Player:=by rw [h]; exact lt_irr _
  by_cases h3:a.At - b.At < 0
  ·rw [if_pos h3]
   exact⟨fun k=>absurd k (by decide),fun k=>absurd (.inr ⟨h,by omega⟩) k⟩
  ·rw [if_neg h3]
   refine⟨fun _ k => ?_,fun _=>by split <;> omega⟩
   rcases k with k | ⟨_,k⟩
   ·exact hn k
   ·omega
 ·have hn:a.Player≠b.Player:=fun k=>by rw [k]at h; exact lt_irr _ h
  rw [decide_eq_false hn]
  refine⟨_,rfl,?_⟩
  have hb':befB a b=false:=by
   rw [Bool.eq_false_iff,ne_eq,befB_iff]
   rintro (k | ⟨k,_⟩)
   ·exact lt_irr _ (lt_trans h k)
   ·exact hn k
  rw [e,hb']; rfl
theorem outC_nz {e:Int} (h:(e == 0)=false):outC e = .ret e:=by unfold outC; rw [h]; rfl
theorem prevP_test {l:List Play} {k:Nat} {x:Play} {f:Play→Play→Option Int} (hx:l[k]? = some x) (hl:l.length≤1000) (hf:∀ y,y∈l → ∃ n,f y x=some n∧decide (n≥0) = !befB y x) :
  (bif (decide ((k:Int) > 0))then (idx l (w64 ((k:Int) - 1))).bind fun y=>(f y x).bind fun r=>some (decide (r≥0))else some false)=some (match prevO l k with | none=>false | some q => !befB q x):=by
 have hk:k < l.length:=(List.getElem?_eq_some_iff.1 hx).1
 rcases Nat.eq_zero_or_pos k with h0 | h0
 ·subst h0
  rw [decide_eq_false (by omega)]; rfl
 ·rw [decide_eq_true (by omega),cond_true]
  obtain ⟨y,q1,q2⟩:=idx_prev hx h0 (by omega)
  obtain ⟨n,n1,n2⟩:=hf y (List.mem_of_getElem? q2)
  have e:prevO l k=some y:=by unfold prevO; rw [if_neg (by omega)]; exact q2
  rw [q1,Option.bind_some,n1,Option.bind_some,n2,e]
theorem checkPlays_eq {l:List Play} (hg:∀ x∈l,GoodP x) (hl:l.length≤1000):proof_CheckPlays l=some (playsV l):=by
 unfold proof_CheckPlays
 rw [decide_eq_false (show ¬ (l.length:Int) > 3000 by omega),cond_false,forL_eq (by omega)]
 rw [chkG_prev (stp:=plStp) (body:=fun k x s=>proof_CheckPlays_L1 l k x s) l l 0 rfl (fun k x hx => ?_)]
 ·exact outC_then _
 ·have hm:x∈l:=List.mem_of_getElem? hx
  obtain ⟨p1,p2,_,_⟩:=hg x hm
  unfold Short at p1 p2
  show proof_CheckPlays_L1 l k x ()=_
  unfold proof_CheckPlays_L1
  rw [prevP_test hx hl (fun y _=>comparePlays_eq y x)]
  simp only [isKey_eq _ (show x.Player.size≤1000000000 by omega),isKey_eq _ (show x.Item.size≤1000000000 by omega),isMoment_eq,outside_eq,Option.bind_some]
  unfold plStp plE longB
  cases keyB x.Player <;> cases keyB x.Item <;> cases momB x.At <;> cases outB x.Long 1 86400000 <;> first | rfl | skip
  cases prevO l k with
  | none=>rfl
  | some q=>dsimp only; cases befB q x <;> rfl
theorem playsFault_eq {l:List Play} (hg:∀ x∈l,GoodP x) (hl:l.length≤1000):ref_PlaysFault l=some (playsV l):=by
 unfold ref_PlaysFault
 rw [decide_eq_false (show ¬ (l.length:Int) > 3000 by omega),cond_false,forL_eq (by omega)]
 rw [chkG_prev (stp:=plStp) (body:=fun k x s=>ref_PlaysFault_L1 l k x s) l l 0 rfl (fun k x hx => ?_)]
 ·exact outC_then _
 ·have hm:x∈l:=List.mem_of_getElem? hx
  obtain ⟨p1,p2,_,_⟩:=hg x hm
  unfold Short at p1 p2
  show ref_PlaysFault_L1 l k x ()=_
  unfold ref_PlaysFault_L1
  rw [prevP_test hx hl (fun y hy=>playOrder_eq (hg y hy) (hg x hm))]
  have e1:ref_PlayedFault [x]=some (plE x):=by
   unfold ref_PlayedFault
   rw [decide_eq_false (by simp),cond_false,forL_eq (by simp)]
   have e2:ref_PlayedFault_L1 0 x ()=some (outC (plE x)):=by
    unfold ref_PlayedFault_L1
    simp only [refKey_eq _ (show x.Player.size≤1000000000 by omega),refKey_eq _ (show x.Item.size≤1000000000 by omega),refMoment_eq,in_eq,Option.bind_some]
    unfold plE longB
    cases keyB x.Player <;> cases keyB x.Item <;> cases momB x.At <;> cases outB x.Long 1 86400000 <;> rfl
   simp only [forR,e2,Option.bind_some]
   unfold outC
   cases h:plE x == 0 with
   | true=>rw [eq_of_beq h]; rfl
   | false=>rfl
  rw [e1,Option.bind_some]
  unfold plStp bne
  cases h:plE x == 0 with
  | false=>simp only [Bool.not_false,cond_true,cond_false]; rw [outC_nz h]
  | true =>
   simp only [Bool.not_true,cond_false,cond_true,Option.bind_some]
   cases prevO l k with
   | none=>rfl
   | some q=>dsimp only; cases befB q x <;> rfl
structure VP (l:List Play):Prop where
 good:∀ x∈l,GoodP x
 at_:∀ x∈l,0≤x.At∧x.At≤345686399999
 lo:∀ x∈l,1≤x.Long∧x.Long≤86400000
 rise:l.Pairwise befP
theorem befP_trans {a b c:Play} (h:befP a b) (k:befP b c):befP a c:=by
 rcases h with h | ⟨h1,h2⟩
 ·rcases k with k | ⟨k1,k2⟩
  ·exact .inl (lt_trans h k)
  ·exact .inl (by rw [← k1]; exact h)
 ·rcases k with k | ⟨k1,k2⟩
  ·exact .inl (by rw [h1]; exact k)
  ·exact .inr ⟨h1.trans k1,by omega⟩
theorem playsV_0:∀ {l:List Play} {o:Option Play},chkG plStp o l=0→(∀ x∈l,plE x=0)∧(∀ q,o=some q → ∀ x∈l,befP q x)∧l.Pairwise befP
 | [],o,_=>⟨fun x hx=>(by cases hx),fun q _ x hx=>(by cases hx),List.Pairwise.nil⟩
 | x::l,o,h=>by
  have h1:=chkG_0 h
  obtain ⟨h2,h3⟩:=h1
  obtain ⟨r1,r2,r3⟩:=playsV_0 h3
  unfold plStp at h2
  cases he:plE x == 0 with
  | false =>
   rw [he,cond_false]at h2
   rw [h2]at he; cases he
  | true =>
   rw [he,cond_true]at h2
   have hx0:plE x=0:=eq_of_beq he
   have hp:∀ q,o=some q→befP q x:=fun q hq=>by
    subst hq
    simp only []at h2
    cases hb:befB q x with
    | true=>exact befB_iff.1 hb
    | false=>rw [hb]at h2; cases h2
   refine⟨fun y hy => ?_,fun q hq y hy => ?_,List.pairwise_cons.2 ⟨fun y hy=>r2 x rfl y hy,r3⟩⟩
   ·rcases List.mem_cons.1 hy with rfl | hy
    ·exact hx0
    ·exact r1 y hy
   ·rcases List.mem_cons.1 hy with rfl | hy
    ·exact hp q hq
    ·exact befP_trans (hp q hq) (r2 x rfl y hy)
theorem vp_of {l:List Play} (hg:∀ x∈l,GoodP x) (h:playsV l=0):VP l:=by
 obtain ⟨h1,_,h3⟩:=playsV_0 h
 have key:∀ x∈l,momB x.At=true∧longB x.Long=false:=fun x hx=>by
  have:=h1 x hx
  unfold plE at this
  cases hk:(!keyB x.Player || !keyB x.Item)with
  | true=>rw [hk]at this; cases this
  | false =>
   rw [hk,cond_false]at this
   cases hm:momB x.At <;> cases hl:longB x.Long <;> rw [hm,hl]at this <;> first | exact⟨rfl,rfl⟩ | cases this
 exact⟨hg,fun x hx=>momB_t (key x hx).1,fun x hx=>outB_f (key x hx).2,h3⟩
end Go.Proofs.Ythcdokkcamcnmab.Law

