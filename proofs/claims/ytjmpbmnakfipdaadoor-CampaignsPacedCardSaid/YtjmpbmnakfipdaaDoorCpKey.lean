import Derived.Test.YtjmpbmnakfipdaaDoorCpGen
/-
  PLAIN LEMMAS: keys.
-/
open Go Go.Eng
namespace Go.Proofs.YtjmpbmnakfipdaaDoor.Law
set_option linter.unusedVariables false
set_option linter.unusedSimpArgs false

def lowB (b : UInt8) : Bool := decide (97 ≤ b.toNat) && decide (b.toNat ≤ 122)
def moreB (b : UInt8) : Bool := (decide (48 ≤ b.toNat) && decide (b.toNat ≤ 57)) || (b.toNat == 45) || (b.toNat == 95)
def okB (i : Nat) (b : UInt8) : Bool := lowB b || (decide (0 < i) && moreB b)
def byteAt (s : ByteArray) (i : Nat) : UInt8 := s.data.toList.getD i 0
def keyB (s : ByteArray) : Bool := decide (s.size ≠ 0) && (decide (s.size ≤ 40) && (List.range s.size).all fun i => okB i (byteAt s i))

theorem idxS_nat (s : ByteArray) (k : Nat) (h : k < s.size) : idxS s (k : Int) = some (byteAt s k) := by
 have h1 : s[k]? = some s[k] := by simp [h]
 have h2 : byteAt s k = s[k] := by
  have hl : k < s.data.toList.length := by rw [← Go.Lib.size_eq]; exact h
  simp only [byteAt, List.getD_eq_getElem?_getD, List.getElem?_eq_getElem hl, Option.getD_some]
  simp
  rfl
 simp only [idxS, if_pos (Int.natCast_nonneg k), Int.toNat_natCast, h1, h2]

theorem isKey_L1 (s : ByteArray) (k : Nat) (hs : s.size ≤ 1000000000) : kit_IsKey_L1 s (k : Int) = some (if k < s.size then (bif okB k (byteAt s k) then .go ((k + 1 : Nat) : Int) else .ret false) else .brk (k : Int)) := by
 unfold kit_IsKey_L1
 by_cases h : k < s.size
 ·have hd : decide ((k : Int) < (s.size : Int)) = true := by simp; omega
  have hw : w64 ((k : Int) + 1) = ((k + 1 : Nat) : Int) := by rw [w64_id (by omega)]; omega
  simp only [hd, cond_true, idxS_nat s k h, Option.bind_some, if_pos h, hw]
  generalize byteAt s k = b
  simp only [okB, lowB, moreB]
  have e1 : decide ((b.toNat : Int) ≥ 97) = decide (97 ≤ b.toNat) := decide_eq_decide.2 (by omega)
  have e2 : decide ((b.toNat : Int) ≤ 122) = decide (b.toNat ≤ 122) := decide_eq_decide.2 (by omega)
  have e3 : decide ((k : Int) > 0) = decide (0 < k) := decide_eq_decide.2 (by omega)
  have e4 : decide ((b.toNat : Int) ≥ 48) = decide (48 ≤ b.toNat) := decide_eq_decide.2 (by omega)
  have e5 : decide ((b.toNat : Int) ≤ 57) = decide (b.toNat ≤ 57) := decide_eq_decide.2 (by omega)
  have e6 : ((b.toNat : Int) == 45) = (b.toNat == 45) := by rw [Bool.eq_iff_iff]; simp; omega
  have e7 : ((b.toNat : Int) == 95) = (b.toNat == 95) := by rw [Bool.eq_iff_iff]; simp; omega
  rw [e1, e2, e3, e4, e5, e6, e7]
  cases decide (97 ≤ b.toNat) <;> cases decide (b.toNat ≤ 122) <;> cases decide (0 < k) <;> cases decide (48 ≤ b.toNat) <;> cases decide (b.toNat ≤ 57) <;> cases (b.toNat == 45) <;> cases (b.toNat == 95) <;> rfl
 ·have hd : decide ((k : Int) < (s.size : Int)) = false := by simp; omega
  simp only [hd, cond_false, if_neg h]

theorem isKey_iter (s : ByteArray) (hs : s.size ≤ 1000000000) : ∀ (n k : Nat), k + n = s.size → iterN (fun i => kit_IsKey_L1 s i) (n + 1) (k : Int) = some (bif (List.range' k n).all (fun j => okB j (byteAt s j)) then .go (s.size : Int) else .ret false)
 | 0, k, h => by
  have hk : ¬ k < s.size := by omega
  simp only [iterN, isKey_L1 s k hs, if_neg hk, Option.bind_some, List.range'_zero, List.all_nil, cond_true]
  rw [show (k : Int) = s.size by omega]
 | n + 1, k, h => by
  have hk : k < s.size := by omega
  rw [iterN, isKey_L1 s k hs, if_pos hk, Option.bind_some, List.range'_succ, List.all_cons]
  cases okB k (byteAt s k) with
  | true => simp only [cond_true, Bool.true_and]; exact isKey_iter s hs n (k + 1) (by omega)
  | false => rfl

theorem isKey_eq (s : ByteArray) (hs : s.size ≤ 1000000000) : kit_IsKey s = some (keyB s) := by
 have h := iter_loopO (isKey_iter s hs s.size 0 (by omega))
 unfold kit_IsKey
 have h' : loopO (0 : Int) (fun s_1 => kit_IsKey_L1 s s_1) = _ := h
 rw [h', Option.bind_some, ← List.range_eq_range']
 have e : decide ((s.size : Int) ≤ 40) = decide (s.size ≤ 40) := decide_eq_decide.2 (by omega)
 simp only [keyB]
 cases (List.range s.size).all (fun i => okB i (byteAt s i)) with
 | true =>
  rw [cond_true, thenC_go, sNe_nil, e, Bool.and_true]
  cases decide (s.size ≠ 0) <;> rfl
 | false => simp only [cond_false, thenC_ret, Bool.and_false]

def inSet (t : ByteArray) (b : UInt8) : Bool := !decide (ixB t (b.toNat : Int) < 0)
theorem only_L1 (s t : ByteArray) (k x : Nat) (h : k < s.size) : ref_only_L1 s t k x () = some (bif inSet t (byteAt s k) then .go () else .ret false) := by
 simp only [ref_only_L1, idxS_nat s k h, strings_IndexByte, internal_stringslite_IndexByte, Option.bind_some, inSet]
 cases decide (ixB t ((byteAt s k).toNat : Int) < 0) <;> rfl
theorem only_run (s t : ByteArray) : ∀ (xs : List Nat) (k : Nat), k + xs.length = s.size → forR (fun k x u => ref_only_L1 s t k x u) xs k () = some (bif (List.range' k xs.length).all (fun j => inSet t (byteAt s j)) then .go () else .ret false)
 | [], k, h => rfl
 | x :: xs, k, h => by
  simp only [List.length_cons] at h ⊢
  have hk : k < s.size := by omega
  rw [forR, only_L1 s t k x hk, Option.bind_some, List.range'_succ, List.all_cons]
  cases inSet t (byteAt s k) with
  | true => simp only [cond_true, Bool.true_and]; exact only_run s t xs (k + 1) (by omega)
  | false => rfl
theorem only_eq (s t : ByteArray) (hs : s.size ≤ 1000000000) : ref_only s t = some ((List.range s.size).all fun i => inSet t (byteAt s i)) := by
 unfold ref_only
 rw [Int.toNat_natCast, forL_eq (by simp; omega), only_run s t _ 0 (by simp), Option.bind_some, List.length_range, ← List.range_eq_range']
 cases (List.range s.size).all (fun i => inSet t (byteAt s i)) <;> rfl

def alpha : ByteArray := ⟨#[97, 98, 99, 100, 101, 102, 103, 104, 105, 106, 107, 108, 109, 110, 111, 112, 113, 114, 115, 116, 117, 118, 119, 120, 121, 122]⟩
def alnum : ByteArray := ⟨#[97, 98, 99, 100, 101, 102, 103, 104, 105, 106, 107, 108, 109, 110, 111, 112, 113, 114, 115, 116, 117, 118, 119, 120, 121, 122, 48, 49, 50, 51, 52, 53, 54, 55, 56, 57, 45, 95]⟩
theorem inSet_all : ∀ n : Fin 256, inSet alpha (UInt8.ofNat n.val) = lowB (UInt8.ofNat n.val) ∧ inSet alnum (UInt8.ofNat n.val) = (lowB (UInt8.ofNat n.val) || moreB (UInt8.ofNat n.val)) := by decide +kernel
theorem inSet_alpha (b : UInt8) : inSet alpha b = lowB b := by
 have := (inSet_all ⟨b.toNat, b.toNat_lt⟩).1
 simpa using this
theorem inSet_alnum (b : UInt8) : inSet alnum b = (lowB b || moreB b) := by
 have := (inSet_all ⟨b.toNat, b.toNat_lt⟩).2
 simpa using this

theorem refKey_eq (s : ByteArray) (hs : s.size ≤ 1000000000) : ref_Key s = some (keyB s) := by
 unfold ref_Key ref_in
 have e1 : decide ((1 : Int) ≤ (s.size : Int)) = decide (s.size ≠ 0) := decide_eq_decide.2 (by omega)
 have e2 : decide ((s.size : Int) ≤ 40) = decide (s.size ≤ 40) := decide_eq_decide.2 (by omega)
 rw [e1, e2]
 by_cases h1 : s.size ≠ 0
 ·by_cases h2 : s.size ≤ 40
  ·have hsub : subS s 0 1 = some (s.extract 0 1) := by
    unfold subS; rw [if_pos ⟨by omega, by omega, by decide, by show 1 ≤ s.size; omega⟩]; rfl
   have hsz : (s.extract 0 1).size = 1 := by simp [ByteArray.size_extract]; omega
   have hb : byteAt (s.extract 0 1) 0 = byteAt s 0 := by
    obtain ⟨⟨l⟩⟩ := s
    simp only [byteAt]
    cases l with
    | nil => exact absurd rfl h1
    | cons b l => simp [ByteArray.extract, ByteArray.copySlice]
   simp only [decide_eq_true h1, decide_eq_true h2, cond_true, Option.bind_some, hsub]
   have o1 := only_eq (s.extract 0 1) alpha (by omega)
   have o2 := only_eq s alnum hs
   unfold alpha at o1
   unfold alnum at o2
   rw [o1, Option.bind_some, o2]
   have e3 : (List.range (s.extract 0 1).size).all (fun i => inSet alpha (byteAt (s.extract 0 1) i)) = lowB (byteAt s 0) := by
    rw [hsz]
    simp only [List.range_succ, List.range_zero, List.nil_append, List.all_cons, List.all_nil, Bool.and_true]
    rw [hb, inSet_alpha]
   have e3' := e3
   unfold alpha at e3'
   rw [e3']
   have e4 : ∀ i, inSet alnum (byteAt s i) = (lowB (byteAt s i) || moreB (byteAt s i)) := fun i => inSet_alnum _
   have e5 : keyB s = (lowB (byteAt s 0) && (List.range s.size).all (fun i => inSet alnum (byteAt s i))) := by
    simp only [keyB, decide_eq_true h1, decide_eq_true h2, Bool.true_and, e4]
    rw [Bool.eq_iff_iff]
    simp only [List.all_eq_true, List.mem_range, Bool.and_eq_true, okB, Bool.or_eq_true, decide_eq_true_eq]
    constructor
    ·intro h
     refine ⟨?_, fun i hi => (h i hi).imp id (fun h => h.2)⟩
     rcases h 0 (by omega) with h | h
     ·exact h
     ·exact absurd h.1 (by omega)
    ·rintro ⟨h3, h4⟩ i hi
     by_cases e : i = 0
     ·rw [e]; exact .inl h3
     ·exact (h4 i hi).imp id (fun h => ⟨by omega, h⟩)
   unfold alnum at e5
   rw [e5]
   cases lowB (byteAt s 0) <;> rfl
  ·simp only [decide_eq_true h1, decide_eq_false h2, cond_true, cond_false, Option.bind_some, keyB, Bool.false_and, Bool.and_false]
 ·simp only [decide_eq_false h1, cond_false, Option.bind_some, keyB, Bool.false_and]
theorem keyB_ne {s : ByteArray} (h : keyB s = true) : s.size ≠ 0 := by
 simp only [keyB, Bool.and_eq_true, decide_eq_true_eq] at h
 exact h.1
end Go.Proofs.YtjmpbmnakfipdaaDoor.Law

