import Derived.Test.YtpojeclokolkaaaGreatDoorEpStream
/-
  PLAIN LEMMAS: keys.
-/
open Go Go.Eng
namespace Go.Proofs.YtpojeclokolkaaaGreatDoor.Law
set_option linter.unusedVariables false
set_option linter.unusedSimpArgs false
def lowB (b : UInt8) : Bool := decide (97 ≤ b.toNat) && decide (b.toNat ≤ 122)
def moreB (b : UInt8) : Bool := (decide (48 ≤ b.toNat) && decide (b.toNat ≤ 57)) || (b.toNat == 45) || (b.toNat == 95)
def okB (i : Nat) (b : UInt8) : Bool := lowB b || (decide (0 < i) && moreB b)
def byteAt (s : ByteArray) (i : Nat) : UInt8 := s.data.toList.getD i 0
def keyB (s : ByteArray) : Bool := decide (s.size ≠ 0) && (decide (s.size ≤ 40) && (List.range s.size).all fun i => okB i (byteAt s i))
theorem idxS_nat (s : ByteArray) (k : Nat) (h : k < s.size) : idxS s (k : Int) = some (byteAt s k) := by
 have h1 : s[k]? = some s[k] := by simp [h]
 have h2 : byteAt s k = s[k] := by
  have hl : k < s.data.toList.length := by rw [← Go.Lib.size_eq]; exact h
  simp only [byteAt, List.getD_eq_getElem?_getD, List.getElem?_eq_getElem hl, Option.getD_some]
  simp
  rfl
 simp only [idxS, if_pos (Int.natCast_nonneg k), Int.toNat_natCast, h1, h2]
theorem isKey_L1 (s : ByteArray) (k : Nat) (hs : s.size ≤ 1000000000) : kit_IsKey_L1 s (k : Int) = some (if k < s.size then (bif okB k (byteAt s k) then .go ((k + 1 : Nat) : Int) else .ret false) else .brk (k : Int)) := by
 unfold kit_IsKey_L1
 by_cases h : k < s.size
 ·have hd : decide ((k : Int) < (s.size : Int)) = true := by simp; omega
  have hw : w64 ((k : Int) + 1) = ((k + 1 : Nat) : Int) := by rw [w64_id (by omega)]; omega
  simp only [hd, cond_true, idxS_nat s k h, Option.bind_some, if_pos h, hw]
  generalize byteAt s k = b
  simp only [okB, lowB, moreB]
  have e1 : decide ((b.toNat : Int) ≥ 97) = decide (97 ≤ b.toNat) := decide_eq_decide.2 (by omega)
  have e2 : decide ((b.toNat : Int) ≤ 122) = decide (b.toNat ≤ 122) := decide_eq_decide.2 (by omega)
  have e3 : decide ((k : Int) > 0) = decide (0 < k) := decide_eq_decide.2 (by omega)
  have e4 : decide ((b.toNat : Int) ≥ 48) = decide (48 ≤ b.toNat) := decide_eq_decide.2 (by omega)
  have e5 : decide ((b.toNat : Int) ≤ 57) = decide (b.toNat ≤ 57) := decide_eq_decide.2 (by omega)
  have e6 : ((b.toNat : Int) == 45) = (b.toNat == 45) := by rw [Bool.eq_iff_iff]; simp; omega
  have e7 : ((b.toNat : Int) == 95) = (b.toNat == 95) := by rw [Bool.eq_iff_iff]; simp; omega
  rw [e1, e2, e3, e4, e5, e6, e7]
  cases decide (97 ≤ b.toNat) <;> cases decide (b.toNat ≤ 122) <;> cases decide (0 < k) <;> cases decide (48 ≤ b.toNat) <;> cases decide (b.toNat ≤ 57) <;> cases (b.toNat == 45) <;> cases (b.toNat == 95) <;> rfl
 ·have hd : decide ((k : Int) < (s.size : Int)) = false := by simp; omega
  simp only [hd, cond_false, if_neg h]
theorem isKey_iter (s : ByteArray) (hs : s.size ≤ 1000000000) : ∀ (n k : Nat), k + n = s.size → iterN (fun i => kit_IsKey_L1 s i) (n + 1) (k : Int) = some (bif (List.range' k n).all (fun j => okB j (byteAt s j)) then .go (s.size : Int) else .ret false)
 | 0, k, h => by
  have hk : ¬ k < s.size := by omega
  simp only [iterN, isKey_L1 s k hs, if_neg hk, Option.bind_some, List.range'_zero, List.all_nil, cond_true]
  rw [show (k : Int) = s.size by omega]
 | n + 1, k, h => by
  have hk : k < s.size := by omega
  rw [iterN, isKey_L1 s k hs, if_pos hk, Option.bind_some, List.range'_succ, List.all_cons]
  cases okB k (byteAt s k) with
  | true => simp only [cond_true, Bool.true_and]; exact isKey_iter s hs n (k + 1) (by omega)
  | false => rfl
theorem isKey_eq (s : ByteArray) (hs : s.size ≤ 1000000000) : kit_IsKey s = some (keyB s) := by
 have h := iter_loopO (isKey_iter s hs s.size 0 (by omega))
 unfold kit_IsKey
 have h' : loopO (0 : Int) (fun s_1 => kit_IsKey_L1 s s_1) = _ := h
 rw [h', Option.bind_some, ← List.range_eq_range']
 have e : decide ((s.size : Int) ≤ 40) = decide (s.size ≤ 40) := decide_eq_decide.2 (by omega)
 simp only [keyB]
 cases (List.range s.size).all (fun i => okB i (byteAt s i)) with
 | true =>
  rw [cond_true, thenC_go, sNe_nil, e, Bool.and_true]
  cases decide (s.size ≠ 0) <;> rfl
 | false => simp only [cond_false, thenC_ret, Bool.and_false]
end Go.Proofs.YtpojeclokolkaaaGreatDoor.Law

