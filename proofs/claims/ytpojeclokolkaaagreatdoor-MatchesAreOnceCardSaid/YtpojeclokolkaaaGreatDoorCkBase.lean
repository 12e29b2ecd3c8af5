import Derived.Test.YtpojeclokolkaaaGreatDoorEpKey
/-
  PLAIN LEMMAS: checks of lists, bounds, the order of strings, the first fault.
-/
open Go Go.Eng
namespace Go.Proofs.YtpojeclokolkaaaGreatDoor.Law
set_option linter.unusedVariables false
set_option linter.unusedSimpArgs false
theorem appL_ok {α : Type} (xs ys : List α) (h : xs.length + ys.length ≤ 1000000000) : appL xs ys = some (xs ++ ys) := by unfold appL; rw [if_pos h]
theorem set_at {α : Type} {xs : List α} {i : Nat} {a : α} (h : i < xs.length) : (xs.set i a)[i]? = some a := by simp [h]
theorem inR_ok {α : Type} {i : Int} {xs : List α} (h0 : 0 ≤ i) (h1 : i < xs.length) : inR i xs = some () := by unfold inR; rw [if_pos ⟨h0, by omega⟩]
theorem idx_prev {α : Type} {l : List α} {k : Nat} {x : α} (h : l[k]? = some x) (hk : 0 < k) (hl : l.length ≤ 1000000000) : ∃ y, idx l (w64 ((k : Int) - 1)) = some y ∧ l[k - 1]? = some y := by
 have hlt : k < l.length := (List.getElem?_eq_some_iff.1 h).1
 rw [w64_id (by omega), show (k : Int) - 1 = ((k - 1 : Nat) : Int) by omega, idx_nat]
 exact ⟨l[k - 1], List.getElem?_eq_getElem (by omega), List.getElem?_eq_getElem (by omega)⟩
def outB (n lo hi : Int) : Bool := decide (n < lo) || decide (n > hi)
theorem outside_eq (n lo hi : Int) : kit_Outside n lo hi = some (outB n lo hi) := by
 unfold kit_Outside outB
 cases decide (n < lo) <;> cases decide (n > hi) <;> rfl
theorem outB_in {n lo hi : Int} (h : lo ≤ n ∧ n ≤ hi) : outB n lo hi = false := by
 simp only [outB, Bool.or_eq_false_iff, decide_eq_false_iff_not]; omega
def momB (n : Int) : Bool := !outB n 0 345686399999
theorem isMoment_eq (n : Int) : kit_IsMoment n = some (momB n) := by
 unfold kit_IsMoment momB outB
 have e1 : decide (n ≥ 0) = !decide (n < 0) := by rw [Bool.eq_iff_iff]; simp
 have e2 : decide (n < 345686400000) = !decide (n > 345686399999) := by rw [Bool.eq_iff_iff]; simp; omega
 rw [e1, e2]
 cases decide (n < 0) <;> cases decide (n > 345686399999) <;> rfl
def or0 (a b : Int) : Int := bif a == 0 then b else a
theorem cmpB_spec (a b : ByteArray) : (lt a b ∧ cmpB a b = -1) ∨ (a = b ∧ cmpB a b = 0) ∨ (lt b a ∧ cmpB a b = 1) := by
 have key : ∀ (x y : List UInt8), (x < y ∧ Lib.compareBytes x y = -1) ∨ (x = y ∧ Lib.compareBytes x y = 0) ∨ (y < x ∧ Lib.compareBytes x y = 1) := by
  intro x
  induction x with
  | nil => intro y; cases y with
   | nil => exact .inr (.inl ⟨rfl, rfl⟩)
   | cons b y => exact .inl ⟨by simp, rfl⟩
  | cons a x ih => intro y; cases y with
   | nil => exact .inr (.inr ⟨by simp, rfl⟩)
   | cons b y =>
    simp only [Lib.compareBytes, List.cons_lt_cons_iff, List.cons.injEq]
    by_cases h1 : a < b
    ·exact .inl ⟨.inl h1, by rw [if_pos h1]⟩
    ·by_cases h2 : b < a
     ·exact .inr (.inr ⟨.inl h2, by rw [if_neg h1, if_pos h2]⟩)
     ·have e : a = b := UInt8.le_antisymm (UInt8.not_lt.1 h2) (UInt8.not_lt.1 h1)
      subst e
      rw [if_neg h1, if_neg h1]
      rcases ih y with ⟨h, k⟩ | ⟨h, k⟩ | ⟨h, k⟩
      ·exact .inl ⟨.inr ⟨rfl, h⟩, k⟩
      ·exact .inr (.inl ⟨⟨rfl, h⟩, k⟩)
      ·exact .inr (.inr ⟨.inr ⟨rfl, h⟩, k⟩)
 unfold cmpB lt
 rw [toL, toL]
 rcases key a.data.toList b.data.toList with ⟨h, k⟩ | ⟨h, k⟩ | ⟨h, k⟩
 ·exact .inl ⟨h, k⟩
 ·exact .inr (.inl ⟨str_ext (by rw [toL, toL]; exact h), k⟩)
 ·exact .inr (.inr ⟨h, k⟩)
theorem compare_eq (a b : ByteArray) : strings_Compare a b = some (cmpB a b) := rfl
def cmpI (a b : Int) : Int := if a < b then -1 else if a > b then 1 else 0
theorem cmpInt_eq (a b : Int) : cmp_Compare_int a b = some (cmpI a b) := by
 have e : ∀ x : Int, (x != x) = false := by simp
 unfold cmp_Compare_int cmp_isNaN_int cmpI
 simp only [e, Option.bind_some, cond_false]
 by_cases h : a < b
 ·simp only [decide_eq_true h, cond_true, if_pos h]
 ·by_cases h2 : a > b
  ·simp only [decide_eq_false h, decide_eq_true h2, cond_true, cond_false, if_neg h, if_pos h2]
  ·simp only [decide_eq_false h, decide_eq_false h2, cond_false, if_neg h, if_neg h2]
theorem or2_eq (a b : Int) : cmp_Or_int [a, b] = some (or0 a b) := by
 unfold cmp_Or_int or0
 rw [forL_eq (by simp)]
 simp only [forR, cmp_Or_int_L1]
 cases ha : a == 0 with
 | false =>
  have : (a != 0) = true := by simp [bne, ha]
  simp only [this, cond_true, cond_false, Option.bind_some, thenC]
 | true =>
  have : (a != 0) = false := by simp [bne, ha]
  simp only [this, cond_true, cond_false, Option.bind_some]
  cases hb : b == 0 with
  | false =>
   have : (b != 0) = true := by simp [bne, hb]
   simp only [this, cond_true, Option.bind_some, thenC]
  | true =>
   have : (b != 0) = false := by simp [bne, hb]
   simp only [this, cond_false, Option.bind_some, thenC]
   rw [eq_of_beq hb]
end Go.Proofs.YtpojeclokolkaaaGreatDoor.Law

