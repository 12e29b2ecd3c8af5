import Derived.Test.YtipcgokielgnhaaGreatDoorRmCanon
/-
  PLAIN LEMMAS: bands of equal rows are told by their rows.
-/
open Go Go.Eng
namespace Go.Proofs.YtipcgokielgnhaaGreatDoor.Law
set_option linter.unusedVariables false
set_option linter.unusedSimpArgs false

structure Band where
 a : Int
 b : Int
 row : List Run
def headDiff (e : Int) (row : List Run) : List Band → Prop
 | [] => True
 | q :: _ => q.a = e → q.row ≠ row
def CanonB : Int → List Band → Prop
 | _, [] => True
 | lo, p :: l => lo ≤ p.a ∧ p.a < p.b ∧ p.row ≠ [] ∧ headDiff p.b p.row l ∧ CanonB p.b l
def rowAt : List Band → Int → List Run
 | [], _ => []
 | p :: l, y => bif decide (p.a ≤ y) && decide (y < p.b) then p.row else rowAt l y
theorem rowAt_low : ∀ {l : List Band} {lo y : Int}, CanonB lo l → y < lo → rowAt l y = []
 | [], _, _, _, _ => rfl
 | p :: l, lo, y, ⟨h1, h2, h3, h4, h5⟩, h => by
  have e1 : decide (p.a ≤ y) = false := by simp; omega
  rw [rowAt, e1, Bool.false_and, cond_false]
  exact rowAt_low h5 (by omega)
theorem rowAt_in {p : Band} {l : List Band} {y : Int} (h1 : p.a ≤ y) (h2 : y < p.b) : rowAt (p :: l) y = p.row := by
 rw [rowAt, decide_eq_true h1, decide_eq_true h2]; rfl
theorem rowAt_out {p : Band} {l : List Band} {y : Int} (h : y < p.a ∨ p.b ≤ y) : rowAt (p :: l) y = rowAt l y := by
 rw [rowAt]
 have : (decide (p.a ≤ y) && decide (y < p.b)) = false := by
  rw [Bool.and_eq_false_iff]
  rcases h with h | h
  ·left; simp; omega
  ·right; simp; omega
 rw [this]; rfl
theorem rowAt_end {p : Band} {l : List Band} (h : headDiff p.b p.row l) (hc : CanonB p.b l) (hne : p.row ≠ []) : rowAt l p.b ≠ p.row := by
 cases l with
 | nil => exact fun e => hne e.symm
 | cons q l =>
  obtain ⟨h1, h2, h3, h4, h5⟩ := hc
  by_cases e : q.a = p.b
  ·rw [rowAt_in (by omega) (by omega)]; exact h e
  ·rw [rowAt_out (.inl (by omega)), rowAt_low h5 (by omega)]
   exact fun e => hne e.symm
theorem band_eq : ∀ {l m : List Band} {lo lo' : Int}, CanonB lo l → CanonB lo' m → (∀ y, rowAt l y = rowAt m y) → l = m
 | [], [], _, _, _, _, _ => rfl
 | [], q :: m, _, _, _, ⟨h1, h2, h3, h4, h5⟩, h => by
  have := h q.a
  rw [rowAt_in (Int.le_refl _) h2] at this
  exact absurd this.symm h3
 | p :: l, [], _, _, ⟨h1, h2, h3, h4, h5⟩, _, h => by
  have := h p.a
  rw [rowAt_in (Int.le_refl _) h2] at this
  exact absurd this h3
 | p :: l, q :: m, lo, lo', ⟨a1, a2, a3, a4, a5⟩, ⟨b1, b2, b3, b4, b5⟩, h => by
  have e1 : p.a = q.a := by
   rcases Int.lt_trichotomy p.a q.a with k | k | k
   ·exfalso
    have := h p.a
    rw [rowAt_in (Int.le_refl _) a2, rowAt_out (.inl k), rowAt_low b5 (by omega)] at this
    exact a3 this
   ·exact k
   ·exfalso
    have := h q.a
    rw [rowAt_in (Int.le_refl _) b2, rowAt_out (.inl k), rowAt_low a5 (by omega)] at this
    exact b3 this.symm
  have e2 : p.row = q.row := by
   have := h p.a
   rw [rowAt_in (Int.le_refl _) a2, rowAt_in (by omega) (by omega)] at this
   exact this
  have e3 : p.b = q.b := by
   rcases Int.lt_trichotomy p.b q.b with k | k | k
   ·exfalso
    have := h p.b
    rw [rowAt_out (.inr (Int.le_refl _)), rowAt_in (by omega) k, ← e2] at this
    exact rowAt_end a4 a5 a3 this
   ·exact k
   ·exfalso
    have := h q.b
    rw [rowAt_in (by omega) k, rowAt_out (.inr (Int.le_refl _)), e2] at this
    exact rowAt_end b4 b5 b3 this.symm
  have e4 : l = m := band_eq a5 b5 (fun y => by
   rcases Int.lt_or_le y p.b with k | k
   ·rw [rowAt_low a5 k, rowAt_low b5 (by omega)]
   ·have := h y
    rw [rowAt_out (.inr k), rowAt_out (.inr (by omega))] at this
    exact this)
  obtain ⟨pa, pb, pr⟩ := p
  obtain ⟨qa, qb, qr⟩ := q
  simp only at e1 e2 e3
  rw [e1, e2, e3, e4]
end Go.Proofs.YtipcgokielgnhaaGreatDoor.Law

