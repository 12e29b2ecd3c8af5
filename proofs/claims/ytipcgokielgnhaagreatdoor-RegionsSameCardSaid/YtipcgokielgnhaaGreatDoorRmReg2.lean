import Derived.Test.YtipcgokielgnhaaGreatDoorRmSimR
import Derived.Test.YtipcgokielgnhaaGreatDoorRmRegion
/-
  PLAIN LEMMAS: the region is told by the set of its pixels, whatever the edges at which it was cut.
-/
open Go Go.Eng
namespace Go.Proofs.YtipcgokielgnhaaGreatDoor.Law
set_option linter.unusedVariables false
set_option linter.unusedSimpArgs false

theorem bandsOf_nil : ∀ (l : List (Int × List Run)) (fr fr' : Int), bandsOf l [] fr = bandsOf l [] fr'
 | [], _, _ => rfl
 | (y, R) :: l, fr, fr' => by
  simp only [bandsOf, if_true]
  by_cases h : [] = R
  ·rw [if_pos h, if_pos h]; exact bandsOf_nil l fr fr'
  ·rw [if_neg h, if_neg h]
theorem rowFn_of (Rw : Int → List Run) : ∀ (ys : List Int), (∀ (j : Nat) (a b : Int), ys[j]? = some a → ys[j + 1]? = some b → ∀ y, a ≤ y → y < b → Rw y = Rw a) → (∀ y, (∀ a ∈ ys, a ≤ y) → Rw y = []) → ys.Pairwise (· < ·) → ∀ (y : Int) (band : List Run), rowFn (pairsOf Rw ys) band y = match ys with | [] => Rw y | a :: _ => bif decide (y < a) then band else Rw y
 | [], _, h2, _, y, band => (h2 y (fun a ha => by cases ha)).symm
 | [a], _, h2, _, y, band => by
  simp only [pairsOf, rowFn]
  by_cases h : y < a
  ·rw [decide_eq_true h]; rfl
  ·rw [decide_eq_false h, cond_false, cond_false, h2 y (fun b hb => by rw [List.mem_singleton] at hb; omega)]
 | a :: b :: l, h1, h2, h3, y, band => by
  obtain ⟨p1, p2⟩ := List.pairwise_cons.1 h3
  have hab := p1 b (by simp)
  have ih := rowFn_of Rw (b :: l) (fun j c d hc hd => h1 (j + 1) c d (by simpa using hc) (by simpa using hd)) (fun y hy => h2 y (fun c hc => by
   rcases List.mem_cons.1 hc with rfl | hc
   ·have := hy b (by simp); omega
   ·exact hy c hc)) p2 y (Rw a)
  have hp : pairsOf Rw (a :: b :: l) = (a, Rw a) :: pairsOf Rw (b :: l) := rfl
  rw [hp, rowFn, ih]
  show (bif decide (y < a) then band else bif decide (y < b) then Rw a else Rw y) = bif decide (y < a) then band else Rw y
  by_cases h : y < a
  ·rw [decide_eq_true h]; rfl
  ·rw [decide_eq_false h, cond_false, cond_false]
   by_cases k : y < b
   ·rw [decide_eq_true k, cond_true, h1 0 a b rfl rfl y (by omega) k]
   ·rw [decide_eq_false k, cond_false]
theorem rise_pairs (Rw : Int → List Run) : ∀ (ys : List Int) (lo : Int), (∀ y ∈ ys, lo < y) → ys.Pairwise (· < ·) → Rise lo (pairsOf Rw ys)
 | [], _, _, _ => trivial
 | [a], lo, h, _ => ⟨h a (by simp), fun _ => rfl, trivial⟩
 | a :: b :: l, lo, h, h3 => by
  obtain ⟨p1, p2⟩ := List.pairwise_cons.1 h3
  refine ⟨h a (by simp), fun e => ?_, rise_pairs Rw (b :: l) a p1 p2⟩
  cases l <;> cases e
def Fits (Rw : Int → List Run) (ys : List Int) : Prop :=
 ys.Pairwise (· < ·) ∧ (∀ y ∈ ys, -200000 < y) ∧ (∀ (j : Nat) (a b : Int), ys[j]? = some a → ys[j + 1]? = some b → ∀ y, a ≤ y → y < b → Rw y = Rw a) ∧ (∀ y, (∀ a ∈ ys, a ≤ y) → Rw y = []) ∧ (∀ y, (∀ a ∈ ys, y < a) → Rw y = [])
theorem fits_bands {Rw : Int → List Run} {ys : List Int} (h : Fits Rw ys) (fr : Int) : CanonB (-200000) (bandsOf (pairsOf Rw ys) [] fr) ∧ ∀ y, rowAt (bandsOf (pairsOf Rw ys) [] fr) y = Rw y := by
 obtain ⟨h1, h2, h3, h4, h5⟩ := h
 rw [bandsOf_nil _ fr (-200000)]
 obtain ⟨c1, c2⟩ := bands_ok (band := []) (rise_pairs Rw ys (-200000) h2 h1) (Int.le_refl _) (fun _ => rfl)
 refine ⟨c1, fun y => ?_⟩
 rw [c2, rowFn_of Rw ys h3 h4 h1]
 by_cases k : y < -200000
 ·rw [decide_eq_true k, cond_true, h5 y (fun a ha => by have := h2 a ha; omega)]
 ·rw [decide_eq_false k, cond_false]
  cases ys with
  | nil => rfl
  | cons a l =>
   simp only
   by_cases k : y < a
   ·rw [decide_eq_true k, cond_true]
    exact (h5 y (fun b hb => by
     rcases List.mem_cons.1 hb with rfl | hb
     ·exact k
     ·have := (List.pairwise_cons.1 h1).1 b hb; omega)).symm
   ·rw [decide_eq_false k, cond_false]
theorem edge_gap {es : List Int} (hp : es.Pairwise (· < ·)) {i : Nat} {a b e : Int} (ha : es[i]? = some a) (hb : es[i + 1]? = some b) (he : e ∈ es) : e ≤ a ∨ b ≤ e := by
 obtain ⟨q, hq, rfl⟩ := List.getElem_of_mem he
 obtain ⟨la, ea⟩ := List.getElem?_eq_some_iff.1 ha
 obtain ⟨lb, eb⟩ := List.getElem?_eq_some_iff.1 hb
 rcases Nat.lt_trichotomy q i with k | k | k
 ·left; rw [← ea]; exact Int.le_of_lt ((List.pairwise_iff_getElem.1 hp) q i hq la k)
 ·left; subst k; rw [← ea]; exact Int.le_refl _
 ·right
  rcases Nat.eq_or_lt_of_le (show i + 1 ≤ q by omega) with e | k2
  ·subst e; rw [← eb]; exact Int.le_refl _
  ·rw [← eb]; exact Int.le_of_lt ((List.pairwise_iff_getElem.1 hp) (i + 1) q lb hq k2)
theorem cell_y {ys : List Int} (hp : ys.Pairwise (· < ·)) {L : List Rect} (hL : ∀ r ∈ L, r.Y ∈ ys ∧ r.Y + r.H ∈ ys) {j : Nat} {a b : Int} (ha : ys[j]? = some a) (hb : ys[j + 1]? = some b) {y : Int} (h1 : a ≤ y) (h2 : y < b) (x : Int) : hasP L x y ↔ hasP L x a := by
 constructor
 ·rintro ⟨r, hr, k3, k1, k2⟩
  obtain ⟨i1, i2⟩ := hL r hr
  refine ⟨r, hr, k3, ?_, by omega⟩
  rcases edge_gap hp ha hb i1 with g | g <;> omega
 ·rintro ⟨r, hr, k3, k1, k2⟩
  obtain ⟨i1, i2⟩ := hL r hr
  refine ⟨r, hr, k3, by omega, ?_⟩
  rcases edge_gap hp ha hb i2 with g | g <;> omega
theorem canon_nil {lo : Int} {R : List Run} (h : CanonFrom lo R) (he : ∀ x, ¬ mem x R) : R = [] :=
 canon_eq h (show CanonFrom lo [] from trivial) (fun x => by simp [mem_nil, he x])
end Go.Proofs.YtipcgokielgnhaaGreatDoor.Law

