import Derived.Test.YtipcgokielgnhaaGreatDoorRmBand
/-
  PLAIN LEMMAS: the bands of rows at rising places.
-/
open Go Go.Eng
namespace Go.Proofs.YtipcgokielgnhaaGreatDoor.Law
set_option linter.unusedVariables false
set_option linter.unusedSimpArgs false

open Classical in
noncomputable def bandsOf : List (Int × List Run) → List Run → Int → List Band
 | [], _, _ => []
 | (y, R) :: l, band, fr => if band = R then bandsOf l band fr else if band = [] then bandsOf l R y else ⟨fr, y, band⟩ :: bandsOf l R y
def rowFn : List (Int × List Run) → List Run → Int → List Run
 | [], _, _ => []
 | (y0, R) :: l, band, y => bif decide (y < y0) then band else rowFn l R y
def Rise : Int → List (Int × List Run) → Prop
 | _, [] => True
 | fr, (y, R) :: l => fr < y ∧ (l = [] → R = []) ∧ Rise y l
theorem bands_head : ∀ {l : List (Int × List Run)} {band : List Run} {fr : Int}, Rise fr l → ∀ {q : Band} {t : List Band}, bandsOf l band fr = q :: t → fr ≤ q.a ∧ (q.a = fr → q.row = band ∧ band ≠ [])
 | [], _, _, _, q, t, h => by cases h
 | (y, R) :: l, band, fr, ⟨h1, h2, h3⟩, q, t, h => by
  rw [bandsOf] at h
  by_cases e : band = R
  ·rw [if_pos e] at h
   have h3' : Rise fr l := by
    cases l with
    | nil => trivial
    | cons z l => exact ⟨by have := h3.1; omega, h3.2⟩
   exact bands_head h3' h
  ·rw [if_neg e] at h
   by_cases e2 : band = []
   ·rw [if_pos e2] at h
    have := bands_head h3 h
    exact ⟨by omega, fun k => by omega⟩
   ·rw [if_neg e2] at h
    have := (List.cons.inj h).1
    subst this
    exact ⟨Int.le_refl _, fun _ => ⟨rfl, e2⟩⟩
theorem bands_ok : ∀ {l : List (Int × List Run)} {band : List Run} {fr lo : Int}, Rise fr l → lo ≤ fr → (l = [] → band = []) → CanonB lo (bandsOf l band fr) ∧ ∀ y, rowAt (bandsOf l band fr) y = bif decide (y < fr) then [] else rowFn l band y
 | [], band, fr, lo, _, _, hb => ⟨trivial, fun y => by simp only [bandsOf, rowAt, rowFn]; cases decide (y < fr) <;> rfl⟩
 | (y0, R) :: l, band, fr, lo, ⟨h1, h2, h3⟩, hlo, _ => by
  rw [bandsOf]
  by_cases e : band = R
  ·rw [if_pos e]
   have h3' : Rise fr l := by
    cases l with
    | nil => trivial
    | cons z l => exact ⟨by have := h3.1; omega, h3.2⟩
   obtain ⟨c1, c2⟩ := bands_ok (band := band) h3' hlo (fun h => by rw [e]; exact h2 h)
   refine ⟨c1, fun y => ?_⟩
   rw [c2, rowFn, e]
   by_cases k : y < fr
   ·rw [decide_eq_true k]; rfl
   ·rw [decide_eq_false k, cond_false, cond_false]
    by_cases k2 : y < y0
    ·rw [decide_eq_true k2, cond_true]
     cases l with
     | nil => rw [h2 rfl]; rfl
     | cons z l =>
      have hz := h3.1
      rw [rowFn, decide_eq_true (show y < z.1 by omega)]; rfl
    ·rw [decide_eq_false k2, cond_false]
  ·rw [if_neg e]
   obtain ⟨c1, c2⟩ := bands_ok (band := R) (lo := y0) h3 (Int.le_refl _) h2
   by_cases e2 : band = []
   ·rw [if_pos e2]
    have c1' : CanonB lo (bandsOf l R y0) := by
     cases hb : bandsOf l R y0 with
     | nil => trivial
     | cons q t =>
      rw [hb] at c1
      exact ⟨by have := c1.1; omega, c1.2⟩
    refine ⟨c1', fun y => ?_⟩
    rw [c2, rowFn, e2]
    by_cases k : y < fr
    ·rw [decide_eq_true k, decide_eq_true (show y < y0 by omega)]; rfl
    ·rw [decide_eq_false k, cond_false]
   ·rw [if_neg e2]
    refine ⟨⟨hlo, h1, e2, ?_, c1⟩, fun y => ?_⟩
    ·cases hb : bandsOf l R y0 with
     | nil => trivial
     | cons q t =>
      intro hq
      have := (bands_head h3 hb).2 hq
      rw [this.1]
      exact fun k => e k.symm
    ·rw [rowFn]
     by_cases k : y < fr
     ·rw [decide_eq_true k, cond_true, rowAt_out (.inl k), c2, decide_eq_true (show y < y0 by omega)]; rfl
     ·rw [decide_eq_false k, cond_false]
      by_cases k2 : y < y0
      ·rw [decide_eq_true k2, cond_true, rowAt_in (by show fr ≤ y; omega) k2]
      ·rw [decide_eq_false k2, cond_false, rowAt_out (.inr (by show y0 ≤ y; omega)), c2, decide_eq_false k2]; rfl
end Go.Proofs.YtipcgokielgnhaaGreatDoor.Law

