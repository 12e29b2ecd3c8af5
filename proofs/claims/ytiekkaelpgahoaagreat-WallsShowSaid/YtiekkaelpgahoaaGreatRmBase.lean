import Derived.Test.YtiekkaelpgahoaaGreatEpLib
import Derived.Test.YtiekkaelpgahoaaGreatDefs
/-
  PLAIN LEMMAS: bounds, rectangles, sides.
-/
open Go Go.Eng
namespace Go.Proofs.YtiekkaelpgahoaaGreat.Law
set_option linter.unusedVariables false
set_option linter.unusedSimpArgs false

def outB (n lo hi : Int) : Bool := decide (n < lo) || decide (n > hi)
theorem outside_eq (n lo hi : Int) : kit_Outside n lo hi = some (outB n lo hi) := by
 unfold kit_Outside outB
 cases decide (n < lo) <;> cases decide (n > hi) <;> rfl
theorem in_eq (n lo hi : Int) : ref_in n lo hi = some (!outB n lo hi) := by
 unfold ref_in outB
 have e1 : decide (lo ≤ n) = !decide (n < lo) := by rw [Bool.eq_iff_iff]; simp
 have e2 : decide (n ≤ hi) = !decide (n > hi) := by rw [Bool.eq_iff_iff]; simp
 rw [e1, e2]
 cases decide (n < lo) <;> cases decide (n > hi) <;> rfl
theorem outB_f {n lo hi : Int} (h : outB n lo hi = false) : lo ≤ n ∧ n ≤ hi := by
 simp only [outB, Bool.or_eq_false_iff, decide_eq_false_iff_not] at h; omega
def badR (r : Rect) : Bool := outB r.X (-100000) 100000 || outB r.Y (-100000) 100000 || outB r.W 1 (w64 (100000 - r.X)) || outB r.H 1 (w64 (100000 - r.Y))
theorem checkRect_eq (r : Rect) : screen_CheckRect r = some (bif badR r then 1 else 0) := by
 unfold screen_CheckRect badR
 simp only [outside_eq, Option.bind_some]
 cases outB r.X (-100000) 100000 <;> cases outB r.Y (-100000) 100000 <;> cases outB r.W 1 (w64 (100000 - r.X)) <;> cases outB r.H 1 (w64 (100000 - r.Y)) <;> rfl
theorem rectFault_eq (r : Rect) : ref_RectFault r = some (bif badR r then 1 else 0) := by
 unfold ref_RectFault badR
 simp only [in_eq, Option.bind_some, Bool.not_not]
 cases outB r.X (-100000) 100000 <;> cases outB r.Y (-100000) 100000 <;> cases outB r.W 1 (w64 (100000 - r.X)) <;> cases outB r.H 1 (w64 (100000 - r.Y)) <;> rfl
end Go.Proofs.YtiekkaelpgahoaaGreat.Law

