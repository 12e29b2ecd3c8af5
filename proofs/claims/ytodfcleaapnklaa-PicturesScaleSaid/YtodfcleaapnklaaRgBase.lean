import Derived.Test.YtodfcleaapnklaaRgStream
/-
  PLAIN LEMMAS: bounds, rectangles, sides.
-/
open Go Go.Eng
namespace Go.Proofs.Ytodfcleaapnklaa.Law
set_option linter.unusedVariables false
set_option linter.unusedSimpArgs false

def outB (n lo hi : Int) : Bool := decide (n < lo) || decide (n > hi)
theorem outside_eq (n lo hi : Int) : kit_Outside n lo hi = some (outB n lo hi) := by
  unfold kit_Outside outB
  cases decide (n < lo) <;> cases decide (n > hi) <;> rfl
theorem in_eq (n lo hi : Int) : ref_in n lo hi = some (!outB n lo hi) := by
  unfold ref_in outB
  have e1 : decide (lo ≤ n) = !decide (n < lo) := by rw [Bool.eq_iff_iff]; simp
  have e2 : decide (n ≤ hi) = !decide (n > hi) := by rw [Bool.eq_iff_iff]; simp
  rw [e1, e2]
  cases decide (n < lo) <;> cases decide (n > hi) <;> rfl
theorem outB_f {n lo hi : Int} (h : outB n lo hi = false) : lo ≤ n ∧ n ≤ hi := by
  simp only [outB, Bool.or_eq_false_iff, decide_eq_false_iff_not] at h; omega
theorem outB_in {n lo hi : Int} (h : lo ≤ n ∧ n ≤ hi) : outB n lo hi = false := by
  simp only [outB, Bool.or_eq_false_iff, decide_eq_false_iff_not]; omega
/-- A rectangle is not right. -/
def badR (r : Rect) : Bool := outB r.X (-100000) 100000 || outB r.Y (-100000) 100000 || outB r.W 1 (w64 (100000 - r.X)) || outB r.H 1 (w64 (100000 - r.Y))
theorem checkRect_eq (r : Rect) : screen_CheckRect r = some (bif badR r then 1 else 0) := by
  unfold screen_CheckRect badR
  simp only [outside_eq, Option.bind_some]
  cases outB r.X (-100000) 100000 <;> cases outB r.Y (-100000) 100000 <;> cases outB r.W 1 (w64 (100000 - r.X)) <;> cases outB r.H 1 (w64 (100000 - r.Y)) <;> rfl
theorem rectFault_eq (r : Rect) : ref_RectFault r = some (bif badR r then 1 else 0) := by
  unfold ref_RectFault badR
  simp only [in_eq, Option.bind_some, Bool.not_not]
  cases outB r.X (-100000) 100000 <;> cases outB r.Y (-100000) 100000 <;> cases outB r.W 1 (w64 (100000 - r.X)) <;> cases outB r.H 1 (w64 (100000 - r.Y)) <;> rfl
def badS (n : Int) : Bool := outB n 1 20000
theorem isSide_eq (n : Int) : screen_isSide n = some (!badS n) := by unfold screen_isSide; rw [outside_eq]; rfl
theorem side_eq (n : Int) : ref_side n = some (!badS n) := by unfold ref_side; rw [in_eq]; rfl
theorem sides4 (a b c d : Int) : screen_sidesFault [a, b, c, d] = some (bif badS a || badS b || badS c || badS d then 1 else 0) := by
  unfold screen_sidesFault
  rw [forL_eq (by simp)]
  simp only [forR, screen_sidesFault_L1, isSide_eq, Option.bind_some, Bool.not_not]
  cases badS a <;> cases badS b <;> cases badS c <;> cases badS d <;> rfl
/-- Ways to say that something is wrong come to the same. -/
theorem ors4 (a b c d : Bool) : ((some (!a)).bind fun r => bif (!r) then some true else (some (!b)).bind fun r => bif (!r) then some true else (some (!c)).bind fun r => bif (!r) then some true else (some (!d)).bind fun r => some (!r)) = some (a || b || c || d) := by
  cases a <;> cases b <;> cases c <;> cases d <;> rfl
end Go.Proofs.Ytodfcleaapnklaa.Law
