import Derived.Test.YtipcgokielgnhaaGreatDoorEpLib
import Derived.Test.YtipcgokielgnhaaGreatDoorDefs
/-
  PLAIN LEMMAS: bounds, rectangles, sides.
-/
open Go Go.Eng
namespace Go.Proofs.YtipcgokielgnhaaGreatDoor.Law
set_option linter.unusedVariables false
set_option linter.unusedSimpArgs false

def outB (n lo hi : Int) : Bool := decide (n < lo) || decide (n > hi)
theorem outside_eq (n lo hi : Int) : kit_Outside n lo hi = some (outB n lo hi) := by
 unfold kit_Outside outB
 cases decide (n < lo) <;> cases decide (n > hi) <;> rfl
theorem outB_in {n lo hi : Int} (h : lo ≤ n ∧ n ≤ hi) : outB n lo hi = false := by
 simp only [outB, Bool.or_eq_false_iff, decide_eq_false_iff_not]; omega
def badR (r : Rect) : Bool := outB r.X (-100000) 100000 || outB r.Y (-100000) 100000 || outB r.W 1 (w64 (100000 - r.X)) || outB r.H 1 (w64 (100000 - r.Y))
theorem checkRect_eq (r : Rect) : screen_CheckRect r = some (bif badR r then 1 else 0) := by
 unfold screen_CheckRect badR
 simp only [outside_eq, Option.bind_some]
 cases outB r.X (-100000) 100000 <;> cases outB r.Y (-100000) 100000 <;> cases outB r.W 1 (w64 (100000 - r.X)) <;> cases outB r.H 1 (w64 (100000 - r.Y)) <;> rfl
end Go.Proofs.YtipcgokielgnhaaGreatDoor.Law

