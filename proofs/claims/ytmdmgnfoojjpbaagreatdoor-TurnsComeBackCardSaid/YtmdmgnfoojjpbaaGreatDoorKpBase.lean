import Derived.Test.YtmdmgnfoojjpbaaGreatDoorKpStream
/-
  PLAIN LEMMAS: bounds, rectangles, sides.
-/
open Go Go.Eng
namespace Go.Proofs.YtmdmgnfoojjpbaaGreatDoor.Law
set_option linter.unusedVariables false
set_option linter.unusedSimpArgs false

def outB (n lo hi : Int) : Bool := decide (n < lo) || decide (n > hi)
theorem outside_eq (n lo hi : Int) : kit_Outside n lo hi = some (outB n lo hi) := by
 unfold kit_Outside outB
 cases decide (n < lo) <;> cases decide (n > hi) <;> rfl
theorem outB_in {n lo hi : Int} (h : lo ≤ n ∧ n ≤ hi) : outB n lo hi = false := by
 simp only [outB, Bool.or_eq_false_iff, decide_eq_false_iff_not]; omega
def badR (r : Rect) : Bool := outB r.X (-100000) 100000 || outB r.Y (-100000) 100000 || outB r.W 1 (w64 (100000 - r.X)) || outB r.H 1 (w64 (100000 - r.Y))
theorem checkRect_eq (r : Rect) : screen_CheckRect r = some (bif badR r then 1 else 0) := by
 unfold screen_CheckRect badR
 simp only [outside_eq, Option.bind_some]
 cases outB r.X (-100000) 100000 <;> cases outB r.Y (-100000) 100000 <;> cases outB r.W 1 (w64 (100000 - r.X)) <;> cases outB r.H 1 (w64 (100000 - r.Y)) <;> rfl
def badS (n : Int) : Bool := outB n 1 20000
theorem isSide_eq (n : Int) : screen_isSide n = some (!badS n) := by unfold screen_isSide; rw [outside_eq]; rfl
end Go.Proofs.YtmdmgnfoojjpbaaGreatDoor.Law

