import Derived.Test.YtmdmgnfoojjpbaaGreatDoorKpStream
/-
  PLAIN LEMMAS: bounds, rectangles, sides.
-/
open Go Go.Eng
namespace Go.Proofs.YtmdmgnfoojjpbaaGreatDoor.Law
set_option linter.unusedVariables false
set_option linter.unusedSimpArgs false

def outB (n lo hi : Int) : Bool := decide (n < lo) || decide (n > hi)
theorem outside_eq (n lo hi : Int) : kit_Outside n lo hi = some (outB n lo hi) := by
 unfold kit_Outside outB
 cases decide (n < lo) <;> cases decide (n > hi) <;> rfl
theorem outB_in {n lo hi : Int} (h : lo ≤ n ∧ n ≤ hi) : outB n lo hi = false := by
 simp only [outB, Bool.or_eq_false_iff, decide_eq_false_iff_not]; omega
def badS (n : Int) : Bool := outB n 1 20000
theorem isSide_eq (n : Int) : screen_isSide n = some (!badS n) := by unfold screen_isSide; rw [outside_eq]; rfl
theorem sides4 (a b c d : Int) : screen_sidesFault [a, b, c, d] = some (bif badS a || badS b || badS c || badS d then 1 else 0) := by
 unfold screen_sidesFault
 rw [forL_eq (by simp)]
 simp only [forR, screen_sidesFault_L1, isSide_eq, Option.bind_some, Bool.not_not]
 cases badS a <;> cases badS b <;> cases badS c <;> cases badS d <;> rfl
end Go.Proofs.YtmdmgnfoojjpbaaGreatDoor.Law

