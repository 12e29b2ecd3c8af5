import Derived.Test.YtipcgokielgnhaaGreatDoorRmLess
import Derived.Test.YtipcgokielgnhaaGreatDoorRmCompact
/-
  PLAIN LEMMAS: the reference's rows.
-/
open Go Go.Eng
namespace Go.Proofs.YtipcgokielgnhaaGreatDoor.Law
set_option linter.unusedVariables false
set_option linter.unusedSimpArgs false

def toRect (y h : Int) (r : Run) : Rect := ⟨r.f_from, y, r.f_to - r.f_from, h⟩
def Bd (x : Int) : Prop := -100000 ≤ x ∧ x ≤ 100000

section
variable {is : Int → Int → Option Bool} {xs ys : List Int} {s13 : (List Rect) × (List Rect) × Int} {y y2 : Int} {j : Nat}
end
end Go.Proofs.YtipcgokielgnhaaGreatDoor.Law

