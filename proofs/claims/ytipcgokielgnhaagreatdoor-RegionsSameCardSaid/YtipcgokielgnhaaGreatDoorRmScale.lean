import Derived.Test.YtipcgokielgnhaaGreatDoorRmArea
/-
  PLAIN LEMMAS: a rectangle that is scaled: its pixels.
-/
open Go Go.Eng
namespace Go.Proofs.YtipcgokielgnhaaGreatDoor.Law
set_option linter.unusedVariables false
set_option linter.unusedSimpArgs false

def back (h H y : Int) : Int := ((y + 1) * h - 1) / H
end Go.Proofs.YtipcgokielgnhaaGreatDoor.Law

