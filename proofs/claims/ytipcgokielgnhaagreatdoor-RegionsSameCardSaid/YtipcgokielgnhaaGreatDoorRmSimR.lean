import Derived.Test.YtipcgokielgnhaaGreatDoorRmSim2
/-
  PLAIN LEMMAS: the reference's region by itself: the bands of its rows.
-/
open Go Go.Eng
namespace Go.Proofs.YtipcgokielgnhaaGreatDoor.Law
set_option linter.unusedVariables false
set_option linter.unusedSimpArgs false

end Go.Proofs.YtipcgokielgnhaaGreatDoor.Law

