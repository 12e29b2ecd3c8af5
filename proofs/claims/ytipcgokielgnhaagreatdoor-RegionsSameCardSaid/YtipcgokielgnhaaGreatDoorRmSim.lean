import Derived.Test.YtipcgokielgnhaaGreatDoorRmVert
/-
  PLAIN LEMMAS: the program's region and the reference's, row by row.
-/
open Go Go.Eng
namespace Go.Proofs.YtipcgokielgnhaaGreatDoor.Law
set_option linter.unusedVariables false
set_option linter.unusedSimpArgs false

end Go.Proofs.YtipcgokielgnhaaGreatDoor.Law

