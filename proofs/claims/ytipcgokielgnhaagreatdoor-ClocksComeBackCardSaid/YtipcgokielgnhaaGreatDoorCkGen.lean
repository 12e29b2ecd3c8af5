import Derived.Test.YtipcgokielgnhaaGreatDoorCkBase
/-
  PLAIN LEMMAS: beats that are made.
-/
open Go Go.Eng
namespace Go.Proofs.YtipcgokielgnhaaGreatDoor.Law
set_option linter.unusedVariables false
set_option linter.unusedSimpArgs false

def GoodB (x : Beat) : Prop := Short x.Player
end Go.Proofs.YtipcgokielgnhaaGreatDoor.Law

