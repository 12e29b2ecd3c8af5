import Derived.Test.YtpojeclokolkaaaGreatDoorKpFuel
/-
  PLAIN LEMMAS: the packages do something.
-/
open Go Go.Eng
namespace Go.Proofs.YtpojeclokolkaaaGreatDoor.Law
set_option linter.unusedVariables false
set_option maxRecDepth 100000
theorem ready_F : keep_readyF = some true := by kernel_rfl
theorem ready_ok : keep_ready = some true := keep_ready_le _ ready_F
end Go.Proofs.YtpojeclokolkaaaGreatDoor.Law

