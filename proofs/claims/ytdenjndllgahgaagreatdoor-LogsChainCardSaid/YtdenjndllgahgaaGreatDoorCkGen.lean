import Derived.Test.YtdenjndllgahgaaGreatDoorCkBase
/-
  PLAIN LEMMAS: beats that are made.
-/
open Go Go.Eng
namespace Go.Proofs.YtdenjndllgahgaaGreatDoor.Law
set_option linter.unusedVariables false
set_option linter.unusedSimpArgs false
def GoodB (x:Beat):Prop:=bN x.Player
end Go.Proofs.YtdenjndllgahgaaGreatDoor.Law

