import Derived.Test.YtdenjndllgahgaaGreatDoorLgLine
/-
  PLAIN LEMMAS: roots, paths and proofs of logs: the program's and the document's are the same.
-/
open Go Go.Eng
namespace Go.Proofs.YtdenjndllgahgaaGreatDoor.Law
set_option linter.unusedVariables false
set_option linter.unusedSimpArgs false
end Go.Proofs.YtdenjndllgahgaaGreatDoor.Law

