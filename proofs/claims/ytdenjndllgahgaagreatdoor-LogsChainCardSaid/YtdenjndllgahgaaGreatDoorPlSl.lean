import Derived.Test.YtdenjndllgahgaaGreatDoorEng5
import Derived.Test.YtdenjndllgahgaaGreatDoorEpLib
/-
  PLAIN LEMMAS: IndexFunc and DeleteFunc of the library, over plain lists.
-/
namespace Go.Eng
set_option linter.unusedVariables false
set_option linter.unusedSimpArgs false
end Go.Eng

