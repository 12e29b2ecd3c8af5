import Derived.Test.YtiekkaelpgahoaaGreatWtFuel
/-
  PLAIN LEMMAS: the pixels of two rectangles.
-/
open Go Go.Eng
namespace Go.Proofs.YtiekkaelpgahoaaGreat.Law
set_option linter.unusedVariables false
set_option maxRecDepth 100000
theorem lit_F : law_litF = some true := by kernel_rfl
theorem lit_ok : law_lit = some true := law_lit_le _ lit_F
end Go.Proofs.YtiekkaelpgahoaaGreat.Law

