import Derived.Test.YtodfcleaapnklaaRgPic
import Derived.Test.YtodfcleaapnklaaRgGen
import Derived.Test.YtodfcleaapnklaaRgLit
/-
  THE PLAIN LAW: Turned, Scale and Fit.
-/
open Go Go.Eng
namespace Go.Proofs.Ytodfcleaapnklaa.Law
set_option linter.unusedVariables false
set_option linter.unusedSimpArgs false

theorem picturesScale (l : List Int) : law_PicturesScale l = some true := by
  unfold law_PicturesScale
  have h0 : Ok (⟨l, 0⟩ : Stream) 0 := ⟨Int.le_refl _, Int.le_refl _⟩
  obtain ⟨w, s1, a1, _, a2⟩ := side_ok _ h0 (by decide)
  obtain ⟨h, s2, b1, _, b2⟩ := side_ok _ a2 (by decide)
  obtain ⟨tw, s3, c1, _, c2⟩ := side_ok _ b2 (by decide)
  obtain ⟨th, s4, d1, _, d2⟩ := side_ok _ c2 (by decide)
  obtain ⟨q, s5, e1, _, e2⟩ := pick_ok s4 [0, 1, 2, 3, (-1), 4] d2 (by decide) (by simp) (by simp)
  obtain ⟨how, s6, f1, _, f2⟩ := pick_ok s5 [1, 2, 3, 2, 3, 0, 4] e2 (by decide) (by simp) (by simp)
  obtain ⟨r, s7, g1, _⟩ := inner_ok s6 w h f2 (by decide)
  obtain ⟨x, x1, x2⟩ := turned_eq r w h q
  obtain ⟨y, y1, y2⟩ := scale_eq r w h tw th
  obtain ⟨z, z1, z2⟩ := fit_eq w h tw th how
  simp only [a1, b1, c1, d1, e1, f1, g1, x1, x2, y1, y2, z1, z2, Option.bind_some, beq_self_eq_true, Bool.and_self, cond_true, lit_ok]
end Go.Proofs.Ytodfcleaapnklaa.Law
