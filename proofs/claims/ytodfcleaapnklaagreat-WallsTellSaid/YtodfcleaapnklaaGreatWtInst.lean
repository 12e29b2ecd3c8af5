import Derived.Test.YtodfcleaapnklaaGreatRmRegion
/-
  PLAIN LEMMAS: the reference's region here.
-/
open Go Go.Eng
namespace Go.Proofs.YtodfcleaapnklaaGreat.Law
set_option linter.unusedVariables false
set_option linter.unusedSimpArgs false

theorem reg_v1 (xs ys : List Int) (l m : List Rect) : (fun s => ref_regionOf_v1_L3 ys xs l m s) = fun s => regL3 (fun x y => ref_WithoutOf_1 x y l m) ys xs s := rfl
theorem withoutOf_ok (l m : List Rect) (hl : ∀ r ∈ l, Fine r) (hm : ∀ r ∈ m, Fine r) (h1 : l.length ≤ 12) (h2 : m.length ≤ 12) : ∃ res, screen_region l m = some res ∧ ref_WithoutOf l m = some res ∧ res.length ≤ (2 * (l.length + m.length) + 1) * (l.length * (m.length + 1)) := by
  obtain ⟨xs, ys, res, c1, c2, c3, c4, c5⟩ := region_ok (fun x y => ref_WithoutOf_1 x y l m) l m hl hm h1 h2 (fun x y => by
    unfold ref_WithoutOf_1
    rw [some_eq hl (by omega), some_eq hm (by omega)]
    cases hasB l x y <;> rfl)
  refine ⟨res, c3, ?_, c5⟩
  unfold ref_WithoutOf ref_regionOf_v1
  rw [concat_eq l m (by omega), Option.bind_some, c1, Option.bind_some, c2, Option.bind_some, reg_v1, c4]; rfl
end Go.Proofs.YtodfcleaapnklaaGreat.Law
