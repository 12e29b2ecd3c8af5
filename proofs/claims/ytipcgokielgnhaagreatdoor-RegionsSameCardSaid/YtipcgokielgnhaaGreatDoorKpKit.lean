import Derived.Test.YtipcgokielgnhaaGreatDoorKpReg
import Derived.Test.YtipcgokielgnhaaGreatDoorRmScale
/-
  PLAIN LEMMAS: the calls that the laws make, by what they answer.
-/
open Go Go.Eng
namespace Go.Proofs.YtipcgokielgnhaaGreatDoor.Law
set_option linter.unusedVariables false
set_option linter.unusedSimpArgs false

theorem eqRects (l : List Rect) (hl : l.length ≤ 1000000) : slices_Equal_api_Rect_api_Rect l l = some true := by
 have key : ∀ (xs : List Rect) (k : Nat), l.drop k = xs → forR (fun k x s => slices_Equal_api_Rect_api_Rect_L1 l k x s) xs k () = some (.go ()) := by
  intro xs
  induction xs with
  | nil => exact fun _ _ => rfl
  | cons x xs ih =>
   intro k h
   have hg : idx l (k : Int) = some x := drop_idx h
   rw [forR]
   have : slices_Equal_api_Rect_api_Rect_L1 l k x () = some (.go ()) := by
    unfold slices_Equal_api_Rect_api_Rect_L1
    rw [hg]; simp
   rw [this, Option.bind_some]
   exact ih (k + 1) (drop_next h)
 unfold slices_Equal_api_Rect_api_Rect
 have : ((l.length : Int) != (l.length : Int)) = false := by simp
 rw [this, cond_false, forL_eq (by omega), key l 0 rfl]; rfl
end Go.Proofs.YtipcgokielgnhaaGreatDoor.Law

