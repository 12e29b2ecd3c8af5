import Derived.Test.YtpojeclokolkaaaGreatDoorRgLe
/-
  PLAIN LEMMAS: sorting that can be carried out.
-/
open Go Go.Eng
namespace Go.Proofs.YtpojeclokolkaaaGreatDoor.Law
set_option linter.unusedVariables false
set_option linter.unusedSimpArgs false
def insI (x : Int) : List Int → List Int
 | [] => [x]
 | y :: l => bif decide (x ≤ y) then x :: y :: l else y :: insI x l
def isortI : List Int → List Int
 | [] => []
 | x :: l => insI x (isortI l)
theorem insI_perm (x : Int) : ∀ l, (insI x l).Perm (x :: l)
 | [] => .refl _
 | y :: l => by
  unfold insI
  cases decide (x ≤ y) with
  | true => exact .refl _
  | false => exact ((insI_perm x l).cons y).trans (List.Perm.swap x y l)
theorem isortI_perm : ∀ l, (isortI l).Perm l
 | [] => .refl _
 | x :: l => (insI_perm x _).trans ((isortI_perm l).cons x)
theorem insI_sorted (x : Int) : ∀ l : List Int, l.Pairwise (· ≤ ·) → (insI x l).Pairwise (· ≤ ·)
 | [], _ => List.pairwise_singleton _ _
 | y :: l, h => by
  obtain ⟨h1, h2⟩ := List.pairwise_cons.1 h
  unfold insI
  by_cases hx : x ≤ y
  ·rw [decide_eq_true hx, cond_true]
   exact List.pairwise_cons.2 ⟨fun z hz => by
    rcases List.mem_cons.1 hz with rfl | hz
    ·exact hx
    ·exact Int.le_trans hx (h1 z hz), h⟩
  ·rw [decide_eq_false hx, cond_false]
   exact List.pairwise_cons.2 ⟨fun z hz => by
    rcases List.mem_cons.1 ((insI_perm x l).mem_iff.1 hz) with rfl | hz
    ·omega
    ·exact h1 z hz, insI_sorted x l h2⟩
theorem isortI_sorted : ∀ l, (isortI l).Pairwise (· ≤ ·)
 | [] => .nil
 | x :: l => insI_sorted x _ (isortI_sorted l)
theorem isortI_eq (l : List Int) : l.mergeSort (fun x y => decide (x ≤ y)) = isortI l := by
 refine List.Perm.eq_of_pairwise (le := (· ≤ ·)) (fun a b _ _ h1 h2 => Int.le_antisymm h1 h2) ?_ (isortI_sorted l) ((List.mergeSort_perm l _).trans (isortI_perm l).symm)
 have := List.pairwise_mergeSort (le := fun (x y : Int) => decide (x ≤ y)) (fun a b c => by simp; omega) (fun a b => by simp; omega) l
 exact this.imp (by simp)
def sortF (l : List Int) : Option (List Int) := bif Nat.ble l.length 1000 then some (isortI l) else none
theorem sortF_le (l : List Int) : Le (sortF l) (slices_Sort_int_int_v1 l) := fun r h => by
 unfold sortF at h
 cases hb : Nat.ble l.length 1000 with
 | false => rw [hb] at h; cases h
 | true =>
  rw [hb, cond_true] at h
  have := Nat.le_of_ble_eq_true hb
  unfold slices_Sort_int_int_v1 sortI
  rw [if_pos (by omega), isortI_eq]; exact h
end Go.Proofs.YtpojeclokolkaaaGreatDoor.Law

