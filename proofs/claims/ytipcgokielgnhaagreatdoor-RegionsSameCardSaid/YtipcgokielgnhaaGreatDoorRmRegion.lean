import Derived.Test.YtipcgokielgnhaaGreatDoorRmSim
import Derived.Test.YtipcgokielgnhaaGreatDoorRmBase
/-
  PLAIN LEMMAS: the region is the reference's.
-/
open Go Go.Eng
namespace Go.Proofs.YtipcgokielgnhaaGreatDoor.Law
set_option linter.unusedVariables false
set_option linter.unusedSimpArgs false

theorem concat_eq (l m : List Rect) (h : l.length + m.length ≤ 1000000) : slices_Concat_api_Rect_api_Rect [l, m] = some (l ++ m) := by
 have g1 : forL [l, m] (0 : Int) (fun k x s => slices_Concat_api_Rect_api_Rect_L1 k x s) = some (.go ((l.length + m.length : Nat) : Int)) := by
  rw [forL_eq (by simp)]
  simp only [forR, slices_Concat_api_Rect_api_Rect_L1]
  have e1 : w64 (0 + (l.length : Int)) = (l.length : Int) := by rw [w64_id (by omega)]; omega
  have e2 : w64 ((l.length : Int) + (m.length : Int)) = ((l.length + m.length : Nat) : Int) := by rw [w64_id (by omega)]; omega
  have d1 : decide ((l.length : Int) < 0) = false := by simp
  have d2 : decide (((l.length + m.length : Nat) : Int) < 0) = false := by simp; omega
  simp only [e1, e2, d1, d2, cond_false, Option.bind_some]
 have g2 : ∃ b, slices_Grow_api_Rect_api_Rect_k ((l.length + m.length : Nat) : Int) = some b := by
  unfold slices_Grow_api_Rect_api_Rect_k
  have d1 : decide (((l.length + m.length : Nat) : Int) < 0) = false := by simp; omega
  have e1 : w64 (((l.length + m.length : Nat) : Int) - w64 (0 - 0)) = ((l.length + m.length : Nat) : Int) := by
   rw [show w64 (0 - 0) = 0 from rfl, w64_id (by omega)]; omega
  rw [d1, cond_false, e1]
  by_cases hp : ((l.length + m.length : Nat) : Int) > 0
  ·rw [decide_eq_true hp, cond_true]
   unfold zN
   rw [if_pos ⟨hp, by omega, by omega⟩]
   exact ⟨true, rfl⟩
  ·rw [decide_eq_false hp, cond_false]; exact ⟨false, rfl⟩
 obtain ⟨b, g2⟩ := g2
 have g3 : forL [l, m] ([] : List Rect) (fun k x s => slices_Concat_api_Rect_api_Rect_L2 k x s) = some (.go (l ++ m)) := by
  rw [forL_eq (by simp)]
  simp only [forR, slices_Concat_api_Rect_api_Rect_L2]
  rw [appL_ok _ _ (by simp; omega)]
  simp only [Option.bind_some, List.nil_append]
  rw [appL_ok _ _ (by omega)]; rfl
 unfold slices_Concat_api_Rect_api_Rect
 rw [g1, Option.bind_some]
 simp only [thenC]
 rw [g2, Option.bind_some, g3]; rfl
def has1 (x y : Int) (r : Rect) : Bool := (decide (r.X ≤ x) && decide (x < r.X + r.W)) && (decide (r.Y ≤ y) && decide (y < r.Y + r.H))
def hasB (l : List Rect) (x y : Int) : Bool := l.any (has1 x y)
theorem hasB_iff (l : List Rect) (x y : Int) : hasB l x y = true ↔ hasP l x y := by
 unfold hasB hasP
 rw [List.any_eq_true]
 simp only [has1, Bool.and_eq_true, decide_eq_true_eq]
theorem edges_loop {body : Nat → Rect → List Int → Option (Ctl (List Int) Unit)} (f : Rect → List Int) (hf : ∀ r, (f r).length = 2) : ∀ (l : List Rect) (k : Nat) (s : List Int), (∀ k r s, r ∈ l → s.length ≤ 1000000 → body k r s = some (.go (s ++ f r))) → s.length + 2 * l.length ≤ 1000000 → forR body l k s = some (.go (s ++ l.flatMap f))
 | [], k, s, _, _ => by simp [forR]
 | r :: l, k, s, h, hl => by
  simp only [List.length_cons] at hl
  have := hf r
  rw [forR, h k r s (by simp) (by omega), Option.bind_some]
  simp only
  rw [edges_loop f hf l (k + 1) _ (fun k r s hr => h k r s (by simp [hr])) (by simp; omega)]
  simp
def yE (r : Rect) : List Int := [r.Y, r.Y + r.H]
theorem flat2 {f : Rect → List Int} (hf : ∀ r, (f r).length = 2) : ∀ l : List Rect, (l.flatMap f).length = 2 * l.length
 | [] => rfl
 | r :: l => by rw [List.flatMap_cons, List.length_append, hf, flat2 hf l, List.length_cons]; omega
theorem cutsOf (e : List Int) (he : e.length ≤ 1000000) : ∃ c, ((slices_Sort_int_int_v1 e).bind fun r_22 => (sameL r_22 e).bind fun _ => (slices_Compact_int_int_v1 r_22).bind fun r_25 => some r_25) = some c ∧ c.Pairwise (· < ·) ∧ (∀ x, x ∈ c ↔ x ∈ e) ∧ c.length ≤ e.length := by
 obtain ⟨s, c, h1, h2, h3, h4, h5, h6⟩ := sortC e (by omega)
 have hsm : sameL s e = some () := by unfold sameL; rw [if_pos h2]
 exact ⟨c, by rw [h1, Option.bind_some, hsm, Option.bind_some, h3, Option.bind_some], h4, h5, h6⟩
end Go.Proofs.YtipcgokielgnhaaGreatDoor.Law

