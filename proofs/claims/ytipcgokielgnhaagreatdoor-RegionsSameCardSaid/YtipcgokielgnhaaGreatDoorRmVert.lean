import Derived.Test.YtipcgokielgnhaaGreatDoorRmRow
/-
  PLAIN LEMMAS: rows one below the other.
-/
open Go Go.Eng
namespace Go.Proofs.YtipcgokielgnhaaGreatDoor.Law
set_option linter.unusedVariables false
set_option linter.unusedSimpArgs false

theorem Run.eq {a b : Run} (h1 : a.f_from = b.f_from) (h2 : a.f_to = b.f_to) : a = b := by
 obtain ⟨x, y⟩ := a
 obtain ⟨z, w⟩ := b
 simp only at h1 h2
 rw [h1, h2]
theorem eqR_loop (b : List Run) : ∀ (a : List Run) (k : Nat), b.length = k + a.length →
  (forR (fun k x s => slices_Equal_screen_run_screen_run_L1 b k x s) a k () = some (.go ()) ∧ a = b.drop k) ∨ (forR (fun k x s => slices_Equal_screen_run_screen_run_L1 b k x s) a k () = some (.ret false) ∧ a ≠ b.drop k)
 | [], k, h => .inl ⟨rfl, by simp at h; rw [List.drop_eq_nil_of_le (by omega)]⟩
 | x :: a, k, h => by
  simp only [List.length_cons] at h
  have hlt : k < b.length := by omega
  have hg : idx b (k : Int) = some b[k] := by rw [idx_nat, List.getElem?_eq_getElem hlt]
  have hd : b.drop k = b[k] :: b.drop (k + 1) := List.drop_eq_getElem_cons hlt
  rw [forR, hd]
  have hb : slices_Equal_screen_run_screen_run_L1 b k x () = some (bif (x.f_from == b[k].f_from) && (x.f_to == b[k].f_to) then .go () else .ret false) := by
   unfold slices_Equal_screen_run_screen_run_L1
   rw [hg, Option.bind_some]
   cases x.f_from == b[k].f_from <;> cases x.f_to == b[k].f_to <;> rfl
  rw [hb, Option.bind_some]
  cases he : (x.f_from == b[k].f_from) && (x.f_to == b[k].f_to) with
  | true =>
   simp only [Bool.and_eq_true] at he
   have hx : x = b[k] := Run.eq (eq_of_beq he.1) (eq_of_beq he.2)
   simp only [cond_true]
   rcases eqR_loop b a (k + 1) (by omega) with ⟨h1, h2⟩ | ⟨h1, h2⟩
   ·exact .inl ⟨h1, by rw [hx, ← h2]⟩
   ·exact .inr ⟨h1, fun e => h2 (List.cons.inj e).2⟩
  | false =>
   simp only [cond_false]
   refine .inr ⟨trivial, fun e => ?_⟩
   have hx := (List.cons.inj e).1
   rw [hx] at he; simp at he
theorem eqR (a b : List Run) (h : a.length ≤ 1000000) : (slices_Equal_screen_run_screen_run a b = some true ∧ a = b) ∨ (slices_Equal_screen_run_screen_run a b = some false ∧ a ≠ b) := by
 unfold slices_Equal_screen_run_screen_run
 by_cases hl : a.length = b.length
 ·have : ((a.length : Int) != (b.length : Int)) = false := by rw [hl]; simp
  rw [this, cond_false, forL_eq (by omega)]
  rcases eqR_loop b a 0 (by omega) with ⟨h1, h2⟩ | ⟨h1, h2⟩
  ·exact .inl ⟨by rw [h1]; rfl, by simpa using h2⟩
  ·exact .inr ⟨by rw [h1]; rfl, by simpa using h2⟩
 ·have : ((a.length : Int) != (b.length : Int)) = true := by simp; omega
  rw [this, cond_true]
  exact .inr ⟨rfl, fun e => hl (by rw [e])⟩
theorem emit_loop (s : List Rect × List Run × Int) (y : Int) (hy : Bd y) (hf : Bd s.2.2) : ∀ (b : List Run) (k : Nat) (out : List Rect), (∀ r ∈ b, Okr r) → out.length + b.length ≤ 10000000 → forR (fun k x t => screen_region_L2 s y k x t) b k out = some (.go (out ++ b.map (toRect s.2.2 (y - s.2.2))))
 | [], k, out, _, _ => by simp [forR]
 | r :: b, k, out, hb, hl => by
  simp only [List.length_cons] at hl
  obtain ⟨r1, r2, r3⟩ := hb r (by simp)
  have hB : screen_region_L2 s y k r out = some (.go (out ++ [toRect s.2.2 (y - s.2.2) r])) := by
   unfold screen_region_L2
   unfold Bd at *
   rw [w64_id (n := r.f_to - r.f_from) (by omega), w64_id (n := y - s.2.2) (by omega), appL_ok _ _ (by simp; omega)]; rfl
  rw [forR, hB, Option.bind_some]
  simp only
  rw [emit_loop s y hy hf b (k + 1) _ (fun r hr => hb r (by simp [hr])) (by simp; omega)]
  simp
end Go.Proofs.YtipcgokielgnhaaGreatDoor.Law

