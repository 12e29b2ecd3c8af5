import Derived.Test.YtipcgokielgnhaaGreatDoorEng4
/-
  PLAIN LEMMAS: loops as they stand in the printed functions; strings and their order.
-/
namespace Go.Eng
set_option linter.unusedVariables false
set_option linter.unusedSimpArgs false

theorem forL_eq {α σ ρ : Type} {body : Nat → α → σ → Option (Ctl σ ρ)} {xs : List α} {s : σ} (hl : xs.length ≤ 1000000000000) : forL xs s body = forR body xs 0 s := by unfold forL; rw [if_pos hl]
theorem idx_nat {α : Type} (xs : List α) (k : Nat) : idx xs (k : Int) = xs[k]? := by simp [idx]
theorem w64_id {n : Int} (h : -9223372036854775808 ≤ n ∧ n ≤ 9223372036854775807) : w64 n = n := w64_in n h

end Go.Eng

