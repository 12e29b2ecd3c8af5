import Derived.Test.YtipcgokielgnhaaGreatDoorEng4
/-
  PLAIN LEMMAS: loops as they stand in the printed functions; strings and their order.
-/
namespace Go.Eng
set_option linter.unusedVariables false
set_option linter.unusedSimpArgs false

theorem forL_eq {α σ ρ : Type} {body : Nat → α → σ → Option (Ctl σ ρ)} {xs : List α} {s : σ} (hl : xs.length ≤ 1000000000000) : forL xs s body = forR body xs 0 s := by unfold forL; rw [if_pos hl]
theorem forR_inv {α σ ρ : Type} {body : Nat → α → σ → Option (Ctl σ ρ)} (I : Nat → σ → Prop) (N : Nat) : ∀ (xs : List α) (k : Nat) (s : σ), k + xs.length = N → (∀ k x s, x ∈ xs → k < N → I k s → ∃ s', body k x s = some (.go s') ∧ I (k + 1) s') → I k s → ∃ s', forR body xs k s = some (.go s') ∧ I N s'
 | [], k, s, hN, h, hi => ⟨s, rfl, by simp only [List.length_nil, Nat.add_zero] at hN; rw [← hN]; exact hi⟩
 | x :: xs, k, s, hN, h, hi => by
  simp only [List.length_cons] at hN
  obtain ⟨s1, h1, h2⟩ := h k x s (by simp) (by omega) hi
  obtain ⟨s2, h3, h4⟩ := forR_inv I N xs (k + 1) s1 (by omega) (fun k x s hx => h k x s (by simp [hx])) h2
  exact ⟨s2, by simp only [forR, h1, Option.bind_some]; exact h3, h4⟩
theorem forL_inv {α σ ρ : Type} {body : Nat → α → σ → Option (Ctl σ ρ)} (I : Nat → σ → Prop) {xs : List α} {s : σ} (hl : xs.length ≤ 1000000000000) (h : ∀ k x s, x ∈ xs → k < xs.length → I k s → ∃ s', body k x s = some (.go s') ∧ I (k + 1) s') (h0 : I 0 s) : ∃ s', forL xs s body = some (.go s') ∧ I xs.length s' := by
 obtain ⟨s', h1, h2⟩ := forR_inv I xs.length xs 0 s (by omega) h h0
 exact ⟨s', by rw [forL_eq hl]; exact h1, h2⟩
theorem idx_nat {α : Type} (xs : List α) (k : Nat) : idx xs (k : Int) = xs[k]? := by simp [idx]
theorem w64_id {n : Int} (h : -9223372036854775808 ≤ n ∧ n ≤ 9223372036854775807) : w64 n = n := w64_in n h

abbrev bl := Op.bytesLess
end Go.Eng

