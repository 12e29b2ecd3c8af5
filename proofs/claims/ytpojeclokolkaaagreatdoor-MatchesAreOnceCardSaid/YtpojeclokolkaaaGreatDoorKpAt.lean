import Derived.Test.YtpojeclokolkaaaGreatDoorEpLib
/-
  PLAIN LEMMAS: loops whose rounds know their place.
-/
open Go Go.Eng
namespace Go.Proofs.YtpojeclokolkaaaGreatDoor.Law
set_option linter.unusedVariables false
set_option linter.unusedSimpArgs false
theorem forR_at {α σ ρ : Type} {body : Nat → α → σ → Option (Ctl σ ρ)} (I : Nat → σ → Prop) (xs : List α) : ∀ (l : List α) (k : Nat) (s : σ), xs.drop k = l → k ≤ xs.length → (∀ k x s, xs[k]? = some x → I k s → ∃ s', body k x s = some (.go s') ∧ I (k + 1) s') → I k s → ∃ s', forR body l k s = some (.go s') ∧ I xs.length s'
 | [], k, s, hd, hk, h, hi => by
  have := List.drop_eq_nil_iff.1 hd
  obtain rfl : k = xs.length := by omega
  exact ⟨s, rfl, hi⟩
 | x :: l, k, s, hd, hk, h, hi => by
  obtain ⟨s1, h1, h2⟩ := h k x s (drop_get hd) hi
  obtain ⟨s2, h3, h4⟩ := forR_at I xs l (k + 1) s1 (drop_next hd) (by have := drop_lt hd; omega) h h2
  exact ⟨s2, by rw [forR, h1, Option.bind_some]; exact h3, h4⟩
theorem forL_at {α σ ρ : Type} {body : Nat → α → σ → Option (Ctl σ ρ)} (I : Nat → σ → Prop) {xs : List α} {s : σ} (hl : xs.length ≤ 1000000000000) (h : ∀ k x s, xs[k]? = some x → I k s → ∃ s', body k x s = some (.go s') ∧ I (k + 1) s') (h0 : I 0 s) : ∃ s', forL xs s body = some (.go s') ∧ I xs.length s' := by
 rw [forL_eq hl]
 exact forR_at I xs xs 0 s rfl (Nat.zero_le _) h h0
theorem lt_lit {a b : ByteArray} (h : sLt a b = true) : lt a b := (sLt_iff a b).1 h
end Go.Proofs.YtpojeclokolkaaaGreatDoor.Law

