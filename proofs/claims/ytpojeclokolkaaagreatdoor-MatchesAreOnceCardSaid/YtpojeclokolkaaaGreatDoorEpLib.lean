import Derived.Test.YtpojeclokolkaaaGreatDoorEng4
/-
  PLAIN LEMMAS: loops as they stand in the printed functions; strings and their order.
-/
namespace Go.Eng
set_option linter.unusedVariables false
set_option linter.unusedSimpArgs false
theorem forL_eq {α σ ρ : Type} {body : Nat → α → σ → Option (Ctl σ ρ)} {xs : List α} {s : σ} (hl : xs.length ≤ 1000000000000) : forL xs s body = forR body xs 0 s := by unfold forL; rw [if_pos hl]
theorem forR_inv {α σ ρ : Type} {body : Nat → α → σ → Option (Ctl σ ρ)} (I : Nat → σ → Prop) (N : Nat) : ∀ (xs : List α) (k : Nat) (s : σ), k + xs.length = N → (∀ k x s, x ∈ xs → k < N → I k s → ∃ s', body k x s = some (.go s') ∧ I (k + 1) s') → I k s → ∃ s', forR body xs k s = some (.go s') ∧ I N s'
 | [], k, s, hN, h, hi => ⟨s, rfl, by simp only [List.length_nil, Nat.add_zero] at hN; rw [← hN]; exact hi⟩
 | x :: xs, k, s, hN, h, hi => by
  simp only [List.length_cons] at hN
  obtain ⟨s1, h1, h2⟩ := h k x s (by simp) (by omega) hi
  obtain ⟨s2, h3, h4⟩ := forR_inv I N xs (k + 1) s1 (by omega) (fun k x s hx => h k x s (by simp [hx])) h2
  exact ⟨s2, by simp only [forR, h1, Option.bind_some]; exact h3, h4⟩
theorem forL_inv {α σ ρ : Type} {body : Nat → α → σ → Option (Ctl σ ρ)} (I : Nat → σ → Prop) {xs : List α} {s : σ} (hl : xs.length ≤ 1000000000000) (h : ∀ k x s, x ∈ xs → k < xs.length → I k s → ∃ s', body k x s = some (.go s') ∧ I (k + 1) s') (h0 : I 0 s) : ∃ s', forL xs s body = some (.go s') ∧ I xs.length s' := by
 obtain ⟨s', h1, h2⟩ := forR_inv I xs.length xs 0 s (by omega) h h0
 exact ⟨s', by rw [forL_eq hl]; exact h1, h2⟩
theorem thenC_go {σ ρ τ : Type} (s : σ) (f : σ → Option τ) (g : ρ → Option τ) : thenC (.go s) f g = f s := rfl
theorem thenC_ret {σ ρ τ : Type} (r : ρ) (f : σ → Option τ) (g : ρ → Option τ) : thenC (.ret r) f g = g r := rfl
theorem idx_nat {α : Type} (xs : List α) (k : Nat) : idx xs (k : Int) = xs[k]? := by simp [idx]
theorem w64_id {n : Int} (h : -9223372036854775808 ≤ n ∧ n ≤ 9223372036854775807) : w64 n = n := w64_in n h
theorem toL (s : ByteArray) : s.toList = s.data.toList := Go.Lib.toList_data s
theorem str_ext {a b : ByteArray} (h : a.toList = b.toList) : a = b := by
 rw [toL, toL] at h
 obtain ⟨⟨a⟩⟩ := a
 obtain ⟨⟨b⟩⟩ := b
 simp only at h
 rw [h]
theorem sEq_iff (a b : ByteArray) : sEq a b = true ↔ a = b := by
 simp only [sEq, beq_iff_eq]
 exact ⟨str_ext, fun h => by rw [h]⟩
theorem sEq_dec (a b : ByteArray) : sEq a b = decide (a = b) := by
 rw [Bool.eq_iff_iff, sEq_iff]; simp
theorem sNe_dec (a b : ByteArray) : sNe a b = !decide (a = b) := by
 have := sEq_dec a b; simp only [sEq, sNe] at *; rw [this]
abbrev bl := Op.bytesLess
theorem bl_lt : ∀ (x y : List UInt8), bl x y = decide (x < y)
 | _, [] => by simp [bl, Op.bytesLess]
 | [], _ :: _ => by simp [bl, Op.bytesLess]
 | a :: x, b :: y => by
  have := bl_lt x y
  simp only [bl, Op.bytesLess] at this ⊢
  rw [this, Bool.eq_iff_iff]
  simp only [Bool.or_eq_true, decide_eq_true_eq, Bool.and_eq_true, beq_iff_eq, List.cons_lt_cons_iff]
def lt (a b : ByteArray) : Prop := a.toList < b.toList
theorem sLt_iff (a b : ByteArray) : sLt a b = true ↔ lt a b := by
 show bl a.toList b.toList = true ↔ _
 rw [bl_lt]; simp [lt]
theorem lt_irr (a : ByteArray) : ¬ lt a a := List.lt_irrefl a.toList
theorem lt_trans {a b c : ByteArray} (h : lt a b) (k : lt b c) : lt a c := List.lt_trans h k
theorem sNe_nil (a : ByteArray) : sNe a ⟨#[]⟩ = decide (a.size ≠ 0) := by
 rw [sNe_dec, Go.Lib.size_eq, Bool.eq_iff_iff]
 simp only [Bool.not_eq_true', decide_eq_false_iff_not, decide_eq_true_eq, ne_eq]
 refine not_congr ⟨fun h => by rw [h]; rfl, fun h => ?_⟩
 exact str_ext (by rw [toL, List.eq_nil_of_length_eq_zero h, toL])
end Go.Eng

