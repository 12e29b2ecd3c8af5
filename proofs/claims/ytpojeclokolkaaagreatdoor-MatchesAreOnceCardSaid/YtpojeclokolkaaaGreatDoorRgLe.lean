import Derived.Test.YtpojeclokolkaaaGreatDoorDefs
/-
  PLAIN LEMMAS: copies of functions whose loops go round 300 times at most.
-/
open Go Go.Eng
namespace Go.Proofs.YtpojeclokolkaaaGreatDoor.Law
set_option linter.unusedVariables false
set_option linter.unusedSimpArgs false
def loopF {σ ρ : Type} (s : σ) (body : σ → Option (Ctl σ ρ)) : Option (Ctl σ ρ) := iterN body 300 s
def Le {α : Type} (a b : Option α) : Prop := ∀ r, a = some r → b = some r
theorem Le.refl {α : Type} (a : Option α) : Le a a := fun _ h => h
theorem Le.bind {α β : Type} {a b : Option α} {f g : α → Option β} (h : Le a b) (k : ∀ x, Le (f x) (g x)) : Le (a.bind f) (b.bind g) := fun r e => by
 obtain ⟨x, h1, h2⟩ := Option.bind_eq_some_iff.1 e
 rw [h x h1]; exact k x r h2
theorem Le.cond {α : Type} {a b c d : Option α} {t : Bool} (h : Le a c) (k : Le b d) : Le (bif t then a else b) (bif t then c else d) := by
 cases t
 ·exact k
 ·exact h
theorem Le.thenC {σ ρ τ : Type} {o : Ctl σ ρ} {f f' : σ → Option τ} {g g' : ρ → Option τ} (h : ∀ x, Le (f x) (f' x)) (k : ∀ x, Le (g x) (g' x)) : Le (Go.Eng.thenC o f g) (Go.Eng.thenC o f' g') := by
 cases o
 ·exact h _
 ·exact Le.refl _
 ·exact k _
theorem Le.forR {α σ ρ : Type} {b b' : Nat → α → σ → Option (Ctl σ ρ)} (h : ∀ k x s, Le (b k x s) (b' k x s)) : ∀ (xs : List α) (k : Nat) (s : σ), Le (Go.Eng.forR b xs k s) (Go.Eng.forR b' xs k s)
 | [], k, s => Le.refl _
 | x :: xs, k, s => Le.bind (h k x s) (fun c => by
   cases c with
   | go s' => exact Le.forR h xs _ _
   | brk s' => exact Le.refl _
   | ret r => exact Le.refl _)
theorem Le.forL {α σ ρ : Type} {xs : List α} {s : σ} {b b' : Nat → α → σ → Option (Ctl σ ρ)} (h : ∀ k x s, Le (b k x s) (b' k x s)) : Le (Go.Eng.forL xs s b) (Go.Eng.forL xs s b') := by
 unfold Go.Eng.forL
 split
 ·exact Le.forR h xs 0 s
 ·exact Le.refl _
theorem Le.iterN {σ ρ : Type} {b b' : σ → Option (Ctl σ ρ)} (h : ∀ s, Le (b s) (b' s)) : ∀ (n : Nat) (s : σ), Le (Go.Eng.iterN b n s) (Go.Eng.iterN b' n s)
 | 0, s => Le.refl _
 | n + 1, s => Le.bind (h s) (fun c => by
   cases c with
   | go s' => exact Le.iterN h n s'
   | brk s' => exact Le.refl _
   | ret r => exact Le.refl _)
theorem Le.loop {σ ρ : Type} {s : σ} {b b' : σ → Option (Ctl σ ρ)} (h : ∀ s, Le (b s) (b' s)) : Le (loopF s b) (loopO s b') := fun r e => iter_loopO (Le.iterN h _ _ r e)
end Go.Proofs.YtpojeclokolkaaaGreatDoor.Law

