import Derived.Test.YtiekkaelpgahoaaGreatEpKey
import Derived.Test.YtiekkaelpgahoaaGreatRmRegion
/-
  PLAIN LEMMAS: lists checked one by one.
-/
open Go Go.Eng
namespace Go.Proofs.YtiekkaelpgahoaaGreat.Law
set_option linter.unusedVariables false
set_option linter.unusedSimpArgs false

def nilS : ByteArray := ⟨#[]⟩
def prevK {α : Type} (key : α → ByteArray) (l : List α) (k : Nat) : ByteArray := if k = 0 then nilS else match l[k - 1]? with | some y => key y | none => nilS
def chk {α : Type} (key : α → ByteArray) (stp : ByteArray → α → Int) : ByteArray → List α → Int
 | _, [] => 0
 | last, x :: xs => bif stp last x == 0 then chk key stp (key x) xs else stp last x
def outC (e : Int) : Ctl Unit Int := bif e == 0 then .go () else .ret e

theorem chk_prev {α : Type} {key : α → ByteArray} {stp : ByteArray → α → Int} {body : Nat → α → Unit → Option (Ctl Unit Int)} (l : List α) : ∀ (xs : List α) (k : Nat), l.drop k = xs → (∀ k x, l[k]? = some x → body k x () = some (outC (stp (prevK key l k) x))) →
  forR body xs k () = some (outC (chk key stp (prevK key l k) xs))
 | [], k, h, hb => rfl
 | x :: xs, k, h, hb => by
  have hg := drop_get h
  rw [forR, hb k x hg, Option.bind_some, chk]
  cases he : stp (prevK key l k) x == 0 with
  | true =>
   simp only [outC, he, cond_true]
   rw [chk_prev l xs (k + 1) (drop_next h) hb]
   have : prevK key l (k + 1) = key x := by simp [prevK, hg]
   rw [this]; rfl
  | false => simp only [outC, he, cond_false]
theorem idx_prev {α : Type} {l : List α} {k : Nat} {x : α} (h : l[k]? = some x) (hk : 0 < k) (hl : l.length ≤ 1000000000) : ∃ y, idx l (w64 ((k : Int) - 1)) = some y ∧ l[k - 1]? = some y := by
 have hlt : k < l.length := (List.getElem?_eq_some_iff.1 h).1
 rw [w64_id (by omega), show (k : Int) - 1 = ((k - 1 : Nat) : Int) by omega, idx_nat]
 exact ⟨l[k - 1], List.getElem?_eq_getElem (by omega), List.getElem?_eq_getElem (by omega)⟩

theorem prev_test {α : Type} {key : α → ByteArray} {l : List α} {k : Nat} {x : α} {s : ByteArray} (h : l[k]? = some x) (hl : l.length ≤ 1000000000) (hs : s.size ≠ 0) :
  (bif decide ((k : Int) > 0) then (idx l (w64 ((k : Int) - 1))).bind fun y => some (sLe s (key y)) else some false) = some (sLe s (prevK key l k)) := by
 by_cases hk : 0 < k
 ·obtain ⟨y, h1, h2⟩ := idx_prev h hk hl
  have hd : decide ((k : Int) > 0) = true := by simp; omega
  simp only [hd, cond_true, h1, Option.bind_some, prevK, if_neg (show ¬ k = 0 by omega), h2]
 ·have hk0 : k = 0 := by omega
  subst hk0
  simp only [prevK, if_pos, nilS, sLe_nil, decide_eq_false hs]
  rfl


theorem chk_go {α : Type} {key : α → ByteArray} {stp : ByteArray → α → Int} {body : Nat → α → ByteArray → Option (Ctl ByteArray Int)} : ∀ (xs : List α) (k : Nat) (last : ByteArray), (∀ k x last, x ∈ xs → body k x last = some (bif stp last x == 0 then .go (key x) else .ret (stp last x))) →
  ∃ last', forR body xs k last = some (bif chk key stp last xs == 0 then .go last' else .ret (chk key stp last xs))
 | [], k, last, hb => ⟨last, rfl⟩
 | x :: xs, k, last, hb => by
  rw [forR, hb k x last (by simp), Option.bind_some, chk]
  cases he : stp last x == 0 with
  | true => exact chk_go xs (k + 1) (key x) (fun k y last hy => hb k y last (by simp [hy]))
  | false =>
   refine ⟨last, ?_⟩
   simp only [cond_false, he]
def badS (n : Int) : Bool := outB n 1 20000
theorem isSide_eq (n : Int) : screen_isSide n = some (!badS n) := by unfold screen_isSide; rw [outside_eq]; rfl
theorem side_eq (n : Int) : ref_side n = some (!badS n) := by unfold ref_side; rw [in_eq]; rfl
theorem sides2 (a b : Int) : screen_sidesFault [a, b] = some (bif badS a || badS b then 1 else 0) := by
 unfold screen_sidesFault
 rw [forL_eq (by simp)]
 simp only [forR, screen_sidesFault_L1, isSide_eq, Option.bind_some, Bool.not_not]
 cases badS a <;> cases badS b <;> rfl
def insB (r : Rect) (w h : Int) : Bool := decide (r.X ≥ 0) && (decide (r.Y ≥ 0) && (decide (w64 (r.X + r.W) ≤ w) && decide (w64 (r.Y + r.H) ≤ h)))
theorem inside_eq (r : Rect) (w h : Int) : screen_inside r w h = some (insB r w h) := by
 unfold screen_inside insB
 cases decide (r.X ≥ 0) <;> cases decide (r.Y ≥ 0) <;> cases decide (w64 (r.X + r.W) ≤ w) <;> rfl
theorem within_eq (r : Rect) (w h : Int) : ref_within r w h = some (insB r w h) := inside_eq r w h
end Go.Proofs.YtiekkaelpgahoaaGreat.Law

