/-
  THE PLAIN LAW (part 2).
-/
import Derived.Test.YtpojeclokolkaaaGreatDoorPl1
open Go Go.Eng
namespace Go.Proofs.YtpojeclokolkaaaGreatDoor.Law
set_option linter.unusedVariables false
set_option linter.unusedSimpArgs false
end Go.Proofs.YtpojeclokolkaaaGreatDoor.Law

open Go Go.Eng
namespace Go.Proofs.YtpojeclokolkaaaGreatDoor.Law
set_option linter.unusedVariables false
set_option linter.unusedSimpArgs false
theorem badR_fine {r : Rect} (h : badR r = false) : Fine r := by
 unfold badR at h
 simp only [Bool.or_eq_false_iff] at h
 obtain ⟨⟨⟨h1, h2⟩, h3⟩, h4⟩ := h
 have h1 := outB_f h1
 have h2 := outB_f h2
 rw [w64_id (by omega)] at h3 h4
 have h3 := outB_f h3
 have h4 := outB_f h4
 exact ⟨by omega, by omega, by omega, by omega, by omega⟩
def has1 (x y : Int) (r : Rect) : Bool := (decide (r.X ≤ x) && decide (x < r.X + r.W)) && (decide (r.Y ≤ y) && decide (y < r.Y + r.H))
def hasB (l : List Rect) (x y : Int) : Bool := l.any (has1 x y)
end Go.Proofs.YtpojeclokolkaaaGreatDoor.Law

open Go Go.Eng
namespace Go.Proofs.YtpojeclokolkaaaGreatDoor.Law
set_option linter.unusedVariables false
set_option linter.unusedSimpArgs false
def outC (e : Int) : Ctl Unit Int := bif e == 0 then .go () else .ret e
theorem outC_then (e : Int) : thenC (outC e) (fun _ => some (0 : Int)) (fun r => some r) = some e := by
 unfold outC
 cases h : e == 0 with
 | true => simp only [cond_true, thenC_go]; rw [eq_of_beq h]
 | false => rfl
theorem idx_prev {α : Type} {l : List α} {k : Nat} {x : α} (h : l[k]? = some x) (hk : 0 < k) (hl : l.length ≤ 1000000000) : ∃ y, idx l (w64 ((k : Int) - 1)) = some y ∧ l[k - 1]? = some y := by
 have hlt : k < l.length := (List.getElem?_eq_some_iff.1 h).1
 rw [w64_id (by omega), show (k : Int) - 1 = ((k - 1 : Nat) : Int) by omega, idx_nat]
 exact ⟨l[k - 1], List.getElem?_eq_getElem (by omega), List.getElem?_eq_getElem (by omega)⟩
end Go.Proofs.YtpojeclokolkaaaGreatDoor.Law

open Go Go.Eng
namespace Go.Proofs.YtpojeclokolkaaaGreatDoor.Law
set_option linter.unusedVariables false
set_option linter.unusedSimpArgs false
def momB (n : Int) : Bool := !outB n 0 345686399999
theorem isMoment_eq (n : Int) : kit_IsMoment n = some (momB n) := by
 unfold kit_IsMoment momB outB
 have e1 : decide (n ≥ 0) = !decide (n < 0) := by rw [Bool.eq_iff_iff]; simp
 have e2 : decide (n < 345686400000) = !decide (n > 345686399999) := by rw [Bool.eq_iff_iff]; simp; omega
 rw [e1, e2]
 cases decide (n < 0) <;> cases decide (n > 345686399999) <;> rfl
def or0 (a b : Int) : Int := bif a == 0 then b else a
theorem cmpB_spec (a b : ByteArray) : (lt a b ∧ cmpB a b = -1) ∨ (a = b ∧ cmpB a b = 0) ∨ (lt b a ∧ cmpB a b = 1) := by
 have key : ∀ (x y : List UInt8), (x < y ∧ Lib.compareBytes x y = -1) ∨ (x = y ∧ Lib.compareBytes x y = 0) ∨ (y < x ∧ Lib.compareBytes x y = 1) := by
  intro x
  induction x with
  | nil => intro y; cases y with
   | nil => exact .inr (.inl ⟨rfl, rfl⟩)
   | cons b y => exact .inl ⟨by simp, rfl⟩
  | cons a x ih => intro y; cases y with
   | nil => exact .inr (.inr ⟨by simp, rfl⟩)
   | cons b y =>
    simp only [Lib.compareBytes, List.cons_lt_cons_iff, List.cons.injEq]
    by_cases h1 : a < b
    ·exact .inl ⟨.inl h1, by rw [if_pos h1]⟩
    ·by_cases h2 : b < a
     ·exact .inr (.inr ⟨.inl h2, by rw [if_neg h1, if_pos h2]⟩)
     ·have e : a = b := UInt8.le_antisymm (UInt8.not_lt.1 h2) (UInt8.not_lt.1 h1)
      subst e
      rw [if_neg h1, if_neg h1]
      rcases ih y with ⟨h, k⟩ | ⟨h, k⟩ | ⟨h, k⟩
      ·exact .inl ⟨.inr ⟨rfl, h⟩, k⟩
      ·exact .inr (.inl ⟨⟨rfl, h⟩, k⟩)
      ·exact .inr (.inr ⟨.inr ⟨rfl, h⟩, k⟩)
 unfold cmpB lt
 rw [toL, toL]
 rcases key a.data.toList b.data.toList with ⟨h, k⟩ | ⟨h, k⟩ | ⟨h, k⟩
 ·exact .inl ⟨h, k⟩
 ·exact .inr (.inl ⟨str_ext (by rw [toL, toL]; exact h), k⟩)
 ·exact .inr (.inr ⟨h, k⟩)
theorem compare_eq (a b : ByteArray) : strings_Compare a b = some (cmpB a b) := rfl
def cmpI (a b : Int) : Int := if a < b then -1 else if a > b then 1 else 0
theorem cmpInt_eq (a b : Int) : cmp_Compare_int a b = some (cmpI a b) := by
 have e : ∀ x : Int, (x != x) = false := by simp
 unfold cmp_Compare_int cmp_isNaN_int cmpI
 simp only [e, Option.bind_some, cond_false]
 by_cases h : a < b
 ·simp only [decide_eq_true h, cond_true, if_pos h]
 ·by_cases h2 : a > b
  ·simp only [decide_eq_false h, decide_eq_true h2, cond_true, cond_false, if_neg h, if_pos h2]
  ·simp only [decide_eq_false h, decide_eq_false h2, cond_false, if_neg h, if_neg h2]
theorem or2_eq (a b : Int) : cmp_Or_int [a, b] = some (or0 a b) := by
 unfold cmp_Or_int or0
 rw [forL_eq (by simp)]
 simp only [forR, cmp_Or_int_L1]
 cases ha : a == 0 with
 | false =>
  have : (a != 0) = true := by simp [bne, ha]
  simp only [this, cond_true, cond_false, Option.bind_some, thenC]
 | true =>
  have : (a != 0) = false := by simp [bne, ha]
  simp only [this, cond_true, cond_false, Option.bind_some]
  cases hb : b == 0 with
  | false =>
   have : (b != 0) = true := by simp [bne, hb]
   simp only [this, cond_true, Option.bind_some, thenC]
  | true =>
   have : (b != 0) = false := by simp [bne, hb]
   simp only [this, cond_false, Option.bind_some, thenC]
   rw [eq_of_beq hb]
theorem inR_ok {α : Type} {i : Int} {xs : List α} (h0 : 0 ≤ i) (h1 : i < xs.length) : inR i xs = some () := by unfold inR; rw [if_pos ⟨h0, by omega⟩]
end Go.Proofs.YtpojeclokolkaaaGreatDoor.Law

open Go Go.Eng
namespace Go.Proofs.YtpojeclokolkaaaGreatDoor.Law
set_option linter.unusedVariables false
set_option linter.unusedSimpArgs false
theorem or3_eq (a b c : Int) : cmp_Or_int [a, b, c] = some (or0 a (or0 b c)) := by
 unfold cmp_Or_int or0
 rw [forL_eq (by simp)]
 simp only [forR, cmp_Or_int_L1]
 cases ha : a == 0 with
 | false =>
  have : (a != 0) = true := by simp [bne, ha]
  simp only [this, cond_true, cond_false, Option.bind_some, thenC]
 | true =>
  have : (a != 0) = false := by simp [bne, ha]
  simp only [this, cond_true, cond_false, Option.bind_some]
  cases hb : b == 0 with
  | false =>
   have : (b != 0) = true := by simp [bne, hb]
   simp only [this, cond_true, cond_false, Option.bind_some, thenC]
  | true =>
   have : (b != 0) = false := by simp [bne, hb]
   simp only [this, cond_true, cond_false, Option.bind_some]
   cases hc : c == 0 with
   | false =>
    have : (c != 0) = true := by simp [bne, hc]
    simp only [this, cond_true, Option.bind_some, thenC]
   | true =>
    have : (c != 0) = false := by simp [bne, hc]
    simp only [this, cond_false, Option.bind_some, thenC]
    rw [eq_of_beq hc]
theorem or0_neg {a b : Int} : or0 a b < 0 ↔ a < 0 ∨ a = 0 ∧ b < 0 := by
 unfold or0
 by_cases h : a = 0
 ·subst h; simp
 ·have : (a == 0) = false := by simpa using h
  rw [this, cond_false]; omega
theorem or0_zero {a b : Int} : or0 a b = 0 ↔ a = 0 ∧ b = 0 := by
 unfold or0
 by_cases h : a = 0
 ·subst h; simp
 ·have : (a == 0) = false := by simpa using h
  rw [this, cond_false]; omega
theorem cmpI_neg {a b : Int} : cmpI a b < 0 ↔ a < b := by
 unfold cmpI
 split
 ·omega
 ·split <;> omega
theorem cmpI_zero {a b : Int} : cmpI a b = 0 ↔ a = b := by
 unfold cmpI
 split
 ·omega
 ·split <;> omega
theorem cmpB_neg {a b : ByteArray} : cmpB a b < 0 ↔ lt a b := by
 rcases cmpB_spec a b with ⟨h, e⟩ | ⟨h, e⟩ | ⟨h, e⟩
 ·rw [e]; exact ⟨fun _ => h, fun _ => by decide⟩
 ·rw [e, h]; exact ⟨fun k => absurd k (by decide), fun k => absurd k (lt_irr _)⟩
 ·rw [e]; exact ⟨fun k => absurd k (by decide), fun k => absurd (lt_trans k h) (lt_irr _)⟩
theorem lt_ntr {a b c : ByteArray} (h : ¬ lt a b) (k : ¬ lt b c) : ¬ lt a c := fun q => by
 rcases lt_tri a b with e | e | e
 ·exact h e
 ·rw [e] at q; exact k q
 ·exact k (lt_trans e q)
end Go.Proofs.YtpojeclokolkaaaGreatDoor.Law

open Go Go.Eng
namespace Go.Proofs.YtpojeclokolkaaaGreatDoor.Law
set_option linter.unusedVariables false
set_option linter.unusedSimpArgs false
theorem sort12 {α : Type} {cmp : α → α → Option Int} (c : α → α → Int) {S : List α → Option (List α)} (hS : ∀ x, S x = (math_bits_Len (IntKind.u64.wrap (x.length : Int))).bind fun r_3 => (pdqAll cmp x 0 (x.length : Int) r_3).bind fun r_5 => (sameL r_5 x).bind fun _ => some r_5)
  {xs : List α} (hl : xs.length ≤ 12) (hF : ∀ a ∈ xs, ∀ b ∈ xs, cmp a b = some (c a b)) (has : ∀ a b, c a b < 0 → ¬ c b a < 0) (hn : ∀ a b d, ¬ c a b < 0 → ¬ c b d < 0 → ¬ c a d < 0) :
  ∃ r, S xs = some r ∧ r.Perm xs ∧ r.Pairwise (fun a b => ¬ c b a < 0) := by
 obtain ⟨k, hk⟩ := len_ok xs.length hl
 obtain ⟨s, h1, h2, h3⟩ := pdq_ok (cmp := cmp) (le := fun a b => ¬ c b a < 0) (p := (· ∈ xs)) (fun a b ha hb => ⟨c a b, hF a ha b hb, fun h => has a b h, fun h => h⟩) (fun a b d h k => hn d b a k h) xs hl (fun x hx => hx) k
 refine ⟨s, ?_, h2, h3⟩
 have hsm : sameL s xs = some () := by unfold sameL; rw [if_pos h2.length_eq]
 rw [hS, hk, Option.bind_some, h1, Option.bind_some, hsm]; rfl
end Go.Proofs.YtpojeclokolkaaaGreatDoor.Law

open Go Go.Eng
namespace Go.Proofs.YtpojeclokolkaaaGreatDoor.Law
set_option linter.unusedVariables false
set_option linter.unusedSimpArgs false
theorem forR_at {α σ ρ : Type} {body : Nat → α → σ → Option (Ctl σ ρ)} (I : Nat → σ → Prop) (xs : List α) : ∀ (l : List α) (k : Nat) (s : σ), xs.drop k = l → k ≤ xs.length → (∀ k x s, xs[k]? = some x → I k s → ∃ s', body k x s = some (.go s') ∧ I (k + 1) s') → I k s → ∃ s', forR body l k s = some (.go s') ∧ I xs.length s'
 | [], k, s, hd, hk, h, hi => by
  have := List.drop_eq_nil_iff.1 hd
  obtain rfl : k = xs.length := by omega
  exact ⟨s, rfl, hi⟩
 | x :: l, k, s, hd, hk, h, hi => by
  obtain ⟨s1, h1, h2⟩ := h k x s (drop_get hd) hi
  obtain ⟨s2, h3, h4⟩ := forR_at I xs l (k + 1) s1 (drop_next hd) (by have := drop_lt hd; omega) h h2
  exact ⟨s2, by rw [forR, h1, Option.bind_some]; exact h3, h4⟩
theorem forL_at {α σ ρ : Type} {body : Nat → α → σ → Option (Ctl σ ρ)} (I : Nat → σ → Prop) {xs : List α} {s : σ} (hl : xs.length ≤ 1000000000000) (h : ∀ k x s, xs[k]? = some x → I k s → ∃ s', body k x s = some (.go s') ∧ I (k + 1) s') (h0 : I 0 s) : ∃ s', forL xs s body = some (.go s') ∧ I xs.length s' := by
 rw [forL_eq hl]
 exact forR_at I xs xs 0 s rfl (Nat.zero_le _) h h0
theorem sub_next {α β : Type} {f : α → β} {ks : List β} {k : Nat} {x : β} {l : List α} (hx : ks[k]? = some x) (h : (l.map f).Sublist (ks.take k)) : (l.map f).Sublist (ks.take (k + 1)) ∧ ∀ c, f c = x → ((l ++ [c]).map f).Sublist (ks.take (k + 1)) := by
 have e : ks.take (k + 1) = ks.take k ++ [x] := by
  rw [List.take_add_one, hx]; rfl
 rw [e]
 refine ⟨h.trans (List.sublist_append_left _ _), fun c hc => ?_⟩
 rw [List.map_append]
 refine h.append ?_
 rw [List.map_cons, hc]
 exact List.Sublist.refl _
theorem lt_lit {a b : ByteArray} (h : sLt a b = true) : lt a b := (sLt_iff a b).1 h
end Go.Proofs.YtpojeclokolkaaaGreatDoor.Law

open Go Go.Eng
namespace Go.Proofs.YtpojeclokolkaaaGreatDoor.Law
set_option linter.unusedVariables false
set_option linter.unusedSimpArgs false
structure Band where
 a : Int
 b : Int
 row : List Run
end Go.Proofs.YtpojeclokolkaaaGreatDoor.Law

open Go Go.Eng
namespace Go.Proofs.YtpojeclokolkaaaGreatDoor.Law
set_option linter.unusedVariables false
set_option linter.unusedSimpArgs false
open Classical in
noncomputable def bandsOf : List (Int × List Run) → List Run → Int → List Band
 | [], _, _ => []
 | (y, R) :: l, band, fr => if band = R then bandsOf l band fr else if band = [] then bandsOf l R y else ⟨fr, y, band⟩ :: bandsOf l R y
end Go.Proofs.YtpojeclokolkaaaGreatDoor.Law

open Go Go.Eng
namespace Go.Proofs.YtpojeclokolkaaaGreatDoor.Law
set_option linter.unusedVariables false
set_option linter.unusedSimpArgs false
end Go.Proofs.YtpojeclokolkaaaGreatDoor.Law

open Go Go.Eng
namespace Go.Proofs.YtpojeclokolkaaaGreatDoor.Law
set_option linter.unusedVariables false
set_option linter.unusedSimpArgs false
end Go.Proofs.YtpojeclokolkaaaGreatDoor.Law

open Go Go.Eng
namespace Go.Proofs.YtpojeclokolkaaaGreatDoor.Law
set_option linter.unusedVariables false
set_option linter.unusedSimpArgs false
def Fits (Rw : Int → List Run) (ys : List Int) : Prop :=
 ys.Pairwise (· < ·) ∧ (∀ y ∈ ys, -200000 < y) ∧ (∀ (j : Nat) (a b : Int), ys[j]? = some a → ys[j + 1]? = some b → ∀ y, a ≤ y → y < b → Rw y = Rw a) ∧ (∀ y, (∀ a ∈ ys, a ≤ y) → Rw y = []) ∧ (∀ y, (∀ a ∈ ys, y < a) → Rw y = [])
end Go.Proofs.YtpojeclokolkaaaGreatDoor.Law

open Go Go.Eng
namespace Go.Proofs.YtpojeclokolkaaaGreatDoor.Law
set_option linter.unusedVariables false
set_option linter.unusedSimpArgs false
open Classical in
noncomputable def P01 (p : Prop) : Int := if p then 1 else 0
end Go.Proofs.YtpojeclokolkaaaGreatDoor.Law

open Go Go.Eng
namespace Go.Proofs.YtpojeclokolkaaaGreatDoor.Law
set_option linter.unusedVariables false
set_option linter.unusedSimpArgs false
end Go.Proofs.YtpojeclokolkaaaGreatDoor.Law

