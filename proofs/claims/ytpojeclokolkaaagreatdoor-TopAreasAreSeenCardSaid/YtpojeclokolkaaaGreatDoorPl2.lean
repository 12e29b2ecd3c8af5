/-
  THE PLAIN LAW (part 2).
-/
import Derived.Test.YtpojeclokolkaaaGreatDoorPl1
open Go Go.Eng
namespace Go.Proofs.YtpojeclokolkaaaGreatDoor.Law
set_option linter.unusedVariables false
set_option linter.unusedSimpArgs false
end Go.Proofs.YtpojeclokolkaaaGreatDoor.Law

open Go Go.Eng
namespace Go.Proofs.YtpojeclokolkaaaGreatDoor.Law
set_option linter.unusedVariables false
set_option linter.unusedSimpArgs false
theorem concat_eq (l m : List Rect) (h : l.length + m.length ≤ 1000000) : slices_Concat_api_Rect_api_Rect [l, m] = some (l ++ m) := by
 have g1 : forL [l, m] (0 : Int) (fun k x s => slices_Concat_api_Rect_api_Rect_L1 k x s) = some (.go ((l.length + m.length : Nat) : Int)) := by
  rw [forL_eq (by simp)]
  simp only [forR, slices_Concat_api_Rect_api_Rect_L1]
  have e1 : w64 (0 + (l.length : Int)) = (l.length : Int) := by rw [w64_id (by omega)]; omega
  have e2 : w64 ((l.length : Int) + (m.length : Int)) = ((l.length + m.length : Nat) : Int) := by rw [w64_id (by omega)]; omega
  have d1 : decide ((l.length : Int) < 0) = false := by simp
  have d2 : decide (((l.length + m.length : Nat) : Int) < 0) = false := by simp; omega
  simp only [e1, e2, d1, d2, cond_false, Option.bind_some]
 have g2 : ∃ b, slices_Grow_api_Rect_api_Rect_k ((l.length + m.length : Nat) : Int) = some b := by
  unfold slices_Grow_api_Rect_api_Rect_k
  have d1 : decide (((l.length + m.length : Nat) : Int) < 0) = false := by simp; omega
  have e1 : w64 (((l.length + m.length : Nat) : Int) - w64 (0 - 0)) = ((l.length + m.length : Nat) : Int) := by
   rw [show w64 (0 - 0) = 0 from rfl, w64_id (by omega)]; omega
  rw [d1, cond_false, e1]
  by_cases hp : ((l.length + m.length : Nat) : Int) > 0
  ·rw [decide_eq_true hp, cond_true]
   unfold zN
   rw [if_pos ⟨hp, by omega, by omega⟩]
   exact ⟨true, rfl⟩
  ·rw [decide_eq_false hp, cond_false]; exact ⟨false, rfl⟩
 obtain ⟨b, g2⟩ := g2
 have g3 : forL [l, m] ([] : List Rect) (fun k x s => slices_Concat_api_Rect_api_Rect_L2 k x s) = some (.go (l ++ m)) := by
  rw [forL_eq (by simp)]
  simp only [forR, slices_Concat_api_Rect_api_Rect_L2]
  rw [appL_ok _ _ (by simp; omega)]
  simp only [Option.bind_some, List.nil_append]
  rw [appL_ok _ _ (by omega)]; rfl
 unfold slices_Concat_api_Rect_api_Rect
 rw [g1, Option.bind_some]
 simp only [thenC]
 rw [g2, Option.bind_some, g3]; rfl
def has1 (x y : Int) (r : Rect) : Bool := (decide (r.X ≤ x) && decide (x < r.X + r.W)) && (decide (r.Y ≤ y) && decide (y < r.Y + r.H))
def hasB (l : List Rect) (x y : Int) : Bool := l.any (has1 x y)
theorem hasB_iff (l : List Rect) (x y : Int) : hasB l x y = true ↔ hasP l x y := by
 unfold hasB hasP
 rw [List.any_eq_true]
 simp only [has1, Bool.and_eq_true, decide_eq_true_eq]
theorem edges_loop {body : Nat → Rect → List Int → Option (Ctl (List Int) Unit)} (f : Rect → List Int) (hf : ∀ r, (f r).length = 2) : ∀ (l : List Rect) (k : Nat) (s : List Int), (∀ k r s, r ∈ l → s.length ≤ 1000000 → body k r s = some (.go (s ++ f r))) → s.length + 2 * l.length ≤ 1000000 → forR body l k s = some (.go (s ++ l.flatMap f))
 | [], k, s, _, _ => by simp [forR]
 | r :: l, k, s, h, hl => by
  simp only [List.length_cons] at hl
  have := hf r
  rw [forR, h k r s (by simp) (by omega), Option.bind_some]
  simp only
  rw [edges_loop f hf l (k + 1) _ (fun k r s hr => h k r s (by simp [hr])) (by simp; omega)]
  simp
def yE (r : Rect) : List Int := [r.Y, r.Y + r.H]
theorem flat2 {f : Rect → List Int} (hf : ∀ r, (f r).length = 2) : ∀ l : List Rect, (l.flatMap f).length = 2 * l.length
 | [] => rfl
 | r :: l => by rw [List.flatMap_cons, List.length_append, hf, flat2 hf l, List.length_cons]; omega
theorem cutsOf (e : List Int) (he : e.length ≤ 1000000) : ∃ c, ((slices_Sort_int_int_v1 e).bind fun r_22 => (sameL r_22 e).bind fun _ => (slices_Compact_int_int_v1 r_22).bind fun r_25 => some r_25) = some c ∧ c.Pairwise (· < ·) ∧ (∀ x, x ∈ c ↔ x ∈ e) ∧ c.length ≤ e.length := by
 obtain ⟨s, c, h1, h2, h3, h4, h5, h6⟩ := sortC e (by omega)
 have hsm : sameL s e = some () := by unfold sameL; rw [if_pos h2]
 exact ⟨c, by rw [h1, Option.bind_some, hsm, Option.bind_some, h3, Option.bind_some], h4, h5, h6⟩
end Go.Proofs.YtpojeclokolkaaaGreatDoor.Law

open Go Go.Eng
namespace Go.Proofs.YtpojeclokolkaaaGreatDoor.Law
set_option linter.unusedVariables false
set_option linter.unusedSimpArgs false
theorem idx_prev {α : Type} {l : List α} {k : Nat} {x : α} (h : l[k]? = some x) (hk : 0 < k) (hl : l.length ≤ 1000000000) : ∃ y, idx l (w64 ((k : Int) - 1)) = some y ∧ l[k - 1]? = some y := by
 have hlt : k < l.length := (List.getElem?_eq_some_iff.1 h).1
 rw [w64_id (by omega), show (k : Int) - 1 = ((k - 1 : Nat) : Int) by omega, idx_nat]
 exact ⟨l[k - 1], List.getElem?_eq_getElem (by omega), List.getElem?_eq_getElem (by omega)⟩
end Go.Proofs.YtpojeclokolkaaaGreatDoor.Law

open Go Go.Eng
namespace Go.Proofs.YtpojeclokolkaaaGreatDoor.Law
set_option linter.unusedVariables false
set_option linter.unusedSimpArgs false
def momB (n : Int) : Bool := !outB n 0 345686399999
theorem isMoment_eq (n : Int) : kit_IsMoment n = some (momB n) := by
 unfold kit_IsMoment momB outB
 have e1 : decide (n ≥ 0) = !decide (n < 0) := by rw [Bool.eq_iff_iff]; simp
 have e2 : decide (n < 345686400000) = !decide (n > 345686399999) := by rw [Bool.eq_iff_iff]; simp; omega
 rw [e1, e2]
 cases decide (n < 0) <;> cases decide (n > 345686399999) <;> rfl
def or0 (a b : Int) : Int := bif a == 0 then b else a
theorem cmpB_spec (a b : ByteArray) : (lt a b ∧ cmpB a b = -1) ∨ (a = b ∧ cmpB a b = 0) ∨ (lt b a ∧ cmpB a b = 1) := by
 have key : ∀ (x y : List UInt8), (x < y ∧ Lib.compareBytes x y = -1) ∨ (x = y ∧ Lib.compareBytes x y = 0) ∨ (y < x ∧ Lib.compareBytes x y = 1) := by
  intro x
  induction x with
  | nil => intro y; cases y with
   | nil => exact .inr (.inl ⟨rfl, rfl⟩)
   | cons b y => exact .inl ⟨by simp, rfl⟩
  | cons a x ih => intro y; cases y with
   | nil => exact .inr (.inr ⟨by simp, rfl⟩)
   | cons b y =>
    simp only [Lib.compareBytes, List.cons_lt_cons_iff, List.cons.injEq]
    by_cases h1 : a < b
    ·exact .inl ⟨.inl h1, by rw [if_pos h1]⟩
    ·by_cases h2 : b < a
     ·exact .inr (.inr ⟨.inl h2, by rw [if_neg h1, if_pos h2]⟩)
     ·have e : a = b := UInt8.le_antisymm (UInt8.not_lt.1 h2) (UInt8.not_lt.1 h1)
      subst e
      rw [if_neg h1, if_neg h1]
      rcases ih y with ⟨h, k⟩ | ⟨h, k⟩ | ⟨h, k⟩
      ·exact .inl ⟨.inr ⟨rfl, h⟩, k⟩
      ·exact .inr (.inl ⟨⟨rfl, h⟩, k⟩)
      ·exact .inr (.inr ⟨.inr ⟨rfl, h⟩, k⟩)
 unfold cmpB lt
 rw [toL, toL]
 rcases key a.data.toList b.data.toList with ⟨h, k⟩ | ⟨h, k⟩ | ⟨h, k⟩
 ·exact .inl ⟨h, k⟩
 ·exact .inr (.inl ⟨str_ext (by rw [toL, toL]; exact h), k⟩)
 ·exact .inr (.inr ⟨h, k⟩)
theorem compare_eq (a b : ByteArray) : strings_Compare a b = some (cmpB a b) := rfl
def cmpI (a b : Int) : Int := if a < b then -1 else if a > b then 1 else 0
theorem cmpInt_eq (a b : Int) : cmp_Compare_int a b = some (cmpI a b) := by
 have e : ∀ x : Int, (x != x) = false := by simp
 unfold cmp_Compare_int cmp_isNaN_int cmpI
 simp only [e, Option.bind_some, cond_false]
 by_cases h : a < b
 ·simp only [decide_eq_true h, cond_true, if_pos h]
 ·by_cases h2 : a > b
  ·simp only [decide_eq_false h, decide_eq_true h2, cond_true, cond_false, if_neg h, if_pos h2]
  ·simp only [decide_eq_false h, decide_eq_false h2, cond_false, if_neg h, if_neg h2]
theorem or2_eq (a b : Int) : cmp_Or_int [a, b] = some (or0 a b) := by
 unfold cmp_Or_int or0
 rw [forL_eq (by simp)]
 simp only [forR, cmp_Or_int_L1]
 cases ha : a == 0 with
 | false =>
  have : (a != 0) = true := by simp [bne, ha]
  simp only [this, cond_true, cond_false, Option.bind_some, thenC]
 | true =>
  have : (a != 0) = false := by simp [bne, ha]
  simp only [this, cond_true, cond_false, Option.bind_some]
  cases hb : b == 0 with
  | false =>
   have : (b != 0) = true := by simp [bne, hb]
   simp only [this, cond_true, Option.bind_some, thenC]
  | true =>
   have : (b != 0) = false := by simp [bne, hb]
   simp only [this, cond_false, Option.bind_some, thenC]
   rw [eq_of_beq hb]
end Go.Proofs.YtpojeclokolkaaaGreatDoor.Law

open Go Go.Eng
namespace Go.Proofs.YtpojeclokolkaaaGreatDoor.Law
set_option linter.unusedVariables false
set_option linter.unusedSimpArgs false
end Go.Proofs.YtpojeclokolkaaaGreatDoor.Law

open Go Go.Eng
namespace Go.Proofs.YtpojeclokolkaaaGreatDoor.Law
set_option linter.unusedVariables false
set_option linter.unusedSimpArgs false
theorem sort12 {α : Type} {cmp : α → α → Option Int} (c : α → α → Int) {S : List α → Option (List α)} (hS : ∀ x, S x = (math_bits_Len (IntKind.u64.wrap (x.length : Int))).bind fun r_3 => (pdqAll cmp x 0 (x.length : Int) r_3).bind fun r_5 => (sameL r_5 x).bind fun _ => some r_5)
  {xs : List α} (hl : xs.length ≤ 12) (hF : ∀ a ∈ xs, ∀ b ∈ xs, cmp a b = some (c a b)) (has : ∀ a b, c a b < 0 → ¬ c b a < 0) (hn : ∀ a b d, ¬ c a b < 0 → ¬ c b d < 0 → ¬ c a d < 0) :
  ∃ r, S xs = some r ∧ r.Perm xs ∧ r.Pairwise (fun a b => ¬ c b a < 0) := by
 obtain ⟨k, hk⟩ := len_ok xs.length hl
 obtain ⟨s, h1, h2, h3⟩ := pdq_ok (cmp := cmp) (le := fun a b => ¬ c b a < 0) (p := (· ∈ xs)) (fun a b ha hb => ⟨c a b, hF a ha b hb, fun h => has a b h, fun h => h⟩) (fun a b d h k => hn d b a k h) xs hl (fun x hx => hx) k
 refine ⟨s, ?_, h2, h3⟩
 have hsm : sameL s xs = some () := by unfold sameL; rw [if_pos h2.length_eq]
 rw [hS, hk, Option.bind_some, h1, Option.bind_some, hsm]; rfl
end Go.Proofs.YtpojeclokolkaaaGreatDoor.Law

open Go Go.Eng
namespace Go.Proofs.YtpojeclokolkaaaGreatDoor.Law
set_option linter.unusedVariables false
set_option linter.unusedSimpArgs false
theorem forR_at {α σ ρ : Type} {body : Nat → α → σ → Option (Ctl σ ρ)} (I : Nat → σ → Prop) (xs : List α) : ∀ (l : List α) (k : Nat) (s : σ), xs.drop k = l → k ≤ xs.length → (∀ k x s, xs[k]? = some x → I k s → ∃ s', body k x s = some (.go s') ∧ I (k + 1) s') → I k s → ∃ s', forR body l k s = some (.go s') ∧ I xs.length s'
 | [], k, s, hd, hk, h, hi => by
  have := List.drop_eq_nil_iff.1 hd
  obtain rfl : k = xs.length := by omega
  exact ⟨s, rfl, hi⟩
 | x :: l, k, s, hd, hk, h, hi => by
  obtain ⟨s1, h1, h2⟩ := h k x s (drop_get hd) hi
  obtain ⟨s2, h3, h4⟩ := forR_at I xs l (k + 1) s1 (drop_next hd) (by have := drop_lt hd; omega) h h2
  exact ⟨s2, by rw [forR, h1, Option.bind_some]; exact h3, h4⟩
theorem forL_at {α σ ρ : Type} {body : Nat → α → σ → Option (Ctl σ ρ)} (I : Nat → σ → Prop) {xs : List α} {s : σ} (hl : xs.length ≤ 1000000000000) (h : ∀ k x s, xs[k]? = some x → I k s → ∃ s', body k x s = some (.go s') ∧ I (k + 1) s') (h0 : I 0 s) : ∃ s', forL xs s body = some (.go s') ∧ I xs.length s' := by
 rw [forL_eq hl]
 exact forR_at I xs xs 0 s rfl (Nat.zero_le _) h h0
theorem lt_lit {a b : ByteArray} (h : sLt a b = true) : lt a b := (sLt_iff a b).1 h
end Go.Proofs.YtpojeclokolkaaaGreatDoor.Law

open Go Go.Eng
namespace Go.Proofs.YtpojeclokolkaaaGreatDoor.Law
set_option linter.unusedVariables false
set_option linter.unusedSimpArgs false
structure Band where
 a : Int
 b : Int
 row : List Run
def headDiff (e : Int) (row : List Run) : List Band → Prop
 | [] => True
 | q :: _ => q.a = e → q.row ≠ row
def CanonB : Int → List Band → Prop
 | _, [] => True
 | lo, p :: l => lo ≤ p.a ∧ p.a < p.b ∧ p.row ≠ [] ∧ headDiff p.b p.row l ∧ CanonB p.b l
def rowAt : List Band → Int → List Run
 | [], _ => []
 | p :: l, y => bif decide (p.a ≤ y) && decide (y < p.b) then p.row else rowAt l y
theorem rowAt_low : ∀ {l : List Band} {lo y : Int}, CanonB lo l → y < lo → rowAt l y = []
 | [], _, _, _, _ => rfl
 | p :: l, lo, y, ⟨h1, h2, h3, h4, h5⟩, h => by
  have e1 : decide (p.a ≤ y) = false := by simp; omega
  rw [rowAt, e1, Bool.false_and, cond_false]
  exact rowAt_low h5 (by omega)
theorem rowAt_in {p : Band} {l : List Band} {y : Int} (h1 : p.a ≤ y) (h2 : y < p.b) : rowAt (p :: l) y = p.row := by
 rw [rowAt, decide_eq_true h1, decide_eq_true h2]; rfl
theorem rowAt_out {p : Band} {l : List Band} {y : Int} (h : y < p.a ∨ p.b ≤ y) : rowAt (p :: l) y = rowAt l y := by
 rw [rowAt]
 have : (decide (p.a ≤ y) && decide (y < p.b)) = false := by
  rw [Bool.and_eq_false_iff]
  rcases h with h | h
  ·left; simp; omega
  ·right; simp; omega
 rw [this]; rfl
end Go.Proofs.YtpojeclokolkaaaGreatDoor.Law

open Go Go.Eng
namespace Go.Proofs.YtpojeclokolkaaaGreatDoor.Law
set_option linter.unusedVariables false
set_option linter.unusedSimpArgs false
open Classical in
noncomputable def bandsOf : List (Int × List Run) → List Run → Int → List Band
 | [], _, _ => []
 | (y, R) :: l, band, fr => if band = R then bandsOf l band fr else if band = [] then bandsOf l R y else ⟨fr, y, band⟩ :: bandsOf l R y
def rowFn : List (Int × List Run) → List Run → Int → List Run
 | [], _, _ => []
 | (y0, R) :: l, band, y => bif decide (y < y0) then band else rowFn l R y
def Rise : Int → List (Int × List Run) → Prop
 | _, [] => True
 | fr, (y, R) :: l => fr < y ∧ (l = [] → R = []) ∧ Rise y l
theorem bands_head : ∀ {l : List (Int × List Run)} {band : List Run} {fr : Int}, Rise fr l → ∀ {q : Band} {t : List Band}, bandsOf l band fr = q :: t → fr ≤ q.a ∧ (q.a = fr → q.row = band ∧ band ≠ [])
 | [], _, _, _, q, t, h => by cases h
 | (y, R) :: l, band, fr, ⟨h1, h2, h3⟩, q, t, h => by
  rw [bandsOf] at h
  by_cases e : band = R
  ·rw [if_pos e] at h
   have h3' : Rise fr l := by
    cases l with
    | nil => trivial
    | cons z l => exact ⟨by have := h3.1; omega, h3.2⟩
   exact bands_head h3' h
  ·rw [if_neg e] at h
   by_cases e2 : band = []
   ·rw [if_pos e2] at h
    have := bands_head h3 h
    exact ⟨by omega, fun k => by omega⟩
   ·rw [if_neg e2] at h
    have := (List.cons.inj h).1
    subst this
    exact ⟨Int.le_refl _, fun _ => ⟨rfl, e2⟩⟩
theorem bands_ok : ∀ {l : List (Int × List Run)} {band : List Run} {fr lo : Int}, Rise fr l → lo ≤ fr → (l = [] → band = []) → CanonB lo (bandsOf l band fr) ∧ ∀ y, rowAt (bandsOf l band fr) y = bif decide (y < fr) then [] else rowFn l band y
 | [], band, fr, lo, _, _, hb => ⟨trivial, fun y => by simp only [bandsOf, rowAt, rowFn]; cases decide (y < fr) <;> rfl⟩
 | (y0, R) :: l, band, fr, lo, ⟨h1, h2, h3⟩, hlo, _ => by
  rw [bandsOf]
  by_cases e : band = R
  ·rw [if_pos e]
   have h3' : Rise fr l := by
    cases l with
    | nil => trivial
    | cons z l => exact ⟨by have := h3.1; omega, h3.2⟩
   obtain ⟨c1, c2⟩ := bands_ok (band := band) h3' hlo (fun h => by rw [e]; exact h2 h)
   refine ⟨c1, fun y => ?_⟩
   rw [c2, rowFn, e]
   by_cases k : y < fr
   ·rw [decide_eq_true k]; rfl
   ·rw [decide_eq_false k, cond_false, cond_false]
    by_cases k2 : y < y0
    ·rw [decide_eq_true k2, cond_true]
     cases l with
     | nil => rw [h2 rfl]; rfl
     | cons z l =>
      have hz := h3.1
      rw [rowFn, decide_eq_true (show y < z.1 by omega)]; rfl
    ·rw [decide_eq_false k2, cond_false]
  ·rw [if_neg e]
   obtain ⟨c1, c2⟩ := bands_ok (band := R) (lo := y0) h3 (Int.le_refl _) h2
   by_cases e2 : band = []
   ·rw [if_pos e2]
    have c1' : CanonB lo (bandsOf l R y0) := by
     cases hb : bandsOf l R y0 with
     | nil => trivial
     | cons q t =>
      rw [hb] at c1
      exact ⟨by have := c1.1; omega, c1.2⟩
    refine ⟨c1', fun y => ?_⟩
    rw [c2, rowFn, e2]
    by_cases k : y < fr
    ·rw [decide_eq_true k, decide_eq_true (show y < y0 by omega)]; rfl
    ·rw [decide_eq_false k, cond_false]
   ·rw [if_neg e2]
    refine ⟨⟨hlo, h1, e2, ?_, c1⟩, fun y => ?_⟩
    ·cases hb : bandsOf l R y0 with
     | nil => trivial
     | cons q t =>
      intro hq
      have := (bands_head h3 hb).2 hq
      rw [this.1]
      exact fun k => e k.symm
    ·rw [rowFn]
     by_cases k : y < fr
     ·rw [decide_eq_true k, cond_true, rowAt_out (.inl k), c2, decide_eq_true (show y < y0 by omega)]; rfl
     ·rw [decide_eq_false k, cond_false]
      by_cases k2 : y < y0
      ·rw [decide_eq_true k2, cond_true, rowAt_in (by show fr ≤ y; omega) k2]
      ·rw [decide_eq_false k2, cond_false, rowAt_out (.inr (by show y0 ≤ y; omega)), c2, decide_eq_false k2]; rfl
end Go.Proofs.YtpojeclokolkaaaGreatDoor.Law

open Go Go.Eng
namespace Go.Proofs.YtpojeclokolkaaaGreatDoor.Law
set_option linter.unusedVariables false
set_option linter.unusedSimpArgs false
def pairsOf (Rf : Int → List Run) : List Int → List (Int × List Run)
 | [] => []
 | [y] => [(y, [])]
 | y :: z :: l => (y, Rf y) :: pairsOf Rf (z :: l)
def flatB (l : List Band) : List Rect := l.flatMap fun b => b.row.map (toRect b.a (b.b - b.a))
theorem simP (ys : List Int) (l m : List Rect) (B : Nat) (hB : B ≤ 1000) (hys : ys.length ≤ 1000) (hby : ∀ y ∈ ys, Bd y) (Rf : Int → List Run)
  (hrow : ∀ (j : Nat) (y : Int), ys[j]? = some y → j + 1 < ys.length → ((screen_runs l y).bind fun r_45 => (screen_runs m y).bind fun r_47 => (screen_less r_45 r_47).bind fun r_49 => some r_49) = some (Rf y) ∧ (∀ r ∈ Rf y, Okr r) ∧ (Rf y).length ≤ B) :
  ∀ (n j : Nat) (y : Int) (out : List Rect) (band : List Run) (fr : Int), j + 1 + n = ys.length → ys[j]? = some y → Bd fr → (∀ r ∈ band, Okr r) → band.length ≤ B → out.length + (n + 2) * B ≤ 1000000 →
  ∃ (b2 : List Run) (f2 : Int), forR (fun k x s => screen_region_L3 ys l m k x s) (ys.drop j) j (out, band, fr) = some (.go (out ++ flatB (bandsOf (pairsOf Rf (ys.drop j)) band fr), b2, f2)) ∧ (flatB (bandsOf (pairsOf Rf (ys.drop j)) band fr)).length ≤ (n + 2) * B
 | 0, j, y, out, band, fr, hn, hy, hf, hb, hbl, ho => by
  have hjl : j < ys.length := by omega
  have hd : ys.drop j = [y] := by
   rw [List.drop_eq_getElem_cons hjl, List.drop_eq_nil_of_le (by omega)]
   rw [List.getElem?_eq_getElem hjl] at hy
   simp only [Option.some.injEq] at hy; rw [hy]
  have hBy := hby y (List.mem_of_getElem? hy)
  have hw : w64 ((j : Int) + 1) = ((j + 1 : Nat) : Int) := by rw [w64_id (by omega)]; rfl
  have hc : decide (((j + 1 : Nat) : Int) < (ys.length : Int)) = false := by simp; omega
  rw [hd, forR]
  have h0 : screen_region_L3 ys l m j y (out, band, fr) = (slices_Equal_screen_run_screen_run band []).bind fun r_51 => bif r_51 then some (.go (out, band, fr)) else (forL band out (fun k x s => screen_region_L2 (out, band, fr) y k x s)).bind fun o_64 => thenC o_64 (fun s_59 => some (.go (s_59, [], y))) (fun _ => none) := by
   unfold screen_region_L3
   simp only [hw, hc, cond_false, Option.bind_some]
  rw [h0]
  simp only [pairsOf, bandsOf]
  rcases eqR band [] (by omega) with ⟨h1, h2⟩ | ⟨h1, h2⟩
  ·subst h2
   rw [if_pos rfl]
   exact ⟨[], fr, by rw [h1]; simp [flatB, forR], by simp [flatB]⟩
  ·rw [if_neg h2, if_neg h2]
   refine ⟨[], y, ?_, by simp [flatB]; omega⟩
   rw [h1, Option.bind_some, cond_false, forL_eq (by omega), emit_loop (out, band, fr) y hBy hf band 0 out hb (by omega)]
   simp [flatB, forR, thenC]
 | n + 1, j, y, out, band, fr, hn, hy, hf, hb, hbl, ho => by
  have hjl : j < ys.length := by omega
  have hj2 : j + 1 < ys.length := by omega
  have hd : ys.drop j = y :: ys.drop (j + 1) := by
   rw [List.drop_eq_getElem_cons hjl]
   rw [List.getElem?_eq_getElem hjl] at hy
   simp only [Option.some.injEq] at hy; rw [hy]
  have hy2 : ys[j + 1]? = some ys[j + 1] := List.getElem?_eq_getElem hj2
  have hd2 : ys.drop (j + 1) = ys[j + 1] :: ys.drop (j + 1 + 1) := List.drop_eq_getElem_cons hj2
  have hp : pairsOf Rf (ys.drop j) = (y, Rf y) :: pairsOf Rf (ys.drop (j + 1)) := by rw [hd, hd2]; rfl
  generalize ys[j + 1] = y2 at hy2
  have hBy := hby y (List.mem_of_getElem? hy)
  have hw : w64 ((j : Int) + 1) = ((j + 1 : Nat) : Int) := by rw [w64_id (by omega)]; rfl
  have hc : decide (((j + 1 : Nat) : Int) < (ys.length : Int)) = true := by simp; omega
  have hmul : (n + 1 + 2) * B = (n + 2) * B + B := by rw [show n + 1 + 2 = (n + 2) + 1 by omega, Nat.succ_mul]
  rw [hmul] at ho ⊢
  obtain ⟨k1, k3, k4⟩ := hrow j y hy hj2
  have h0 : screen_region_L3 ys l m j y (out, band, fr) = (slices_Equal_screen_run_screen_run band (Rf y)).bind fun r_51 => bif r_51 then some (.go (out, band, fr)) else (forL band out (fun k x s => screen_region_L2 (out, band, fr) y k x s)).bind fun o_64 => thenC o_64 (fun s_59 => some (.go (s_59, Rf y, y))) (fun _ => none) := by
   unfold screen_region_L3
   simp only [hw, hc, cond_true]
   rw [k1, Option.bind_some]
  rw [hp]
  rw [hd, forR, h0]
  simp only [bandsOf]
  rcases eqR band (Rf y) (by omega) with ⟨e1, e2⟩ | ⟨e1, e2⟩
  ·obtain ⟨b2, f2, q1, q2⟩ := simP ys l m B hB hys hby Rf hrow n (j + 1) y2 out band fr (by omega) hy2 hf hb hbl (by omega)
   rw [if_pos e2]
   exact ⟨b2, f2, by rw [e1]; exact q1, by omega⟩
  ·obtain ⟨b2, f2, q1, q2⟩ := simP ys l m B hB hys hby Rf hrow n (j + 1) y2 (out ++ band.map (toRect fr (y - fr))) (Rf y) y (by omega) hy2 hBy k3 k4 (by simp; omega)
   rw [if_neg e2]
   rw [e1, Option.bind_some, cond_false, forL_eq (by omega), emit_loop (out, band, fr) y hBy hf band 0 out hb (by omega)]
   by_cases e3 : band = []
   ·rw [if_pos e3]
    refine ⟨b2, f2, ?_, by omega⟩
    have := q1
    rw [e3] at this ⊢
    simp only [List.map_nil, List.append_nil] at this ⊢
    exact this
   ·rw [if_neg e3]
    refine ⟨b2, f2, ?_, ?_⟩
    ·have := q1
     simp only [flatB, List.flatMap_cons, List.append_assoc] at this ⊢
     exact this
    ·simp only [flatB, List.flatMap_cons, List.length_append, List.length_map] at q2 ⊢
     omega
end Go.Proofs.YtpojeclokolkaaaGreatDoor.Law

open Go Go.Eng
namespace Go.Proofs.YtpojeclokolkaaaGreatDoor.Law
set_option linter.unusedVariables false
set_option linter.unusedSimpArgs false
end Go.Proofs.YtpojeclokolkaaaGreatDoor.Law

open Go Go.Eng
namespace Go.Proofs.YtpojeclokolkaaaGreatDoor.Law
set_option linter.unusedVariables false
set_option linter.unusedSimpArgs false
theorem bandsOf_nil : ∀ (l : List (Int × List Run)) (fr fr' : Int), bandsOf l [] fr = bandsOf l [] fr'
 | [], _, _ => rfl
 | (y, R) :: l, fr, fr' => by
  simp only [bandsOf, if_true]
  by_cases h : [] = R
  ·rw [if_pos h, if_pos h]; exact bandsOf_nil l fr fr'
  ·rw [if_neg h, if_neg h]
theorem rowFn_of (Rw : Int → List Run) : ∀ (ys : List Int), (∀ (j : Nat) (a b : Int), ys[j]? = some a → ys[j + 1]? = some b → ∀ y, a ≤ y → y < b → Rw y = Rw a) → (∀ y, (∀ a ∈ ys, a ≤ y) → Rw y = []) → ys.Pairwise (· < ·) → ∀ (y : Int) (band : List Run), rowFn (pairsOf Rw ys) band y = match ys with | [] => Rw y | a :: _ => bif decide (y < a) then band else Rw y
 | [], _, h2, _, y, band => (h2 y (fun a ha => by cases ha)).symm
 | [a], _, h2, _, y, band => by
  simp only [pairsOf, rowFn]
  by_cases h : y < a
  ·rw [decide_eq_true h]; rfl
  ·rw [decide_eq_false h, cond_false, cond_false, h2 y (fun b hb => by rw [List.mem_singleton] at hb; omega)]
 | a :: b :: l, h1, h2, h3, y, band => by
  obtain ⟨p1, p2⟩ := List.pairwise_cons.1 h3
  have hab := p1 b (by simp)
  have ih := rowFn_of Rw (b :: l) (fun j c d hc hd => h1 (j + 1) c d (by simpa using hc) (by simpa using hd)) (fun y hy => h2 y (fun c hc => by
   rcases List.mem_cons.1 hc with rfl | hc
   ·have := hy b (by simp); omega
   ·exact hy c hc)) p2 y (Rw a)
  have hp : pairsOf Rw (a :: b :: l) = (a, Rw a) :: pairsOf Rw (b :: l) := rfl
  rw [hp, rowFn, ih]
  show (bif decide (y < a) then band else bif decide (y < b) then Rw a else Rw y) = bif decide (y < a) then band else Rw y
  by_cases h : y < a
  ·rw [decide_eq_true h]; rfl
  ·rw [decide_eq_false h, cond_false, cond_false]
   by_cases k : y < b
   ·rw [decide_eq_true k, cond_true, h1 0 a b rfl rfl y (by omega) k]
   ·rw [decide_eq_false k, cond_false]
theorem rise_pairs (Rw : Int → List Run) : ∀ (ys : List Int) (lo : Int), (∀ y ∈ ys, lo < y) → ys.Pairwise (· < ·) → Rise lo (pairsOf Rw ys)
 | [], _, _, _ => trivial
 | [a], lo, h, _ => ⟨h a (by simp), fun _ => rfl, trivial⟩
 | a :: b :: l, lo, h, h3 => by
  obtain ⟨p1, p2⟩ := List.pairwise_cons.1 h3
  refine ⟨h a (by simp), fun e => ?_, rise_pairs Rw (b :: l) a p1 p2⟩
  cases l <;> cases e
def Fits (Rw : Int → List Run) (ys : List Int) : Prop :=
 ys.Pairwise (· < ·) ∧ (∀ y ∈ ys, -200000 < y) ∧ (∀ (j : Nat) (a b : Int), ys[j]? = some a → ys[j + 1]? = some b → ∀ y, a ≤ y → y < b → Rw y = Rw a) ∧ (∀ y, (∀ a ∈ ys, a ≤ y) → Rw y = []) ∧ (∀ y, (∀ a ∈ ys, y < a) → Rw y = [])
theorem fits_bands {Rw : Int → List Run} {ys : List Int} (h : Fits Rw ys) (fr : Int) : CanonB (-200000) (bandsOf (pairsOf Rw ys) [] fr) ∧ ∀ y, rowAt (bandsOf (pairsOf Rw ys) [] fr) y = Rw y := by
 obtain ⟨h1, h2, h3, h4, h5⟩ := h
 rw [bandsOf_nil _ fr (-200000)]
 obtain ⟨c1, c2⟩ := bands_ok (band := []) (rise_pairs Rw ys (-200000) h2 h1) (Int.le_refl _) (fun _ => rfl)
 refine ⟨c1, fun y => ?_⟩
 rw [c2, rowFn_of Rw ys h3 h4 h1]
 by_cases k : y < -200000
 ·rw [decide_eq_true k, cond_true, h5 y (fun a ha => by have := h2 a ha; omega)]
 ·rw [decide_eq_false k, cond_false]
  cases ys with
  | nil => rfl
  | cons a l =>
   simp only
   by_cases k : y < a
   ·rw [decide_eq_true k, cond_true]
    exact (h5 y (fun b hb => by
     rcases List.mem_cons.1 hb with rfl | hb
     ·exact k
     ·have := (List.pairwise_cons.1 h1).1 b hb; omega)).symm
   ·rw [decide_eq_false k, cond_false]
theorem edge_gap {es : List Int} (hp : es.Pairwise (· < ·)) {i : Nat} {a b e : Int} (ha : es[i]? = some a) (hb : es[i + 1]? = some b) (he : e ∈ es) : e ≤ a ∨ b ≤ e := by
 obtain ⟨q, hq, rfl⟩ := List.getElem_of_mem he
 obtain ⟨la, ea⟩ := List.getElem?_eq_some_iff.1 ha
 obtain ⟨lb, eb⟩ := List.getElem?_eq_some_iff.1 hb
 rcases Nat.lt_trichotomy q i with k | k | k
 ·left; rw [← ea]; exact Int.le_of_lt ((List.pairwise_iff_getElem.1 hp) q i hq la k)
 ·left; subst k; rw [← ea]; exact Int.le_refl _
 ·right
  rcases Nat.eq_or_lt_of_le (show i + 1 ≤ q by omega) with e | k2
  ·subst e; rw [← eb]; exact Int.le_refl _
  ·rw [← eb]; exact Int.le_of_lt ((List.pairwise_iff_getElem.1 hp) (i + 1) q lb hq k2)
theorem cell_y {ys : List Int} (hp : ys.Pairwise (· < ·)) {L : List Rect} (hL : ∀ r ∈ L, r.Y ∈ ys ∧ r.Y + r.H ∈ ys) {j : Nat} {a b : Int} (ha : ys[j]? = some a) (hb : ys[j + 1]? = some b) {y : Int} (h1 : a ≤ y) (h2 : y < b) (x : Int) : hasP L x y ↔ hasP L x a := by
 constructor
 ·rintro ⟨r, hr, k3, k1, k2⟩
  obtain ⟨i1, i2⟩ := hL r hr
  refine ⟨r, hr, k3, ?_, by omega⟩
  rcases edge_gap hp ha hb i1 with g | g <;> omega
 ·rintro ⟨r, hr, k3, k1, k2⟩
  obtain ⟨i1, i2⟩ := hL r hr
  refine ⟨r, hr, k3, by omega, ?_⟩
  rcases edge_gap hp ha hb i2 with g | g <;> omega
theorem canon_nil {lo : Int} {R : List Run} (h : CanonFrom lo R) (he : ∀ x, ¬ mem x R) : R = [] :=
 canon_eq h (show CanonFrom lo [] from trivial) (fun x => by simp [mem_nil, he x])
end Go.Proofs.YtpojeclokolkaaaGreatDoor.Law

open Go Go.Eng
namespace Go.Proofs.YtpojeclokolkaaaGreatDoor.Law
set_option linter.unusedVariables false
set_option linter.unusedSimpArgs false
def sumN (f : Int → Int) (lo : Int) : Nat → Int
 | 0 => 0
 | n + 1 => sumN f lo n + f (lo + n)
theorem sumN_congr {f g : Int → Int} {lo : Int} : ∀ {n : Nat}, (∀ x, f x = g x) → sumN f lo n = sumN g lo n
 | 0, _ => rfl
 | n + 1, h => by rw [sumN, sumN, sumN_congr (n := n) h, h]
theorem sumN_add (f g : Int → Int) (lo : Int) : ∀ n : Nat, sumN (fun x => f x + g x) lo n = sumN f lo n + sumN g lo n
 | 0 => rfl
 | n + 1 => by rw [sumN, sumN, sumN, sumN_add f g lo n]; omega
theorem sumN_zero (lo : Int) : ∀ n : Nat, sumN (fun _ => 0) lo n = 0
 | 0 => rfl
 | n + 1 => by rw [sumN, sumN_zero lo n]; rfl
theorem sumN_mul (c : Int) (f : Int → Int) (lo : Int) : ∀ n : Nat, sumN (fun x => c * f x) lo n = c * sumN f lo n
 | 0 => by simp [sumN]
 | n + 1 => by rw [sumN, sumN, sumN_mul c f lo n, Int.mul_add]
def b01 (b : Bool) : Int := bif b then 1 else 0
theorem b01_and (a b : Bool) : b01 (a && b) = b01 b * b01 a := by cases a <;> cases b <;> rfl
theorem sumN_ind {lo a b : Int} (h1 : lo ≤ a) (h2 : a ≤ b) : ∀ n : Nat, sumN (fun x => b01 (decide (a ≤ x) && decide (x < b))) lo n = min b (lo + n) - min a (lo + n)
 | 0 => by simp only [sumN]; omega
 | n + 1 => by
  rw [sumN, sumN_ind h1 h2 n]
  by_cases k1 : a ≤ lo + (n : Int)
  ·by_cases k2 : lo + (n : Int) < b
   ·rw [decide_eq_true k1, decide_eq_true k2]; show _ + 1 = _; omega
   ·rw [decide_eq_true k1, decide_eq_false k2]; show _ + 0 = _; omega
  ·rw [decide_eq_false k1]; show _ + 0 = _; omega
def SS (lo : Int) (n : Nat) (f : Int → Int → Int) : Int := sumN (fun y => sumN (fun x => f x y) lo n) lo n
theorem SS_congr {lo : Int} {n : Nat} {f g : Int → Int → Int} (h : ∀ x y, f x y = g x y) : SS lo n f = SS lo n g := sumN_congr (fun y => sumN_congr (fun x => h x y))
theorem SS_add (lo : Int) (n : Nat) (f g : Int → Int → Int) : SS lo n (fun x y => f x y + g x y) = SS lo n f + SS lo n g := by
 unfold SS
 rw [← sumN_add]
 exact sumN_congr (fun y => sumN_add _ _ _ _)
theorem SS_zero (lo : Int) (n : Nat) : SS lo n (fun _ _ => 0) = 0 := by
 unfold SS
 rw [sumN_congr (g := fun _ => 0) (fun y => sumN_zero lo n), sumN_zero]
def sumL {α : Type} (f : α → Int) : List α → Int
 | [] => 0
 | x :: l => f x + sumL f l
theorem sumL_app {α : Type} (f : α → Int) : ∀ l m : List α, sumL f (l ++ m) = sumL f l + sumL f m
 | [], m => by simp [sumL]
 | x :: l, m => by rw [List.cons_append, sumL, sumL, sumL_app f l m]; omega
theorem sumL_congr {α : Type} {f g : α → Int} : ∀ {l : List α}, (∀ x ∈ l, f x = g x) → sumL f l = sumL g l
 | [], _ => rfl
 | x :: l, h => by rw [sumL, sumL, h x (by simp), sumL_congr (l := l) (fun y hy => h y (by simp [hy]))]
theorem sumL_map {α β : Type} (f : β → Int) (g : α → β) : ∀ l : List α, sumL f (l.map g) = sumL (fun x => f (g x)) l
 | [] => rfl
 | x :: l => by rw [List.map_cons, sumL, sumL, sumL_map f g l]
theorem sumL_mul {α : Type} (c : Int) (f : α → Int) : ∀ l : List α, sumL (fun x => c * f x) l = c * sumL f l
 | [] => by simp [sumL]
 | x :: l => by rw [sumL, sumL, sumL_mul c f l, Int.mul_add]
theorem SS_sumL {α : Type} (lo : Int) (n : Nat) (g : α → Int → Int → Int) : ∀ l : List α, sumL (fun r => SS lo n (g r)) l = SS lo n (fun x y => sumL (fun r => g r x y) l)
 | [] => (SS_zero lo n).symm
 | r :: l => by
  rw [sumL, SS_sumL lo n g l, ← SS_add]; rfl
def ind (r : Rect) (x y : Int) : Int := b01 (has1 x y r)
theorem area_ind {lo : Int} {n : Nat} {r : Rect} (h1 : lo ≤ r.X ∧ r.X + r.W ≤ lo + n) (h2 : lo ≤ r.Y ∧ r.Y + r.H ≤ lo + n) (h3 : 0 ≤ r.W) (h4 : 0 ≤ r.H) : SS lo n (ind r) = r.W * r.H := by
 have e1 : sumN (fun x => b01 (decide (r.X ≤ x) && decide (x < r.X + r.W))) lo n = r.W := by rw [sumN_ind h1.1 (by omega)]; omega
 have e2 : sumN (fun y => b01 (decide (r.Y ≤ y) && decide (y < r.Y + r.H))) lo n = r.H := by rw [sumN_ind h2.1 (by omega)]; omega
 unfold SS ind has1
 rw [sumN_congr (g := fun y => r.W * b01 (decide (r.Y ≤ y) && decide (y < r.Y + r.H))) (fun y => by
  rw [sumN_congr (g := fun x => b01 (decide (r.Y ≤ y) && decide (y < r.Y + r.H)) * b01 (decide (r.X ≤ x) && decide (x < r.X + r.W))) (fun x => b01_and _ _), sumN_mul, e1, Int.mul_comm]), sumN_mul, e2]
def areaL (l : List Rect) : Int := sumL (fun r => r.W * r.H) l
open Classical in
noncomputable def P01 (p : Prop) : Int := if p then 1 else 0
theorem P01_t {p : Prop} (h : p) : P01 p = 1 := by unfold P01; rw [if_pos h]
theorem P01_f {p : Prop} (h : ¬ p) : P01 p = 0 := by unfold P01; rw [if_neg h]
theorem P01_congr {p q : Prop} (h : p ↔ q) : P01 p = P01 q := by rw [propext h]
theorem b01_P (b : Bool) : b01 b = P01 (b = true) := by
 cases b
 ·rw [P01_f (by simp)]; rfl
 ·rw [P01_t rfl]; rfl
theorem row_ind (x : Int) : ∀ (L : List Run) (lo : Int), CanonFrom lo L → sumL (fun r => b01 (decide (r.f_from ≤ x) && decide (x < r.f_to))) L = P01 (mem x L)
 | [], _, _ => by rw [P01_f (mem_nil x)]; rfl
 | r :: L, lo, ⟨h1, h2, h3⟩ => by
  rw [sumL, row_ind x L _ h3, b01_P]
  simp only [Bool.and_eq_true, decide_eq_true_eq]
  by_cases k : r.f_from ≤ x ∧ x < r.f_to
  ·rw [P01_t k, P01_f (fun m => by have := h3.gt m; omega), P01_t ((mem_cons _ _ _).2 (.inl k))]; rfl
  ·rw [P01_f k, Int.zero_add]
   exact P01_congr (by rw [mem_cons]; simp [k])
theorem band_ind (x y : Int) : ∀ (bs : List Band) (lo : Int), CanonB lo bs → (∀ b ∈ bs, ∃ c, CanonFrom c b.row) → sumL (fun r => ind r x y) (flatB bs) = P01 (mem x (rowAt bs y))
 | [], _, _, _ => by rw [show rowAt [] y = [] from rfl, P01_f (mem_nil x)]; rfl
 | p :: bs, lo, ⟨h1, h2, h3, h4, h5⟩, hc => by
  have e : flatB (p :: bs) = p.row.map (toRect p.a (p.b - p.a)) ++ flatB bs := by simp [flatB]
  rw [e, sumL_app, sumL_map, band_ind x y bs _ h5 (fun b hb => hc b (by simp [hb]))]
  have e2 : ∀ r : Run, ind (toRect p.a (p.b - p.a) r) x y = b01 (decide (p.a ≤ y) && decide (y < p.b)) * b01 (decide (r.f_from ≤ x) && decide (x < r.f_to)) := fun r => by
   unfold ind has1 toRect
   rw [b01_and]
   simp only
   rw [show r.f_from + (r.f_to - r.f_from) = r.f_to by omega, show p.a + (p.b - p.a) = p.b by omega]
  rw [sumL_congr (fun r _ => e2 r), sumL_mul]
  obtain ⟨c, hcp⟩ := hc p (by simp)
  rw [row_ind x p.row c hcp]
  by_cases k1 : p.a ≤ y
  ·by_cases k2 : y < p.b
   ·rw [rowAt_in k1 k2, rowAt_low h5 k2, P01_f (mem_nil x), decide_eq_true k1, decide_eq_true k2]
    show 1 * _ + 0 = _
    omega
   ·rw [rowAt_out (.inr (by omega)), decide_eq_false k2, Bool.and_false]
    show 0 * _ + _ = _
    omega
  ·rw [rowAt_out (.inl (by omega)), decide_eq_false k1]
   show 0 * _ + _ = _
   omega
theorem bands_area {l m : List Rect} (hfl : ∀ r ∈ l, Fine r) {bs : List Band} (hb : CanonB (-200000) bs) (hr : ∀ y, CanonFrom (-200000) (rowAt bs y) ∧ (∀ r ∈ rowAt bs y, Okr r) ∧ ∀ x, mem x (rowAt bs y) ↔ hasP l x y ∧ ¬ hasP m x y) :
  (∀ b ∈ bs, ∃ y, b.row = rowAt bs y ∧ b.a ≤ y ∧ y < b.b ∧ -100000 ≤ b.a ∧ b.b ≤ 100000) := by
 have key : ∀ (bs' : List Band) (lo : Int), CanonB lo bs' → ∀ b ∈ bs', (∀ y, b.a ≤ y → y < b.b → rowAt bs' y = b.row) ∧ b.a < b.b ∧ b.row ≠ [] := by
  intro bs'
  induction bs' with
  | nil => intro lo _ b hb; cases hb
  | cons p bs' ih =>
   rintro lo ⟨h1, h2, h3, h4, h5⟩ b hb
   rcases List.mem_cons.1 hb with rfl | hb
   ·exact ⟨fun y k1 k2 => rowAt_in k1 k2, h2, h3⟩
   ·obtain ⟨i1, i2, i3⟩ := ih _ h5 b hb
    refine ⟨fun y k1 k2 => ?_, i2, i3⟩
    have hge : p.b ≤ y := by
     rcases Int.lt_or_le y p.b with k | k
     ·have e := i1 y k1 k2
      rw [rowAt_low h5 k] at e
      exact absurd e.symm i3
     ·exact k
    rw [rowAt_out (.inr hge)]; exact i1 y k1 k2
 intro b hbm
 obtain ⟨i1, i2, i3⟩ := key bs _ hb b hbm
 have at_ : ∀ y, b.a ≤ y → y < b.b → -100000 ≤ y ∧ y < 100000 := fun y k1 k2 => by
  obtain ⟨q, hq⟩ := List.exists_mem_of_ne_nil _ i3
  obtain ⟨c1, c2, c3⟩ := hr y
  rw [i1 y k1 k2] at c1 c2 c3
  have := c2 q hq
  have hm : mem q.f_from b.row := ⟨q, hq, Int.le_refl _, this.2.1⟩
  obtain ⟨⟨r, hr, _, k3⟩, _⟩ := (c3 _).1 hm
  obtain ⟨f1, f2, f3, f4⟩ := hfl r hr
  omega
 have a1 := at_ b.a (Int.le_refl _) i2
 have a2 := at_ (b.b - 1) (by omega) (by omega)
 exact ⟨b.a, (i1 b.a (Int.le_refl _) i2).symm, Int.le_refl _, i2, by omega, by omega⟩
theorem region_area {l m : List Rect} (hfl : ∀ r ∈ l, Fine r) {bs : List Band} (hb : CanonB (-200000) bs) (hr : ∀ y, CanonFrom (-200000) (rowAt bs y) ∧ (∀ r ∈ rowAt bs y, Okr r) ∧ ∀ x, mem x (rowAt bs y) ↔ hasP l x y ∧ ¬ hasP m x y) :
  (∀ r ∈ flatB bs, Fine r) ∧ (∀ x y, sumL (fun r => ind r x y) (flatB bs) = P01 (hasP l x y ∧ ¬ hasP m x y)) ∧ ∀ n : Nat, n = 200000 → areaL (flatB bs) = SS (-100000) n (fun x y => P01 (hasP l x y ∧ ¬ hasP m x y)) := by
 have hba := bands_area hfl hb hr
 have hfine : ∀ r ∈ flatB bs, Fine r := by
  intro r hrm
  obtain ⟨b, hb', hr'⟩ := List.mem_flatMap.1 hrm
  obtain ⟨q, hq, rfl⟩ := List.mem_map.1 hr'
  obtain ⟨y, e, k1, k2, k3, k4⟩ := hba b hb'
  have ho := (hr y).2.1 q (by rw [← e]; exact hq)
  unfold Okr at ho
  refine ⟨?_, ?_, ?_, ?_⟩
  ·show -100000 ≤ q.f_from ∧ q.f_from ≤ 100000; omega
  ·show -100000 ≤ b.a ∧ b.a ≤ 100000; omega
  ·show 1 ≤ q.f_to - q.f_from ∧ q.f_from + (q.f_to - q.f_from) ≤ 100000; omega
  ·show 1 ≤ b.b - b.a ∧ b.a + (b.b - b.a) ≤ 100000; omega
 have hind : ∀ x y, sumL (fun r => ind r x y) (flatB bs) = P01 (hasP l x y ∧ ¬ hasP m x y) := fun x y => by
  rw [band_ind x y bs _ hb (fun b hb' => by
   obtain ⟨y, e, _⟩ := hba b hb'
   exact ⟨_, by rw [e]; exact (hr y).1⟩)]
  exact P01_congr ((hr y).2.2 x)
 refine ⟨hfine, hind, fun n hn => ?_⟩
 unfold areaL
 rw [sumL_congr (g := fun r => SS (-100000) n (ind r)) (fun r hr' => by
  obtain ⟨f1, f2, f3, f4⟩ := hfine r hr'
  rw [area_ind (by omega) (by omega) (by omega) (by omega)]), SS_sumL]
 exact SS_congr hind
end Go.Proofs.YtpojeclokolkaaaGreatDoor.Law

open Go Go.Eng
namespace Go.Proofs.YtpojeclokolkaaaGreatDoor.Law
set_option linter.unusedVariables false
set_option linter.unusedSimpArgs false
theorem nodup_len {α : Type} [BEq α] [LawfulBEq α] : ∀ (l m : List α), l.Nodup → (∀ x ∈ l, x ∈ m) → l.length ≤ m.length
 | [], _, _, _ => Nat.zero_le _
 | x :: l, m, hd, hs => by
  obtain ⟨h1, h2⟩ := List.nodup_cons.1 hd
  have hx := hs x (by simp)
  have := nodup_len l (m.erase x) h2 (fun y hy => (List.mem_erase_of_ne (fun e => h1 (by rw [← e]; exact hy))).2 (hs y (by simp [hy])))
  have h3 := List.length_erase_of_mem hx
  have h4 := List.length_pos_of_mem hx
  simp only [List.length_cons]; omega
theorem ind_01 (r : Rect) (x y : Int) : ind r x y = 0 ∨ ind r x y = 1 := by
 unfold ind b01
 cases has1 x y r
 ·exact .inl rfl
 ·exact .inr rfl
theorem ind_t {r : Rect} {x y : Int} (h : has1 x y r = true) : ind r x y = 1 := by unfold ind; rw [h]; rfl
theorem ind_f {r : Rect} {x y : Int} (h : has1 x y r = false) : ind r x y = 0 := by unfold ind; rw [h]; rfl
def indL (l : List Rect) (x y : Int) : Int := sumL (fun r => ind r x y) l
theorem indL_nonneg (x y : Int) : ∀ l : List Rect, 0 ≤ indL l x y
 | [] => Int.le_refl _
 | r :: l => by
  have := indL_nonneg x y l
  unfold indL at *
  rw [sumL]
  rcases ind_01 r x y with h | h <;> omega
theorem hasP_iff (l : List Rect) (x y : Int) : hasP l x y ↔ ∃ r ∈ l, has1 x y r = true := by
 rw [← hasB_iff, hasB, List.any_eq_true]
theorem indL_pos {x y : Int} : ∀ {l : List Rect}, hasP l x y → 1 ≤ indL l x y
 | [], h => by rw [hasP_iff] at h; obtain ⟨r, hr, _⟩ := h; cases hr
 | r :: l, h => by
  have h0 := indL_nonneg x y l
  unfold indL at *
  rw [sumL]
  rw [hasP_iff] at h
  obtain ⟨q, hq, hh⟩ := h
  rcases List.mem_cons.1 hq with rfl | hq
  ·rw [ind_t hh]; omega
  ·have := indL_pos (l := l) ((hasP_iff _ _ _).2 ⟨q, hq, hh⟩)
   unfold indL at this
   rcases ind_01 r x y with h | h <;> omega
theorem indL_zero {x y : Int} : ∀ {l : List Rect}, ¬ hasP l x y → indL l x y = 0
 | [], _ => rfl
 | r :: l, h => by
  unfold indL
  rw [sumL]
  have h1 : has1 x y r = false := by
   cases hh : has1 x y r with
   | false => rfl
   | true => exact absurd ((hasP_iff _ _ _).2 ⟨r, by simp, hh⟩) h
  have h2 := indL_zero (l := l) (fun k => h (by
   obtain ⟨q, hq, hh⟩ := (hasP_iff _ _ _).1 k
   exact (hasP_iff _ _ _).2 ⟨q, by simp [hq], hh⟩))
  unfold indL at h2
  rw [ind_f h1, h2]; rfl
theorem row_nodup (y : Int) : ∀ l : List Rect, (∀ x, indL l x y ≤ 1) → (∀ r ∈ l, 1 ≤ r.W) → ((l.filter (covers y)).map (·.X)).Nodup
 | [], _, _ => List.nodup_nil
 | r :: l, h, hw => by
  have h' : ∀ x, indL l x y ≤ 1 := fun x => by
   have := h x
   unfold indL at *
   rw [sumL] at this
   rcases ind_01 r x y with k | k <;> omega
  have ih := row_nodup y l h' (fun q hq => hw q (by simp [hq]))
  rw [List.filter_cons]
  cases hc : covers y r with
  | false => exact ih
  | true =>
   simp only [if_true, List.map_cons]
   refine List.nodup_cons.2 ⟨fun hm => ?_, ih⟩
   obtain ⟨q, hq, he⟩ := List.mem_map.1 hm
   obtain ⟨q1, q2⟩ := List.mem_filter.1 hq
   have hwr := hw r (by simp)
   have hwq := hw q (by simp [q1])
   have e1 : has1 r.X y r = true := by
    unfold has1; unfold covers at hc
    rw [hc, decide_eq_true (Int.le_refl _), decide_eq_true (show r.X < r.X + r.W by omega)]; rfl
   have e2 : has1 r.X y q = true := by
    unfold has1; unfold covers at q2
    rw [q2, ← he, decide_eq_true (Int.le_refl _), decide_eq_true (show q.X < q.X + q.W by omega)]; rfl
   have h1 := h r.X
   have h2 := indL_pos (l := l) ((hasP_iff _ _ _).2 ⟨q, q1, e2⟩)
   unfold indL at h1 h2
   rw [sumL, ind_t e1] at h1
   omega
theorem band_rows : ∀ (bs : List Band) (lo : Int), CanonB lo bs → ∀ b ∈ bs, (∀ y, b.a ≤ y → y < b.b → rowAt bs y = b.row) ∧ b.a < b.b ∧ b.row ≠ []
 | [], _, _, b, hb => by cases hb
 | p :: bs, lo, ⟨h1, h2, h3, h4, h5⟩, b, hb => by
  rcases List.mem_cons.1 hb with rfl | hb
  ·exact ⟨fun y k1 k2 => rowAt_in k1 k2, h2, h3⟩
  ·obtain ⟨i1, i2, i3⟩ := band_rows bs _ h5 b hb
   refine ⟨fun y k1 k2 => ?_, i2, i3⟩
   have hge : p.b ≤ y := by
    rcases Int.lt_or_le y p.b with k | k
    ·have e := i1 y k1 k2
     rw [rowAt_low h5 k] at e
     exact absurd e.symm i3
    ·exact k
   rw [rowAt_out (.inr hge)]; exact i1 y k1 k2
theorem flat_run {bs : List Band} {lo : Int} (h : CanonB lo bs) {r : Rect} (hr : r ∈ flatB bs) {y : Int} (h1 : r.Y ≤ y) (h2 : y < r.Y + r.H) : ∃ q ∈ rowAt bs y, r.X = q.f_from ∧ r.X + r.W = q.f_to := by
 obtain ⟨b, hb, hr⟩ := List.mem_flatMap.1 hr
 obtain ⟨q, hq, rfl⟩ := List.mem_map.1 hr
 obtain ⟨i1, i2, i3⟩ := band_rows bs lo h b hb
 have e : b.a + (b.b - b.a) = b.b := by omega
 refine ⟨q, ?_, rfl, by show q.f_from + (q.f_to - q.f_from) = q.f_to; omega⟩
 rw [i1 y h1 (by have : y < b.a + (b.b - b.a) := h2; omega)]; exact hq
theorem canon_left : ∀ {L : List Run} {lo : Int}, CanonFrom lo L → ∀ q ∈ L, ¬ mem (q.f_from - 1) L
 | [], _, _, q, hq => by cases hq
 | r :: L, lo, ⟨h1, h2, h3⟩, q, hq => by
  rw [mem_cons]
  rcases List.mem_cons.1 hq with rfl | hq
  ·rintro (k | k)
   ·omega
   ·have := h3.gt k; omega
  ·have h4 := h3.lo q hq
   rintro (k | k)
   ·omega
   ·exact canon_left h3 q hq k
def meetR (a b : Rect) : Rect × Bool :=
 bif decide (min (a.X + a.W) (b.X + b.W) - max a.X b.X ≤ 0) || decide (min (a.Y + a.H) (b.Y + b.H) - max a.Y b.Y ≤ 0) then (⟨0, 0, 0, 0⟩, false)
 else (⟨max a.X b.X, max a.Y b.Y, min (a.X + a.W) (b.X + b.W) - max a.X b.X, min (a.Y + a.H) (b.Y + b.H) - max a.Y b.Y⟩, true)
def Bnd (r : Rect) : Prop := (-100000 ≤ r.X ∧ r.X ≤ 100000) ∧ (-100000 ≤ r.Y ∧ r.Y ≤ 100000) ∧ (0 ≤ r.W ∧ r.X + r.W ≤ 100000) ∧ 0 ≤ r.H ∧ r.Y + r.H ≤ 100000
theorem minI_eq (a b : Int) : minI a b = min a b := by unfold minI; split <;> omega
theorem Fine.bnd {r : Rect} (h : Fine r) : Bnd r := by unfold Fine at h; unfold Bnd; omega
theorem meet_eq {a b : Rect} (ha : Bnd a) (hb : Bnd b) : screen_meet a b = some (meetR a b) := by
 unfold Bnd at *
 unfold screen_meet meetR
 rw [w64_id (n := a.X + a.W) (by omega), w64_id (n := a.Y + a.H) (by omega), w64_id (n := b.X + b.W) (by omega), w64_id (n := b.Y + b.H) (by omega)]
 simp only [minI_eq, maxI_eq]
 rw [w64_id (n := min (a.X + a.W) (b.X + b.W) - max a.X b.X) (by omega), w64_id (n := min (a.Y + a.H) (b.Y + b.H) - max a.Y b.Y) (by omega)]
 cases decide (min (a.X + a.W) (b.X + b.W) - max a.X b.X ≤ 0) <;> cases decide (min (a.Y + a.H) (b.Y + b.H) - max a.Y b.Y ≤ 0) <;> rfl
end Go.Proofs.YtpojeclokolkaaaGreatDoor.Law

