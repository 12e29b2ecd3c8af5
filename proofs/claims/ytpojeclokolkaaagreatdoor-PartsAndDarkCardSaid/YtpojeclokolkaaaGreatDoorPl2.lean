/-
  THE PLAIN LAW (part 2).
-/
import Derived.Test.YtpojeclokolkaaaGreatDoorPl1
import Derived.Test.YtpojeclokolkaaaGreatDoorDefs
open Go Go.Eng
namespace Go.Proofs.YtpojeclokolkaaaGreatDoor.Law
set_option linter.unusedVariables false
set_option linter.unusedSimpArgs false
end Go.Proofs.YtpojeclokolkaaaGreatDoor.Law

open Go Go.Eng
namespace Go.Proofs.YtpojeclokolkaaaGreatDoor.Law
set_option linter.unusedVariables false
set_option linter.unusedSimpArgs false
end Go.Proofs.YtpojeclokolkaaaGreatDoor.Law

open Go Go.Eng
namespace Go.Proofs.YtpojeclokolkaaaGreatDoor.Law
set_option linter.unusedVariables false
set_option linter.unusedSimpArgs false
def outB (n lo hi : Int) : Bool := decide (n < lo) || decide (n > hi)
theorem outside_eq (n lo hi : Int) : kit_Outside n lo hi = some (outB n lo hi) := by
 unfold kit_Outside outB
 cases decide (n < lo) <;> cases decide (n > hi) <;> rfl
theorem in_eq (n lo hi : Int) : ref_in n lo hi = some (!outB n lo hi) := by
 unfold ref_in outB
 have e1 : decide (lo ≤ n) = !decide (n < lo) := by rw [Bool.eq_iff_iff]; simp
 have e2 : decide (n ≤ hi) = !decide (n > hi) := by rw [Bool.eq_iff_iff]; simp
 rw [e1, e2]
 cases decide (n < lo) <;> cases decide (n > hi) <;> rfl
theorem outB_f {n lo hi : Int} (h : outB n lo hi = false) : lo ≤ n ∧ n ≤ hi := by
 simp only [outB, Bool.or_eq_false_iff, decide_eq_false_iff_not] at h; omega
theorem outB_in {n lo hi : Int} (h : lo ≤ n ∧ n ≤ hi) : outB n lo hi = false := by
 simp only [outB, Bool.or_eq_false_iff, decide_eq_false_iff_not]; omega
def badR (r : Rect) : Bool := outB r.X (-100000) 100000 || outB r.Y (-100000) 100000 || outB r.W 1 (w64 (100000 - r.X)) || outB r.H 1 (w64 (100000 - r.Y))
theorem checkRect_eq (r : Rect) : screen_CheckRect r = some (bif badR r then 1 else 0) := by
 unfold screen_CheckRect badR
 simp only [outside_eq, Option.bind_some]
 cases outB r.X (-100000) 100000 <;> cases outB r.Y (-100000) 100000 <;> cases outB r.W 1 (w64 (100000 - r.X)) <;> cases outB r.H 1 (w64 (100000 - r.Y)) <;> rfl
theorem rectFault_eq (r : Rect) : ref_RectFault r = some (bif badR r then 1 else 0) := by
 unfold ref_RectFault badR
 simp only [in_eq, Option.bind_some, Bool.not_not]
 cases outB r.X (-100000) 100000 <;> cases outB r.Y (-100000) 100000 <;> cases outB r.W 1 (w64 (100000 - r.X)) <;> cases outB r.H 1 (w64 (100000 - r.Y)) <;> rfl
end Go.Proofs.YtpojeclokolkaaaGreatDoor.Law

open Go Go.Eng
namespace Go.Proofs.YtpojeclokolkaaaGreatDoor.Law
set_option linter.unusedVariables false
set_option linter.unusedSimpArgs false
theorem badR_fine {r : Rect} (h : badR r = false) : Fine r := by
 unfold badR at h
 simp only [Bool.or_eq_false_iff] at h
 obtain ⟨⟨⟨h1, h2⟩, h3⟩, h4⟩ := h
 have h1 := outB_f h1
 have h2 := outB_f h2
 rw [w64_id (by omega)] at h3 h4
 have h3 := outB_f h3
 have h4 := outB_f h4
 exact ⟨by omega, by omega, by omega, by omega, by omega⟩
theorem concat_eq (l m : List Rect) (h : l.length + m.length ≤ 1000000) : slices_Concat_api_Rect_api_Rect [l, m] = some (l ++ m) := by
 have g1 : forL [l, m] (0 : Int) (fun k x s => slices_Concat_api_Rect_api_Rect_L1 k x s) = some (.go ((l.length + m.length : Nat) : Int)) := by
  rw [forL_eq (by simp)]
  simp only [forR, slices_Concat_api_Rect_api_Rect_L1]
  have e1 : w64 (0 + (l.length : Int)) = (l.length : Int) := by rw [w64_id (by omega)]; omega
  have e2 : w64 ((l.length : Int) + (m.length : Int)) = ((l.length + m.length : Nat) : Int) := by rw [w64_id (by omega)]; omega
  have d1 : decide ((l.length : Int) < 0) = false := by simp
  have d2 : decide (((l.length + m.length : Nat) : Int) < 0) = false := by simp; omega
  simp only [e1, e2, d1, d2, cond_false, Option.bind_some]
 have g2 : ∃ b, slices_Grow_api_Rect_api_Rect_k ((l.length + m.length : Nat) : Int) = some b := by
  unfold slices_Grow_api_Rect_api_Rect_k
  have d1 : decide (((l.length + m.length : Nat) : Int) < 0) = false := by simp; omega
  have e1 : w64 (((l.length + m.length : Nat) : Int) - w64 (0 - 0)) = ((l.length + m.length : Nat) : Int) := by
   rw [show w64 (0 - 0) = 0 from rfl, w64_id (by omega)]; omega
  rw [d1, cond_false, e1]
  by_cases hp : ((l.length + m.length : Nat) : Int) > 0
  ·rw [decide_eq_true hp, cond_true]
   unfold zN
   rw [if_pos ⟨hp, by omega, by omega⟩]
   exact ⟨true, rfl⟩
  ·rw [decide_eq_false hp, cond_false]; exact ⟨false, rfl⟩
 obtain ⟨b, g2⟩ := g2
 have g3 : forL [l, m] ([] : List Rect) (fun k x s => slices_Concat_api_Rect_api_Rect_L2 k x s) = some (.go (l ++ m)) := by
  rw [forL_eq (by simp)]
  simp only [forR, slices_Concat_api_Rect_api_Rect_L2]
  rw [appL_ok _ _ (by simp; omega)]
  simp only [Option.bind_some, List.nil_append]
  rw [appL_ok _ _ (by omega)]; rfl
 unfold slices_Concat_api_Rect_api_Rect
 rw [g1, Option.bind_some]
 simp only [thenC]
 rw [g2, Option.bind_some, g3]; rfl
def has1 (x y : Int) (r : Rect) : Bool := (decide (r.X ≤ x) && decide (x < r.X + r.W)) && (decide (r.Y ≤ y) && decide (y < r.Y + r.H))
def hasB (l : List Rect) (x y : Int) : Bool := l.any (has1 x y)
theorem hasB_iff (l : List Rect) (x y : Int) : hasB l x y = true ↔ hasP l x y := by
 unfold hasB hasP
 rw [List.any_eq_true]
 simp only [has1, Bool.and_eq_true, decide_eq_true_eq]
theorem edges_loop {body : Nat → Rect → List Int → Option (Ctl (List Int) Unit)} (f : Rect → List Int) (hf : ∀ r, (f r).length = 2) : ∀ (l : List Rect) (k : Nat) (s : List Int), (∀ k r s, r ∈ l → s.length ≤ 1000000 → body k r s = some (.go (s ++ f r))) → s.length + 2 * l.length ≤ 1000000 → forR body l k s = some (.go (s ++ l.flatMap f))
 | [], k, s, _, _ => by simp [forR]
 | r :: l, k, s, h, hl => by
  simp only [List.length_cons] at hl
  have := hf r
  rw [forR, h k r s (by simp) (by omega), Option.bind_some]
  simp only
  rw [edges_loop f hf l (k + 1) _ (fun k r s hr => h k r s (by simp [hr])) (by simp; omega)]
  simp
def yE (r : Rect) : List Int := [r.Y, r.Y + r.H]
theorem flat2 {f : Rect → List Int} (hf : ∀ r, (f r).length = 2) : ∀ l : List Rect, (l.flatMap f).length = 2 * l.length
 | [] => rfl
 | r :: l => by rw [List.flatMap_cons, List.length_append, hf, flat2 hf l, List.length_cons]; omega
theorem cutsOf (e : List Int) (he : e.length ≤ 1000000) : ∃ c, ((slices_Sort_int_int_v1 e).bind fun r_22 => (sameL r_22 e).bind fun _ => (slices_Compact_int_int_v1 r_22).bind fun r_25 => some r_25) = some c ∧ c.Pairwise (· < ·) ∧ (∀ x, x ∈ c ↔ x ∈ e) ∧ c.length ≤ e.length := by
 obtain ⟨s, c, h1, h2, h3, h4, h5, h6⟩ := sortC e (by omega)
 have hsm : sameL s e = some () := by unfold sameL; rw [if_pos h2]
 exact ⟨c, by rw [h1, Option.bind_some, hsm, Option.bind_some, h3, Option.bind_some], h4, h5, h6⟩
end Go.Proofs.YtpojeclokolkaaaGreatDoor.Law

open Go Go.Eng
namespace Go.Proofs.YtpojeclokolkaaaGreatDoor.Law
set_option linter.unusedVariables false
set_option linter.unusedSimpArgs false
theorem bandsOf_nil : ∀ (l : List (Int × List Run)) (fr fr' : Int), bandsOf l [] fr = bandsOf l [] fr'
 | [], _, _ => rfl
 | (y, R) :: l, fr, fr' => by
  simp only [bandsOf, if_true]
  by_cases h : [] = R
  ·rw [if_pos h, if_pos h]; exact bandsOf_nil l fr fr'
  ·rw [if_neg h, if_neg h]
theorem rowFn_of (Rw : Int → List Run) : ∀ (ys : List Int), (∀ (j : Nat) (a b : Int), ys[j]? = some a → ys[j + 1]? = some b → ∀ y, a ≤ y → y < b → Rw y = Rw a) → (∀ y, (∀ a ∈ ys, a ≤ y) → Rw y = []) → ys.Pairwise (· < ·) → ∀ (y : Int) (band : List Run), rowFn (pairsOf Rw ys) band y = match ys with | [] => Rw y | a :: _ => bif decide (y < a) then band else Rw y
 | [], _, h2, _, y, band => (h2 y (fun a ha => by cases ha)).symm
 | [a], _, h2, _, y, band => by
  simp only [pairsOf, rowFn]
  by_cases h : y < a
  ·rw [decide_eq_true h]; rfl
  ·rw [decide_eq_false h, cond_false, cond_false, h2 y (fun b hb => by rw [List.mem_singleton] at hb; omega)]
 | a :: b :: l, h1, h2, h3, y, band => by
  obtain ⟨p1, p2⟩ := List.pairwise_cons.1 h3
  have hab := p1 b (by simp)
  have ih := rowFn_of Rw (b :: l) (fun j c d hc hd => h1 (j + 1) c d (by simpa using hc) (by simpa using hd)) (fun y hy => h2 y (fun c hc => by
   rcases List.mem_cons.1 hc with rfl | hc
   ·have := hy b (by simp); omega
   ·exact hy c hc)) p2 y (Rw a)
  have hp : pairsOf Rw (a :: b :: l) = (a, Rw a) :: pairsOf Rw (b :: l) := rfl
  rw [hp, rowFn, ih]
  show (bif decide (y < a) then band else bif decide (y < b) then Rw a else Rw y) = bif decide (y < a) then band else Rw y
  by_cases h : y < a
  ·rw [decide_eq_true h]; rfl
  ·rw [decide_eq_false h, cond_false, cond_false]
   by_cases k : y < b
   ·rw [decide_eq_true k, cond_true, h1 0 a b rfl rfl y (by omega) k]
   ·rw [decide_eq_false k, cond_false]
theorem rise_pairs (Rw : Int → List Run) : ∀ (ys : List Int) (lo : Int), (∀ y ∈ ys, lo < y) → ys.Pairwise (· < ·) → Rise lo (pairsOf Rw ys)
 | [], _, _, _ => trivial
 | [a], lo, h, _ => ⟨h a (by simp), fun _ => rfl, trivial⟩
 | a :: b :: l, lo, h, h3 => by
  obtain ⟨p1, p2⟩ := List.pairwise_cons.1 h3
  refine ⟨h a (by simp), fun e => ?_, rise_pairs Rw (b :: l) a p1 p2⟩
  cases l <;> cases e
def Fits (Rw : Int → List Run) (ys : List Int) : Prop :=
 ys.Pairwise (· < ·) ∧ (∀ y ∈ ys, -200000 < y) ∧ (∀ (j : Nat) (a b : Int), ys[j]? = some a → ys[j + 1]? = some b → ∀ y, a ≤ y → y < b → Rw y = Rw a) ∧ (∀ y, (∀ a ∈ ys, a ≤ y) → Rw y = []) ∧ (∀ y, (∀ a ∈ ys, y < a) → Rw y = [])
theorem fits_bands {Rw : Int → List Run} {ys : List Int} (h : Fits Rw ys) (fr : Int) : CanonB (-200000) (bandsOf (pairsOf Rw ys) [] fr) ∧ ∀ y, rowAt (bandsOf (pairsOf Rw ys) [] fr) y = Rw y := by
 obtain ⟨h1, h2, h3, h4, h5⟩ := h
 rw [bandsOf_nil _ fr (-200000)]
 obtain ⟨c1, c2⟩ := bands_ok (band := []) (rise_pairs Rw ys (-200000) h2 h1) (Int.le_refl _) (fun _ => rfl)
 refine ⟨c1, fun y => ?_⟩
 rw [c2, rowFn_of Rw ys h3 h4 h1]
 by_cases k : y < -200000
 ·rw [decide_eq_true k, cond_true, h5 y (fun a ha => by have := h2 a ha; omega)]
 ·rw [decide_eq_false k, cond_false]
  cases ys with
  | nil => rfl
  | cons a l =>
   simp only
   by_cases k : y < a
   ·rw [decide_eq_true k, cond_true]
    exact (h5 y (fun b hb => by
     rcases List.mem_cons.1 hb with rfl | hb
     ·exact k
     ·have := (List.pairwise_cons.1 h1).1 b hb; omega)).symm
   ·rw [decide_eq_false k, cond_false]
theorem edge_gap {es : List Int} (hp : es.Pairwise (· < ·)) {i : Nat} {a b e : Int} (ha : es[i]? = some a) (hb : es[i + 1]? = some b) (he : e ∈ es) : e ≤ a ∨ b ≤ e := by
 obtain ⟨q, hq, rfl⟩ := List.getElem_of_mem he
 obtain ⟨la, ea⟩ := List.getElem?_eq_some_iff.1 ha
 obtain ⟨lb, eb⟩ := List.getElem?_eq_some_iff.1 hb
 rcases Nat.lt_trichotomy q i with k | k | k
 ·left; rw [← ea]; exact Int.le_of_lt ((List.pairwise_iff_getElem.1 hp) q i hq la k)
 ·left; subst k; rw [← ea]; exact Int.le_refl _
 ·right
  rcases Nat.eq_or_lt_of_le (show i + 1 ≤ q by omega) with e | k2
  ·subst e; rw [← eb]; exact Int.le_refl _
  ·rw [← eb]; exact Int.le_of_lt ((List.pairwise_iff_getElem.1 hp) (i + 1) q lb hq k2)
theorem cell_y {ys : List Int} (hp : ys.Pairwise (· < ·)) {L : List Rect} (hL : ∀ r ∈ L, r.Y ∈ ys ∧ r.Y + r.H ∈ ys) {j : Nat} {a b : Int} (ha : ys[j]? = some a) (hb : ys[j + 1]? = some b) {y : Int} (h1 : a ≤ y) (h2 : y < b) (x : Int) : hasP L x y ↔ hasP L x a := by
 constructor
 ·rintro ⟨r, hr, k3, k1, k2⟩
  obtain ⟨i1, i2⟩ := hL r hr
  refine ⟨r, hr, k3, ?_, by omega⟩
  rcases edge_gap hp ha hb i1 with g | g <;> omega
 ·rintro ⟨r, hr, k3, k1, k2⟩
  obtain ⟨i1, i2⟩ := hL r hr
  refine ⟨r, hr, k3, by omega, ?_⟩
  rcases edge_gap hp ha hb i2 with g | g <;> omega
theorem canon_nil {lo : Int} {R : List Run} (h : CanonFrom lo R) (he : ∀ x, ¬ mem x R) : R = [] :=
 canon_eq h (show CanonFrom lo [] from trivial) (fun x => by simp [mem_nil, he x])
end Go.Proofs.YtpojeclokolkaaaGreatDoor.Law

open Go Go.Eng
namespace Go.Proofs.YtpojeclokolkaaaGreatDoor.Law
set_option linter.unusedVariables false
set_option linter.unusedSimpArgs false
def sumN (f : Int → Int) (lo : Int) : Nat → Int
 | 0 => 0
 | n + 1 => sumN f lo n + f (lo + n)
theorem sumN_congr {f g : Int → Int} {lo : Int} : ∀ {n : Nat}, (∀ x, f x = g x) → sumN f lo n = sumN g lo n
 | 0, _ => rfl
 | n + 1, h => by rw [sumN, sumN, sumN_congr (n := n) h, h]
theorem sumN_add (f g : Int → Int) (lo : Int) : ∀ n : Nat, sumN (fun x => f x + g x) lo n = sumN f lo n + sumN g lo n
 | 0 => rfl
 | n + 1 => by rw [sumN, sumN, sumN, sumN_add f g lo n]; omega
theorem sumN_zero (lo : Int) : ∀ n : Nat, sumN (fun _ => 0) lo n = 0
 | 0 => rfl
 | n + 1 => by rw [sumN, sumN_zero lo n]; rfl
theorem sumN_mul (c : Int) (f : Int → Int) (lo : Int) : ∀ n : Nat, sumN (fun x => c * f x) lo n = c * sumN f lo n
 | 0 => by simp [sumN]
 | n + 1 => by rw [sumN, sumN, sumN_mul c f lo n, Int.mul_add]
def b01 (b : Bool) : Int := bif b then 1 else 0
theorem b01_and (a b : Bool) : b01 (a && b) = b01 b * b01 a := by cases a <;> cases b <;> rfl
theorem sumN_ind {lo a b : Int} (h1 : lo ≤ a) (h2 : a ≤ b) : ∀ n : Nat, sumN (fun x => b01 (decide (a ≤ x) && decide (x < b))) lo n = min b (lo + n) - min a (lo + n)
 | 0 => by simp only [sumN]; omega
 | n + 1 => by
  rw [sumN, sumN_ind h1 h2 n]
  by_cases k1 : a ≤ lo + (n : Int)
  ·by_cases k2 : lo + (n : Int) < b
   ·rw [decide_eq_true k1, decide_eq_true k2]; show _ + 1 = _; omega
   ·rw [decide_eq_true k1, decide_eq_false k2]; show _ + 0 = _; omega
  ·rw [decide_eq_false k1]; show _ + 0 = _; omega
def SS (lo : Int) (n : Nat) (f : Int → Int → Int) : Int := sumN (fun y => sumN (fun x => f x y) lo n) lo n
theorem SS_congr {lo : Int} {n : Nat} {f g : Int → Int → Int} (h : ∀ x y, f x y = g x y) : SS lo n f = SS lo n g := sumN_congr (fun y => sumN_congr (fun x => h x y))
theorem SS_add (lo : Int) (n : Nat) (f g : Int → Int → Int) : SS lo n (fun x y => f x y + g x y) = SS lo n f + SS lo n g := by
 unfold SS
 rw [← sumN_add]
 exact sumN_congr (fun y => sumN_add _ _ _ _)
theorem SS_zero (lo : Int) (n : Nat) : SS lo n (fun _ _ => 0) = 0 := by
 unfold SS
 rw [sumN_congr (g := fun _ => 0) (fun y => sumN_zero lo n), sumN_zero]
def sumL {α : Type} (f : α → Int) : List α → Int
 | [] => 0
 | x :: l => f x + sumL f l
theorem sumL_app {α : Type} (f : α → Int) : ∀ l m : List α, sumL f (l ++ m) = sumL f l + sumL f m
 | [], m => by simp [sumL]
 | x :: l, m => by rw [List.cons_append, sumL, sumL, sumL_app f l m]; omega
theorem sumL_congr {α : Type} {f g : α → Int} : ∀ {l : List α}, (∀ x ∈ l, f x = g x) → sumL f l = sumL g l
 | [], _ => rfl
 | x :: l, h => by rw [sumL, sumL, h x (by simp), sumL_congr (l := l) (fun y hy => h y (by simp [hy]))]
theorem sumL_map {α β : Type} (f : β → Int) (g : α → β) : ∀ l : List α, sumL f (l.map g) = sumL (fun x => f (g x)) l
 | [] => rfl
 | x :: l => by rw [List.map_cons, sumL, sumL, sumL_map f g l]
theorem sumL_mul {α : Type} (c : Int) (f : α → Int) : ∀ l : List α, sumL (fun x => c * f x) l = c * sumL f l
 | [] => by simp [sumL]
 | x :: l => by rw [sumL, sumL, sumL_mul c f l, Int.mul_add]
theorem SS_sumL {α : Type} (lo : Int) (n : Nat) (g : α → Int → Int → Int) : ∀ l : List α, sumL (fun r => SS lo n (g r)) l = SS lo n (fun x y => sumL (fun r => g r x y) l)
 | [] => (SS_zero lo n).symm
 | r :: l => by
  rw [sumL, SS_sumL lo n g l, ← SS_add]; rfl
def ind (r : Rect) (x y : Int) : Int := b01 (has1 x y r)
theorem area_ind {lo : Int} {n : Nat} {r : Rect} (h1 : lo ≤ r.X ∧ r.X + r.W ≤ lo + n) (h2 : lo ≤ r.Y ∧ r.Y + r.H ≤ lo + n) (h3 : 0 ≤ r.W) (h4 : 0 ≤ r.H) : SS lo n (ind r) = r.W * r.H := by
 have e1 : sumN (fun x => b01 (decide (r.X ≤ x) && decide (x < r.X + r.W))) lo n = r.W := by rw [sumN_ind h1.1 (by omega)]; omega
 have e2 : sumN (fun y => b01 (decide (r.Y ≤ y) && decide (y < r.Y + r.H))) lo n = r.H := by rw [sumN_ind h2.1 (by omega)]; omega
 unfold SS ind has1
 rw [sumN_congr (g := fun y => r.W * b01 (decide (r.Y ≤ y) && decide (y < r.Y + r.H))) (fun y => by
  rw [sumN_congr (g := fun x => b01 (decide (r.Y ≤ y) && decide (y < r.Y + r.H)) * b01 (decide (r.X ≤ x) && decide (x < r.X + r.W))) (fun x => b01_and _ _), sumN_mul, e1, Int.mul_comm]), sumN_mul, e2]
def areaL (l : List Rect) : Int := sumL (fun r => r.W * r.H) l
open Classical in
noncomputable def P01 (p : Prop) : Int := if p then 1 else 0
theorem P01_t {p : Prop} (h : p) : P01 p = 1 := by unfold P01; rw [if_pos h]
theorem P01_f {p : Prop} (h : ¬ p) : P01 p = 0 := by unfold P01; rw [if_neg h]
theorem P01_congr {p q : Prop} (h : p ↔ q) : P01 p = P01 q := by rw [propext h]
theorem b01_P (b : Bool) : b01 b = P01 (b = true) := by
 cases b
 ·rw [P01_f (by simp)]; rfl
 ·rw [P01_t rfl]; rfl
theorem row_ind (x : Int) : ∀ (L : List Run) (lo : Int), CanonFrom lo L → sumL (fun r => b01 (decide (r.f_from ≤ x) && decide (x < r.f_to))) L = P01 (mem x L)
 | [], _, _ => by rw [P01_f (mem_nil x)]; rfl
 | r :: L, lo, ⟨h1, h2, h3⟩ => by
  rw [sumL, row_ind x L _ h3, b01_P]
  simp only [Bool.and_eq_true, decide_eq_true_eq]
  by_cases k : r.f_from ≤ x ∧ x < r.f_to
  ·rw [P01_t k, P01_f (fun m => by have := h3.gt m; omega), P01_t ((mem_cons _ _ _).2 (.inl k))]; rfl
  ·rw [P01_f k, Int.zero_add]
   exact P01_congr (by rw [mem_cons]; simp [k])
theorem band_ind (x y : Int) : ∀ (bs : List Band) (lo : Int), CanonB lo bs → (∀ b ∈ bs, ∃ c, CanonFrom c b.row) → sumL (fun r => ind r x y) (flatB bs) = P01 (mem x (rowAt bs y))
 | [], _, _, _ => by rw [show rowAt [] y = [] from rfl, P01_f (mem_nil x)]; rfl
 | p :: bs, lo, ⟨h1, h2, h3, h4, h5⟩, hc => by
  have e : flatB (p :: bs) = p.row.map (toRect p.a (p.b - p.a)) ++ flatB bs := by simp [flatB]
  rw [e, sumL_app, sumL_map, band_ind x y bs _ h5 (fun b hb => hc b (by simp [hb]))]
  have e2 : ∀ r : Run, ind (toRect p.a (p.b - p.a) r) x y = b01 (decide (p.a ≤ y) && decide (y < p.b)) * b01 (decide (r.f_from ≤ x) && decide (x < r.f_to)) := fun r => by
   unfold ind has1 toRect
   rw [b01_and]
   simp only
   rw [show r.f_from + (r.f_to - r.f_from) = r.f_to by omega, show p.a + (p.b - p.a) = p.b by omega]
  rw [sumL_congr (fun r _ => e2 r), sumL_mul]
  obtain ⟨c, hcp⟩ := hc p (by simp)
  rw [row_ind x p.row c hcp]
  by_cases k1 : p.a ≤ y
  ·by_cases k2 : y < p.b
   ·rw [rowAt_in k1 k2, rowAt_low h5 k2, P01_f (mem_nil x), decide_eq_true k1, decide_eq_true k2]
    show 1 * _ + 0 = _
    omega
   ·rw [rowAt_out (.inr (by omega)), decide_eq_false k2, Bool.and_false]
    show 0 * _ + _ = _
    omega
  ·rw [rowAt_out (.inl (by omega)), decide_eq_false k1]
   show 0 * _ + _ = _
   omega
theorem bands_area {l m : List Rect} (hfl : ∀ r ∈ l, Fine r) {bs : List Band} (hb : CanonB (-200000) bs) (hr : ∀ y, CanonFrom (-200000) (rowAt bs y) ∧ (∀ r ∈ rowAt bs y, Okr r) ∧ ∀ x, mem x (rowAt bs y) ↔ hasP l x y ∧ ¬ hasP m x y) :
  (∀ b ∈ bs, ∃ y, b.row = rowAt bs y ∧ b.a ≤ y ∧ y < b.b ∧ -100000 ≤ b.a ∧ b.b ≤ 100000) := by
 have key : ∀ (bs' : List Band) (lo : Int), CanonB lo bs' → ∀ b ∈ bs', (∀ y, b.a ≤ y → y < b.b → rowAt bs' y = b.row) ∧ b.a < b.b ∧ b.row ≠ [] := by
  intro bs'
  induction bs' with
  | nil => intro lo _ b hb; cases hb
  | cons p bs' ih =>
   rintro lo ⟨h1, h2, h3, h4, h5⟩ b hb
   rcases List.mem_cons.1 hb with rfl | hb
   ·exact ⟨fun y k1 k2 => rowAt_in k1 k2, h2, h3⟩
   ·obtain ⟨i1, i2, i3⟩ := ih _ h5 b hb
    refine ⟨fun y k1 k2 => ?_, i2, i3⟩
    have hge : p.b ≤ y := by
     rcases Int.lt_or_le y p.b with k | k
     ·have e := i1 y k1 k2
      rw [rowAt_low h5 k] at e
      exact absurd e.symm i3
     ·exact k
    rw [rowAt_out (.inr hge)]; exact i1 y k1 k2
 intro b hbm
 obtain ⟨i1, i2, i3⟩ := key bs _ hb b hbm
 have at_ : ∀ y, b.a ≤ y → y < b.b → -100000 ≤ y ∧ y < 100000 := fun y k1 k2 => by
  obtain ⟨q, hq⟩ := List.exists_mem_of_ne_nil _ i3
  obtain ⟨c1, c2, c3⟩ := hr y
  rw [i1 y k1 k2] at c1 c2 c3
  have := c2 q hq
  have hm : mem q.f_from b.row := ⟨q, hq, Int.le_refl _, this.2.1⟩
  obtain ⟨⟨r, hr, _, k3⟩, _⟩ := (c3 _).1 hm
  obtain ⟨f1, f2, f3, f4⟩ := hfl r hr
  omega
 have a1 := at_ b.a (Int.le_refl _) i2
 have a2 := at_ (b.b - 1) (by omega) (by omega)
 exact ⟨b.a, (i1 b.a (Int.le_refl _) i2).symm, Int.le_refl _, i2, by omega, by omega⟩
theorem region_area {l m : List Rect} (hfl : ∀ r ∈ l, Fine r) {bs : List Band} (hb : CanonB (-200000) bs) (hr : ∀ y, CanonFrom (-200000) (rowAt bs y) ∧ (∀ r ∈ rowAt bs y, Okr r) ∧ ∀ x, mem x (rowAt bs y) ↔ hasP l x y ∧ ¬ hasP m x y) :
  (∀ r ∈ flatB bs, Fine r) ∧ (∀ x y, sumL (fun r => ind r x y) (flatB bs) = P01 (hasP l x y ∧ ¬ hasP m x y)) ∧ ∀ n : Nat, n = 200000 → areaL (flatB bs) = SS (-100000) n (fun x y => P01 (hasP l x y ∧ ¬ hasP m x y)) := by
 have hba := bands_area hfl hb hr
 have hfine : ∀ r ∈ flatB bs, Fine r := by
  intro r hrm
  obtain ⟨b, hb', hr'⟩ := List.mem_flatMap.1 hrm
  obtain ⟨q, hq, rfl⟩ := List.mem_map.1 hr'
  obtain ⟨y, e, k1, k2, k3, k4⟩ := hba b hb'
  have ho := (hr y).2.1 q (by rw [← e]; exact hq)
  unfold Okr at ho
  refine ⟨?_, ?_, ?_, ?_⟩
  ·show -100000 ≤ q.f_from ∧ q.f_from ≤ 100000; omega
  ·show -100000 ≤ b.a ∧ b.a ≤ 100000; omega
  ·show 1 ≤ q.f_to - q.f_from ∧ q.f_from + (q.f_to - q.f_from) ≤ 100000; omega
  ·show 1 ≤ b.b - b.a ∧ b.a + (b.b - b.a) ≤ 100000; omega
 have hind : ∀ x y, sumL (fun r => ind r x y) (flatB bs) = P01 (hasP l x y ∧ ¬ hasP m x y) := fun x y => by
  rw [band_ind x y bs _ hb (fun b hb' => by
   obtain ⟨y, e, _⟩ := hba b hb'
   exact ⟨_, by rw [e]; exact (hr y).1⟩)]
  exact P01_congr ((hr y).2.2 x)
 refine ⟨hfine, hind, fun n hn => ?_⟩
 unfold areaL
 rw [sumL_congr (g := fun r => SS (-100000) n (ind r)) (fun r hr' => by
  obtain ⟨f1, f2, f3, f4⟩ := hfine r hr'
  rw [area_ind (by omega) (by omega) (by omega) (by omega)]), SS_sumL]
 exact SS_congr hind
end Go.Proofs.YtpojeclokolkaaaGreatDoor.Law

open Go Go.Eng
namespace Go.Proofs.YtpojeclokolkaaaGreatDoor.Law
set_option linter.unusedVariables false
set_option linter.unusedSimpArgs false
theorem nodup_len {α : Type} [BEq α] [LawfulBEq α] : ∀ (l m : List α), l.Nodup → (∀ x ∈ l, x ∈ m) → l.length ≤ m.length
 | [], _, _, _ => Nat.zero_le _
 | x :: l, m, hd, hs => by
  obtain ⟨h1, h2⟩ := List.nodup_cons.1 hd
  have hx := hs x (by simp)
  have := nodup_len l (m.erase x) h2 (fun y hy => (List.mem_erase_of_ne (fun e => h1 (by rw [← e]; exact hy))).2 (hs y (by simp [hy])))
  have h3 := List.length_erase_of_mem hx
  have h4 := List.length_pos_of_mem hx
  simp only [List.length_cons]; omega
theorem ind_01 (r : Rect) (x y : Int) : ind r x y = 0 ∨ ind r x y = 1 := by
 unfold ind b01
 cases has1 x y r
 ·exact .inl rfl
 ·exact .inr rfl
theorem ind_t {r : Rect} {x y : Int} (h : has1 x y r = true) : ind r x y = 1 := by unfold ind; rw [h]; rfl
theorem ind_f {r : Rect} {x y : Int} (h : has1 x y r = false) : ind r x y = 0 := by unfold ind; rw [h]; rfl
def indL (l : List Rect) (x y : Int) : Int := sumL (fun r => ind r x y) l
theorem indL_nonneg (x y : Int) : ∀ l : List Rect, 0 ≤ indL l x y
 | [] => Int.le_refl _
 | r :: l => by
  have := indL_nonneg x y l
  unfold indL at *
  rw [sumL]
  rcases ind_01 r x y with h | h <;> omega
theorem hasP_iff (l : List Rect) (x y : Int) : hasP l x y ↔ ∃ r ∈ l, has1 x y r = true := by
 rw [← hasB_iff, hasB, List.any_eq_true]
theorem indL_pos {x y : Int} : ∀ {l : List Rect}, hasP l x y → 1 ≤ indL l x y
 | [], h => by rw [hasP_iff] at h; obtain ⟨r, hr, _⟩ := h; cases hr
 | r :: l, h => by
  have h0 := indL_nonneg x y l
  unfold indL at *
  rw [sumL]
  rw [hasP_iff] at h
  obtain ⟨q, hq, hh⟩ := h
  rcases List.mem_cons.1 hq with rfl | hq
  ·rw [ind_t hh]; omega
  ·have := indL_pos (l := l) ((hasP_iff _ _ _).2 ⟨q, hq, hh⟩)
   unfold indL at this
   rcases ind_01 r x y with h | h <;> omega
theorem indL_zero {x y : Int} : ∀ {l : List Rect}, ¬ hasP l x y → indL l x y = 0
 | [], _ => rfl
 | r :: l, h => by
  unfold indL
  rw [sumL]
  have h1 : has1 x y r = false := by
   cases hh : has1 x y r with
   | false => rfl
   | true => exact absurd ((hasP_iff _ _ _).2 ⟨r, by simp, hh⟩) h
  have h2 := indL_zero (l := l) (fun k => h (by
   obtain ⟨q, hq, hh⟩ := (hasP_iff _ _ _).1 k
   exact (hasP_iff _ _ _).2 ⟨q, by simp [hq], hh⟩))
  unfold indL at h2
  rw [ind_f h1, h2]; rfl
theorem indL_P {l : List Rect} {x y : Int} (h : indL l x y ≤ 1) : indL l x y = P01 (hasP l x y) := by
 by_cases k : hasP l x y
 ·rw [P01_t k]; have := indL_pos k; omega
 ·rw [P01_f k, indL_zero k]
theorem row_nodup (y : Int) : ∀ l : List Rect, (∀ x, indL l x y ≤ 1) → (∀ r ∈ l, 1 ≤ r.W) → ((l.filter (covers y)).map (·.X)).Nodup
 | [], _, _ => List.nodup_nil
 | r :: l, h, hw => by
  have h' : ∀ x, indL l x y ≤ 1 := fun x => by
   have := h x
   unfold indL at *
   rw [sumL] at this
   rcases ind_01 r x y with k | k <;> omega
  have ih := row_nodup y l h' (fun q hq => hw q (by simp [hq]))
  rw [List.filter_cons]
  cases hc : covers y r with
  | false => exact ih
  | true =>
   simp only [if_true, List.map_cons]
   refine List.nodup_cons.2 ⟨fun hm => ?_, ih⟩
   obtain ⟨q, hq, he⟩ := List.mem_map.1 hm
   obtain ⟨q1, q2⟩ := List.mem_filter.1 hq
   have hwr := hw r (by simp)
   have hwq := hw q (by simp [q1])
   have e1 : has1 r.X y r = true := by
    unfold has1; unfold covers at hc
    rw [hc, decide_eq_true (Int.le_refl _), decide_eq_true (show r.X < r.X + r.W by omega)]; rfl
   have e2 : has1 r.X y q = true := by
    unfold has1; unfold covers at q2
    rw [q2, ← he, decide_eq_true (Int.le_refl _), decide_eq_true (show q.X < q.X + q.W by omega)]; rfl
   have h1 := h r.X
   have h2 := indL_pos (l := l) ((hasP_iff _ _ _).2 ⟨q, q1, e2⟩)
   unfold indL at h1 h2
   rw [sumL, ind_t e1] at h1
   omega
theorem indL_apart (x y : Int) : ∀ l : List Rect, l.Pairwise (fun a b => ∀ x y, ¬ (has1 x y a = true ∧ has1 x y b = true)) → indL l x y ≤ 1
 | [], _ => by show (0 : Int) ≤ 1; omega
 | r :: l, h => by
  obtain ⟨h1, h2⟩ := List.pairwise_cons.1 h
  have ih := indL_apart x y l h2
  have h0 := indL_nonneg x y l
  cases hh : has1 x y r with
  | false =>
   unfold indL at *
   rw [sumL, ind_f hh]; omega
  | true =>
   have : ¬ hasP l x y := fun k => by
    obtain ⟨q, hq, hq2⟩ := (hasP_iff _ _ _).1 k
    exact h1 q hq x y ⟨hh, hq2⟩
   have := indL_zero this
   unfold indL at *
   rw [sumL, ind_t hh]; omega
theorem band_rows : ∀ (bs : List Band) (lo : Int), CanonB lo bs → ∀ b ∈ bs, (∀ y, b.a ≤ y → y < b.b → rowAt bs y = b.row) ∧ b.a < b.b ∧ b.row ≠ []
 | [], _, _, b, hb => by cases hb
 | p :: bs, lo, ⟨h1, h2, h3, h4, h5⟩, b, hb => by
  rcases List.mem_cons.1 hb with rfl | hb
  ·exact ⟨fun y k1 k2 => rowAt_in k1 k2, h2, h3⟩
  ·obtain ⟨i1, i2, i3⟩ := band_rows bs _ h5 b hb
   refine ⟨fun y k1 k2 => ?_, i2, i3⟩
   have hge : p.b ≤ y := by
    rcases Int.lt_or_le y p.b with k | k
    ·have e := i1 y k1 k2
     rw [rowAt_low h5 k] at e
     exact absurd e.symm i3
    ·exact k
   rw [rowAt_out (.inr hge)]; exact i1 y k1 k2
theorem flat_run {bs : List Band} {lo : Int} (h : CanonB lo bs) {r : Rect} (hr : r ∈ flatB bs) {y : Int} (h1 : r.Y ≤ y) (h2 : y < r.Y + r.H) : ∃ q ∈ rowAt bs y, r.X = q.f_from ∧ r.X + r.W = q.f_to := by
 obtain ⟨b, hb, hr⟩ := List.mem_flatMap.1 hr
 obtain ⟨q, hq, rfl⟩ := List.mem_map.1 hr
 obtain ⟨i1, i2, i3⟩ := band_rows bs lo h b hb
 have e : b.a + (b.b - b.a) = b.b := by omega
 refine ⟨q, ?_, rfl, by show q.f_from + (q.f_to - q.f_from) = q.f_to; omega⟩
 rw [i1 y h1 (by have : y < b.a + (b.b - b.a) := h2; omega)]; exact hq
theorem canon_left : ∀ {L : List Run} {lo : Int}, CanonFrom lo L → ∀ q ∈ L, ¬ mem (q.f_from - 1) L
 | [], _, _, q, hq => by cases hq
 | r :: L, lo, ⟨h1, h2, h3⟩, q, hq => by
  rw [mem_cons]
  rcases List.mem_cons.1 hq with rfl | hq
  ·rintro (k | k)
   ·omega
   ·have := h3.gt k; omega
  ·have h4 := h3.lo q hq
   rintro (k | k)
   ·omega
   ·exact canon_left h3 q hq k
def meetR (a b : Rect) : Rect × Bool :=
 bif decide (min (a.X + a.W) (b.X + b.W) - max a.X b.X ≤ 0) || decide (min (a.Y + a.H) (b.Y + b.H) - max a.Y b.Y ≤ 0) then (⟨0, 0, 0, 0⟩, false)
 else (⟨max a.X b.X, max a.Y b.Y, min (a.X + a.W) (b.X + b.W) - max a.X b.X, min (a.Y + a.H) (b.Y + b.H) - max a.Y b.Y⟩, true)
def Bnd (r : Rect) : Prop := (-100000 ≤ r.X ∧ r.X ≤ 100000) ∧ (-100000 ≤ r.Y ∧ r.Y ≤ 100000) ∧ (0 ≤ r.W ∧ r.X + r.W ≤ 100000) ∧ 0 ≤ r.H ∧ r.Y + r.H ≤ 100000
theorem minI_eq (a b : Int) : minI a b = min a b := by unfold minI; split <;> omega
theorem Fine.bnd {r : Rect} (h : Fine r) : Bnd r := by unfold Fine at h; unfold Bnd; omega
theorem meetR_none {a b : Rect} (h : (meetR a b).2 = false) (x y : Int) : ¬ (has1 x y a = true ∧ has1 x y b = true) := by
 unfold meetR at h
 cases hc : decide (min (a.X + a.W) (b.X + b.W) - max a.X b.X ≤ 0) || decide (min (a.Y + a.H) (b.Y + b.H) - max a.Y b.Y ≤ 0) with
 | false => rw [hc] at h; cases h
 | true =>
  simp only [Bool.or_eq_true, decide_eq_true_eq] at hc
  simp only [has1, Bool.and_eq_true, decide_eq_true_eq]
  omega
theorem meetR_ind (a b : Rect) (x y : Int) : ind (meetR a b).1 x y = ind a x y * ind b x y := by
 have e : has1 x y (meetR a b).1 = (has1 x y a && has1 x y b) := by
  unfold meetR
  cases hc : decide (min (a.X + a.W) (b.X + b.W) - max a.X b.X ≤ 0) || decide (min (a.Y + a.H) (b.Y + b.H) - max a.Y b.Y ≤ 0) with
  | false =>
   simp only [Bool.or_eq_false_iff, decide_eq_false_iff_not] at hc
   rw [Bool.eq_iff_iff]
   simp only [cond_false, has1, Bool.and_eq_true, decide_eq_true_eq]
   omega
  | true =>
   simp only [Bool.or_eq_true, decide_eq_true_eq] at hc
   rw [Bool.eq_iff_iff]
   simp only [cond_true, has1, Bool.and_eq_true, decide_eq_true_eq]
   omega
 unfold ind
 rw [e, b01_and, Int.mul_comm]
theorem meetR_bnd {a b : Rect} (ha : Bnd a) (hb : Bnd b) : Bnd (meetR a b).1 := by
 unfold meetR
 cases hc : decide (min (a.X + a.W) (b.X + b.W) - max a.X b.X ≤ 0) || decide (min (a.Y + a.H) (b.Y + b.H) - max a.Y b.Y ≤ 0) with
 | false =>
  simp only [Bool.or_eq_false_iff, decide_eq_false_iff_not] at hc
  unfold Bnd at *
  simp only [cond_false]; omega
 | true => unfold Bnd; simp only [cond_true]; omega
theorem meet_eq {a b : Rect} (ha : Bnd a) (hb : Bnd b) : screen_meet a b = some (meetR a b) := by
 unfold Bnd at *
 unfold screen_meet meetR
 rw [w64_id (n := a.X + a.W) (by omega), w64_id (n := a.Y + a.H) (by omega), w64_id (n := b.X + b.W) (by omega), w64_id (n := b.Y + b.H) (by omega)]
 simp only [minI_eq, maxI_eq]
 rw [w64_id (n := min (a.X + a.W) (b.X + b.W) - max a.X b.X) (by omega), w64_id (n := min (a.Y + a.H) (b.Y + b.H) - max a.Y b.Y) (by omega)]
 cases decide (min (a.X + a.W) (b.X + b.W) - max a.X b.X ≤ 0) <;> cases decide (min (a.Y + a.H) (b.Y + b.H) - max a.Y b.Y ≤ 0) <;> rfl
theorem area_bnd {r : Rect} (h : Bnd r) (n : Nat) (hn : n = 200000) : SS (-100000) n (ind r) = r.W * r.H := by
 unfold Bnd at h
 exact area_ind (by omega) (by omega) (by omega) (by omega)
end Go.Proofs.YtpojeclokolkaaaGreatDoor.Law

open Go Go.Eng
namespace Go.Proofs.YtpojeclokolkaaaGreatDoor.Law
set_option linter.unusedVariables false
set_option linter.unusedSimpArgs false
theorem bounded_ok (R : List Rect) (h : R.length ≤ 2000) : screen_bounded R = some (R, 0) := by
 unfold screen_bounded
 have : decide ((R.length : Int) > 2000) = false := by simp; omega
 rw [this]; rfl
theorem runs_rowL (l : List Rect) (y : Int) (h : ∀ r ∈ l, Fine r) (hl : (rowB l y).length ≤ 12) (hL : l.length ≤ 100000) : ∃ R, screen_runs l y = some R ∧ CanonFrom (-200000) R ∧ (∀ x, mem x R ↔ hasP l x y) ∧ R.length ≤ (rowB l y).length ∧ ∀ r ∈ R, Okr r := by
 have hb := rowB_ok y h
 obtain ⟨s, h1, h2, h3⟩ := sortRuns (rowB l y) (by omega) hb
 obtain ⟨R, k1, k2, k3, k4, k5⟩ := runs_loop s 0 [] (fun r hr => hb r (h2.mem_iff.1 hr)) (fun o ho => by cases ho) h3 (by rw [h2.length_eq]; simp; omega) trivial (fun o ho => by cases ho)
 have hsm : sameL s (rowB l y) = some () := by unfold sameL; rw [if_pos h2.length_eq]
 refine ⟨R, ?_, k2, fun x => ?_, by rw [h2.length_eq] at k4; simp at k4; omega, k5⟩
 ·unfold screen_runs
  rw [forL_eq (by omega), rowB_loop y l 0 [] h (by simp; omega), Option.bind_some]
  simp only [List.nil_append, thenC]
  rw [h1, Option.bind_some, hsm, Option.bind_some, forL_eq (by rw [h2.length_eq]; omega), k1]; rfl
 ·rw [k3, ← rowB_mem]
  simp only [mem_nil, false_or]
  unfold mem
  exact ⟨fun ⟨r, hr, k⟩ => ⟨r, h2.mem_iff.1 hr, k⟩, fun ⟨r, hr, k⟩ => ⟨r, h2.mem_iff.2 hr, k⟩⟩
theorem region_progL (l m : List Rect) (a0 c0 : Nat) (ha0 : a0 ≤ 12) (hc0 : c0 ≤ 12) (hfl : ∀ r ∈ l, Fine r) (hfm : ∀ r ∈ m, Fine r) (h1 : ∀ y, (rowB l y).length ≤ a0) (h2 : m.length ≤ c0) (h3 : l.length ≤ 480) :
  ∃ bs : List Band, screen_region l m = some (flatB bs) ∧ (flatB bs).length ≤ (2 * (l.length + m.length) + 1) * (a0 * (c0 + 1)) ∧ CanonB (-200000) bs ∧ (∀ y, CanonFrom (-200000) (rowAt bs y) ∧ (∀ r ∈ rowAt bs y, Okr r) ∧ ∀ x, mem x (rowAt bs y) ↔ hasP l x y ∧ ¬ hasP m x y) := by
 have hB : a0 * (c0 + 1) ≤ 12 * 13 := Nat.mul_le_mul ha0 (by omega)
 have hlm : ∀ r ∈ l ++ m, Fine r := fun r hr => by
  rcases List.mem_append.1 hr with hr | hr
  ·exact hfl r hr
  ·exact hfm r hr
 have hlen : (l ++ m).length ≤ 492 := by simp; omega
 obtain ⟨ys, y1, y2, y3, y4⟩ := cutsOf ((l ++ m).flatMap yE) (by rw [flat2 (fun _ => rfl)]; omega)
 rw [flat2 (fun _ => rfl)] at y4
 have ep : forL (l ++ m) ([] : List Int) (fun k x s => screen_region_L1 k x s) = some (.go ((l ++ m).flatMap yE)) := by
  rw [forL_eq (by omega), edges_loop yE (fun _ => rfl) (l ++ m) 0 [] (fun k r s hr hs => by
   obtain ⟨f1, f2, f3, f4⟩ := hlm r hr
   unfold screen_region_L1
   rw [w64_id (by omega), appL_ok _ _ (by simp; omega)]; rfl) (by simp at hlen ⊢; omega), List.nil_append]
 have inY : ∀ r ∈ l ++ m, r.Y ∈ ys ∧ r.Y + r.H ∈ ys := fun r hr => ⟨(y3 _).2 (List.mem_flatMap.2 ⟨r, hr, by simp [yE]⟩), (y3 _).2 (List.mem_flatMap.2 ⟨r, hr, by simp [yE]⟩)⟩
 have hby : ∀ y ∈ ys, Bd y := fun y hy => by
  obtain ⟨r, hr, hy⟩ := List.mem_flatMap.1 ((y3 y).1 hy)
  obtain ⟨f1, f2, f3, f4⟩ := hlm r hr
  simp only [yE, List.mem_cons, List.not_mem_nil, or_false] at hy
  unfold Bd; omega
 have rows : ∀ y : Int, ∃ R : List Run, ((screen_runs l y).bind fun r_45 => (screen_runs m y).bind fun r_47 => (screen_less r_45 r_47).bind fun r_49 => some r_49) = some R ∧ CanonFrom (-200000) R ∧ (∀ x, mem x R ↔ hasP l x y ∧ ¬ hasP m x y) ∧ (∀ r ∈ R, Okr r) ∧ R.length ≤ a0 * (c0 + 1) := by
  intro y
  obtain ⟨A, a1, a2, a3, a4, a5⟩ := runs_rowL l y hfl (by have := h1 y; omega) (by omega)
  obtain ⟨C, b1, b2, b3, b4, b5⟩ := runs_ok m y hfm (by omega)
  have a4' : A.length ≤ a0 := Nat.le_trans a4 (h1 y)
  obtain ⟨R, r1, r2, r3, r4, r5⟩ := less_ok A C a2 b2 a5 (by omega) (by omega)
  exact ⟨R, by rw [a1, Option.bind_some, b1, Option.bind_some, r1, Option.bind_some], r2, fun x => by rw [r3, a3, b3], r5, Nat.le_trans r4 (Nat.mul_le_mul a4' (by omega))⟩
 obtain ⟨Rw, hRw⟩ := Classical.axiomOfChoice rows
 have hcong : ∀ y y' : Int, (∀ x, (hasP l x y ∧ ¬ hasP m x y) ↔ (hasP l x y' ∧ ¬ hasP m x y')) → Rw y = Rw y' := fun y y' h => by
  obtain ⟨_, c1, c2, _⟩ := hRw y
  obtain ⟨_, d1, d2, _⟩ := hRw y'
  exact canon_eq c1 d1 (fun x => by rw [c2, d2]; exact h x)
 have hnone : ∀ y : Int, (∀ x, ¬ hasP l x y) → Rw y = [] := fun y h => by
  obtain ⟨_, c1, c2, _⟩ := hRw y
  exact canon_nil c1 (fun x hx => h x ((c2 x).1 hx).1)
 have fY : Fits Rw ys := by
  have p3 : ∀ r ∈ l, r.Y ∈ ys ∧ r.Y + r.H ∈ ys := fun r hr => inY r (by simp [hr])
  have p4 : ∀ r ∈ m, r.Y ∈ ys ∧ r.Y + r.H ∈ ys := fun r hr => inY r (by simp [hr])
  refine ⟨y2, fun y hy => by have := hby y hy; unfold Bd at this; omega, fun j a b ha hb y h1 h2 => hcong _ _ (fun x => ?_), fun y hy => hnone y ?_, fun y hy => hnone y ?_⟩
  ·exact and_congr (cell_y y2 p3 ha hb h1 h2 x) (not_congr (cell_y y2 p4 ha hb h1 h2 x))
  ·rintro x ⟨r, hr, _, k1, k2⟩
   have := hy _ (p3 r hr).2; omega
  ·rintro x ⟨r, hr, _, k1, k2⟩
   have := hy _ (p3 r hr).1; omega
 have hreg : screen_region l m = (forL ys (([] : List Rect), ([] : List Run), (0 : Int)) (fun k x s => screen_region_L3 ys l m k x s)).bind fun o_38 => thenC o_38 (fun s_32 => some s_32.1) (fun _ => none) := by
  unfold screen_region
  rw [concat_eq l m (by simp at hlen; omega), Option.bind_some, ep, Option.bind_some]
  simp only [thenC]
  obtain ⟨s, c, g1, g2, g3, g4, g5, g6⟩ := sortC ((l ++ m).flatMap yE) (by rw [flat2 (fun _ => rfl)]; omega)
  have hsm : sameL s ((l ++ m).flatMap yE) = some () := by unfold sameL; rw [if_pos g2]
  rw [g1, Option.bind_some, hsm, Option.bind_some, g3, Option.bind_some] at y1
  simp only [Option.some.injEq] at y1
  subst y1
  rw [g1, Option.bind_some, hsm, Option.bind_some, g3, Option.bind_some]
 have progr : screen_region l m = some (flatB (bandsOf (pairsOf Rw ys) [] 0)) ∧ (flatB (bandsOf (pairsOf Rw ys) [] 0)).length ≤ (2 * (l.length + m.length) + 1) * (a0 * (c0 + 1)) := by
  rw [hreg]
  cases hy0 : ys with
  | nil => exact ⟨by rw [forL_eq (by simp)]; rfl, Nat.zero_le _⟩
  | cons ya yl =>
   rw [← hy0]
   have hyl : 0 < ys.length := by rw [hy0]; simp
   have hm : (ys.length - 1 + 2) * (a0 * (c0 + 1)) ≤ (2 * (l.length + m.length) + 1) * (a0 * (c0 + 1)) := Nat.mul_le_mul (by simp only [List.length_append] at y4; omega) (Nat.le_refl _)
   have hm2 : (2 * (l.length + m.length) + 1) * (a0 * (c0 + 1)) ≤ 985 * (12 * 13) := Nat.mul_le_mul (by omega) hB
   obtain ⟨b2, f2, q1, q4⟩ := simP ys l m (a0 * (c0 + 1)) (by omega) (by omega) hby Rw (fun j y _ _ => by
    obtain ⟨r1, r2, r3, r5, r4⟩ := hRw y
    exact ⟨r1, r5, r4⟩) (ys.length - 1) 0 ya [] [] 0 (by omega) (by rw [hy0]; rfl) (by unfold Bd; omega) (fun r hr => by cases hr) (by simp) (by simp; omega)
   rw [List.drop_zero] at q1 q4
   exact ⟨by rw [forL_eq (by omega), q1]; rfl, by omega⟩
 obtain ⟨b1, b2⟩ := fits_bands fY 0
 refine ⟨_, progr.1, progr.2, b1, fun y => ?_⟩
 obtain ⟨r1, r2, r3, r5, r4⟩ := hRw y
 rw [b2]
 exact ⟨r2, r5, r3⟩
def RegB (R : List Rect) (S : Int → Int → Prop) : Prop := ∃ bs : List Band, R = flatB bs ∧ CanonB (-200000) bs ∧ ∀ y, CanonFrom (-200000) (rowAt bs y) ∧ (∀ r ∈ rowAt bs y, Okr r) ∧ ∀ x, mem x (rowAt bs y) ↔ S x y
theorem RegB.facts {R l m : List Rect} (h : RegB R (fun x y => hasP l x y ∧ ¬ hasP m x y)) (hfl : ∀ r ∈ l, Fine r) :
  (∀ r ∈ R, Fine r) ∧ (∀ x y, indL R x y = P01 (hasP l x y ∧ ¬ hasP m x y)) ∧ ∀ n : Nat, n = 200000 → areaL R = SS (-100000) n (fun x y => P01 (hasP l x y ∧ ¬ hasP m x y)) := by
 obtain ⟨bs, rfl, b1, b2⟩ := h
 exact region_area hfl b1 b2
theorem P01_le (p : Prop) : P01 p ≤ 1 := by
 by_cases h : p
 ·rw [P01_t h]; omega
 ·rw [P01_f h]; omega
theorem RegB.row {R l m : List Rect} (h : RegB R (fun x y => hasP l x y ∧ ¬ hasP m x y)) (hfl : ∀ r ∈ l, Fine r) (y : Int) : (rowB R y).length ≤ l.length + m.length := by
 obtain ⟨f1, f2, _⟩ := h.facts hfl
 have hn := row_nodup y R (fun x => by rw [f2]; exact P01_le _) (fun r hr => (f1 r hr).2.2.1.1)
 obtain ⟨bs, rfl, b1, b2⟩ := h
 have hm : ∀ v ∈ ((flatB bs).filter (covers y)).map (·.X), v ∈ l.map (·.X) ++ m.map (fun r => r.X + r.W) := by
  intro v hv
  obtain ⟨r, hr, rfl⟩ := List.mem_map.1 hv
  obtain ⟨hr1, hr2⟩ := List.mem_filter.1 hr
  have hy : r.Y ≤ y ∧ y < r.Y + r.H := by
   simp only [covers, Bool.and_eq_true, decide_eq_true_eq] at hr2; exact hr2
  obtain ⟨q, hq, e1, e2⟩ := flat_run b1 hr1 hy.1 hy.2
  obtain ⟨c1, c2, c3⟩ := b2 y
  have hl := canon_left c1 q hq
  have hlt := (c1.lo q hq).2
  have hin := (c3 q.f_from).1 ⟨q, hq, Int.le_refl _, hlt⟩
  rw [c3] at hl
  obtain ⟨⟨s, hs, s1, s2⟩, hnm⟩ := hin
  rw [e1]
  by_cases hm' : hasP m (q.f_from - 1) y
  ·obtain ⟨t, ht, t1, t2⟩ := hm'
   refine List.mem_append.2 (.inr (List.mem_map.2 ⟨t, ht, ?_⟩))
   have : ¬ (t.X ≤ q.f_from ∧ q.f_from < t.X + t.W) := fun k => hnm ⟨t, ht, k, t2⟩
   omega
  ·refine List.mem_append.2 (.inl (List.mem_map.2 ⟨s, hs, ?_⟩))
   have : ¬ (s.X ≤ q.f_from - 1 ∧ q.f_from - 1 < s.X + s.W) := fun k => hl ⟨⟨s, hs, k, s2⟩, hm'⟩
   omega
 have := nodup_len _ _ hn hm
 simp only [List.length_map, List.length_append] at this
 unfold rowB
 rw [List.length_map]; exact this
theorem rowB_le (l : List Rect) (y : Int) : (rowB l y).length ≤ l.length := by unfold rowB; rw [List.length_map]; exact List.length_filter_le _ _
theorem region_reg (l m : List Rect) (a0 c0 : Nat) (ha0 : a0 ≤ 12) (hc0 : c0 ≤ 12) (hfl : ∀ r ∈ l, Fine r) (hfm : ∀ r ∈ m, Fine r) (h1 : ∀ y, (rowB l y).length ≤ a0) (h2 : m.length ≤ c0) (h3 : l.length ≤ 480) :
  ∃ R : List Rect, screen_region l m = some R ∧ R.length ≤ (2 * (l.length + m.length) + 1) * (a0 * (c0 + 1)) ∧ RegB R (fun x y => hasP l x y ∧ ¬ hasP m x y) := by
 obtain ⟨bs, e, k, b1, b2⟩ := region_progL l m a0 c0 ha0 hc0 hfl hfm h1 h2 h3
 exact ⟨_, e, k, bs, rfl, b1, b2⟩
theorem fine_badR {r : Rect} (h : Fine r) : badR r = false := by
 unfold Fine at h
 unfold badR
 rw [w64_id (n := 100000 - r.X) (by omega), w64_id (n := 100000 - r.Y) (by omega), outB_in (by omega), outB_in (by omega), outB_in (by omega), outB_in (by omega)]; rfl
end Go.Proofs.YtpojeclokolkaaaGreatDoor.Law

open Go Go.Eng
namespace Go.Proofs.YtpojeclokolkaaaGreatDoor.Law
set_option linter.unusedVariables false
set_option linter.unusedSimpArgs false
end Go.Proofs.YtpojeclokolkaaaGreatDoor.Law

open Go Go.Eng
namespace Go.Proofs.YtpojeclokolkaaaGreatDoor.Law
set_option linter.unusedVariables false
set_option linter.unusedSimpArgs false
end Go.Proofs.YtpojeclokolkaaaGreatDoor.Law

open Go Go.Eng
namespace Go.Proofs.YtpojeclokolkaaaGreatDoor.Law
set_option linter.unusedVariables false
set_option linter.unusedSimpArgs false
def Ok (s : Stream) (b : Int) : Prop := 0 ≤ s.f_at ∧ s.f_at ≤ b
theorem Ok.mono {s : Stream} {b c : Int} (h : Ok s b) (hc : b ≤ c) : Ok s c := ⟨h.1, Int.le_trans h.2 hc⟩
theorem below_ok (x n : Int) (h : 1 ≤ n) (hn : n ≤ 4611686018427387904) : ∃ r, mk_Below x n = some r ∧ 0 ≤ r ∧ r < n := by
 have h1 : x.tmod n < n := Int.tmod_lt_of_pos x (by omega)
 have h2 : -n < x.tmod n := Int.lt_tmod_of_pos x (by omega)
 have hb : decide (n < 1) = false := by simp; omega
 have hn0 : n ≠ 0 := by omega
 simp only [mk_Below, hb, cond_false, remO, if_neg hn0, Option.bind_some]
 cases hd : decide (x.tmod n < 0) with
 | true =>
  simp only [decide_eq_true_eq] at hd
  exact ⟨_, rfl, by rw [w64_id (by omega)]; omega, by rw [w64_id (by omega)]; omega⟩
 | false =>
  simp only [decide_eq_false_iff_not] at hd
  exact ⟨_, rfl, by omega, h1⟩
theorem next_ok (s : Stream) (n : Int) {b : Int} (hs : Ok s b) (hb : b ≤ 1000000) (h : 1 ≤ n) (hn : n ≤ 4611686018427387904) : ∃ r s', mk_Stream_Next s n = some (r, s') ∧ 0 ≤ r ∧ r < n ∧ Ok s' (b + 1) := by
 obtain ⟨h0, h1⟩ := hs
 have e1 : w64 (s.f_at + 1) = s.f_at + 1 := w64_id (by omega)
 have e2 : w64 (s.f_at + 1 - 1) = s.f_at := by rw [w64_id (by omega)]; omega
 simp only [mk_Stream_Next, e1, e2]
 by_cases hl : s.L.length = 0
 ·have : ((s.L.length : Int) == 0) = true := by simp [hl]
  simp only [this, cond_true]
  obtain ⟨r, hr, h2, h3⟩ := below_ok (w64 ((s.f_at + 1) * 7919)) n h hn
  exact ⟨r, _, by rw [hr]; rfl, h2, h3, ⟨by show 0 ≤ s.f_at + 1; omega, by show s.f_at + 1 ≤ b + 1; omega⟩⟩
 ·have hne : (s.L.length : Int) ≠ 0 := by omega
  have : ((s.L.length : Int) == 0) = false := by simpa using hl
  simp only [this, cond_false, remO, quoO, if_neg hne, Option.bind_some]
  have h2 : 0 ≤ s.f_at.tmod s.L.length := Int.tmod_nonneg _ h0
  have hp : (0 : Int) < (s.L.length : Int) := by have := Nat.pos_of_ne_zero hl; omega
  have h3 : s.f_at.tmod s.L.length < s.L.length := Int.tmod_lt_of_pos _ hp
  have hi : idx s.L (s.f_at.tmod s.L.length) = some s.L[(s.f_at.tmod s.L.length).toNat] := by
   simp only [idx, if_pos h2]
   exact List.getElem?_eq_getElem (by omega)
  obtain ⟨r1, hr1, _, _⟩ := below_ok s.L[(s.f_at.tmod s.L.length).toNat] 1073741824 (by decide) (by decide)
  simp only [hi, hr1, Option.bind_some]
  generalize w64 (r1 + _) = y
  obtain ⟨r, hr, h4, h5⟩ := below_ok y n h hn
  exact ⟨r, _, by rw [hr]; rfl, h4, h5, ⟨by show 0 ≤ s.f_at + 1; omega, by show s.f_at + 1 ≤ b + 1; omega⟩⟩
theorem flip_ok (s : Stream) (n : Int) {b : Int} (hs : Ok s b) (hb : b ≤ 1000000) (h : 1 ≤ n) (hn : n ≤ 1000) : ∃ r s', mk_Stream_Flip s n = some (r, s') ∧ Ok s' (b + 1) := by
 obtain ⟨r, s', h1, _, _, h2⟩ := next_ok s n hs hb h (by omega)
 exact ⟨r == 0, s', by simp only [mk_Stream_Flip, h1, Option.bind_some], h2⟩
theorem idx_mem {α : Type} {l : List α} {r : Int} (h0 : 0 ≤ r) (h1 : r < l.length) : ∃ y, idx l r = some y ∧ y ∈ l := by
 refine ⟨l[r.toNat]'(by omega), ?_, List.getElem_mem _⟩
 simp only [idx, if_pos h0]
 exact List.getElem?_eq_getElem (by omega)
theorem pick_ok (s : Stream) (l : List Int) {b : Int} (hs : Ok s b) (hb : b ≤ 1000000) (h : 1 ≤ l.length) (hn : l.length ≤ 1000) : ∃ r s', mk_Stream_Pick s l = some (r, s') ∧ r ∈ l ∧ Ok s' (b + 1) := by
 obtain ⟨r, s', h1, h2, h3, h4⟩ := next_ok s l.length hs hb (by omega) (by omega)
 obtain ⟨y, hy, hm⟩ := idx_mem h2 h3
 exact ⟨y, s', by simp only [mk_Stream_Pick, h1, hy, Option.bind_some], hm, h4⟩
theorem range_ok (s : Stream) (lo hi : Int) {b : Int} (hs : Ok s b) (hb : b ≤ 1000000) (h : lo ≤ hi) (h1 : -1000000000000 ≤ lo) (h2 : hi ≤ 1000000000000) : ∃ r s', mk_Stream_Range s lo hi = some (r, s') ∧ lo ≤ r ∧ r ≤ hi ∧ Ok s' (b + 1) := by
 have hd : decide (hi < lo) = false := by simp; omega
 have e1 : w64 (hi - lo) = hi - lo := w64_id (by omega)
 have e2 : w64 (hi - lo + 1) = hi - lo + 1 := w64_id (by omega)
 obtain ⟨r, s', k1, k2, k3, k4⟩ := next_ok s (hi - lo + 1) hs hb (by omega) (by omega)
 simp only [mk_Stream_Range, hd, cond_false, e1, e2, k1, Option.bind_some]
 exact ⟨_, s', rfl, by rw [w64_id (by omega)]; omega, by rw [w64_id (by omega)]; omega, k4⟩
end Go.Proofs.YtpojeclokolkaaaGreatDoor.Law

