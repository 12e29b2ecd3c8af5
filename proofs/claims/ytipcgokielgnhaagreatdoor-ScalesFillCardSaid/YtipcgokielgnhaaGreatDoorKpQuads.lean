import Derived.Test.YtipcgokielgnhaaGreatDoorKpReg
import Derived.Test.YtipcgokielgnhaaGreatDoorRmScale
/-
  PLAIN LEMMAS: parts that fill a picture fill it when they are scaled.
-/
open Go Go.Eng
namespace Go.Proofs.YtipcgokielgnhaaGreatDoor.Law
set_option linter.unusedVariables false
set_option linter.unusedSimpArgs false

theorem split01 {a b c u : Int} (h1 : a ≤ b) (h2 : b ≤ c) : b01 (decide (a ≤ u) && decide (u < b)) + b01 (decide (b ≤ u) && decide (u < c)) = b01 (decide (a ≤ u) && decide (u < c)) := by
 by_cases k1 : u < a
 ·rw [decide_eq_false (show ¬ a ≤ u by omega), decide_eq_false (show ¬ b ≤ u by omega)]; rfl
 ·by_cases k2 : u < b
  ·rw [decide_eq_true (show a ≤ u by omega), decide_eq_true k2, decide_eq_false (show ¬ b ≤ u by omega), decide_eq_true (show u < c by omega)]; rfl
  ·rw [decide_eq_true (show a ≤ u by omega), decide_eq_false k2, decide_eq_true (show b ≤ u by omega)]
   cases decide (u < c) <;> rfl
def quads (w h x y : Int) : List Rect := [⟨0, 0, x, y⟩, ⟨x, 0, w - x, y⟩, ⟨0, y, x, h - y⟩, ⟨x, y, w - x, h - y⟩]
theorem ind_mul (r : Rect) (u v : Int) : ind r u v = b01 (decide (r.Y ≤ v) && decide (v < r.Y + r.H)) * b01 (decide (r.X ≤ u) && decide (u < r.X + r.W)) := by
 unfold ind has1
 rw [b01_and]
theorem quads_ind {w h x y : Int} (hx : 0 ≤ x ∧ x ≤ w) (hy : 0 ≤ y ∧ y ≤ h) (u v : Int) : indL (quads w h x y) u v = ind ⟨0, 0, w, h⟩ u v := by
 have e1 := split01 (u := u) hx.1 hx.2
 have e2 := split01 (u := v) hy.1 hy.2
 unfold indL quads
 simp only [sumL, ind_mul]
 rw [show (0 : Int) + x = x by omega, show (0 : Int) + y = y by omega, show x + (w - x) = w by omega, show y + (h - y) = h by omega, show (0 : Int) + w = w by omega, show (0 : Int) + h = h by omega, ← e1, ← e2, Int.mul_add, Int.add_mul, Int.add_mul]
 omega
def parts (w h x y W H : Int) : List Rect := ((quads w h x y).map (scR w h W H)).filter (fun r => decide (r.W > 0))
theorem filt_ind (u v : Int) : ∀ l : List Rect, indL (l.filter (fun r => decide (r.W > 0))) u v = indL l u v
 | [] => rfl
 | r :: l => by
  rw [List.filter_cons]
  have ih := filt_ind u v l
  unfold indL at *
  by_cases h : r.W > 0
  ·rw [if_pos (by simpa using h), sumL, sumL, ih]
  ·rw [if_neg (by simpa using h), sumL, ih, ind_f (r := r) (x := u) (y := v) (by
    rw [Bool.eq_false_iff]
    simp only [has1, ne_eq, Bool.and_eq_true, decide_eq_true_eq]
    omega), Int.zero_add]
theorem scaled_ind {w h W H : Int} (w0 : 0 < w) (h0 : 0 < h) (W0 : 0 < W) (H0 : 0 < H) (u v : Int) : ∀ l : List Rect, indL (l.map (scR w h W H)) u v = indL l (back w W u) (back h H v)
 | [] => rfl
 | r :: l => by
  have ih := scaled_ind w0 h0 W0 H0 u v l
  unfold indL at *
  rw [List.map_cons, sumL, sumL, ih]
  unfold ind
  rw [ind_scale w0 h0 W0 H0]
theorem full_scale {w h W H : Int} (w0 : 0 < w) (h0 : 0 < h) (W0 : 0 < W) (H0 : 0 < H) : scR w h W H ⟨0, 0, w, h⟩ = ⟨0, 0, W, H⟩ := by
 unfold scR
 simp only [Int.zero_add, Int.zero_mul, Int.zero_ediv, Int.sub_zero]
 rw [Int.mul_ediv_cancel_left _ (by omega), Int.mul_ediv_cancel_left _ (by omega)]
 have e1 : (W == 0) = false := by simpa using (by omega : W ≠ 0)
 have e2 : (H == 0) = false := by simpa using (by omega : H ≠ 0)
 rw [e1, e2]; rfl
theorem parts_ind {w h x y W H : Int} (hx : 0 ≤ x ∧ x ≤ w) (hy : 0 ≤ y ∧ y ≤ h) (w0 : 0 < w) (h0 : 0 < h) (W0 : 0 < W) (H0 : 0 < H) (u v : Int) : indL (parts w h x y W H) u v = ind ⟨0, 0, W, H⟩ u v := by
 unfold parts
 rw [filt_ind, scaled_ind w0 h0 W0 H0, quads_ind hx hy, ← full_scale w0 h0 W0 H0]
 unfold ind
 rw [ind_scale w0 h0 W0 H0]
theorem parts_fine {w h x y W H : Int} (hx : 1 ≤ x ∧ x < w) (hy : 1 ≤ y ∧ y < h) (hW : 1 ≤ W ∧ W ≤ 20000) (hH : 1 ≤ H ∧ H ≤ 20000) : ∀ r ∈ parts w h x y W H, Fine r := by
 intro r hr
 obtain ⟨hr, hp⟩ := List.mem_filter.1 hr
 simp only [decide_eq_true_eq] at hp
 obtain ⟨q, hq, rfl⟩ := List.mem_map.1 hr
 have hq' : (0 ≤ q.X ∧ 0 ≤ q.W ∧ q.X + q.W ≤ w) ∧ 0 ≤ q.Y ∧ 0 ≤ q.H ∧ q.Y + q.H ≤ h := by
  simp only [quads, List.mem_cons, List.not_mem_nil, or_false] at hq
  rcases hq with rfl | rfl | rfl | rfl <;> simp only [] <;> omega
 obtain ⟨a1, a2, a3, a4, a5, a6, a7⟩ := scR_in (W := W) (H := H) (by omega) (by omega) (by omega) (by omega) hq'.1 hq'.2
 unfold Fine
 rcases a7 with k | k
 ·rw [k] at hp; exact absurd hp (by decide)
 ·omega
theorem one_reg {W H : Int} (hW : 1 ≤ W ∧ W ≤ 20000) (hH : 1 ≤ H ∧ H ≤ 20000) : RegB [⟨0, 0, W, H⟩] (fun x y => (0 ≤ x ∧ x < W) ∧ 0 ≤ y ∧ y < H) := by
 refine ⟨[⟨0, H, [⟨0, W⟩]⟩], ?_, ⟨by show (-200000 : Int) ≤ 0; decide, by show (0 : Int) < H; omega, by simp, trivial, trivial⟩, fun y => ?_⟩
 ·simp [flatB, toRect]
 ·by_cases hy : 0 ≤ y ∧ y < H
  ·rw [rowAt_in (show (0 : Int) ≤ y from hy.1) (show y < H from hy.2)]
   refine ⟨⟨by show (-200000 : Int) < 0; decide, by show (0 : Int) < W; omega, trivial⟩, fun r hr => ?_, fun x => ?_⟩
   ·simp only [List.mem_cons, List.not_mem_nil, or_false] at hr
    subst hr
    unfold Okr; simp only []; omega
   ·rw [mem_cons]
    simp only [mem_nil, or_false]
    exact ⟨fun k => ⟨k, hy⟩, fun k => k.1⟩
  ·rw [rowAt_out (by simp only []; omega), show rowAt [] y = [] from rfl]
   exact ⟨show CanonFrom (-200000) [] from trivial, fun r hr => (by cases hr), fun x => ⟨fun k => absurd k (mem_nil x), fun k => absurd k.2 hy⟩⟩
theorem parts_has {w h x y W H : Int} (hx : 1 ≤ x ∧ x < w) (hy : 1 ≤ y ∧ y < h) (hW : 1 ≤ W ∧ W ≤ 20000) (hH : 1 ≤ H ∧ H ≤ 20000) (u v : Int) : (hasP (parts w h x y W H) u v ∧ ¬ hasP [] u v) ↔ (0 ≤ u ∧ u < W) ∧ 0 ≤ v ∧ v < H := by
 have e := parts_ind (w := w) (h := h) (x := x) (y := y) (W := W) (H := H) (by omega) (by omega) (by omega) (by omega) (by omega) (by omega) u v
 have hf : has1 u v ⟨0, 0, W, H⟩ = true ↔ (0 ≤ u ∧ u < W) ∧ 0 ≤ v ∧ v < H := by
  simp only [has1, Bool.and_eq_true, decide_eq_true_eq, Int.zero_add]
 constructor
 ·rintro ⟨k, _⟩
  have := indL_pos k
  rw [← hf]
  cases hh : has1 u v ⟨0, 0, W, H⟩ with
  | true => rfl
  | false => rw [e, ind_f hh] at this; omega
 ·intro k
  refine ⟨?_, not_nil⟩
  by_cases hp : hasP (parts w h x y W H) u v
  ·exact hp
  ·rw [indL_zero hp, ind_t (hf.2 k)] at e; omega
theorem parts_fill {w h x y W H : Int} (hx : 1 ≤ x ∧ x < w) (hy : 1 ≤ y ∧ y < h) (hW : 1 ≤ W ∧ W ≤ 20000) (hH : 1 ≤ H ∧ H ≤ 20000) :
  areaL (parts w h x y W H) = W * H ∧ screen_Region (parts w h x y W H) = some ([⟨0, 0, W, H⟩], 0) := by
 have hf := parts_fine hx hy hW hH
 have hlen : (parts w h x y W H).length ≤ 4 := Nat.le_trans (List.length_filter_le _ _) (by simp [quads])
 constructor
 ·have e : areaL (parts w h x y W H) = SS (-100000) 200000 (fun u v => indL (parts w h x y W H) u v) := by
   unfold areaL indL
   rw [← SS_sumL]
   exact sumL_congr (fun r hr => by
    obtain ⟨f1, f2, f3, f4⟩ := hf r hr
    rw [area_ind (by omega) (by omega) (by omega) (by omega)])
  rw [e, SS_congr (fun u v => parts_ind (by omega) (by omega) (by omega) (by omega) (by omega) (by omega) u v)]
  exact area_ind (r := ⟨0, 0, W, H⟩) (by simp only []; omega) (by simp only []; omega) (by simp only []; omega) (by simp only []; omega)
 ·obtain ⟨R, r1, r2, r3⟩ := Region_reg (parts w h x y W H) 4 (by decide) hf (fun v => Nat.le_trans (rowB_le _ _) hlen) (by omega) (by omega)
  rw [r1, r3.uniq (one_reg hW hH) (fun u v => parts_has hx hy hW hH u v)]
end Go.Proofs.YtipcgokielgnhaaGreatDoor.Law

