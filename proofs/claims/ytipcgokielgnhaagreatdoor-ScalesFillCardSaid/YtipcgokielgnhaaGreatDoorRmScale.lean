import Derived.Test.YtipcgokielgnhaaGreatDoorRmArea
/-
  PLAIN LEMMAS: a rectangle that is scaled: its pixels.
-/
open Go Go.Eng
namespace Go.Proofs.YtipcgokielgnhaaGreatDoor.Law
set_option linter.unusedVariables false
set_option linter.unusedSimpArgs false

def back (h H y : Int) : Int := ((y + 1) * h - 1) / H
theorem le_scale {t h H y : Int} (h0 : 0 < h) (H0 : 0 < H) : t * H / h ≤ y ↔ t ≤ back h H y := by
 unfold back
 rw [Int.le_ediv_iff_mul_le H0]
 have := Int.ediv_lt_iff_lt_mul (a := t * H) (b := y + 1) h0
 omega
def scR (w h W H : Int) (r : Rect) : Rect :=
 bif ((r.X + r.W) * W / w - r.X * W / w == 0) || ((r.Y + r.H) * H / h - r.Y * H / h == 0) then ⟨0, 0, 0, 0⟩ else ⟨r.X * W / w, r.Y * H / h, (r.X + r.W) * W / w - r.X * W / w, (r.Y + r.H) * H / h - r.Y * H / h⟩
theorem ind_scale {w h W H : Int} (w0 : 0 < w) (h0 : 0 < h) (W0 : 0 < W) (H0 : 0 < H) (r : Rect) (x y : Int) : has1 x y (scR w h W H r) = has1 (back w W x) (back h H y) r := by
 have a1 := le_scale (t := r.X) (y := x) w0 W0
 have a2 := le_scale (t := r.X + r.W) (y := x) w0 W0
 have a3 := le_scale (t := r.Y) (y := y) h0 H0
 have a4 := le_scale (t := r.Y + r.H) (y := y) h0 H0
 generalize back w W x = bx at *
 generalize back h H y = by' at *
 unfold scR
 generalize r.X * W / w = X0 at *
 generalize (r.X + r.W) * W / w = X1 at *
 generalize r.Y * H / h = Y0 at *
 generalize (r.Y + r.H) * H / h = Y1 at *
 rw [Bool.eq_iff_iff]
 cases hz : ((X1 - X0 == 0) || (Y1 - Y0 == 0)) with
 | true =>
  simp only [cond_true, has1, Bool.and_eq_true, decide_eq_true_eq]
  simp only [Bool.or_eq_true, beq_iff_eq] at hz
  omega
 | false =>
  simp only [cond_false, has1, Bool.and_eq_true, decide_eq_true_eq]
  omega
theorem scale_mono {a b H h : Int} (h0 : 0 < h) (H0 : 0 < H) (hab : a ≤ b) : a * H / h ≤ b * H / h :=
 Int.ediv_le_ediv h0 (Int.mul_le_mul_of_nonneg_right hab (by omega))
theorem scR_in {w h W H : Int} (w0 : 0 < w) (h0 : 0 < h) (W0 : 0 < W) (H0 : 0 < H) {r : Rect} (hx : 0 ≤ r.X ∧ 0 ≤ r.W ∧ r.X + r.W ≤ w) (hy : 0 ≤ r.Y ∧ 0 ≤ r.H ∧ r.Y + r.H ≤ h) :
  0 ≤ (scR w h W H r).X ∧ 0 ≤ (scR w h W H r).W ∧ (scR w h W H r).X + (scR w h W H r).W ≤ W ∧ 0 ≤ (scR w h W H r).Y ∧ 0 ≤ (scR w h W H r).H ∧ (scR w h W H r).Y + (scR w h W H r).H ≤ H ∧ (scR w h W H r = ⟨0, 0, 0, 0⟩ ∨ (0 < (scR w h W H r).W ∧ 0 < (scR w h W H r).H)) := by
 have e1 : 0 ≤ r.X * W / w := Int.ediv_nonneg (Int.mul_nonneg hx.1 (by omega)) (by omega)
 have e2 : r.X * W / w ≤ (r.X + r.W) * W / w := scale_mono w0 W0 (by omega)
 have e3 : (r.X + r.W) * W / w ≤ w * W / w := scale_mono w0 W0 hx.2.2
 have f1 : 0 ≤ r.Y * H / h := Int.ediv_nonneg (Int.mul_nonneg hy.1 (by omega)) (by omega)
 have f2 : r.Y * H / h ≤ (r.Y + r.H) * H / h := scale_mono h0 H0 (by omega)
 have f3 : (r.Y + r.H) * H / h ≤ h * H / h := scale_mono h0 H0 hy.2.2
 rw [Int.mul_ediv_cancel_left _ (by omega)] at e3 f3
 unfold scR
 generalize r.X * W / w = X0 at *
 generalize (r.X + r.W) * W / w = X1 at *
 generalize r.Y * H / h = Y0 at *
 generalize (r.Y + r.H) * H / h = Y1 at *
 cases hz : ((X1 - X0 == 0) || (Y1 - Y0 == 0)) with
 | true =>
  simp only [cond_true]
  exact ⟨Int.le_refl _, Int.le_refl _, by omega, Int.le_refl _, Int.le_refl _, by omega, .inl trivial⟩
 | false =>
  simp only [cond_false]
  simp only [Bool.or_eq_false_iff, beq_eq_false_iff_ne] at hz
  exact ⟨e1, by omega, by omega, f1, by omega, by omega, .inr ⟨by omega, by omega⟩⟩
end Go.Proofs.YtipcgokielgnhaaGreatDoor.Law

