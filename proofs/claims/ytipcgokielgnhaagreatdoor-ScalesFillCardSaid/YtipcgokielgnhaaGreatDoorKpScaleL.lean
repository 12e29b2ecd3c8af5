import Derived.Test.YtipcgokielgnhaaGreatDoorKpQuads
import Derived.Test.YtipcgokielgnhaaGreatDoorKpLit
import Derived.Test.YtipcgokielgnhaaGreatDoorKpKit
import Derived.Test.YtipcgokielgnhaaGreatDoorEpStream
/-
  THE PLAIN LAW: parts that fill a picture fill it when they are scaled, and none has a pixel of another one.
-/
open Go Go.Eng
namespace Go.Proofs.YtipcgokielgnhaaGreatDoor.Law
set_option linter.unusedVariables false
set_option linter.unusedSimpArgs false

theorem Scale_prog {r : Rect} {w h W H : Int} (hx : 0 ≤ r.X ∧ 1 ≤ r.W ∧ r.X + r.W ≤ w) (hy : 0 ≤ r.Y ∧ 1 ≤ r.H ∧ r.Y + r.H ≤ h) (hw : 1 ≤ w ∧ w ≤ 20000) (hh : 1 ≤ h ∧ h ≤ 20000) (hW : 1 ≤ W ∧ W ≤ 20000) (hH : 1 ≤ H ∧ H ≤ 20000) :
  screen_Scale r w h W H = some (scR w h W H r, 0) := by
 have hb : badR r = false := fine_badR (by unfold Fine; omega)
 have hi : screen_inside r w h = some true := by
  unfold screen_inside
  rw [w64_id (n := r.X + r.W) (by omega), w64_id (n := r.Y + r.H) (by omega), decide_eq_true (by omega), decide_eq_true (by omega), decide_eq_true (by omega), decide_eq_true (by omega)]; rfl
 unfold screen_Scale
 rw [checkRect_eq, hb, sides4K, show badSK w = false from outB_in (by omega), show badSK h = false from outB_in (by omega), show badSK W = false from outB_in (by omega), show badSK H = false from outB_in (by omega), hi, scale_eqK r w h W H (by omega) (by omega) hw hh hW hH]
 rfl
theorem scale_round {r : Rect} {w h W H : Int} {q1 q2 q3 q4 : Stream} (k : Nat) (out : List Rect) (a : Int) (hx : 0 ≤ r.X ∧ 1 ≤ r.W ∧ r.X + r.W ≤ w) (hy : 0 ≤ r.Y ∧ 1 ≤ r.H ∧ r.Y + r.H ≤ h) (hw : 1 ≤ w ∧ w ≤ 20000) (hh : 1 ≤ h ∧ h ≤ 20000) (hW : 1 ≤ W ∧ W ≤ 40) (hH : 1 ≤ H ∧ H ≤ 40)
  (ho : out.length ≤ 100) (ha : 0 ≤ a ∧ a ≤ 100000) :
  keep_ScalesFill_L1 (w, q1) (h, q2) (W, q3) (H, q4) k r (out, a) = some (.go (out ++ [scR w h W H r].filter (fun r => decide (r.W > 0)), a + areaL ([scR w h W H r].filter (fun r => decide (r.W > 0))))) ∧ 0 ≤ areaL ([scR w h W H r].filter (fun r => decide (r.W > 0))) ∧ areaL ([scR w h W H r].filter (fun r => decide (r.W > 0))) ≤ 1600 := by
 obtain ⟨a1, a2, a3, a4, a5, a6, a7⟩ := scR_in (W := W) (H := H) (w := w) (h := h) (r := r) (by omega) (by omega) (by omega) (by omega) (by omega) (by omega)
 unfold keep_ScalesFill_L1
 simp only [Scale_prog hx hy hw hh ⟨hW.1, by omega⟩ ⟨hH.1, by omega⟩, Option.bind_some, bne_self_eq_false, cond_false]
 generalize scR w h W H r = q at *
 have p1 : 0 ≤ q.W * q.H := Int.mul_nonneg a2 a5
 have p2 : q.W * q.H ≤ 40 * 40 := Int.mul_le_mul (by omega) (by omega) a5 (by decide)
 by_cases hq : q.W > 0
 ·have e : [q].filter (fun r => decide (r.W > 0)) = [q] := by simp [hq]
  rw [e, decide_eq_true hq, cond_true, appL_ok _ _ (by simp; omega), w64_id (n := q.W * q.H) (by omega), w64_id (n := a + q.W * q.H) (by omega)]
  have ea : areaL [q] = q.W * q.H := by simp [areaL, sumL]
  rw [ea]
  exact ⟨rfl, p1, by omega⟩
 ·have e : [q].filter (fun r => decide (r.W > 0)) = [] := by simp [hq]
  rw [e, decide_eq_false hq, cond_false]
  refine ⟨?_, by simp [areaL, sumL], by simp [areaL, sumL]⟩
  simp [areaL, sumL]
theorem eqOne (r : Rect) : slices_Equal_api_Rect_api_Rect [r] [r] = some true := eqRects [r] (by simp)
theorem scalesFill (l : List Int) : keep_ScalesFill l = some true := by
 unfold keep_ScalesFill
 have h0 : Ok (⟨l, 0⟩ : Stream) 0 := ⟨Int.le_refl _, Int.le_refl _⟩
 obtain ⟨w, s1, a1, a2, a3, a4⟩ := range_ok _ 2 20 h0 (by decide) (by decide) (by decide) (by decide)
 obtain ⟨h, s2, b1, b2, b3, b4⟩ := range_ok _ 2 20 a4 (by decide) (by decide) (by decide) (by decide)
 obtain ⟨W, s3, c1, c2, c3, c4⟩ := range_ok _ 1 40 b4 (by decide) (by decide) (by decide) (by decide)
 obtain ⟨H, s4, d1, d2, d3, d4⟩ := range_ok _ 1 40 c4 (by decide) (by decide) (by decide) (by decide)
 obtain ⟨x, s5, e1, e2, e3, e4⟩ := range_ok _ 1 (w - 1) d4 (by decide) (by omega) (by decide) (by omega)
 obtain ⟨y, s6, f1, f2, f3, f4⟩ := range_ok _ 1 (h - 1) e4 (by decide) (by omega) (by decide) (by omega)
 simp only [a1, b1, c1, d1, Option.bind_some]
 rw [w64_id (n := w - 1) (by omega), w64_id (n := h - 1) (by omega)]
 simp only [e1, f1, Option.bind_some]
 rw [w64_id (n := w - x) (by omega), w64_id (n := h - y) (by omega), w64_id (n := W * H) (by
  have p1 : 0 ≤ W * H := Int.mul_nonneg (by omega) (by omega)
  have p2 : W * H ≤ 40 * 40 := Int.mul_le_mul (by omega) (by omega) (by omega) (by decide)
  omega)]
 obtain ⟨k1, g1, g1'⟩ := scale_round (r := ⟨0, 0, x, y⟩) (w := w) (h := h) (W := W) (H := H) (q1 := s1) (q2 := s2) (q3 := s3) (q4 := s4) 0 [] 0 (by simp only []; omega) (by simp only []; omega) (by omega) (by omega) ⟨c2, c3⟩ ⟨d2, d3⟩ (by simp) (by omega)
 generalize hA : [scR w h W H ⟨0, 0, x, y⟩].filter (fun r => decide (r.W > 0)) = A at *
 have lA : A.length ≤ 1 := by rw [← hA]; exact List.length_filter_le _ _
 obtain ⟨k2, g2, g2'⟩ := scale_round (r := ⟨x, 0, w - x, y⟩) (w := w) (h := h) (W := W) (H := H) (q1 := s1) (q2 := s2) (q3 := s3) (q4 := s4) 1 ([] ++ A) (0 + areaL A) (by simp only []; omega) (by simp only []; omega) (by omega) (by omega) ⟨c2, c3⟩ ⟨d2, d3⟩ (by simp; omega) (by omega)
 generalize hB : [scR w h W H ⟨x, 0, w - x, y⟩].filter (fun r => decide (r.W > 0)) = B at *
 have lB : B.length ≤ 1 := by rw [← hB]; exact List.length_filter_le _ _
 obtain ⟨k3, g3, g3'⟩ := scale_round (r := ⟨0, y, x, h - y⟩) (w := w) (h := h) (W := W) (H := H) (q1 := s1) (q2 := s2) (q3 := s3) (q4 := s4) 2 ([] ++ A ++ B) (0 + areaL A + areaL B) (by simp only []; omega) (by simp only []; omega) (by omega) (by omega) ⟨c2, c3⟩ ⟨d2, d3⟩ (by simp; omega) (by omega)
 generalize hC : [scR w h W H ⟨0, y, x, h - y⟩].filter (fun r => decide (r.W > 0)) = C at *
 have lC : C.length ≤ 1 := by rw [← hC]; exact List.length_filter_le _ _
 obtain ⟨k4, g4, g4'⟩ := scale_round (r := ⟨x, y, w - x, h - y⟩) (w := w) (h := h) (W := W) (H := H) (q1 := s1) (q2 := s2) (q3 := s3) (q4 := s4) 3 ([] ++ A ++ B ++ C) (0 + areaL A + areaL B + areaL C) (by simp only []; omega) (by simp only []; omega) (by omega) (by omega) ⟨c2, c3⟩ ⟨d2, d3⟩ (by simp; omega) (by omega)
 generalize hD : [scR w h W H ⟨x, y, w - x, h - y⟩].filter (fun r => decide (r.W > 0)) = D at *
 have eP : [] ++ A ++ B ++ C ++ D = parts w h x y W H := by
  rw [← hA, ← hB, ← hC, ← hD]
  simp only [List.nil_append, ← List.filter_append]
  rfl
 have eS : 0 + areaL A + areaL B + areaL C + areaL D = areaL (parts w h x y W H) := by
  rw [← eP]
  unfold areaL
  simp only [List.nil_append, sumL_app]
  omega
 rw [eP, eS] at k4
 obtain ⟨p1, p2⟩ := parts_fill (w := w) (h := h) (x := x) (y := y) (W := W) (H := H) ⟨e2, by omega⟩ ⟨f2, by omega⟩ ⟨c2, by omega⟩ ⟨d2, by omega⟩
 rw [forL_eq (by simp)]
 simp only [forR, k1, k2, k3, k4, Option.bind_some, thenC, p1, p2, beq_self_eq_true, cond_true, eqOne, ready_ok]
end Go.Proofs.YtipcgokielgnhaaGreatDoor.Law

