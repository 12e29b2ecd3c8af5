import Derived.Test.YtiekkaelpgahoaaGreatRmArea
/-
  PLAIN LEMMAS: the program's region of many rectangles, few of them in each row.
-/
open Go Go.Eng
namespace Go.Proofs.YtiekkaelpgahoaaGreat.Law
set_option linter.unusedVariables false
set_option linter.unusedSimpArgs false

theorem runs_row (l : List Rect) (y : Int) (h : ∀ r ∈ l, Fine r) (hl : (rowB l y).length ≤ 12) (hL : l.length ≤ 100000) : ∃ R, screen_runs l y = some R ∧ CanonFrom (-200000) R ∧ (∀ x, mem x R ↔ hasP l x y) ∧ R.length ≤ 12 ∧ ∀ r ∈ R, Okr r := by
 have hb := rowB_ok y h
 obtain ⟨s, h1, h2, h3⟩ := sortRuns (rowB l y) (by omega) hb
 obtain ⟨R, k1, k2, k3, k4, k5⟩ := runs_loop s 0 [] (fun r hr => hb r (h2.mem_iff.1 hr)) (fun o ho => by cases ho) h3 (by rw [h2.length_eq]; simp; omega) trivial (fun o ho => by cases ho)
 have hsm : sameL s (rowB l y) = some () := by unfold sameL; rw [if_pos h2.length_eq]
 refine ⟨R, ?_, k2, fun x => ?_, by rw [h2.length_eq] at k4; simp at k4; omega, k5⟩
 ·unfold screen_runs
  rw [forL_eq (by omega), rowB_loop y l 0 [] h (by simp; omega), Option.bind_some]
  simp only [List.nil_append, thenC]
  rw [h1, Option.bind_some, hsm, Option.bind_some, forL_eq (by rw [h2.length_eq]; omega), k1]; rfl
 ·rw [k3, ← rowB_mem]
  simp only [mem_nil, false_or]
  unfold mem
  exact ⟨fun ⟨r, hr, k⟩ => ⟨r, h2.mem_iff.1 hr, k⟩, fun ⟨r, hr, k⟩ => ⟨r, h2.mem_iff.2 hr, k⟩⟩
theorem region_prog (l m : List Rect) (hfl : ∀ r ∈ l, Fine r) (hfm : ∀ r ∈ m, Fine r) (h1 : ∀ y, (rowB l y).length ≤ 12) (h2 : m.length ≤ 12) (h3 : l.length ≤ 480) :
  ∃ bs : List Band, screen_region l m = some (flatB bs) ∧ (flatB bs).length ≤ 1000000 ∧ CanonB (-200000) bs ∧ (∀ y, CanonFrom (-200000) (rowAt bs y) ∧ (∀ r ∈ rowAt bs y, Okr r) ∧ ∀ x, mem x (rowAt bs y) ↔ hasP l x y ∧ ¬ hasP m x y) := by
 have hlm : ∀ r ∈ l ++ m, Fine r := fun r hr => by
  rcases List.mem_append.1 hr with hr | hr
  ·exact hfl r hr
  ·exact hfm r hr
 have hlen : (l ++ m).length ≤ 492 := by simp; omega
 obtain ⟨ys, y1, y2, y3, y4⟩ := cutsOf ((l ++ m).flatMap yE) (by rw [flat2 (fun _ => rfl)]; omega)
 rw [flat2 (fun _ => rfl)] at y4
 have ep : forL (l ++ m) ([] : List Int) (fun k x s => screen_region_L1 k x s) = some (.go ((l ++ m).flatMap yE)) := by
  rw [forL_eq (by omega), edges_loop yE (fun _ => rfl) (l ++ m) 0 [] (fun k r s hr hs => by
   obtain ⟨f1, f2, f3, f4⟩ := hlm r hr
   unfold screen_region_L1
   rw [w64_id (by omega), appL_ok _ _ (by simp; omega)]; rfl) (by simp at hlen ⊢; omega), List.nil_append]
 have inY : ∀ r ∈ l ++ m, r.Y ∈ ys ∧ r.Y + r.H ∈ ys := fun r hr => ⟨(y3 _).2 (List.mem_flatMap.2 ⟨r, hr, by simp [yE]⟩), (y3 _).2 (List.mem_flatMap.2 ⟨r, hr, by simp [yE]⟩)⟩
 have hby : ∀ y ∈ ys, Bd y := fun y hy => by
  obtain ⟨r, hr, hy⟩ := List.mem_flatMap.1 ((y3 y).1 hy)
  obtain ⟨f1, f2, f3, f4⟩ := hlm r hr
  simp only [yE, List.mem_cons, List.not_mem_nil, or_false] at hy
  unfold Bd; omega
 have rows : ∀ y : Int, ∃ R : List Run, ((screen_runs l y).bind fun r_45 => (screen_runs m y).bind fun r_47 => (screen_less r_45 r_47).bind fun r_49 => some r_49) = some R ∧ CanonFrom (-200000) R ∧ (∀ x, mem x R ↔ hasP l x y ∧ ¬ hasP m x y) ∧ (∀ r ∈ R, Okr r) ∧ R.length ≤ 12 * 13 := by
  intro y
  obtain ⟨A, a1, a2, a3, a4, a5⟩ := runs_row l y hfl (h1 y) (by omega)
  obtain ⟨C, b1, b2, b3, b4, b5⟩ := runs_ok m y hfm h2
  obtain ⟨R, r1, r2, r3, r4, r5⟩ := less_ok A C a2 b2 a5 a4 (by omega)
  exact ⟨R, by rw [a1, Option.bind_some, b1, Option.bind_some, r1, Option.bind_some], r2, fun x => by rw [r3, a3, b3], r5, Nat.le_trans r4 (Nat.mul_le_mul a4 (by omega))⟩
 obtain ⟨Rw, hRw⟩ := Classical.axiomOfChoice rows
 have hcong : ∀ y y' : Int, (∀ x, (hasP l x y ∧ ¬ hasP m x y) ↔ (hasP l x y' ∧ ¬ hasP m x y')) → Rw y = Rw y' := fun y y' h => by
  obtain ⟨_, c1, c2, _⟩ := hRw y
  obtain ⟨_, d1, d2, _⟩ := hRw y'
  exact canon_eq c1 d1 (fun x => by rw [c2, d2]; exact h x)
 have hnone : ∀ y : Int, (∀ x, ¬ hasP l x y) → Rw y = [] := fun y h => by
  obtain ⟨_, c1, c2, _⟩ := hRw y
  exact canon_nil c1 (fun x hx => h x ((c2 x).1 hx).1)
 have fY : Fits Rw ys := by
  have p3 : ∀ r ∈ l, r.Y ∈ ys ∧ r.Y + r.H ∈ ys := fun r hr => inY r (by simp [hr])
  have p4 : ∀ r ∈ m, r.Y ∈ ys ∧ r.Y + r.H ∈ ys := fun r hr => inY r (by simp [hr])
  refine ⟨y2, fun y hy => by have := hby y hy; unfold Bd at this; omega, fun j a b ha hb y h1 h2 => hcong _ _ (fun x => ?_), fun y hy => hnone y ?_, fun y hy => hnone y ?_⟩
  ·exact and_congr (cell_y y2 p3 ha hb h1 h2 x) (not_congr (cell_y y2 p4 ha hb h1 h2 x))
  ·rintro x ⟨r, hr, _, k1, k2⟩
   have := hy _ (p3 r hr).2; omega
  ·rintro x ⟨r, hr, _, k1, k2⟩
   have := hy _ (p3 r hr).1; omega
 have hreg : screen_region l m = (forL ys (([] : List Rect), ([] : List Run), (0 : Int)) (fun k x s => screen_region_L3 ys l m k x s)).bind fun o_38 => thenC o_38 (fun s_32 => some s_32.1) (fun _ => none) := by
  unfold screen_region
  rw [concat_eq l m (by simp at hlen; omega), Option.bind_some, ep, Option.bind_some]
  simp only [thenC]
  obtain ⟨s, c, g1, g2, g3, g4, g5, g6⟩ := sortC ((l ++ m).flatMap yE) (by rw [flat2 (fun _ => rfl)]; omega)
  have hsm : sameL s ((l ++ m).flatMap yE) = some () := by unfold sameL; rw [if_pos g2]
  rw [g1, Option.bind_some, hsm, Option.bind_some, g3, Option.bind_some] at y1
  simp only [Option.some.injEq] at y1
  subst y1
  rw [g1, Option.bind_some, hsm, Option.bind_some, g3, Option.bind_some]
 have progr : screen_region l m = some (flatB (bandsOf (pairsOf Rw ys) [] 0)) ∧ (flatB (bandsOf (pairsOf Rw ys) [] 0)).length ≤ 1000000 := by
  rw [hreg]
  cases hy0 : ys with
  | nil => exact ⟨by rw [forL_eq (by simp)]; rfl, Nat.zero_le _⟩
  | cons ya yl =>
   rw [← hy0]
   have hyl : 0 < ys.length := by rw [hy0]; simp
   have hm : (ys.length - 1 + 2) * (12 * 13) ≤ 1000 * (12 * 13) := Nat.mul_le_mul (by omega) (Nat.le_refl _)
   obtain ⟨b2, f2, q1, q4⟩ := simP ys l m (12 * 13) (by omega) (by omega) hby Rw (fun j y _ _ => by
    obtain ⟨r1, r2, r3, r5, r4⟩ := hRw y
    exact ⟨r1, r5, r4⟩) (ys.length - 1) 0 ya [] [] 0 (by omega) (by rw [hy0]; rfl) (by unfold Bd; omega) (fun r hr => by cases hr) (by simp) (by simp; omega)
   rw [List.drop_zero] at q1 q4
   exact ⟨by rw [forL_eq (by omega), q1]; rfl, by omega⟩
 obtain ⟨b1, b2⟩ := fits_bands fY 0
 refine ⟨_, progr.1, progr.2, b1, fun y => ?_⟩
 obtain ⟨r1, r2, r3, r5, r4⟩ := hRw y
 rw [b2]
 exact ⟨r2, r5, r3⟩
end Go.Proofs.YtiekkaelpgahoaaGreat.Law

