import Derived.Test.YtipcgokielgnhaaGreatDoorWsGeo
import Derived.Test.YtipcgokielgnhaaGreatDoorRmBase
/-
  PLAIN LEMMAS: what the program's region is.
-/
open Go Go.Eng
namespace Go.Proofs.YtipcgokielgnhaaGreatDoor.Law
set_option linter.unusedVariables false
set_option linter.unusedSimpArgs false

theorem bounded_ok (R : List Rect) (h : R.length ≤ 2000) : screen_bounded R = some (R, 0) := by
 unfold screen_bounded
 have : decide ((R.length : Int) > 2000) = false := by simp; omega
 rw [this]; rfl
theorem runs_rowL (l : List Rect) (y : Int) (h : ∀ r ∈ l, Fine r) (hl : (rowB l y).length ≤ 12) (hL : l.length ≤ 100000) : ∃ R, screen_runs l y = some R ∧ CanonFrom (-200000) R ∧ (∀ x, mem x R ↔ hasP l x y) ∧ R.length ≤ (rowB l y).length ∧ ∀ r ∈ R, Okr r := by
 have hb := rowB_ok y h
 obtain ⟨s, h1, h2, h3⟩ := sortRuns (rowB l y) (by omega) hb
 obtain ⟨R, k1, k2, k3, k4, k5⟩ := runs_loop s 0 [] (fun r hr => hb r (h2.mem_iff.1 hr)) (fun o ho => by cases ho) h3 (by rw [h2.length_eq]; simp; omega) trivial (fun o ho => by cases ho)
 have hsm : sameL s (rowB l y) = some () := by unfold sameL; rw [if_pos h2.length_eq]
 refine ⟨R, ?_, k2, fun x => ?_, by rw [h2.length_eq] at k4; simp at k4; omega, k5⟩
 ·unfold screen_runs
  rw [forL_eq (by omega), rowB_loop y l 0 [] h (by simp; omega), Option.bind_some]
  simp only [List.nil_append, thenC]
  rw [h1, Option.bind_some, hsm, Option.bind_some, forL_eq (by rw [h2.length_eq]; omega), k1]; rfl
 ·rw [k3, ← rowB_mem]
  simp only [mem_nil, false_or]
  unfold mem
  exact ⟨fun ⟨r, hr, k⟩ => ⟨r, h2.mem_iff.1 hr, k⟩, fun ⟨r, hr, k⟩ => ⟨r, h2.mem_iff.2 hr, k⟩⟩
theorem region_progL (l m : List Rect) (a0 c0 : Nat) (ha0 : a0 ≤ 12) (hc0 : c0 ≤ 12) (hfl : ∀ r ∈ l, Fine r) (hfm : ∀ r ∈ m, Fine r) (h1 : ∀ y, (rowB l y).length ≤ a0) (h2 : m.length ≤ c0) (h3 : l.length ≤ 480) :
  ∃ bs : List Band, screen_region l m = some (flatB bs) ∧ (flatB bs).length ≤ (2 * (l.length + m.length) + 1) * (a0 * (c0 + 1)) ∧ CanonB (-200000) bs ∧ (∀ y, CanonFrom (-200000) (rowAt bs y) ∧ (∀ r ∈ rowAt bs y, Okr r) ∧ ∀ x, mem x (rowAt bs y) ↔ hasP l x y ∧ ¬ hasP m x y) := by
 have hB : a0 * (c0 + 1) ≤ 12 * 13 := Nat.mul_le_mul ha0 (by omega)
 have hlm : ∀ r ∈ l ++ m, Fine r := fun r hr => by
  rcases List.mem_append.1 hr with hr | hr
  ·exact hfl r hr
  ·exact hfm r hr
 have hlen : (l ++ m).length ≤ 492 := by simp; omega
 obtain ⟨ys, y1, y2, y3, y4⟩ := cutsOf ((l ++ m).flatMap yE) (by rw [flat2 (fun _ => rfl)]; omega)
 rw [flat2 (fun _ => rfl)] at y4
 have ep : forL (l ++ m) ([] : List Int) (fun k x s => screen_region_L1 k x s) = some (.go ((l ++ m).flatMap yE)) := by
  rw [forL_eq (by omega), edges_loop yE (fun _ => rfl) (l ++ m) 0 [] (fun k r s hr hs => by
   obtain ⟨f1, f2, f3, f4⟩ := hlm r hr
   unfold screen_region_L1
   rw [w64_id (by omega), appL_ok _ _ (by simp; omega)]; rfl) (by simp at hlen ⊢; omega), List.nil_append]
 have inY : ∀ r ∈ l ++ m, r.Y ∈ ys ∧ r.Y + r.H ∈ ys := fun r hr => ⟨(y3 _).2 (List.mem_flatMap.2 ⟨r, hr, by simp [yE]⟩), (y3 _).2 (List.mem_flatMap.2 ⟨r, hr, by simp [yE]⟩)⟩
 have hby : ∀ y ∈ ys, Bd y := fun y hy => by
  obtain ⟨r, hr, hy⟩ := List.mem_flatMap.1 ((y3 y).1 hy)
  obtain ⟨f1, f2, f3, f4⟩ := hlm r hr
  simp only [yE, List.mem_cons, List.not_mem_nil, or_false] at hy
  unfold Bd; omega
 have rows : ∀ y : Int, ∃ R : List Run, ((screen_runs l y).bind fun r_45 => (screen_runs m y).bind fun r_47 => (screen_less r_45 r_47).bind fun r_49 => some r_49) = some R ∧ CanonFrom (-200000) R ∧ (∀ x, mem x R ↔ hasP l x y ∧ ¬ hasP m x y) ∧ (∀ r ∈ R, Okr r) ∧ R.length ≤ a0 * (c0 + 1) := by
  intro y
  obtain ⟨A, a1, a2, a3, a4, a5⟩ := runs_rowL l y hfl (by have := h1 y; omega) (by omega)
  obtain ⟨C, b1, b2, b3, b4, b5⟩ := runs_ok m y hfm (by omega)
  have a4' : A.length ≤ a0 := Nat.le_trans a4 (h1 y)
  obtain ⟨R, r1, r2, r3, r4, r5⟩ := less_ok A C a2 b2 a5 (by omega) (by omega)
  exact ⟨R, by rw [a1, Option.bind_some, b1, Option.bind_some, r1, Option.bind_some], r2, fun x => by rw [r3, a3, b3], r5, Nat.le_trans r4 (Nat.mul_le_mul a4' (by omega))⟩
 obtain ⟨Rw, hRw⟩ := Classical.axiomOfChoice rows
 have hcong : ∀ y y' : Int, (∀ x, (hasP l x y ∧ ¬ hasP m x y) ↔ (hasP l x y' ∧ ¬ hasP m x y')) → Rw y = Rw y' := fun y y' h => by
  obtain ⟨_, c1, c2, _⟩ := hRw y
  obtain ⟨_, d1, d2, _⟩ := hRw y'
  exact canon_eq c1 d1 (fun x => by rw [c2, d2]; exact h x)
 have hnone : ∀ y : Int, (∀ x, ¬ hasP l x y) → Rw y = [] := fun y h => by
  obtain ⟨_, c1, c2, _⟩ := hRw y
  exact canon_nil c1 (fun x hx => h x ((c2 x).1 hx).1)
 have fY : Fits Rw ys := by
  have p3 : ∀ r ∈ l, r.Y ∈ ys ∧ r.Y + r.H ∈ ys := fun r hr => inY r (by simp [hr])
  have p4 : ∀ r ∈ m, r.Y ∈ ys ∧ r.Y + r.H ∈ ys := fun r hr => inY r (by simp [hr])
  refine ⟨y2, fun y hy => by have := hby y hy; unfold Bd at this; omega, fun j a b ha hb y h1 h2 => hcong _ _ (fun x => ?_), fun y hy => hnone y ?_, fun y hy => hnone y ?_⟩
  ·exact and_congr (cell_y y2 p3 ha hb h1 h2 x) (not_congr (cell_y y2 p4 ha hb h1 h2 x))
  ·rintro x ⟨r, hr, _, k1, k2⟩
   have := hy _ (p3 r hr).2; omega
  ·rintro x ⟨r, hr, _, k1, k2⟩
   have := hy _ (p3 r hr).1; omega
 have hreg : screen_region l m = (forL ys (([] : List Rect), ([] : List Run), (0 : Int)) (fun k x s => screen_region_L3 ys l m k x s)).bind fun o_38 => thenC o_38 (fun s_32 => some s_32.1) (fun _ => none) := by
  unfold screen_region
  rw [concat_eq l m (by simp at hlen; omega), Option.bind_some, ep, Option.bind_some]
  simp only [thenC]
  obtain ⟨s, c, g1, g2, g3, g4, g5, g6⟩ := sortC ((l ++ m).flatMap yE) (by rw [flat2 (fun _ => rfl)]; omega)
  have hsm : sameL s ((l ++ m).flatMap yE) = some () := by unfold sameL; rw [if_pos g2]
  rw [g1, Option.bind_some, hsm, Option.bind_some, g3, Option.bind_some] at y1
  simp only [Option.some.injEq] at y1
  subst y1
  rw [g1, Option.bind_some, hsm, Option.bind_some, g3, Option.bind_some]
 have progr : screen_region l m = some (flatB (bandsOf (pairsOf Rw ys) [] 0)) ∧ (flatB (bandsOf (pairsOf Rw ys) [] 0)).length ≤ (2 * (l.length + m.length) + 1) * (a0 * (c0 + 1)) := by
  rw [hreg]
  cases hy0 : ys with
  | nil => exact ⟨by rw [forL_eq (by simp)]; rfl, Nat.zero_le _⟩
  | cons ya yl =>
   rw [← hy0]
   have hyl : 0 < ys.length := by rw [hy0]; simp
   have hm : (ys.length - 1 + 2) * (a0 * (c0 + 1)) ≤ (2 * (l.length + m.length) + 1) * (a0 * (c0 + 1)) := Nat.mul_le_mul (by simp only [List.length_append] at y4; omega) (Nat.le_refl _)
   have hm2 : (2 * (l.length + m.length) + 1) * (a0 * (c0 + 1)) ≤ 985 * (12 * 13) := Nat.mul_le_mul (by omega) hB
   obtain ⟨b2, f2, q1, q4⟩ := simP ys l m (a0 * (c0 + 1)) (by omega) (by omega) hby Rw (fun j y _ _ => by
    obtain ⟨r1, r2, r3, r5, r4⟩ := hRw y
    exact ⟨r1, r5, r4⟩) (ys.length - 1) 0 ya [] [] 0 (by omega) (by rw [hy0]; rfl) (by unfold Bd; omega) (fun r hr => by cases hr) (by simp) (by simp; omega)
   rw [List.drop_zero] at q1 q4
   exact ⟨by rw [forL_eq (by omega), q1]; rfl, by omega⟩
 obtain ⟨b1, b2⟩ := fits_bands fY 0
 refine ⟨_, progr.1, progr.2, b1, fun y => ?_⟩
 obtain ⟨r1, r2, r3, r5, r4⟩ := hRw y
 rw [b2]
 exact ⟨r2, r5, r3⟩

def RegB (R : List Rect) (S : Int → Int → Prop) : Prop := ∃ bs : List Band, R = flatB bs ∧ CanonB (-200000) bs ∧ ∀ y, CanonFrom (-200000) (rowAt bs y) ∧ (∀ r ∈ rowAt bs y, Okr r) ∧ ∀ x, mem x (rowAt bs y) ↔ S x y
theorem RegB.uniq {R R' : List Rect} {S S' : Int → Int → Prop} (h : RegB R S) (h' : RegB R' S') (e : ∀ x y, S x y ↔ S' x y) : R = R' := by
 obtain ⟨b, rfl, b1, b2⟩ := h
 obtain ⟨c, rfl, c1, c2⟩ := h'
 rw [band_eq b1 c1 (fun y => canon_eq (b2 y).1 (c2 y).1 (fun x => by rw [(b2 y).2.2, (c2 y).2.2]; exact e x y))]
theorem RegB.facts {R l m : List Rect} (h : RegB R (fun x y => hasP l x y ∧ ¬ hasP m x y)) (hfl : ∀ r ∈ l, Fine r) :
  (∀ r ∈ R, Fine r) ∧ (∀ x y, indL R x y = P01 (hasP l x y ∧ ¬ hasP m x y)) ∧ ∀ n : Nat, n = 200000 → areaL R = SS (-100000) n (fun x y => P01 (hasP l x y ∧ ¬ hasP m x y)) := by
 obtain ⟨bs, rfl, b1, b2⟩ := h
 exact region_area hfl b1 b2
theorem P01_le (p : Prop) : P01 p ≤ 1 := by
 by_cases h : p
 ·rw [P01_t h]; omega
 ·rw [P01_f h]; omega
theorem RegB.has {R l m : List Rect} (h : RegB R (fun x y => hasP l x y ∧ ¬ hasP m x y)) (hfl : ∀ r ∈ l, Fine r) (x y : Int) : hasP R x y ↔ (hasP l x y ∧ ¬ hasP m x y) := by
 have e := (h.facts hfl).2.1 x y
 constructor
 ·intro k
  have := indL_pos k
  by_cases hs : hasP l x y ∧ ¬ hasP m x y
  ·exact hs
  ·rw [P01_f hs] at e; omega
 ·intro hs
  rw [P01_t hs] at e
  by_cases k : hasP R x y
  ·exact k
  ·rw [indL_zero k] at e; omega
theorem RegB.row {R l m : List Rect} (h : RegB R (fun x y => hasP l x y ∧ ¬ hasP m x y)) (hfl : ∀ r ∈ l, Fine r) (y : Int) : (rowB R y).length ≤ l.length + m.length := by
 obtain ⟨f1, f2, _⟩ := h.facts hfl
 have hn := row_nodup y R (fun x => by rw [f2]; exact P01_le _) (fun r hr => (f1 r hr).2.2.1.1)
 obtain ⟨bs, rfl, b1, b2⟩ := h
 have hm : ∀ v ∈ ((flatB bs).filter (covers y)).map (·.X), v ∈ l.map (·.X) ++ m.map (fun r => r.X + r.W) := by
  intro v hv
  obtain ⟨r, hr, rfl⟩ := List.mem_map.1 hv
  obtain ⟨hr1, hr2⟩ := List.mem_filter.1 hr
  have hy : r.Y ≤ y ∧ y < r.Y + r.H := by
   simp only [covers, Bool.and_eq_true, decide_eq_true_eq] at hr2; exact hr2
  obtain ⟨q, hq, e1, e2⟩ := flat_run b1 hr1 hy.1 hy.2
  obtain ⟨c1, c2, c3⟩ := b2 y
  have hl := canon_left c1 q hq
  have hlt := (c1.lo q hq).2
  have hin := (c3 q.f_from).1 ⟨q, hq, Int.le_refl _, hlt⟩
  rw [c3] at hl
  obtain ⟨⟨s, hs, s1, s2⟩, hnm⟩ := hin
  rw [e1]
  by_cases hm' : hasP m (q.f_from - 1) y
  ·obtain ⟨t, ht, t1, t2⟩ := hm'
   refine List.mem_append.2 (.inr (List.mem_map.2 ⟨t, ht, ?_⟩))
   have : ¬ (t.X ≤ q.f_from ∧ q.f_from < t.X + t.W) := fun k => hnm ⟨t, ht, k, t2⟩
   omega
  ·refine List.mem_append.2 (.inl (List.mem_map.2 ⟨s, hs, ?_⟩))
   have : ¬ (s.X ≤ q.f_from - 1 ∧ q.f_from - 1 < s.X + s.W) := fun k => hl ⟨⟨s, hs, k, s2⟩, hm'⟩
   omega
 have := nodup_len _ _ hn hm
 simp only [List.length_map, List.length_append] at this
 unfold rowB
 rw [List.length_map]; exact this
theorem rowB_le (l : List Rect) (y : Int) : (rowB l y).length ≤ l.length := by unfold rowB; rw [List.length_map]; exact List.length_filter_le _ _
theorem region_reg (l m : List Rect) (a0 c0 : Nat) (ha0 : a0 ≤ 12) (hc0 : c0 ≤ 12) (hfl : ∀ r ∈ l, Fine r) (hfm : ∀ r ∈ m, Fine r) (h1 : ∀ y, (rowB l y).length ≤ a0) (h2 : m.length ≤ c0) (h3 : l.length ≤ 480) :
  ∃ R : List Rect, screen_region l m = some R ∧ R.length ≤ (2 * (l.length + m.length) + 1) * (a0 * (c0 + 1)) ∧ RegB R (fun x y => hasP l x y ∧ ¬ hasP m x y) := by
 obtain ⟨bs, e, k, b1, b2⟩ := region_progL l m a0 c0 ha0 hc0 hfl hfm h1 h2 h3
 exact ⟨_, e, k, bs, rfl, b1, b2⟩
theorem area_sum {R : List Rect} (hf : ∀ r ∈ R, Fine r) (hl : R.length ≤ 10000) : screen_area R = some (areaL R) := by
 have hb : ∀ r ∈ R, (-100000000000 : Int) ≤ r.W * r.H ∧ r.W * r.H ≤ 100000000000 := fun r hr => by
  have := hf r hr
  unfold Fine at this
  have h1 : 0 ≤ r.W * r.H := Int.mul_nonneg (by omega) (by omega)
  have h2 : r.W * r.H ≤ 200000 * 200000 := Int.mul_le_mul (by omega) (by omega) (by omega) (by decide)
  omega
 unfold screen_area
 rw [forL_eq (by omega), sum_loop (body := fun k x s => screen_area_L1 k x s) (fun r : Rect => r.W * r.H) 100000000000 (by decide) R 0 0 (fun k x s => rfl) hb (by omega) (by omega) (by decide), Int.zero_add]
 rfl
theorem rects_fine (l : List Rect) (hl : l.length ≤ 2000) (h : ∀ r ∈ l, badR r = false) : screen_rectsFault l = some 0 := by
 have key : ∀ (xs : List Rect) (k : Nat), (∀ r ∈ xs, badR r = false) → forR (fun k x s => screen_rectsFault_L1 k x s) xs k () = some (.go ()) := by
  intro xs
  induction xs with
  | nil => exact fun _ _ => rfl
  | cons x xs ih =>
   intro k hx
   rw [forR]
   have : screen_rectsFault_L1 k x () = some (.go ()) := by
    unfold screen_rectsFault_L1
    rw [checkRect_eq, hx x (by simp)]; rfl
   rw [this, Option.bind_some]
   exact ih (k + 1) (fun r hr => hx r (by simp [hr]))
 unfold screen_rectsFault
 rw [decide_eq_false (show ¬ (l.length : Int) > 2000 by omega), cond_false, forL_eq (by omega), key l 0 h]; rfl
theorem fine_badR {r : Rect} (h : Fine r) : badR r = false := by
 unfold Fine at h
 unfold badR
 rw [w64_id (n := 100000 - r.X) (by omega), w64_id (n := 100000 - r.Y) (by omega), outB_in (by omega), outB_in (by omega), outB_in (by omega), outB_in (by omega)]; rfl
theorem Area_reg (l : List Rect) (a0 : Nat) (ha0 : a0 ≤ 12) (hfl : ∀ r ∈ l, Fine r) (h1 : ∀ y, (rowB l y).length ≤ a0) (h3 : l.length ≤ 400) (n : Nat) (hn : n = 200000) : screen_Area l = some (SS (-100000) n (fun x y => P01 (hasP l x y)), 0) := by
 obtain ⟨R, r1, r2, r3⟩ := region_reg l [] a0 0 ha0 (by omega) hfl (fun r hr => by cases hr) h1 (Nat.le_refl _) (by omega)
 obtain ⟨f1, f2, f3⟩ := r3.facts hfl
 have hR : R.length ≤ 801 * (12 * 1) := Nat.le_trans r2 (Nat.mul_le_mul (by simp; omega) (Nat.mul_le_mul ha0 (by omega)))
 unfold screen_Area
 rw [rects_fine l (by omega) (fun r hr => fine_badR (hfl r hr)), Option.bind_some, bne_self_eq_false, cond_false, r1, Option.bind_some, area_sum f1 (by omega), Option.bind_some, f3 n hn]
 rw [SS_congr (fun x y => P01_congr (q := hasP l x y) ⟨fun h => h.1, fun h => ⟨h, fun ⟨r, hr, _⟩ => by cases hr⟩⟩)]
theorem Region_reg (l : List Rect) (a0 : Nat) (ha0 : a0 ≤ 12) (hfl : ∀ r ∈ l, Fine r) (h1 : ∀ y, (rowB l y).length ≤ a0) (h3 : (2 * l.length + 1) * a0 ≤ 2000) (h4 : l.length ≤ 480) :
  ∃ R : List Rect, screen_Region l = some (R, 0) ∧ R.length ≤ (2 * l.length + 1) * a0 ∧ RegB R (fun x y => hasP l x y ∧ ¬ hasP [] x y) := by
 obtain ⟨R, r1, r2, r3⟩ := region_reg l [] a0 0 ha0 (by omega) hfl (fun r hr => by cases hr) h1 (Nat.le_refl _) h4
 simp only [List.length_nil, Nat.add_zero, Nat.zero_add, Nat.mul_one] at r2
 refine ⟨R, ?_, r2, r3⟩
 unfold screen_Region
 rw [rects_fine l (by omega) (fun r hr => fine_badR (hfl r hr)), Option.bind_some, bne_self_eq_false, cond_false, r1, Option.bind_some, bounded_ok R (by omega)]; rfl
theorem not_nil {x y : Int} : ¬ hasP [] x y := fun ⟨r, hr, _⟩ => by cases hr
end Go.Proofs.YtipcgokielgnhaaGreatDoor.Law

