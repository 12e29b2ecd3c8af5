/-
  THE PLAIN LAW (part 3).
-/
import Derived.Test.YtpojeclokolkaaaGreatDoorPl2
import Derived.Test.YtpojeclokolkaaaGreatDoorDefs
open Go Go.Eng
namespace Go.Proofs.YtpojeclokolkaaaGreatDoor.Law
set_option linter.unusedVariables false
set_option linter.unusedSimpArgs false
theorem bounded_ok (R : List Rect) (h : R.length ≤ 2000) : screen_bounded R = some (R, 0) := by
 unfold screen_bounded
 have : decide ((R.length : Int) > 2000) = false := by simp; omega
 rw [this]; rfl
theorem runs_rowL (l : List Rect) (y : Int) (h : ∀ r ∈ l, Fine r) (hl : (rowB l y).length ≤ 12) (hL : l.length ≤ 100000) : ∃ R, screen_runs l y = some R ∧ CanonFrom (-200000) R ∧ (∀ x, mem x R ↔ hasP l x y) ∧ R.length ≤ (rowB l y).length ∧ ∀ r ∈ R, Okr r := by
 have hb := rowB_ok y h
 obtain ⟨s, h1, h2, h3⟩ := sortRuns (rowB l y) (by omega) hb
 obtain ⟨R, k1, k2, k3, k4, k5⟩ := runs_loop s 0 [] (fun r hr => hb r (h2.mem_iff.1 hr)) (fun o ho => by cases ho) h3 (by rw [h2.length_eq]; simp; omega) trivial (fun o ho => by cases ho)
 have hsm : sameL s (rowB l y) = some () := by unfold sameL; rw [if_pos h2.length_eq]
 refine ⟨R, ?_, k2, fun x => ?_, by rw [h2.length_eq] at k4; simp at k4; omega, k5⟩
 ·unfold screen_runs
  rw [forL_eq (by omega), rowB_loop y l 0 [] h (by simp; omega), Option.bind_some]
  simp only [List.nil_append, thenC]
  rw [h1, Option.bind_some, hsm, Option.bind_some, forL_eq (by rw [h2.length_eq]; omega), k1]; rfl
 ·rw [k3, ← rowB_mem]
  simp only [mem_nil, false_or]
  unfold mem
  exact ⟨fun ⟨r, hr, k⟩ => ⟨r, h2.mem_iff.1 hr, k⟩, fun ⟨r, hr, k⟩ => ⟨r, h2.mem_iff.2 hr, k⟩⟩
theorem region_progL (l m : List Rect) (a0 c0 : Nat) (ha0 : a0 ≤ 12) (hc0 : c0 ≤ 12) (hfl : ∀ r ∈ l, Fine r) (hfm : ∀ r ∈ m, Fine r) (h1 : ∀ y, (rowB l y).length ≤ a0) (h2 : m.length ≤ c0) (h3 : l.length ≤ 480) :
  ∃ bs : List Band, screen_region l m = some (flatB bs) ∧ (flatB bs).length ≤ (2 * (l.length + m.length) + 1) * (a0 * (c0 + 1)) ∧ CanonB (-200000) bs ∧ (∀ y, CanonFrom (-200000) (rowAt bs y) ∧ (∀ r ∈ rowAt bs y, Okr r) ∧ ∀ x, mem x (rowAt bs y) ↔ hasP l x y ∧ ¬ hasP m x y) := by
 have hB : a0 * (c0 + 1) ≤ 12 * 13 := Nat.mul_le_mul ha0 (by omega)
 have hlm : ∀ r ∈ l ++ m, Fine r := fun r hr => by
  rcases List.mem_append.1 hr with hr | hr
  ·exact hfl r hr
  ·exact hfm r hr
 have hlen : (l ++ m).length ≤ 492 := by simp; omega
 obtain ⟨ys, y1, y2, y3, y4⟩ := cutsOf ((l ++ m).flatMap yE) (by rw [flat2 (fun _ => rfl)]; omega)
 rw [flat2 (fun _ => rfl)] at y4
 have ep : forL (l ++ m) ([] : List Int) (fun k x s => screen_region_L1 k x s) = some (.go ((l ++ m).flatMap yE)) := by
  rw [forL_eq (by omega), edges_loop yE (fun _ => rfl) (l ++ m) 0 [] (fun k r s hr hs => by
   obtain ⟨f1, f2, f3, f4⟩ := hlm r hr
   unfold screen_region_L1
   rw [w64_id (by omega), appL_ok _ _ (by simp; omega)]; rfl) (by simp at hlen ⊢; omega), List.nil_append]
 have inY : ∀ r ∈ l ++ m, r.Y ∈ ys ∧ r.Y + r.H ∈ ys := fun r hr => ⟨(y3 _).2 (List.mem_flatMap.2 ⟨r, hr, by simp [yE]⟩), (y3 _).2 (List.mem_flatMap.2 ⟨r, hr, by simp [yE]⟩)⟩
 have hby : ∀ y ∈ ys, Bd y := fun y hy => by
  obtain ⟨r, hr, hy⟩ := List.mem_flatMap.1 ((y3 y).1 hy)
  obtain ⟨f1, f2, f3, f4⟩ := hlm r hr
  simp only [yE, List.mem_cons, List.not_mem_nil, or_false] at hy
  unfold Bd; omega
 have rows : ∀ y : Int, ∃ R : List Run, ((screen_runs l y).bind fun r_45 => (screen_runs m y).bind fun r_47 => (screen_less r_45 r_47).bind fun r_49 => some r_49) = some R ∧ CanonFrom (-200000) R ∧ (∀ x, mem x R ↔ hasP l x y ∧ ¬ hasP m x y) ∧ (∀ r ∈ R, Okr r) ∧ R.length ≤ a0 * (c0 + 1) := by
  intro y
  obtain ⟨A, a1, a2, a3, a4, a5⟩ := runs_rowL l y hfl (by have := h1 y; omega) (by omega)
  obtain ⟨C, b1, b2, b3, b4, b5⟩ := runs_ok m y hfm (by omega)
  have a4' : A.length ≤ a0 := Nat.le_trans a4 (h1 y)
  obtain ⟨R, r1, r2, r3, r4, r5⟩ := less_ok A C a2 b2 a5 (by omega) (by omega)
  exact ⟨R, by rw [a1, Option.bind_some, b1, Option.bind_some, r1, Option.bind_some], r2, fun x => by rw [r3, a3, b3], r5, Nat.le_trans r4 (Nat.mul_le_mul a4' (by omega))⟩
 obtain ⟨Rw, hRw⟩ := Classical.axiomOfChoice rows
 have hcong : ∀ y y' : Int, (∀ x, (hasP l x y ∧ ¬ hasP m x y) ↔ (hasP l x y' ∧ ¬ hasP m x y')) → Rw y = Rw y' := fun y y' h => by
  obtain ⟨_, c1, c2, _⟩ := hRw y
  obtain ⟨_, d1, d2, _⟩ := hRw y'
  exact canon_eq c1 d1 (fun x => by rw [c2, d2]; exact h x)
 have hnone : ∀ y : Int, (∀ x, ¬ hasP l x y) → Rw y = [] := fun y h => by
  obtain ⟨_, c1, c2, _⟩ := hRw y
  exact canon_nil c1 (fun x hx => h x ((c2 x).1 hx).1)
 have fY : Fits Rw ys := by
  have p3 : ∀ r ∈ l, r.Y ∈ ys ∧ r.Y + r.H ∈ ys := fun r hr => inY r (by simp [hr])
  have p4 : ∀ r ∈ m, r.Y ∈ ys ∧ r.Y + r.H ∈ ys := fun r hr => inY r (by simp [hr])
  refine ⟨y2, fun y hy => by have := hby y hy; unfold Bd at this; omega, fun j a b ha hb y h1 h2 => hcong _ _ (fun x => ?_), fun y hy => hnone y ?_, fun y hy => hnone y ?_⟩
  ·exact and_congr (cell_y y2 p3 ha hb h1 h2 x) (not_congr (cell_y y2 p4 ha hb h1 h2 x))
  ·rintro x ⟨r, hr, _, k1, k2⟩
   have := hy _ (p3 r hr).2; omega
  ·rintro x ⟨r, hr, _, k1, k2⟩
   have := hy _ (p3 r hr).1; omega
 have hreg : screen_region l m = (forL ys (([] : List Rect), ([] : List Run), (0 : Int)) (fun k x s => screen_region_L3 ys l m k x s)).bind fun o_38 => thenC o_38 (fun s_32 => some s_32.1) (fun _ => none) := by
  unfold screen_region
  rw [concat_eq l m (by simp at hlen; omega), Option.bind_some, ep, Option.bind_some]
  simp only [thenC]
  obtain ⟨s, c, g1, g2, g3, g4, g5, g6⟩ := sortC ((l ++ m).flatMap yE) (by rw [flat2 (fun _ => rfl)]; omega)
  have hsm : sameL s ((l ++ m).flatMap yE) = some () := by unfold sameL; rw [if_pos g2]
  rw [g1, Option.bind_some, hsm, Option.bind_some, g3, Option.bind_some] at y1
  simp only [Option.some.injEq] at y1
  subst y1
  rw [g1, Option.bind_some, hsm, Option.bind_some, g3, Option.bind_some]
 have progr : screen_region l m = some (flatB (bandsOf (pairsOf Rw ys) [] 0)) ∧ (flatB (bandsOf (pairsOf Rw ys) [] 0)).length ≤ (2 * (l.length + m.length) + 1) * (a0 * (c0 + 1)) := by
  rw [hreg]
  cases hy0 : ys with
  | nil => exact ⟨by rw [forL_eq (by simp)]; rfl, Nat.zero_le _⟩
  | cons ya yl =>
   rw [← hy0]
   have hyl : 0 < ys.length := by rw [hy0]; simp
   have hm : (ys.length - 1 + 2) * (a0 * (c0 + 1)) ≤ (2 * (l.length + m.length) + 1) * (a0 * (c0 + 1)) := Nat.mul_le_mul (by simp only [List.length_append] at y4; omega) (Nat.le_refl _)
   have hm2 : (2 * (l.length + m.length) + 1) * (a0 * (c0 + 1)) ≤ 985 * (12 * 13) := Nat.mul_le_mul (by omega) hB
   obtain ⟨b2, f2, q1, q4⟩ := simP ys l m (a0 * (c0 + 1)) (by omega) (by omega) hby Rw (fun j y _ _ => by
    obtain ⟨r1, r2, r3, r5, r4⟩ := hRw y
    exact ⟨r1, r5, r4⟩) (ys.length - 1) 0 ya [] [] 0 (by omega) (by rw [hy0]; rfl) (by unfold Bd; omega) (fun r hr => by cases hr) (by simp) (by simp; omega)
   rw [List.drop_zero] at q1 q4
   exact ⟨by rw [forL_eq (by omega), q1]; rfl, by omega⟩
 obtain ⟨b1, b2⟩ := fits_bands fY 0
 refine ⟨_, progr.1, progr.2, b1, fun y => ?_⟩
 obtain ⟨r1, r2, r3, r5, r4⟩ := hRw y
 rw [b2]
 exact ⟨r2, r5, r3⟩
def RegB (R : List Rect) (S : Int → Int → Prop) : Prop := ∃ bs : List Band, R = flatB bs ∧ CanonB (-200000) bs ∧ ∀ y, CanonFrom (-200000) (rowAt bs y) ∧ (∀ r ∈ rowAt bs y, Okr r) ∧ ∀ x, mem x (rowAt bs y) ↔ S x y
theorem RegB.facts {R l m : List Rect} (h : RegB R (fun x y => hasP l x y ∧ ¬ hasP m x y)) (hfl : ∀ r ∈ l, Fine r) :
  (∀ r ∈ R, Fine r) ∧ (∀ x y, indL R x y = P01 (hasP l x y ∧ ¬ hasP m x y)) ∧ ∀ n : Nat, n = 200000 → areaL R = SS (-100000) n (fun x y => P01 (hasP l x y ∧ ¬ hasP m x y)) := by
 obtain ⟨bs, rfl, b1, b2⟩ := h
 exact region_area hfl b1 b2
theorem P01_le (p : Prop) : P01 p ≤ 1 := by
 by_cases h : p
 ·rw [P01_t h]; omega
 ·rw [P01_f h]; omega
theorem RegB.has {R l m : List Rect} (h : RegB R (fun x y => hasP l x y ∧ ¬ hasP m x y)) (hfl : ∀ r ∈ l, Fine r) (x y : Int) : hasP R x y ↔ (hasP l x y ∧ ¬ hasP m x y) := by
 have e := (h.facts hfl).2.1 x y
 constructor
 ·intro k
  have := indL_pos k
  by_cases hs : hasP l x y ∧ ¬ hasP m x y
  ·exact hs
  ·rw [P01_f hs] at e; omega
 ·intro hs
  rw [P01_t hs] at e
  by_cases k : hasP R x y
  ·exact k
  ·rw [indL_zero k] at e; omega
theorem RegB.row {R l m : List Rect} (h : RegB R (fun x y => hasP l x y ∧ ¬ hasP m x y)) (hfl : ∀ r ∈ l, Fine r) (y : Int) : (rowB R y).length ≤ l.length + m.length := by
 obtain ⟨f1, f2, _⟩ := h.facts hfl
 have hn := row_nodup y R (fun x => by rw [f2]; exact P01_le _) (fun r hr => (f1 r hr).2.2.1.1)
 obtain ⟨bs, rfl, b1, b2⟩ := h
 have hm : ∀ v ∈ ((flatB bs).filter (covers y)).map (·.X), v ∈ l.map (·.X) ++ m.map (fun r => r.X + r.W) := by
  intro v hv
  obtain ⟨r, hr, rfl⟩ := List.mem_map.1 hv
  obtain ⟨hr1, hr2⟩ := List.mem_filter.1 hr
  have hy : r.Y ≤ y ∧ y < r.Y + r.H := by
   simp only [covers, Bool.and_eq_true, decide_eq_true_eq] at hr2; exact hr2
  obtain ⟨q, hq, e1, e2⟩ := flat_run b1 hr1 hy.1 hy.2
  obtain ⟨c1, c2, c3⟩ := b2 y
  have hl := canon_left c1 q hq
  have hlt := (c1.lo q hq).2
  have hin := (c3 q.f_from).1 ⟨q, hq, Int.le_refl _, hlt⟩
  rw [c3] at hl
  obtain ⟨⟨s, hs, s1, s2⟩, hnm⟩ := hin
  rw [e1]
  by_cases hm' : hasP m (q.f_from - 1) y
  ·obtain ⟨t, ht, t1, t2⟩ := hm'
   refine List.mem_append.2 (.inr (List.mem_map.2 ⟨t, ht, ?_⟩))
   have : ¬ (t.X ≤ q.f_from ∧ q.f_from < t.X + t.W) := fun k => hnm ⟨t, ht, k, t2⟩
   omega
  ·refine List.mem_append.2 (.inl (List.mem_map.2 ⟨s, hs, ?_⟩))
   have : ¬ (s.X ≤ q.f_from - 1 ∧ q.f_from - 1 < s.X + s.W) := fun k => hl ⟨⟨s, hs, k, s2⟩, hm'⟩
   omega
 have := nodup_len _ _ hn hm
 simp only [List.length_map, List.length_append] at this
 unfold rowB
 rw [List.length_map]; exact this
theorem rowB_le (l : List Rect) (y : Int) : (rowB l y).length ≤ l.length := by unfold rowB; rw [List.length_map]; exact List.length_filter_le _ _
theorem region_reg (l m : List Rect) (a0 c0 : Nat) (ha0 : a0 ≤ 12) (hc0 : c0 ≤ 12) (hfl : ∀ r ∈ l, Fine r) (hfm : ∀ r ∈ m, Fine r) (h1 : ∀ y, (rowB l y).length ≤ a0) (h2 : m.length ≤ c0) (h3 : l.length ≤ 480) :
  ∃ R : List Rect, screen_region l m = some R ∧ R.length ≤ (2 * (l.length + m.length) + 1) * (a0 * (c0 + 1)) ∧ RegB R (fun x y => hasP l x y ∧ ¬ hasP m x y) := by
 obtain ⟨bs, e, k, b1, b2⟩ := region_progL l m a0 c0 ha0 hc0 hfl hfm h1 h2 h3
 exact ⟨_, e, k, bs, rfl, b1, b2⟩
theorem rects_fine (l : List Rect) (hl : l.length ≤ 2000) (h : ∀ r ∈ l, badR r = false) : screen_rectsFault l = some 0 := by
 have key : ∀ (xs : List Rect) (k : Nat), (∀ r ∈ xs, badR r = false) → forR (fun k x s => screen_rectsFault_L1 k x s) xs k () = some (.go ()) := by
  intro xs
  induction xs with
  | nil => exact fun _ _ => rfl
  | cons x xs ih =>
   intro k hx
   rw [forR]
   have : screen_rectsFault_L1 k x () = some (.go ()) := by
    unfold screen_rectsFault_L1
    rw [checkRect_eq, hx x (by simp)]; rfl
   rw [this, Option.bind_some]
   exact ih (k + 1) (fun r hr => hx r (by simp [hr]))
 unfold screen_rectsFault
 rw [decide_eq_false (show ¬ (l.length : Int) > 2000 by omega), cond_false, forL_eq (by omega), key l 0 h]; rfl
theorem fine_badR {r : Rect} (h : Fine r) : badR r = false := by
 unfold Fine at h
 unfold badR
 rw [w64_id (n := 100000 - r.X) (by omega), w64_id (n := 100000 - r.Y) (by omega), outB_in (by omega), outB_in (by omega), outB_in (by omega), outB_in (by omega)]; rfl
theorem Region_reg (l : List Rect) (a0 : Nat) (ha0 : a0 ≤ 12) (hfl : ∀ r ∈ l, Fine r) (h1 : ∀ y, (rowB l y).length ≤ a0) (h3 : (2 * l.length + 1) * a0 ≤ 2000) (h4 : l.length ≤ 480) :
  ∃ R : List Rect, screen_Region l = some (R, 0) ∧ R.length ≤ (2 * l.length + 1) * a0 ∧ RegB R (fun x y => hasP l x y ∧ ¬ hasP [] x y) := by
 obtain ⟨R, r1, r2, r3⟩ := region_reg l [] a0 0 ha0 (by omega) hfl (fun r hr => by cases hr) h1 (Nat.le_refl _) h4
 simp only [List.length_nil, Nat.add_zero, Nat.zero_add, Nat.mul_one] at r2
 refine ⟨R, ?_, r2, r3⟩
 unfold screen_Region
 rw [rects_fine l (by omega) (fun r hr => fine_badR (hfl r hr)), Option.bind_some, bne_self_eq_false, cond_false, r1, Option.bind_some, bounded_ok R (by omega)]; rfl
theorem not_nil {x y : Int} : ¬ hasP [] x y := fun ⟨r, hr, _⟩ => by cases hr
end Go.Proofs.YtpojeclokolkaaaGreatDoor.Law

open Go Go.Eng
namespace Go.Proofs.YtpojeclokolkaaaGreatDoor.Law
set_option linter.unusedVariables false
set_option linter.unusedSimpArgs false
end Go.Proofs.YtpojeclokolkaaaGreatDoor.Law

open Go Go.Eng
namespace Go.Proofs.YtpojeclokolkaaaGreatDoor.Law
set_option linter.unusedVariables false
set_option linter.unusedSimpArgs false
end Go.Proofs.YtpojeclokolkaaaGreatDoor.Law

open Go Go.Eng
namespace Go.Proofs.YtpojeclokolkaaaGreatDoor.Law
set_option linter.unusedVariables false
set_option linter.unusedSimpArgs false
theorem rightRectF (s : Stream) {b : Int} (hs : Ok s b) (hb : b ≤ 900000) : ∃ r s', mk_Stream_RightRect s = some (r, s') ∧ Fine r ∧ (-2 ≤ r.X ∧ r.X ≤ 8 ∧ -2 ≤ r.Y ∧ r.Y ≤ 8 ∧ r.W ≤ 5 ∧ r.H ≤ 5) ∧ Ok s' (b + 4) := by
 unfold mk_Stream_RightRect
 obtain ⟨X, q1, c1, c2, c3, c4⟩ := range_ok s (-2) 8 hs (by omega) (by decide) (by decide) (by decide)
 obtain ⟨Y, q2, d1, d2, d3, d4⟩ := range_ok q1 (-2) 8 c4 (by omega) (by decide) (by decide) (by decide)
 obtain ⟨U, q3, e1, e2, e3, e4⟩ := range_ok q2 1 5 d4 (by omega) (by decide) (by decide) (by decide)
 obtain ⟨V, q4, f1, f2, f3, f4⟩ := range_ok q3 1 5 e4 (by omega) (by decide) (by decide) (by decide)
 simp only [c1, d1, e1, f1, Option.bind_some]
 refine ⟨_, _, rfl, ?_, by simp only []; omega, f4.mono (by omega)⟩
 unfold Fine
 simp only []; omega
theorem any_loop (f : Rect → Option Bool) (p : Rect → Bool) : ∀ (l : List Rect) (k : Nat), (∀ r ∈ l, f r = some (p r)) → (forR (fun k z s => slices_IndexFunc_api_Rect_api_Rect_L1 f k z s) l k () = some (.go ()) ∧ l.any p = false) ∨ ∃ j : Nat, forR (fun k z s => slices_IndexFunc_api_Rect_api_Rect_L1 f k z s) l k () = some (.ret (j : Int)) ∧ l.any p = true
 | [], k, _ => .inl ⟨rfl, rfl⟩
 | r :: l, k, h => by
  have hB : slices_IndexFunc_api_Rect_api_Rect_L1 f k r () = some (bif p r then .ret (k : Int) else .go ()) := by
   unfold slices_IndexFunc_api_Rect_api_Rect_L1
   rw [h r (by simp), Option.bind_some]
   cases p r <;> rfl
  rw [forR, hB, Option.bind_some, List.any_cons]
  cases p r with
  | true => exact .inr ⟨k, rfl, rfl⟩
  | false => exact any_loop f p l (k + 1) (fun r hr => h r (by simp [hr]))
theorem any_eq (f : Rect → Option Bool) (p : Rect → Bool) {l : List Rect} (h : ∀ r ∈ l, f r = some (p r)) (hl : l.length ≤ 1000000) : slices_ContainsFunc_api_Rect_api_Rect l f = some (l.any p) := by
 unfold slices_ContainsFunc_api_Rect_api_Rect slices_IndexFunc_api_Rect_api_Rect
 rw [forL_eq (by omega)]
 rcases any_loop f p l 0 h with ⟨h1, h2⟩ | ⟨j, h1, h2⟩
 ·rw [h1, h2]; rfl
 ·rw [h1, h2]
  simp only [Option.bind_some, thenC]
  have : decide ((j : Int) ≥ 0) = true := by simp
  rw [this]
theorem Meet_fine {a b : Rect} (ha : Fine a) (hb : Fine b) : screen_Meet a b = some ((meetR a b).1, (meetR a b).2, 0) := by
 have hl : forL (List.range (2 : Int).toNat) () (fun k x s => screen_Meet_L1 a b k x s) = some (.go ()) := by
  rw [forL_eq (by simp)]
  show forR _ [0, 1] 0 () = _
  simp only [forR, screen_Meet_L1]
  rw [show idx [a, b] ((0 : Nat) : Int) = some a from rfl, show idx [a, b] ((0 + 1 : Nat) : Int) = some b from rfl]
  simp only [Option.bind_some, checkRect_eq, fine_badR ha, fine_badR hb]
  rfl
 unfold screen_Meet
 rw [hl, Option.bind_some, meet_eq ha.bnd hb.bnd]
 rfl
end Go.Proofs.YtpojeclokolkaaaGreatDoor.Law

open Go Go.Eng
namespace Go.Proofs.YtpojeclokolkaaaGreatDoor.Law
set_option linter.unusedVariables false
set_option linter.unusedSimpArgs false
def loopF {σ ρ : Type} (s : σ) (body : σ → Option (Ctl σ ρ)) : Option (Ctl σ ρ) := iterN body 300 s
def Le {α : Type} (a b : Option α) : Prop := ∀ r, a = some r → b = some r
theorem Le.refl {α : Type} (a : Option α) : Le a a := fun _ h => h
theorem Le.bind {α β : Type} {a b : Option α} {f g : α → Option β} (h : Le a b) (k : ∀ x, Le (f x) (g x)) : Le (a.bind f) (b.bind g) := fun r e => by
 obtain ⟨x, h1, h2⟩ := Option.bind_eq_some_iff.1 e
 rw [h x h1]; exact k x r h2
theorem Le.cond {α : Type} {a b c d : Option α} {t : Bool} (h : Le a c) (k : Le b d) : Le (bif t then a else b) (bif t then c else d) := by
 cases t
 ·exact k
 ·exact h
theorem Le.thenC {σ ρ τ : Type} {o : Ctl σ ρ} {f f' : σ → Option τ} {g g' : ρ → Option τ} (h : ∀ x, Le (f x) (f' x)) (k : ∀ x, Le (g x) (g' x)) : Le (Go.Eng.thenC o f g) (Go.Eng.thenC o f' g') := by
 cases o
 ·exact h _
 ·exact Le.refl _
 ·exact k _
theorem Le.forR {α σ ρ : Type} {b b' : Nat → α → σ → Option (Ctl σ ρ)} (h : ∀ k x s, Le (b k x s) (b' k x s)) : ∀ (xs : List α) (k : Nat) (s : σ), Le (Go.Eng.forR b xs k s) (Go.Eng.forR b' xs k s)
 | [], k, s => Le.refl _
 | x :: xs, k, s => Le.bind (h k x s) (fun c => by
   cases c with
   | go s' => exact Le.forR h xs _ _
   | brk s' => exact Le.refl _
   | ret r => exact Le.refl _)
theorem Le.forL {α σ ρ : Type} {xs : List α} {s : σ} {b b' : Nat → α → σ → Option (Ctl σ ρ)} (h : ∀ k x s, Le (b k x s) (b' k x s)) : Le (Go.Eng.forL xs s b) (Go.Eng.forL xs s b') := by
 unfold Go.Eng.forL
 split
 ·exact Le.forR h xs 0 s
 ·exact Le.refl _
theorem Le.iterN {σ ρ : Type} {b b' : σ → Option (Ctl σ ρ)} (h : ∀ s, Le (b s) (b' s)) : ∀ (n : Nat) (s : σ), Le (Go.Eng.iterN b n s) (Go.Eng.iterN b' n s)
 | 0, s => Le.refl _
 | n + 1, s => Le.bind (h s) (fun c => by
   cases c with
   | go s' => exact Le.iterN h n s'
   | brk s' => exact Le.refl _
   | ret r => exact Le.refl _)
theorem Le.loop {σ ρ : Type} {s : σ} {b b' : σ → Option (Ctl σ ρ)} (h : ∀ s, Le (b s) (b' s)) : Le (loopF s b) (loopO s b') := fun r e => iter_loopO (Le.iterN h _ _ r e)
end Go.Proofs.YtpojeclokolkaaaGreatDoor.Law

open Go Go.Eng
namespace Go.Proofs.YtpojeclokolkaaaGreatDoor.Law
set_option linter.unusedVariables false
set_option linter.unusedSimpArgs false
set_option maxRecDepth 100000
def unicode_utf8_ValidString_L2F (s_7 : ByteArray) : Option (Ctl (ByteArray) (Unit)) :=
 bif (decide ((s_7.size : Int) > 0)) then (idxS s_7 0).bind fun b_13 => bif (decide ((b_13.toNat : Int) < 128)) then (subS s_7 1 s_7.size).bind fun y_16 => (bif (decide ((y_16.size : Int) > 8)) then (unicode_utf8_word_string y_16).bind fun r_21 => some ((andI .u64 r_21 9259542123273814144) == 0) else some false).bind fun v_18 => (bif v_18 then (subS y_16 8 y_16.size).bind fun y_26 => (bif (decide ((y_26.size : Int) > 16)) then (unicode_utf8_word_string y_26).bind fun r_31 => (subS y_26 8 y_26.size).bind fun y_33 => (unicode_utf8_word_string y_33).bind fun r_35 => some ((andI .u64 (orI .u64 r_31 r_35) 9259542123273814144) == 0) else some false).bind fun v_28 => bif v_28 then (subS y_26 16 y_26.size).bind fun y_38 => (loopF y_38 (fun s => unicode_utf8_ValidString_L1 s)).bind fun o_48 => thenC o_48 (fun s_45 => some s_45) (fun _ => none) else some y_26 else some y_16).bind fun v_23 => some (.go v_23) else none else some (.brk s_7)
theorem unicode_utf8_ValidString_L2_le (s_7 : ByteArray) : Le (unicode_utf8_ValidString_L2F s_7) (unicode_utf8_ValidString_L2 s_7) := by
 unfold unicode_utf8_ValidString_L2F unicode_utf8_ValidString_L2
 repeat' (with_reducible first | exact Le.refl _ | refine Le.loop (fun _ => ?_) | refine Le.forL (fun _ _ _ => ?_) | refine Le.thenC (fun _ => ?_) (fun _ => ?_) | refine Le.cond ?_ ?_ | refine Le.bind ?_ (fun _ => ?_))
def unicode_utf8_ValidStringF (s_1 : ByteArray) : Option (Bool) :=
 (loopF s_1 (fun s => unicode_utf8_ValidString_L2F s)).bind fun o_10 => thenC o_10 (fun s_7 => some true) (fun _ => none)
theorem unicode_utf8_ValidString_le (s_1 : ByteArray) : Le (unicode_utf8_ValidStringF s_1) (unicode_utf8_ValidString s_1) := by
 unfold unicode_utf8_ValidStringF unicode_utf8_ValidString
 repeat' (with_reducible first | exact Le.refl _ | exact unicode_utf8_ValidString_L2_le _ | refine Le.loop (fun _ => ?_) | refine Le.forL (fun _ _ _ => ?_) | refine Le.thenC (fun _ => ?_) (fun _ => ?_) | refine Le.cond ?_ ?_ | refine Le.bind ?_ (fun _ => ?_))
def strings_trimRightByteF (s_1 : ByteArray) (c_2 : Int) : Option (ByteArray) :=
 (loopF s_1 (fun s => strings_trimRightByte_L1 c_2 s)).bind fun o_11 => thenC o_11 (fun s_8 => some s_8) (fun _ => none)
theorem strings_trimRightByte_le (s_1 : ByteArray) (c_2 : Int) : Le (strings_trimRightByteF s_1 c_2) (strings_trimRightByte s_1 c_2) := by
 unfold strings_trimRightByteF strings_trimRightByte
 repeat' (with_reducible first | exact Le.refl _ | refine Le.loop (fun _ => ?_) | refine Le.forL (fun _ _ _ => ?_) | refine Le.thenC (fun _ => ?_) (fun _ => ?_) | refine Le.cond ?_ ?_ | refine Le.bind ?_ (fun _ => ?_))
def strings_trimLeftByteF (s_1 : ByteArray) (c_2 : Int) : Option (ByteArray) :=
 (loopF s_1 (fun s => strings_trimLeftByte_L1 c_2 s)).bind fun o_11 => thenC o_11 (fun s_8 => some s_8) (fun _ => none)
theorem strings_trimLeftByte_le (s_1 : ByteArray) (c_2 : Int) : Le (strings_trimLeftByteF s_1 c_2) (strings_trimLeftByte s_1 c_2) := by
 unfold strings_trimLeftByteF strings_trimLeftByte
 repeat' (with_reducible first | exact Le.refl _ | refine Le.loop (fun _ => ?_) | refine Le.forL (fun _ _ _ => ?_) | refine Le.thenC (fun _ => ?_) (fun _ => ?_) | refine Le.cond ?_ ?_ | refine Le.bind ?_ (fun _ => ?_))
def strings_TrimF (s_1 : ByteArray) (cutset_2 : ByteArray) : Option (ByteArray) :=
 (bif (sEq s_1 (⟨#[]⟩ : ByteArray)) then some true else some (sEq cutset_2 (⟨#[]⟩ : ByteArray))).bind fun v_3 => bif v_3 then some s_1 else (bif ((cutset_2.size : Int) == 1) then (idxS cutset_2 0).bind fun b_10 => some (decide ((b_10.toNat : Int) < 128)) else some false).bind fun v_7 => bif v_7 then (idxS cutset_2 0).bind fun b_13 => (strings_trimRightByteF s_1 (b_13.toNat : Int)).bind fun r_15 => (idxS cutset_2 0).bind fun b_17 => (strings_trimLeftByteF r_15 (b_17.toNat : Int)).bind fun r_19 => some r_19 else none
theorem strings_Trim_le (s_1 : ByteArray) (cutset_2 : ByteArray) : Le (strings_TrimF s_1 cutset_2) (strings_Trim s_1 cutset_2) := by
 unfold strings_TrimF strings_Trim
 repeat' (with_reducible first | exact Le.refl _ | exact strings_trimRightByte_le _ _ | exact strings_trimLeftByte_le _ _ | refine Le.loop (fun _ => ?_) | refine Le.forL (fun _ _ _ => ?_) | refine Le.thenC (fun _ => ?_) (fun _ => ?_) | refine Le.cond ?_ ?_ | refine Le.bind ?_ (fun _ => ?_))
def kit_IsPlainF (s_1 : ByteArray) : Option (Bool) :=
 (loopF 0 (fun s => kit_IsPlain_L1 s_1 s)).bind fun o_10 => thenC o_10 (fun s_7 => ((unicode_utf8_ValidStringF s_1).bind fun r_23 => bif r_23 then (strings_TrimF s_1 (⟨#[32]⟩ : ByteArray)).bind fun r_26 => bif (sEq r_26 s_1) then (strings_Contains s_1 (⟨#[32, 32]⟩ : ByteArray)).bind fun r_29 => some (!r_29) else some false else some false).bind fun v_21 => some v_21) (fun r => some r)
theorem kit_IsPlain_le (s_1 : ByteArray) : Le (kit_IsPlainF s_1) (kit_IsPlain s_1) := by
 unfold kit_IsPlainF kit_IsPlain
 repeat' (with_reducible first | exact Le.refl _ | exact unicode_utf8_ValidString_le _ | exact strings_Trim_le _ _ | refine Le.loop (fun _ => ?_) | refine Le.forL (fun _ _ _ => ?_) | refine Le.thenC (fun _ => ?_) (fun _ => ?_) | refine Le.cond ?_ ?_ | refine Le.bind ?_ (fun _ => ?_))
end Go.Proofs.YtpojeclokolkaaaGreatDoor.Law

open Go Go.Eng
namespace Go.Proofs.YtpojeclokolkaaaGreatDoor.Law
set_option linter.unusedVariables false
set_option linter.unusedSimpArgs false
set_option maxRecDepth 100000
def idL : List ByteArray := [⟨#[97, 97]⟩, ⟨#[97, 98]⟩, ⟨#[97, 99]⟩, ⟨#[97, 100]⟩, ⟨#[97, 101]⟩, ⟨#[97, 102]⟩]
def refL : List ByteArray := [⟨#[97, 97]⟩, ⟨#[97, 98]⟩, ⟨#[97, 99]⟩, ⟨#[97, 100]⟩, ⟨#[122, 122]⟩]
def zyS : ByteArray := ⟨#[122, 121]⟩
def wxS : ByteArray := ⟨#[119, 120]⟩
def fireS : ByteArray := ⟨#[102, 105, 114, 101]⟩
def floodS : ByteArray := ⟨#[102, 108, 111, 111, 100]⟩
def mallS : ByteArray := ⟨#[102, 105, 114, 101, 32, 105, 110, 32, 116, 104, 101, 32, 109, 97, 108, 108]⟩
def overS : ByteArray := ⟨#[111, 118, 101, 114]⟩
theorem plain_lit : kit_IsPlainF ⟨#[]⟩ = some true ∧ kit_IsPlainF floodS = some true ∧ kit_IsPlainF mallS = some true ∧ kit_IsPlainF overS = some true :=
 ⟨by kernel_rfl, by kernel_rfl, by kernel_rfl, by kernel_rfl⟩
def SmallR (r : Rect) : Prop := Fine r ∧ (-2 ≤ r.X ∧ r.X ≤ 8 ∧ -2 ≤ r.Y ∧ r.Y ≤ 8 ∧ r.W ≤ 5 ∧ r.H ≤ 5)
structure RightA (x : Alert) : Prop where
 id : x.Id ∈ idL
 sender : x.Sender = wxS ∨ x.Sender = fireS
 kind : 1 ≤ x.Kind ∧ x.Kind ≤ 3
 refs : x.Refs.Sublist refL ∨ x.Refs = [zyS]
 noId : ∀ r ∈ x.Refs, r ≠ x.Id
 new : x.Kind = 1 ↔ x.Refs = []
 at_ : 0 ≤ x.At ∧ x.At ≤ 30
 until_ : x.At + 1 ≤ x.Until ∧ x.Until ≤ x.At + 50
 weight : 1 ≤ x.Weight ∧ x.Weight ≤ 9
 areas : ∀ r ∈ x.Areas, SmallR r
 alen : x.Areas.length ≤ 2
 cancel : x.Kind = 3 ↔ x.Areas = []
 text : x.Text = floodS ∨ x.Text = mallS ∨ x.Kind = 3 ∧ (x.Text = ⟨#[]⟩ ∨ x.Text = overS)
theorem idL_key : ∀ k ∈ idL, keyB k = true ∧ Nat.ble k.size 1000 = true := by
 intro k hk
 simp only [idL, List.mem_cons, List.not_mem_nil, or_false] at hk
 rcases hk with rfl | rfl | rfl | rfl | rfl | rfl <;> exact ⟨by kernel_rfl, rfl⟩
theorem idL_byte : ∀ k ∈ idL, byteAt k 0 = 97 := by
 intro k hk
 simp only [idL, List.mem_cons, List.not_mem_nil, or_false] at hk
 rcases hk with rfl | rfl | rfl | rfl | rfl | rfl <;> rfl
theorem refL_key : ∀ k ∈ refL, keyB k = true ∧ Nat.ble k.size 1000 = true := by
 intro k hk
 simp only [refL, List.mem_cons, List.not_mem_nil, or_false] at hk
 rcases hk with rfl | rfl | rfl | rfl | rfl <;> exact ⟨by kernel_rfl, rfl⟩
theorem refL_rise : refL.Pairwise lt := by
 unfold refL
 simp only [List.pairwise_cons, List.mem_cons, List.not_mem_nil, or_false, forall_eq_or_imp, forall_eq]
 refine ⟨⟨lt_lit (by kernel_rfl), lt_lit (by kernel_rfl), lt_lit (by kernel_rfl), lt_lit (by kernel_rfl)⟩, ⟨lt_lit (by kernel_rfl), lt_lit (by kernel_rfl), lt_lit (by kernel_rfl)⟩, ⟨lt_lit (by kernel_rfl), lt_lit (by kernel_rfl)⟩, lt_lit (by kernel_rfl), fun a h => (by cases h), List.Pairwise.nil⟩
theorem idL_rise : idL.Pairwise lt := by
 unfold idL
 simp only [List.pairwise_cons, List.mem_cons, List.not_mem_nil, or_false, forall_eq_or_imp, forall_eq]
 refine ⟨⟨lt_lit (by kernel_rfl), lt_lit (by kernel_rfl), lt_lit (by kernel_rfl), lt_lit (by kernel_rfl), lt_lit (by kernel_rfl)⟩, ⟨lt_lit (by kernel_rfl), lt_lit (by kernel_rfl), lt_lit (by kernel_rfl), lt_lit (by kernel_rfl)⟩, ⟨lt_lit (by kernel_rfl), lt_lit (by kernel_rfl), lt_lit (by kernel_rfl)⟩, ⟨lt_lit (by kernel_rfl), lt_lit (by kernel_rfl)⟩, lt_lit (by kernel_rfl), fun a h => (by cases h), List.Pairwise.nil⟩
theorem RightA.refsKey {x : Alert} (h : RightA x) : ∀ r ∈ x.Refs, kit_IsKey r = some true := fun r hr => by
 have : keyB r = true ∧ Nat.ble r.size 1000 = true := by
  rcases h.refs with hs | hs
  ·exact refL_key r (hs.subset hr)
  ·rw [hs] at hr
   rw [List.mem_singleton.1 hr]; exact ⟨by kernel_rfl, rfl⟩
 rw [isKey_eq r (by have := Nat.le_of_ble_eq_true this.2; omega), this.1]
theorem RightA.refsRise {x : Alert} (h : RightA x) : x.Refs.Pairwise lt := by
 rcases h.refs with hs | hs
 ·exact refL_rise.sublist hs
 ·rw [hs]; exact List.pairwise_singleton _ _
theorem RightA.refsLen {x : Alert} (h : RightA x) : x.Refs.length ≤ 5 := by
 rcases h.refs with hs | hs
 ·exact hs.length_le
 ·rw [hs]; decide
theorem RightA.plain {x : Alert} (h : RightA x) : kit_IsPlain x.Text = some true := by
 obtain ⟨p1, p2, p3, p4⟩ := plain_lit
 rcases h.text with e | e | ⟨_, e | e⟩ <;> rw [e]
 ·exact kit_IsPlain_le _ _ p2
 ·exact kit_IsPlain_le _ _ p3
 ·exact kit_IsPlain_le _ _ p1
 ·exact kit_IsPlain_le _ _ p4
theorem refsFault_0 {x : Alert} (h : RightA x) : alert_refsFault x = some 0 := by
 have hl := h.refsLen
 unfold alert_refsFault
 rw [decide_eq_false (by omega), cond_false]
 obtain ⟨u, e, _⟩ := forL_at (body := fun k y s => alert_refsFault_L1 x k y s) (fun _ _ => True) (xs := x.Refs) (s := ()) (by omega) (fun k y s hy _ => by
  refine ⟨(), ?_, trivial⟩
  have hm := List.mem_of_getElem? hy
  unfold alert_refsFault_L1
  rw [h.refsKey y hm]
  simp only [Option.bind_some, Bool.not_true, cond_false]
  have hid : sEq y x.Id = false := by rw [sEq_dec]; exact decide_eq_false (h.noId y hm)
  rcases Nat.eq_zero_or_pos k with h0 | h0
  ·rw [decide_eq_false (by omega), cond_false, Option.bind_some, cond_false, hid]; rfl
  ·rw [decide_eq_true (by omega), cond_true]
   obtain ⟨z, q1, q2⟩ := idx_prev hy h0 (by omega)
   have hz : lt z y := by
    obtain ⟨l1, m1⟩ := List.getElem?_eq_some_iff.1 q2
    obtain ⟨l2, m2⟩ := List.getElem?_eq_some_iff.1 hy
    rw [← m1, ← m2]
    exact List.pairwise_iff_getElem.1 h.refsRise _ _ l1 l2 (by omega)
   have hle : sLe y z = false := by rw [← Bool.not_eq_true, sLe_iff]; exact fun k => k hz
   rw [q1, Option.bind_some, hle, Option.bind_some, cond_false, hid]; rfl) trivial
 rw [e]
 simp only [Option.bind_some, thenC]
 have : ((x.Kind == 1) == ((x.Refs.length : Int) == 0)) = true := by
  rw [beq_iff_eq, Bool.eq_iff_iff, beq_iff_eq, beq_iff_eq, h.new]
  constructor
  ·intro e; rw [e]; rfl
  ·intro e; exact List.eq_nil_of_length_eq_zero (by omega)
 rw [this]; rfl
theorem fine_check {r : Rect} (h : Fine r) : screen_CheckRect r = some 0 := by rw [checkRect_eq, fine_badR h]; rfl
theorem alertFault_0 {x : Alert} (h : RightA x) : alert_alertFault x = some 0 := by
 have hid := idL_key _ h.id
 have k1 : kit_IsKey x.Id = some true := by rw [isKey_eq _ (by have := Nat.le_of_ble_eq_true hid.2; omega), hid.1]
 have k2 : kit_IsKey x.Sender = some true := by
  rcases h.sender with e | e <;> rw [e, isKey_eq _ (by decide)] <;> exact congrArg some (by kernel_rfl)
 have h1 := h.at_
 have h2 := h.until_
 have h3 := h.weight
 have h4 := h.alen
 have k3 : momB x.At = true := by unfold momB; rw [outB_in (by omega)]; rfl
 unfold alert_alertFault
 rw [k1, k2, refsFault_0 h]
 simp only [Option.bind_some, Bool.not_true, cond_false, outside_eq, outB_in h.kind, bne_self_eq_false, isMoment_eq, k3, w64_id (n := x.At + 1) (by omega), w64_id (n := x.At + 2592000000) (by omega), outB_in (show x.At + 1 ≤ x.Until ∧ x.Until ≤ x.At + 2592000000 by omega), outB_in h3, decide_eq_false (show ¬ (x.Areas.length : Int) > 20 by omega)]
 obtain ⟨u, e, _⟩ := forL_at (body := fun k y s => alert_alertFault_L1 k y s) (fun _ _ => True) (xs := x.Areas) (s := ()) (by omega) (fun k y s hy _ => by
  refine ⟨(), ?_, trivial⟩
  unfold alert_alertFault_L1
  rw [fine_check (h.areas y (List.mem_of_getElem? hy)).1]; rfl) trivial
 rw [e]
 simp only [Option.bind_some, thenC, h.plain, Bool.not_true, cond_false]
 have c1 : ((x.Kind == 3) == ((x.Areas.length : Int) == 0)) = true := by
  rw [beq_iff_eq, Bool.eq_iff_iff, beq_iff_eq, beq_iff_eq, h.cancel]
  constructor
  ·intro e; rw [e]; rfl
  ·intro e; exact List.eq_nil_of_length_eq_zero (by omega)
 rw [c1]
 have c2 : x.Text.size ≤ 16 := by
  rcases h.text with e | e | ⟨_, e | e⟩ <;> rw [e] <;> decide
 rw [decide_eq_false (show ¬ (x.Text.size : Int) > 500 by omega)]
 have c3 : (bif sEq x.Text ⟨#[]⟩ then some (!(x.Kind == 3)) else some false) = some false := by
  rw [sEq_dec]
  rcases h.text with e | e | ⟨k, _⟩
  ·rw [e, decide_eq_false (by decide)]; rfl
  ·rw [e, decide_eq_false (by decide)]; rfl
  ·rw [k]
   cases decide (x.Text = ⟨#[]⟩) <;> rfl
 rw [c3]; rfl
theorem refs_gen (id : ByteArray) (s : Stream) {b : Int} (hs : Ok s b) (hb : b ≤ 800000) :
  ∃ l s', forL ([(⟨#[97, 97]⟩ : ByteArray), (⟨#[97, 98]⟩ : ByteArray), (⟨#[97, 99]⟩ : ByteArray), (⟨#[97, 100]⟩ : ByteArray), (⟨#[122, 122]⟩ : ByteArray)] : List ByteArray) (([] : List ByteArray), s.L, s.f_at) (fun k x s => mk_Stream_RightAlerts_L1 id k x s) = some (.go (l, s'.L, s'.f_at)) ∧ l.Sublist refL ∧ (∀ r ∈ l, r ≠ id) ∧ Ok s' (b + 10) := by
 obtain ⟨t, t1, t2, t3, t4⟩ := forL_at (body := fun k x s => mk_Stream_RightAlerts_L1 id k x s) (xs := refL) (s := (([] : List ByteArray), s.L, s.f_at)) (fun k t => t.1.Sublist (refL.take k) ∧ (∀ r ∈ t.1, r ≠ id) ∧ Ok ⟨t.2.1, t.2.2⟩ (b + k)) (by decide) (fun k x t hx ⟨i1, i2, i3⟩ => by
  have hk : k < refL.length := (List.getElem?_eq_some_iff.1 hx).1
  have hk5 : k < 5 := hk
  have et : refL.take (k + 1) = refL.take k ++ [x] := by rw [List.take_add_one, hx]; rfl
  have hlen : t.1.length ≤ 5 := Nat.le_trans i1.length_le (by rw [List.length_take]; exact Nat.min_le_right _ _)
  unfold mk_Stream_RightAlerts_L1
  rw [sNe_dec]
  by_cases he : x = id
  ·rw [decide_eq_true he]
   exact ⟨_, rfl, by rw [et]; exact i1.trans (List.sublist_append_left _ _), i2, i3.mono (by omega)⟩
  ·obtain ⟨f, s1, c1, c2⟩ := flip_ok _ 3 i3 (by omega) (by decide) (by decide)
   rw [decide_eq_false he]
   simp only [Bool.not_false, cond_true, c1, Option.bind_some]
   cases f with
   | true =>
    rw [cond_true, appL_ok _ _ (by simp; omega)]
    refine ⟨_, rfl, by rw [et]; exact i1.append (List.Sublist.refl _), fun r hr => ?_, c2.mono (by omega)⟩
    rcases List.mem_append.1 hr with hr | hr
    ·exact i2 r hr
    ·rw [List.mem_singleton.1 hr]; exact he
   | false => exact ⟨_, rfl, by rw [et]; exact i1.trans (List.sublist_append_left _ _), i2, c2.mono (by omega)⟩) ⟨List.Sublist.refl _, fun r hr => (by cases hr), hs.mono (by omega)⟩
 exact ⟨t.1, ⟨t.2.1, t.2.2⟩, t1, by simpa using t2, t3, t4.mono (by show b + ((5 : Nat) : Int) ≤ b + 10; omega)⟩
theorem areas_gen (n : Int) (hn : 1 ≤ n ∧ n ≤ 2) (s : Stream) {b : Int} (hs : Ok s b) (hb : b ≤ 800000) :
  ∃ l s', forL (List.range n.toNat) (([] : List Rect), s.L, s.f_at) (fun k x s => mk_Stream_RightAlerts_L2 k x s) = some (.go (l, s'.L, s'.f_at)) ∧ (l.length : Int) = n ∧ (∀ r ∈ l, SmallR r) ∧ Ok s' (b + 10) := by
 obtain ⟨t, t1, t2, t3, t4⟩ := forL_inv (body := fun k x s => mk_Stream_RightAlerts_L2 k x s) (s := (([] : List Rect), s.L, s.f_at)) (xs := List.range n.toNat) (fun j t => t.1.length = j ∧ (∀ r ∈ t.1, SmallR r) ∧ Ok ⟨t.2.1, t.2.2⟩ (b + 4 * j)) (by simp; omega) (fun j x t hx hj ⟨i1, i2, i3⟩ => by
  simp only [List.length_range] at hj
  obtain ⟨r, s1, c1, c2, c3, c4⟩ := rightRectF _ i3 (by omega)
  unfold mk_Stream_RightAlerts_L2
  rw [c1, Option.bind_some, appL_ok _ _ (by simp; omega)]
  refine ⟨_, rfl, by simp [i1], fun q hq => ?_, c4.mono (by omega)⟩
  rcases List.mem_append.1 hq with hq | hq
  ·exact i2 q hq
  ·rw [List.mem_singleton.1 hq]; exact ⟨c2, c3⟩) ⟨rfl, fun r hr => (by cases hr), hs.mono (by omega)⟩
 rw [List.length_range] at t2 t4
 exact ⟨t.1, ⟨t.2.1, t.2.2⟩, t1, by omega, t3, t4.mono (by omega)⟩
theorem one_alert (id : ByteArray) (hid : id ∈ idL) (k : Nat) (l0 : List Alert) (hl : l0.length ≤ 100) (s : Stream) {b : Int} (hs : Ok s b) (hb : b ≤ 700000) :
  ∃ x s', mk_Stream_RightAlerts_L3 k id (l0, s.L, s.f_at) = some (.go (l0 ++ [x], s'.L, s'.f_at)) ∧ RightA x ∧ x.Id = id ∧ Ok s' (b + 40) := by
 obtain ⟨sd, s1, a1, a2, a3⟩ := some_ok s [(⟨#[119, 120]⟩ : ByteArray), (⟨#[119, 120]⟩ : ByteArray), (⟨#[102, 105, 114, 101]⟩ : ByteArray)] hs (by omega) (by simp) (by simp)
 obtain ⟨kd, s2, b1, b2, b3⟩ := pick_ok s1 [1, 1, 2, 2, 3] a3 (by omega) (by simp) (by simp)
 obtain ⟨n5, s3, c1, c2, c3, c4⟩ := range_ok s2 0 6 b3 (by omega) (by decide) (by decide) (by decide)
 obtain ⟨wt, s4, d1, d2, d3⟩ := pick_ok s3 [1, 5, 5, 9] c4 (by omega) (by simp) (by simp)
 obtain ⟨tx, s5, e1, e2, e3⟩ := some_ok s4 [(⟨#[102, 108, 111, 111, 100]⟩ : ByteArray), (⟨#[102, 105, 114, 101, 32, 105, 110, 32, 116, 104, 101, 32, 109, 97, 108, 108]⟩ : ByteArray)] d3 (by omega) (by simp) (by simp)
 obtain ⟨un, s6, f1, f2, f3⟩ := pick_ok s5 [1, 10, 20, 50] e3 (by omega) (by simp) (by simp)
 have hsd : sd = wxS ∨ sd = fireS := by
  simp only [List.mem_cons, List.not_mem_nil, or_false] at a2
  rcases a2 with h | h | h
  ·exact .inl h
  ·exact .inl h
  ·exact .inr h
 have hkd : kd = 1 ∨ kd = 2 ∨ kd = 3 := by
  simp only [List.mem_cons, List.not_mem_nil, or_false] at b2; omega
 have hwt : 1 ≤ wt ∧ wt ≤ 9 := by
  simp only [List.mem_cons, List.not_mem_nil, or_false] at d2; omega
 have hun : 1 ≤ un ∧ un ≤ 50 := by
  simp only [List.mem_cons, List.not_mem_nil, or_false] at f2; omega
 have htx : tx = floodS ∨ tx = mallS := by
  simp only [List.mem_cons, List.not_mem_nil, or_false] at e2; exact e2
 obtain ⟨rf, s7, g1, g2, g3, g4, g5⟩ : ∃ rf s7, (bif kd != 1 then (forL ([(⟨#[97, 97]⟩ : ByteArray), (⟨#[97, 98]⟩ : ByteArray), (⟨#[97, 99]⟩ : ByteArray), (⟨#[97, 100]⟩ : ByteArray), (⟨#[122, 122]⟩ : ByteArray)] : List ByteArray) (([] : List ByteArray), s6.L, s6.f_at) (fun k x s => mk_Stream_RightAlerts_L1 id k x s)).bind fun o_56 => thenC o_56 (fun s_50 => bif ((s_50.1.length : Int) == 0) then some (s_50.2.1, s_50.2.2, ([(⟨#[122, 121]⟩ : ByteArray)] : List ByteArray)) else some (s_50.2.1, s_50.2.2, s_50.1)) (fun _ => none) else some (s6.L, s6.f_at, ([] : List ByteArray))) = some (Stream.L s7, Stream.f_at s7, rf) ∧ (rf.Sublist refL ∨ rf = [zyS]) ∧ (∀ r ∈ rf, r ≠ id) ∧ (kd = 1 ↔ rf = []) ∧ Ok s7 (b + 20) := by
  by_cases h1 : kd = 1
  ·rw [h1]
   exact ⟨[], s6, rfl, .inl (List.nil_sublist _), fun r hr => (by cases hr), ⟨fun _ => rfl, fun _ => rfl⟩, f3.mono (by omega)⟩
  ·have : (kd != 1) = true := by simpa using h1
   rw [this, cond_true]
   obtain ⟨l, s7, g1, g2, g3, g4⟩ := refs_gen id s6 f3 (by omega)
   rw [g1]
   simp only [Option.bind_some, thenC]
   by_cases hl0 : l = []
   ·subst hl0
    refine ⟨[zyS], s7, rfl, .inr rfl, fun r hr e => ?_, ⟨fun h => absurd h h1, fun h => (by cases h)⟩, g4.mono (by omega)⟩
    rw [List.mem_singleton.1 hr] at e
    rw [← e] at hid
    have := idL_byte _ hid
    exact absurd this (by decide)
   ·have : ((l.length : Int) == 0) = false := by
     rw [beq_eq_false_iff_ne]
     intro e; exact hl0 (List.eq_nil_of_length_eq_zero (by omega))
    rw [this, cond_false]
    exact ⟨l, s7, rfl, .inl g2, g3, ⟨fun h => absurd h h1, fun h => absurd h hl0⟩, g4.mono (by omega)⟩
 obtain ⟨ar, tx2, s8, j1, j2, j3, j4, j5, j6⟩ : ∃ ar tx2 s8, (bif kd == 3 then (mk_Stream_Some (⟨Stream.L s7, Stream.f_at s7⟩ : Stream) ([(⟨#[]⟩ : ByteArray), (⟨#[111, 118, 101, 114]⟩ : ByteArray)] : List ByteArray)).bind fun r_79 => some (([] : List Rect), r_79.2.L, r_79.2.f_at, r_79.1) else (mk_Stream_Range (⟨Stream.L s7, Stream.f_at s7⟩ : Stream) 1 2).bind fun r_82 => (forL (List.range (r_82.1).toNat) (([] : List Rect), r_82.2.L, r_82.2.f_at) (fun k x s => mk_Stream_RightAlerts_L2 k x s)).bind fun o_95 => thenC o_95 (fun s_90 => some (s_90.1, s_90.2.1, s_90.2.2, tx)) (fun _ => none)) = some (ar, Stream.L s8, Stream.f_at s8, tx2) ∧ (∀ r ∈ ar, SmallR r) ∧ ar.length ≤ 2 ∧ (kd = 3 ↔ ar = []) ∧ (tx2 = floodS ∨ tx2 = mallS ∨ kd = 3 ∧ (tx2 = ⟨#[]⟩ ∨ tx2 = overS)) ∧ Ok s8 (b + 40) := by
  have e7 : (⟨Stream.L s7, Stream.f_at s7⟩ : Stream) = s7 := rfl
  rw [e7]
  by_cases h3 : kd = 3
  ·have : (kd == 3) = true := by simpa using h3
   rw [this, cond_true]
   obtain ⟨t2, s8, q1, q2, q3⟩ := some_ok s7 [(⟨#[]⟩ : ByteArray), (⟨#[111, 118, 101, 114]⟩ : ByteArray)] g5 (by omega) (by simp) (by simp)
   rw [q1]
   simp only [List.mem_cons, List.not_mem_nil, or_false] at q2
   exact ⟨[], t2, s8, rfl, fun r hr => (by cases hr), by decide, ⟨fun _ => rfl, fun _ => h3⟩, .inr (.inr ⟨h3, q2⟩), q3.mono (by omega)⟩
  ·have : (kd == 3) = false := by simpa using h3
   rw [this, cond_false]
   obtain ⟨m, s8, q1, q2, q3, q4⟩ := range_ok s7 1 2 g5 (by omega) (by decide) (by decide) (by decide)
   obtain ⟨ar, s9, r1, r2, r3, r4⟩ := areas_gen m ⟨q2, q3⟩ s8 q4 (by omega)
   rw [q1, Option.bind_some, r1]
   refine ⟨ar, tx, s9, rfl, r3, by omega, ⟨fun h => absurd h h3, fun h => ?_⟩, htx.imp (fun h => h) .inl, r4.mono (by omega)⟩
   rw [h] at r2; simp at r2; omega
 refine ⟨⟨id, sd, kd, rf, n5 * 5, n5 * 5 + un, wt, ar, tx2⟩, s8, ?_, ⟨hid, hsd, by simp only []; omega, g2, g3, g4, by simp only []; omega, by simp only []; omega, hwt, j2, j3, j4, j5⟩, rfl, j6⟩
 unfold mk_Stream_RightAlerts_L3
 have e0 : (⟨s.L, s.f_at⟩ : Stream) = s := rfl
 simp only [e0, a1, b1, c1, d1, e1, f1, g1, j1, Option.bind_some]
 rw [appL_ok _ _ (by simp; omega), w64_id (n := n5 * 5) (by omega), w64_id (n := n5 * 5 + un) (by omega)]; rfl
def befA (a b : Alert) : Prop := a.At < b.At ∨ a.At = b.At ∧ lt a.Id b.Id
open Classical in
theorem order_eq {a b : Alert} (ha : RightA a) (hb : RightA b) : mk_alertOrder a b = some (bif a.At != b.At then a.At - b.At else bif sLt a.Id b.Id then -1 else 1) := by
 have h1 := ha.at_
 have h2 := hb.at_
 unfold mk_alertOrder
 cases a.At != b.At with
 | true => rw [cond_true, cond_true, w64_id (by omega)]
 | false =>
  rw [cond_false, cond_false]
  cases sLt a.Id b.Id <;> rfl
theorem order_neg {a b : Alert} : (bif a.At != b.At then a.At - b.At else bif sLt a.Id b.Id then (-1 : Int) else 1) < 0 ↔ befA a b := by
 unfold befA
 by_cases h : a.At = b.At
 ·have : (a.At != b.At) = false := by simpa using h
  rw [this, cond_false]
  cases hl : sLt a.Id b.Id with
  | true =>
   rw [cond_true]
   exact ⟨fun _ => .inr ⟨h, (sLt_iff _ _).1 hl⟩, fun _ => by decide⟩
  | false =>
   rw [cond_false]
   refine ⟨fun h => absurd h (by decide), fun hb => ?_⟩
   rcases hb with hb | hb
   ·omega
   ·rw [(sLt_iff _ _).2 hb.2] at hl; cases hl
 ·have : (a.At != b.At) = true := by simpa using h
  rw [this, cond_true]
  refine ⟨fun k => .inl (by omega), fun hb => ?_⟩
  rcases hb with hb | hb
  ·omega
  ·exact absurd hb.1 h
theorem befA_irr (a : Alert) : ¬ befA a a := fun h => by
 rcases h with h | h
 ·omega
 ·exact lt_irr _ h.2
theorem befA_trans {a b c : Alert} (h : befA a b) (k : befA b c) : befA a c := by
 rcases h with h | h <;> rcases k with k | k
 ·exact .inl (by omega)
 ·exact .inl (by omega)
 ·exact .inl (by omega)
 ·exact .inr ⟨h.1.trans k.1, lt_trans h.2 k.2⟩
theorem befA_tri (a b : Alert) (hid : a.Id ≠ b.Id) : befA a b ∨ befA b a := by
 rcases Int.lt_trichotomy a.At b.At with h | h | h
 ·exact .inl (.inl h)
 ·rcases lt_tri a.Id b.Id with k | k | k
  ·exact .inl (.inr ⟨h, k⟩)
  ·exact absurd k hid
  ·exact .inr (.inr ⟨h.symm, k⟩)
 ·exact .inr (.inl h)
theorem befA_ntrans {a b c : Alert} (h : ¬ befA a b) (k : ¬ befA b c) : ¬ befA a c := fun hc => by
 unfold befA at *
 simp only [not_or, not_and] at h k
 rcases hc with hc | hc
 ·rcases Int.lt_trichotomy a.At b.At with q | q | q
  ·exact h.1 q
  ·rcases Int.lt_trichotomy b.At c.At with r | r | r
   ·exact k.1 r
   ·omega
   ·omega
  ·have := k.1; omega
 ·have h1 := h.1
  have k1 := k.1
  have e1 : a.At = b.At := by omega
  have e2 : b.At = c.At := by omega
  have h2 := h.2 e1
  have k2 := k.2 e2
  rcases lt_tri a.Id b.Id with q | q | q
  ·exact h2 q
  ·rw [q] at hc; exact k2 hc.2
  ·rcases lt_tri b.Id c.Id with r | r | r
   ·exact k2 r
   ·rw [← r] at hc; exact h2 hc.2
   ·exact lt_irr _ (lt_trans (lt_trans hc.2 r) q)
structure RAlerts (l : List Alert) (n : Nat) : Prop where
 right : ∀ x ∈ l, RightA x
 rise : l.Pairwise befA
 ids : (l.map (·.Id)).Nodup
 len : l.length ≤ n
theorem rightAlerts (most : Int) (hm : 0 ≤ most ∧ most ≤ 6) (s : Stream) {b : Int} (hs : Ok s b) (hb : b ≤ 600000) : ∃ l s', mk_Stream_RightAlerts s most = some (l, s') ∧ RAlerts l most.toNat ∧ Ok s' (b + 250) := by
 obtain ⟨n, s1, a1, a2, a3, a4⟩ := range_ok s 0 most hs (by omega) (by omega) (by decide) (by omega)
 have hsub : subL idL 0 n = some (idL.take n.toNat) := by
  unfold subL
  have h6 : idL.length = 6 := rfl
  rw [if_pos (by rw [h6]; omega)]
  simp
 obtain ⟨t, t1, t2, t3, t4⟩ := forL_at (body := fun k x s => mk_Stream_RightAlerts_L3 k x s) (xs := idL.take n.toNat) (s := (([] : List Alert), s1.L, s1.f_at)) (fun k t => t.1.map (·.Id) = idL.take k ∧ (∀ x ∈ t.1, RightA x) ∧ Ok ⟨t.2.1, t.2.2⟩ (b + 1 + 40 * k)) (by rw [List.length_take]; show min n.toNat 6 ≤ _; omega) (fun k x t hx ⟨i1, i2, i3⟩ => by
  have hk : k < (idL.take n.toNat).length := (List.getElem?_eq_some_iff.1 hx).1
  rw [List.length_take] at hk
  have hk6 : k < 6 := by have : idL.length = 6 := rfl; omega
  have hx' : idL[k]? = some x := by rw [List.getElem?_take_of_lt (by omega)] at hx; exact hx
  have hlen : t.1.length ≤ 6 := by
   have := congrArg List.length i1
   rw [List.length_map, List.length_take] at this
   omega
  obtain ⟨y, s2, c1, c2, c3, c4⟩ := one_alert x (List.mem_of_getElem? hx') k t.1 (by omega) ⟨t.2.1, t.2.2⟩ i3 (by omega)
  refine ⟨_, c1, ?_, fun z hz => ?_, c4.mono (by omega)⟩
  ·rw [List.map_append, i1, List.take_add_one, hx']
   simp [c3]
  ·rcases List.mem_append.1 hz with hz | hz
   ·exact i2 z hz
   ·rw [List.mem_singleton.1 hz]; exact c2) ⟨rfl, fun x hx => (by cases hx), a4.mono (by omega)⟩
 have hnd : (t.1.map (·.Id)).Nodup := by
  rw [t2]
  exact (idL_rise.sublist (List.take_sublist _ _)).imp (fun h e => by rw [e] at h; exact lt_irr _ h)
 have hlen : t.1.length ≤ most.toNat := by
  have := congrArg List.length t2
  rw [List.length_map, List.length_take, List.length_take] at this
  omega
 obtain ⟨r, r1, r2, r3⟩ := sort12 (cmp := mk_alertOrder) (S := slices_SortFunc_api_Alert_api_Alert_v1) (fun a b => bif a.At != b.At then a.At - b.At else bif sLt a.Id b.Id then -1 else 1) (fun _ => rfl) (xs := t.1) (by omega) (fun x hx y hy => order_eq (t3 x hx) (t3 y hy))
  (fun x y h k => befA_irr x (befA_trans (order_neg.1 h) (order_neg.1 k))) (fun x y z h k q => befA_ntrans (fun e => h (order_neg.2 e)) (fun e => k (order_neg.2 e)) (order_neg.1 q))
 have hrl : r.length = t.1.length := r2.length_eq
 have hids : (r.map (·.Id)).Nodup := (r2.map (·.Id)).nodup_iff.2 hnd
 refine ⟨r, ⟨t.2.1, t.2.2⟩, ?_, ⟨fun x hx => t3 x (r2.mem_iff.1 hx), ?_, hids, by omega⟩, t4.mono (by
  have : (idL.take n.toNat).length ≤ 6 := by rw [List.length_take]; exact Nat.min_le_right _ _
  omega)⟩
 ·unfold mk_Stream_RightAlerts
  have e1 : subL ([(⟨#[97, 97]⟩ : ByteArray), (⟨#[97, 98]⟩ : ByteArray), (⟨#[97, 99]⟩ : ByteArray), (⟨#[97, 100]⟩ : ByteArray), (⟨#[97, 101]⟩ : ByteArray), (⟨#[97, 102]⟩ : ByteArray)] : List ByteArray) 0 n = some (idL.take n.toNat) := hsub
  simp only [a1, Option.bind_some, e1, t1, thenC]
  have e2 : slices_SortFunc_api_Alert_api_Alert_v1 t.1 = some r := r1
  have e3 : sameL r t.1 = some () := by unfold sameL; rw [if_pos hrl]
  rw [e2, Option.bind_some, e3]; rfl
 ·refine List.pairwise_iff_getElem.2 (fun i j hi hj hij => ?_)
  have h1 := List.pairwise_iff_getElem.1 r3 i j hi hj hij
  have h2 : r[i].Id ≠ r[j].Id := fun e => by
   have := List.pairwise_iff_getElem.1 hids i j (by simpa using hi) (by simpa using hj) hij
   rw [List.getElem_map, List.getElem_map] at this
   exact this e
  rcases befA_tri r[i] r[j] h2 with h | h
  ·exact h
  ·exact absurd (order_neg.2 h) h1
theorem compareA_neg {a b : Alert} (h : befA a b) : ∃ n, alert_compare a b = some n ∧ n < 0 := by
 refine ⟨_, by simp only [alert_compare, compare_eq, cmpInt_eq, or2_eq, Option.bind_some]; rfl, ?_⟩
 unfold or0 cmpI
 rcases h with h | ⟨h, k⟩
 ·simp [h]
 ·rw [h]
  rcases cmpB_spec a.Id b.Id with ⟨_, e⟩ | ⟨e, _⟩ | ⟨e, _⟩
  ·rw [e]; simp
  ·rw [e] at k; exact absurd k (lt_irr _)
  ·exact absurd (lt_trans k e) (lt_irr _)
end Go.Proofs.YtpojeclokolkaaaGreatDoor.Law

open Go Go.Eng
namespace Go.Proofs.YtpojeclokolkaaaGreatDoor.Law
set_option linter.unusedVariables false
set_option linter.unusedSimpArgs false
theorem mIdx_none {K T : Type} {eq : K → K → Bool} {k : K} : ∀ {es : List (K × T)}, (∀ e ∈ es, eq k e.1 = false) → mIdx eq k es = none
 | [], _ => rfl
 | e :: es, h => by
  have h1 := h e (by simp)
  have h2 := mIdx_none (es := es) (fun x hx => h x (by simp [hx]))
  rw [mIdx, h1, h2]; rfl
theorem eqS_eq {a b : ByteArray} (h : (a == b) = true) : a = b := by
 obtain ⟨x⟩ := a
 obtain ⟨y⟩ := b
 have h1 : (x == y) = true := h
 rw [eq_of_beq h1]
theorem idsLoop (l : List Alert) (hnd : (l.map (·.Id)).Nodup) (hl : l.length ≤ 1000) : ∃ s, forL l ([] : List (ByteArray × Bool)) (fun k x s => alert_CheckAlerts_L2 k x s) = some (.go s) := by
 obtain ⟨s, e, _⟩ := forL_at (body := fun k x s => alert_CheckAlerts_L2 k x s) (fun k s => s = (l.take k).map fun a => (a.Id, true)) (xs := l) (s := ([] : List (ByteArray × Bool))) (by omega) (fun k x s hx hs => by
  have et : l.take (k + 1) = l.take k ++ [x] := by rw [List.take_add_one, hx]; rfl
  have hn : mIdx eqS x.Id s = none := mIdx_none (fun e he => by
   rw [hs] at he
   obtain ⟨a, ha, rfl⟩ := List.mem_map.1 he
   obtain ⟨i, hi, rfl⟩ := List.getElem_of_mem ha
   rw [List.length_take] at hi
   obtain ⟨hk, hxk⟩ := List.getElem?_eq_some_iff.1 hx
   rw [← Bool.not_eq_true]
   intro e
   replace e := eqS_eq e
   have := List.pairwise_iff_getElem.1 hnd i k (by simp; omega) (by simpa using hk) (by omega)
   rw [List.getElem_map, List.getElem_map, hxk] at this
   rw [List.getElem_take] at e
   exact this e.symm)
  unfold alert_CheckAlerts_L2 mGet mSet
  rw [hn]
  refine ⟨_, rfl, ?_⟩
  rw [et, List.map_append, hs]; rfl) rfl
 exact ⟨s, e⟩
theorem checkAlerts_0 {l : List Alert} {n : Nat} (h : RAlerts l n) (hn : n ≤ 300) : alert_CheckAlerts l = some 0 := by
 have hl := h.len
 unfold alert_CheckAlerts
 rw [decide_eq_false (by omega), cond_false]
 obtain ⟨u, e, _⟩ := forL_at (body := fun k x s => alert_CheckAlerts_L1 l k x s) (fun _ _ => True) (xs := l) (s := ()) (by omega) (fun k x s hx _ => by
  refine ⟨(), ?_, trivial⟩
  have hm := List.mem_of_getElem? hx
  unfold alert_CheckAlerts_L1
  rw [alertFault_0 (h.right x hm)]
  simp only [Option.bind_some, bne_self_eq_false, cond_false]
  rcases Nat.eq_zero_or_pos k with h0 | h0
  ·rw [decide_eq_false (by omega)]; rfl
  ·rw [decide_eq_true (by omega), cond_true]
   obtain ⟨y, q1, q2⟩ := idx_prev hx h0 (by omega)
   have hb : befA y x := by
    obtain ⟨l1, m1⟩ := List.getElem?_eq_some_iff.1 q2
    obtain ⟨l2, m2⟩ := List.getElem?_eq_some_iff.1 hx
    rw [← m1, ← m2]
    exact List.pairwise_iff_getElem.1 h.rise _ _ l1 l2 (by omega)
   obtain ⟨m, m1, m2⟩ := compareA_neg hb
   rw [q1, Option.bind_some, m1, Option.bind_some, decide_eq_false (by omega)]; rfl) trivial
 rw [e]
 simp only [Option.bind_some, thenC]
 obtain ⟨s, e2⟩ := idsLoop l h.ids (by omega)
 rw [e2]; rfl
theorem one_RAlerts {x : Alert} (h : RightA x) : RAlerts [x] 1 := ⟨fun y hy => by rw [List.mem_singleton.1 hy]; exact h, List.pairwise_singleton _ _, by simp, by simp⟩
structure RightPo (p : Post) : Prop where
 key : kit_IsKey p.Player = some true
 x : -1000 ≤ p.X ∧ p.X ≤ 1000
 y : -1000 ≤ p.Y ∧ p.Y ≤ 1000
theorem paP_right {x y : Int} (hx : -1000 ≤ x ∧ x ≤ 1000) (hy : -1000 ≤ y ∧ y ≤ 1000) : RightPo ⟨⟨#[112, 97]⟩, x, y⟩ := ⟨by
 show kit_IsKey ⟨#[112, 97]⟩ = some true
 rw [isKey_eq _ (by decide)]; exact congrArg some (by kernel_rfl), hx, hy⟩
theorem onePost_0 {p : Post} (h : RightPo p) : alert_CheckPosts [p] = some 0 := by
 have h1 := h.x
 have h2 := h.y
 unfold alert_CheckPosts
 rw [decide_eq_false (by simp), cond_false, forL_eq (by simp)]
 have e : alert_CheckPosts_L1 [p] 0 p () = some (.go ()) := by
  unfold alert_CheckPosts_L1
  rw [h.key]
  simp only [Option.bind_some, Bool.not_true, cond_false, outside_eq, outB_in (show (-100000 : Int) ≤ p.X ∧ p.X ≤ 100000 by omega), outB_in (show (-100000 : Int) ≤ p.Y ∧ p.Y ≤ 100000 by omega)]
  rfl
 simp only [forR, e, Option.bind_some, thenC]
theorem checkBoth_0 {l : List Alert} {n : Nat} (h : RAlerts l n) (hn : n ≤ 300) {p : Post} (hp : RightPo p) : alert_checkBoth l [p] = some 0 := by
 unfold alert_checkBoth
 rw [checkAlerts_0 h hn, Option.bind_some, onePost_0 hp]; rfl
theorem reaches_eq {x : Alert} (h : ∀ r ∈ x.Areas, SmallR r) (hl : x.Areas.length ≤ 1000) (p : Post) : alert_reaches x p = some (hasB x.Areas p.X p.Y) := by
 unfold alert_reaches
 rw [any_eq (fun x0 => alert_reaches_1 x0 p) (has1 p.X p.Y) (fun r hr => by
  have hs := (h r hr).2
  unfold alert_reaches_1 has1
  rw [w64_id (n := r.X + r.W) (by have := (h r hr).1; unfold Fine at this; omega), w64_id (n := r.Y + r.H) (by have := (h r hr).1; unfold Fine at this; omega)]
  cases decide (r.X ≤ p.X) <;> cases decide (p.X < r.X + r.W) <;> cases decide (r.Y ≤ p.Y) <;> rfl) (by omega)]
 rfl
theorem Reaches_ok {x : Alert} (h : RightA x) {p : Post} (hp : RightPo p) : alert_Reaches x p = some (hasB x.Areas p.X p.Y, 0) := by
 unfold alert_Reaches
 rw [checkBoth_0 (one_RAlerts h) (by decide) hp]
 simp only [Option.bind_some, bne_self_eq_false, cond_false]
 have := h.alen
 rw [reaches_eq h.areas (by omega)]; rfl
end Go.Proofs.YtpojeclokolkaaaGreatDoor.Law

open Go Go.Eng
namespace Go.Proofs.YtpojeclokolkaaaGreatDoor.Law
set_option linter.unusedVariables false
set_option linter.unusedSimpArgs false
def insI (x : Int) : List Int → List Int
 | [] => [x]
 | y :: l => bif decide (x ≤ y) then x :: y :: l else y :: insI x l
def isortI : List Int → List Int
 | [] => []
 | x :: l => insI x (isortI l)
theorem insI_perm (x : Int) : ∀ l, (insI x l).Perm (x :: l)
 | [] => .refl _
 | y :: l => by
  unfold insI
  cases decide (x ≤ y) with
  | true => exact .refl _
  | false => exact ((insI_perm x l).cons y).trans (List.Perm.swap x y l)
theorem isortI_perm : ∀ l, (isortI l).Perm l
 | [] => .refl _
 | x :: l => (insI_perm x _).trans ((isortI_perm l).cons x)
theorem insI_sorted (x : Int) : ∀ l : List Int, l.Pairwise (· ≤ ·) → (insI x l).Pairwise (· ≤ ·)
 | [], _ => List.pairwise_singleton _ _
 | y :: l, h => by
  obtain ⟨h1, h2⟩ := List.pairwise_cons.1 h
  unfold insI
  by_cases hx : x ≤ y
  ·rw [decide_eq_true hx, cond_true]
   exact List.pairwise_cons.2 ⟨fun z hz => by
    rcases List.mem_cons.1 hz with rfl | hz
    ·exact hx
    ·exact Int.le_trans hx (h1 z hz), h⟩
  ·rw [decide_eq_false hx, cond_false]
   exact List.pairwise_cons.2 ⟨fun z hz => by
    rcases List.mem_cons.1 ((insI_perm x l).mem_iff.1 hz) with rfl | hz
    ·omega
    ·exact h1 z hz, insI_sorted x l h2⟩
theorem isortI_sorted : ∀ l, (isortI l).Pairwise (· ≤ ·)
 | [] => .nil
 | x :: l => insI_sorted x _ (isortI_sorted l)
theorem isortI_eq (l : List Int) : l.mergeSort (fun x y => decide (x ≤ y)) = isortI l := by
 refine List.Perm.eq_of_pairwise (le := (· ≤ ·)) (fun a b _ _ h1 h2 => Int.le_antisymm h1 h2) ?_ (isortI_sorted l) ((List.mergeSort_perm l _).trans (isortI_perm l).symm)
 have := List.pairwise_mergeSort (le := fun (x y : Int) => decide (x ≤ y)) (fun a b c => by simp; omega) (fun a b => by simp; omega) l
 exact this.imp (by simp)
def sortF (l : List Int) : Option (List Int) := bif Nat.ble l.length 1000 then some (isortI l) else none
theorem sortF_le (l : List Int) : Le (sortF l) (slices_Sort_int_int_v1 l) := fun r h => by
 unfold sortF at h
 cases hb : Nat.ble l.length 1000 with
 | false => rw [hb] at h; cases h
 | true =>
  rw [hb, cond_true] at h
  have := Nat.le_of_ble_eq_true hb
  unfold slices_Sort_int_int_v1 sortI
  rw [if_pos (by omega), isortI_eq]; exact h
end Go.Proofs.YtpojeclokolkaaaGreatDoor.Law

