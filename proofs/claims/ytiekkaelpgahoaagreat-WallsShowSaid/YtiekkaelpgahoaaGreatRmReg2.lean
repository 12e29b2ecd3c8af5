import Derived.Test.YtiekkaelpgahoaaGreatRmSimR
import Derived.Test.YtiekkaelpgahoaaGreatRmRegion
/-
  PLAIN LEMMAS: the region is told by the set of its pixels, whatever the edges at which it was cut.
-/
open Go Go.Eng
namespace Go.Proofs.YtiekkaelpgahoaaGreat.Law
set_option linter.unusedVariables false
set_option linter.unusedSimpArgs false

theorem bandsOf_nil : ∀ (l : List (Int × List Run)) (fr fr' : Int), bandsOf l [] fr = bandsOf l [] fr'
 | [], _, _ => rfl
 | (y, R) :: l, fr, fr' => by
  simp only [bandsOf, if_true]
  by_cases h : [] = R
  ·rw [if_pos h, if_pos h]; exact bandsOf_nil l fr fr'
  ·rw [if_neg h, if_neg h]
theorem rowFn_of (Rw : Int → List Run) : ∀ (ys : List Int), (∀ (j : Nat) (a b : Int), ys[j]? = some a → ys[j + 1]? = some b → ∀ y, a ≤ y → y < b → Rw y = Rw a) → (∀ y, (∀ a ∈ ys, a ≤ y) → Rw y = []) → ys.Pairwise (· < ·) → ∀ (y : Int) (band : List Run), rowFn (pairsOf Rw ys) band y = match ys with | [] => Rw y | a :: _ => bif decide (y < a) then band else Rw y
 | [], _, h2, _, y, band => (h2 y (fun a ha => by cases ha)).symm
 | [a], _, h2, _, y, band => by
  simp only [pairsOf, rowFn]
  by_cases h : y < a
  ·rw [decide_eq_true h]; rfl
  ·rw [decide_eq_false h, cond_false, cond_false, h2 y (fun b hb => by rw [List.mem_singleton] at hb; omega)]
 | a :: b :: l, h1, h2, h3, y, band => by
  obtain ⟨p1, p2⟩ := List.pairwise_cons.1 h3
  have hab := p1 b (by simp)
  have ih := rowFn_of Rw (b :: l) (fun j c d hc hd => h1 (j + 1) c d (by simpa using hc) (by simpa using hd)) (fun y hy => h2 y (fun c hc => by
   rcases List.mem_cons.1 hc with rfl | hc
   ·have := hy b (by simp); omega
   ·exact hy c hc)) p2 y (Rw a)
  have hp : pairsOf Rw (a :: b :: l) = (a, Rw a) :: pairsOf Rw (b :: l) := rfl
  rw [hp, rowFn, ih]
  show (bif decide (y < a) then band else bif decide (y < b) then Rw a else Rw y) = bif decide (y < a) then band else Rw y
  by_cases h : y < a
  ·rw [decide_eq_true h]; rfl
  ·rw [decide_eq_false h, cond_false, cond_false]
   by_cases k : y < b
   ·rw [decide_eq_true k, cond_true, h1 0 a b rfl rfl y (by omega) k]
   ·rw [decide_eq_false k, cond_false]
theorem rise_pairs (Rw : Int → List Run) : ∀ (ys : List Int) (lo : Int), (∀ y ∈ ys, lo < y) → ys.Pairwise (· < ·) → Rise lo (pairsOf Rw ys)
 | [], _, _, _ => trivial
 | [a], lo, h, _ => ⟨h a (by simp), fun _ => rfl, trivial⟩
 | a :: b :: l, lo, h, h3 => by
  obtain ⟨p1, p2⟩ := List.pairwise_cons.1 h3
  refine ⟨h a (by simp), fun e => ?_, rise_pairs Rw (b :: l) a p1 p2⟩
  cases l <;> cases e
def Fits (Rw : Int → List Run) (ys : List Int) : Prop :=
 ys.Pairwise (· < ·) ∧ (∀ y ∈ ys, -200000 < y) ∧ (∀ (j : Nat) (a b : Int), ys[j]? = some a → ys[j + 1]? = some b → ∀ y, a ≤ y → y < b → Rw y = Rw a) ∧ (∀ y, (∀ a ∈ ys, a ≤ y) → Rw y = []) ∧ (∀ y, (∀ a ∈ ys, y < a) → Rw y = [])
theorem fits_bands {Rw : Int → List Run} {ys : List Int} (h : Fits Rw ys) (fr : Int) : CanonB (-200000) (bandsOf (pairsOf Rw ys) [] fr) ∧ ∀ y, rowAt (bandsOf (pairsOf Rw ys) [] fr) y = Rw y := by
 obtain ⟨h1, h2, h3, h4, h5⟩ := h
 rw [bandsOf_nil _ fr (-200000)]
 obtain ⟨c1, c2⟩ := bands_ok (band := []) (rise_pairs Rw ys (-200000) h2 h1) (Int.le_refl _) (fun _ => rfl)
 refine ⟨c1, fun y => ?_⟩
 rw [c2, rowFn_of Rw ys h3 h4 h1]
 by_cases k : y < -200000
 ·rw [decide_eq_true k, cond_true, h5 y (fun a ha => by have := h2 a ha; omega)]
 ·rw [decide_eq_false k, cond_false]
  cases ys with
  | nil => rfl
  | cons a l =>
   simp only
   by_cases k : y < a
   ·rw [decide_eq_true k, cond_true]
    exact (h5 y (fun b hb => by
     rcases List.mem_cons.1 hb with rfl | hb
     ·exact k
     ·have := (List.pairwise_cons.1 h1).1 b hb; omega)).symm
   ·rw [decide_eq_false k, cond_false]
theorem fits_eq {Rw : Int → List Run} {ys zs : List Int} (h : Fits Rw ys) (h' : Fits Rw zs) (fr fr' : Int) : bandsOf (pairsOf Rw ys) [] fr = bandsOf (pairsOf Rw zs) [] fr' := by
 obtain ⟨a1, a2⟩ := fits_bands h fr
 obtain ⟨b1, b2⟩ := fits_bands h' fr'
 exact band_eq a1 b1 (fun y => by rw [a2, b2])
theorem edge_gap {es : List Int} (hp : es.Pairwise (· < ·)) {i : Nat} {a b e : Int} (ha : es[i]? = some a) (hb : es[i + 1]? = some b) (he : e ∈ es) : e ≤ a ∨ b ≤ e := by
 obtain ⟨q, hq, rfl⟩ := List.getElem_of_mem he
 obtain ⟨la, ea⟩ := List.getElem?_eq_some_iff.1 ha
 obtain ⟨lb, eb⟩ := List.getElem?_eq_some_iff.1 hb
 rcases Nat.lt_trichotomy q i with k | k | k
 ·left; rw [← ea]; exact Int.le_of_lt ((List.pairwise_iff_getElem.1 hp) q i hq la k)
 ·left; subst k; rw [← ea]; exact Int.le_refl _
 ·right
  rcases Nat.eq_or_lt_of_le (show i + 1 ≤ q by omega) with e | k2
  ·subst e; rw [← eb]; exact Int.le_refl _
  ·rw [← eb]; exact Int.le_of_lt ((List.pairwise_iff_getElem.1 hp) (i + 1) q lb hq k2)
theorem cell_y {ys : List Int} (hp : ys.Pairwise (· < ·)) {L : List Rect} (hL : ∀ r ∈ L, r.Y ∈ ys ∧ r.Y + r.H ∈ ys) {j : Nat} {a b : Int} (ha : ys[j]? = some a) (hb : ys[j + 1]? = some b) {y : Int} (h1 : a ≤ y) (h2 : y < b) (x : Int) : hasP L x y ↔ hasP L x a := by
 constructor
 ·rintro ⟨r, hr, k3, k1, k2⟩
  obtain ⟨i1, i2⟩ := hL r hr
  refine ⟨r, hr, k3, ?_, by omega⟩
  rcases edge_gap hp ha hb i1 with g | g <;> omega
 ·rintro ⟨r, hr, k3, k1, k2⟩
  obtain ⟨i1, i2⟩ := hL r hr
  refine ⟨r, hr, k3, by omega, ?_⟩
  rcases edge_gap hp ha hb i2 with g | g <;> omega
theorem cell_x {xs : List Int} (hp : xs.Pairwise (· < ·)) {L : List Rect} (hL : ∀ r ∈ L, r.X ∈ xs ∧ r.X + r.W ∈ xs) {j : Nat} {a b : Int} (ha : xs[j]? = some a) (hb : xs[j + 1]? = some b) {x : Int} (h1 : a ≤ x) (h2 : x < b) (y : Int) : hasP L x y ↔ hasP L a y := by
 constructor
 ·rintro ⟨r, hr, ⟨k1, k2⟩, k3⟩
  obtain ⟨i1, i2⟩ := hL r hr
  refine ⟨r, hr, ⟨?_, by omega⟩, k3⟩
  rcases edge_gap hp ha hb i1 with g | g <;> omega
 ·rintro ⟨r, hr, ⟨k1, k2⟩, k3⟩
  obtain ⟨i1, i2⟩ := hL r hr
  refine ⟨r, hr, ⟨by omega, ?_⟩, k3⟩
  rcases edge_gap hp ha hb i2 with g | g <;> omega
theorem canon_nil {lo : Int} {R : List Run} (h : CanonFrom lo R) (he : ∀ x, ¬ mem x R) : R = [] :=
 canon_eq h (show CanonFrom lo [] from trivial) (fun x => by simp [mem_nil, he x])
theorem region_gen (is : Int → Int → Option Bool) (l m all : List Rect) (hall : ∀ r ∈ all, Fine r) (hl : ∀ r ∈ l, r ∈ all) (hm : ∀ r ∈ m, r ∈ all) (h1 : l.length ≤ 12) (h2 : m.length ≤ 12) (h3 : all.length ≤ 100)
  (his : ∀ x y, is x y = some (hasB l x y && !hasB m x y)) :
  ∃ (xs ys : List Int) (res : List Rect), ref_cuts_v1 all = some xs ∧ ref_cuts_v2 all = some ys ∧ screen_region l m = some res ∧
   ((loopO (([] : List Rect), ([] : List Rect), (0 : Int)) (fun s => regL3 is ys xs s)).bind fun o_22 => thenC o_22 (fun s_13 => (appL s_13.1 s_13.2.1).bind fun a_114 => some a_114) (fun _ => none)) = some res ∧ res.length ≤ (2 * (l.length + m.length) + 1) * (l.length * (m.length + 1)) ∧
   ∃ bs : List Band, res = flatB bs ∧ CanonB (-200000) bs ∧ (∀ y, CanonFrom (-200000) (rowAt bs y) ∧ (∀ r ∈ rowAt bs y, Okr r) ∧ ∀ x, mem x (rowAt bs y) ↔ hasP l x y ∧ ¬ hasP m x y) := by
 have hfl : ∀ r ∈ l, Fine r := fun r hr => hall r (hl r hr)
 have hfm : ∀ r ∈ m, Fine r := fun r hr => hall r (hm r hr)
 have hlm : ∀ r ∈ l ++ m, Fine r := fun r hr => by
  rcases List.mem_append.1 hr with hr | hr
  ·exact hfl r hr
  ·exact hfm r hr
 have hlen : (l ++ m).length ≤ 24 := by simp; omega
 obtain ⟨xs, x1, x2, x3, x4⟩ := cutsOf (all.flatMap xE) (by rw [flat2 (fun _ => rfl)]; omega)
 obtain ⟨zs, z1, z2, z3, z4⟩ := cutsOf (all.flatMap yE) (by rw [flat2 (fun _ => rfl)]; omega)
 obtain ⟨ys, y1, y2, y3, y4⟩ := cutsOf ((l ++ m).flatMap yE) (by rw [flat2 (fun _ => rfl)]; omega)
 rw [flat2 (fun _ => rfl)] at x4 y4 z4
 have ex : forL all ([] : List Int) (fun k x s => ref_cuts_v1_L1 k x s) = some (.go (all.flatMap xE)) := by
  rw [forL_eq (by omega), edges_loop xE (fun _ => rfl) all 0 [] (fun k r s hr hs => by
   obtain ⟨f1, f2, f3, f4⟩ := hall r hr
   unfold ref_cuts_v1_L1 ref_regionOf_1
   rw [w64_id (by omega), Option.bind_some, appL_ok _ _ (by simp; omega)]; rfl) (by simp; omega), List.nil_append]
 have ey : forL all ([] : List Int) (fun k x s => ref_cuts_v2_L1 k x s) = some (.go (all.flatMap yE)) := by
  rw [forL_eq (by omega), edges_loop yE (fun _ => rfl) all 0 [] (fun k r s hr hs => by
   obtain ⟨f1, f2, f3, f4⟩ := hall r hr
   unfold ref_cuts_v2_L1 ref_regionOf_2
   rw [w64_id (by omega), Option.bind_some, appL_ok _ _ (by simp; omega)]; rfl) (by simp; omega), List.nil_append]
 have ep : forL (l ++ m) ([] : List Int) (fun k x s => screen_region_L1 k x s) = some (.go ((l ++ m).flatMap yE)) := by
  rw [forL_eq (by omega), edges_loop yE (fun _ => rfl) (l ++ m) 0 [] (fun k r s hr hs => by
   obtain ⟨f1, f2, f3, f4⟩ := hlm r hr
   unfold screen_region_L1
   rw [w64_id (by omega), appL_ok _ _ (by simp; omega)]; rfl) (by simp at hlen ⊢; omega), List.nil_append]
 have c1 : ref_cuts_v1 all = some xs := by
  unfold ref_cuts_v1
  rw [ex, Option.bind_some]; exact x1
 have c2 : ref_cuts_v2 all = some zs := by
  unfold ref_cuts_v2
  rw [ey, Option.bind_some]; exact z1
 have inX : ∀ r ∈ all, r.X ∈ xs ∧ r.X + r.W ∈ xs := fun r hr => ⟨(x3 _).2 (List.mem_flatMap.2 ⟨r, hr, by simp [xE]⟩), (x3 _).2 (List.mem_flatMap.2 ⟨r, hr, by simp [xE]⟩)⟩
 have inZ : ∀ r ∈ all, r.Y ∈ zs ∧ r.Y + r.H ∈ zs := fun r hr => ⟨(z3 _).2 (List.mem_flatMap.2 ⟨r, hr, by simp [yE]⟩), (z3 _).2 (List.mem_flatMap.2 ⟨r, hr, by simp [yE]⟩)⟩
 have inY : ∀ r ∈ l ++ m, r.Y ∈ ys ∧ r.Y + r.H ∈ ys := fun r hr => ⟨(y3 _).2 (List.mem_flatMap.2 ⟨r, hr, by simp [yE]⟩), (y3 _).2 (List.mem_flatMap.2 ⟨r, hr, by simp [yE]⟩)⟩
 have hbx : ∀ x ∈ xs, Bd x := fun x hx => by
  obtain ⟨r, hr, hx⟩ := List.mem_flatMap.1 ((x3 x).1 hx)
  obtain ⟨f1, f2, f3, f4⟩ := hall r hr
  simp only [xE, List.mem_cons, List.not_mem_nil, or_false] at hx
  unfold Bd; omega
 have hbz : ∀ y ∈ zs, Bd y := fun y hy => by
  obtain ⟨r, hr, hy⟩ := List.mem_flatMap.1 ((z3 y).1 hy)
  obtain ⟨f1, f2, f3, f4⟩ := hall r hr
  simp only [yE, List.mem_cons, List.not_mem_nil, or_false] at hy
  unfold Bd; omega
 have hby : ∀ y ∈ ys, Bd y := fun y hy => by
  obtain ⟨r, hr, hy⟩ := List.mem_flatMap.1 ((y3 y).1 hy)
  obtain ⟨f1, f2, f3, f4⟩ := hlm r hr
  simp only [yE, List.mem_cons, List.not_mem_nil, or_false] at hy
  unfold Bd; omega
 have hBl : l.length * (m.length + 1) ≤ 12 * 13 := Nat.mul_le_mul h1 (by omega)
 -- the rows
 have rows : ∀ y : Int, ∃ R : List Run, ((screen_runs l y).bind fun r_45 => (screen_runs m y).bind fun r_47 => (screen_less r_45 r_47).bind fun r_49 => some r_49) = some R ∧ CanonFrom (-200000) R ∧ (∀ x, mem x R ↔ hasP l x y ∧ ¬ hasP m x y) ∧ (∀ r ∈ R, Okr r) ∧ R.length ≤ l.length * (m.length + 1) := by
  intro y
  obtain ⟨A, a1, a2, a3, a4, a5⟩ := runs_ok l y hfl h1
  obtain ⟨C, b1, b2, b3, b4, b5⟩ := runs_ok m y hfm h2
  obtain ⟨R, r1, r2, r3, r4, r5⟩ := less_ok A C a2 b2 a5 (by omega) (by omega)
  exact ⟨R, by rw [a1, Option.bind_some, b1, Option.bind_some, r1, Option.bind_some], r2, fun x => by rw [r3, a3, b3], r5, Nat.le_trans r4 (Nat.mul_le_mul a4 (by omega))⟩
 obtain ⟨Rw, hRw⟩ := Classical.axiomOfChoice rows
 have hcong : ∀ y y' : Int, (∀ x, (hasP l x y ∧ ¬ hasP m x y) ↔ (hasP l x y' ∧ ¬ hasP m x y')) → Rw y = Rw y' := fun y y' h => by
  obtain ⟨_, c1, c2, _⟩ := hRw y
  obtain ⟨_, d1, d2, _⟩ := hRw y'
  exact canon_eq c1 d1 (fun x => by rw [c2, d2]; exact h x)
 have hnone : ∀ y : Int, (∀ x, ¬ hasP l x y) → Rw y = [] := fun y h => by
  obtain ⟨_, c1, c2, _⟩ := hRw y
  exact canon_nil c1 (fun x hx => h x ((c2 x).1 hx).1)
 have fits : ∀ es : List Int, es.Pairwise (· < ·) → (∀ y ∈ es, Bd y) → (∀ r ∈ l, r.Y ∈ es ∧ r.Y + r.H ∈ es) → (∀ r ∈ m, r.Y ∈ es ∧ r.Y + r.H ∈ es) → Fits Rw es := fun es p1 p2 p3 p4 => by
  refine ⟨p1, fun y hy => by have := p2 y hy; unfold Bd at this; omega, fun j a b ha hb y h1 h2 => hcong _ _ (fun x => ?_), fun y hy => hnone y ?_, fun y hy => hnone y ?_⟩
  ·exact and_congr (cell_y p1 p3 ha hb h1 h2 x) (not_congr (cell_y p1 p4 ha hb h1 h2 x))
  ·rintro x ⟨r, hr, _, k1, k2⟩
   have := hy _ (p3 r hr).2; omega
  ·rintro x ⟨r, hr, _, k1, k2⟩
   have := hy _ (p3 r hr).1; omega
 have fY : Fits Rw ys := fits ys y2 hby (fun r hr => inY r (by simp [hr])) (fun r hr => inY r (by simp [hr]))
 have fZ : Fits Rw zs := fits zs z2 hbz (fun r hr => inZ r (hl r hr)) (fun r hr => inZ r (hm r hr))
 -- the reference's rows
 have hrow : ∀ (j : Nat) (y y2 : Int) (s : List Rect × List Rect × Int), zs[j]? = some y → zs[j + 1]? = some y2 → s.2.2 = (j : Int) →
   (∃ i : Int, loopO (([] : List Rect), (0 : Int)) (fun t => rowL1 is xs zs s t) = some (.go ((Rw y).map (toRect y (y2 - y)), i))) ∧ (∀ r ∈ Rw y, Okr r) ∧ (Rw y).length ≤ l.length * (m.length + 1) := by
  intro j y y2 s hy hy2 hs
  obtain ⟨r1, r2, r3, r5, r4⟩ := hRw y
  have hjl := (List.getElem?_eq_some_iff.1 hy).1
  have hne : all ≠ [] := fun e => by
   rw [e] at z4; simp at z4; rw [z4] at hjl; simp at hjl
  have hxne : 0 < xs.length := by
   obtain ⟨r, hr⟩ := List.exists_mem_of_ne_nil _ hne
   exact List.length_pos_of_mem (inX r hr).1
  obtain ⟨Q, q1, q2, q3, q4, q5⟩ := row_loop (is := is) (xs := xs) (ys := zs) (s13 := s) (y := y) (y2 := y2) (j := j) (fun x => hasP l x y ∧ ¬ hasP m x y) (by omega) hs (by omega) hy hy2 (hbz _ (List.mem_of_getElem? hy)) (hbz _ (List.mem_of_getElem? hy2)) hbx x2
   (fun a _ => ⟨_, his a y, by rw [Bool.and_eq_true, hasB_iff, Bool.not_eq_true', ← Bool.not_eq_true, hasB_iff]⟩)
   (fun i a b ha hb x hx hxb => and_congr (cell_x x2 (fun r hr => inX r (hl r hr)) ha hb hx hxb y) (not_congr (cell_x x2 (fun r hr => inX r (hm r hr)) ha hb hx hxb y)))
   (xs.length - 1) 0 [] (by omega) trivial (fun r hr => by cases hr) (fun a ha => by
    refine ⟨?_, fun x => ?_⟩
    ·have := hbx a (List.mem_of_getElem? ha)
     unfold Bd at this; show (-200000 : Int) ≤ a; omega
    ·simp only [mem_nil, false_iff]
     rintro ⟨k1, ⟨a0, k2, k3⟩, _⟩
     rw [ha] at k2
     simp only [Option.some.injEq] at k2; omega) (Nat.le_refl _)
  have hlast : xs[0 + (xs.length - 1)]? = some (xs[xs.length - 1]'(by omega)) := by rw [Nat.zero_add]; exact List.getElem?_eq_getElem (by omega)
  have h0 : xs[0]? = some (xs[0]'hxne) := List.getElem?_eq_getElem hxne
  have e : Rw y = Q := canon_eq r2 q2 (fun x => by
   rw [r3, q4 _ hlast]
   constructor
   ·rintro ⟨k1, k2⟩
    obtain ⟨r, hr, ⟨j1, j2⟩, j3⟩ := id k1
    obtain ⟨i1, i2⟩ := inX r (hl r hr)
    refine ⟨?_, ⟨_, h0, ?_⟩, k1, k2⟩
    ·obtain ⟨p, hp, hpe⟩ := List.getElem_of_mem i2
     have : xs[p] ≤ xs[xs.length - 1]'(by omega) := by
      rcases Nat.eq_or_lt_of_le (show p ≤ xs.length - 1 by omega) with g | g
      ·subst g; exact Int.le_refl _
      ·exact Int.le_of_lt ((List.pairwise_iff_getElem.1 x2) p (xs.length - 1) hp (by omega) g)
     omega
    ·obtain ⟨p, hp, hpe⟩ := List.getElem_of_mem i1
     have : xs[0] ≤ xs[p] := by
      rcases Nat.eq_zero_or_pos p with g | g
      ·subst g; exact Int.le_refl _
      ·exact Int.le_of_lt ((List.pairwise_iff_getElem.1 x2) 0 p hxne hp g)
     omega
   ·rintro ⟨_, _, k⟩; exact k)
  rw [e]
  rw [e] at r4 r5
  exact ⟨⟨_, iter_loopO q1⟩, r5, r4⟩
 have hflat : flatB (bandsOf (pairsOf Rw zs) [] 0) = flatB (bandsOf (pairsOf Rw ys) [] 0) := by rw [fits_eq fZ fY 0 0]
 have hreg : screen_region l m = (forL ys (([] : List Rect), ([] : List Run), (0 : Int)) (fun k x s => screen_region_L3 ys l m k x s)).bind fun o_38 => thenC o_38 (fun s_32 => some s_32.1) (fun _ => none) := by
  unfold screen_region
  rw [concat_eq l m (by simp at hlen; omega), Option.bind_some, ep, Option.bind_some]
  simp only [thenC]
  obtain ⟨s, c, g1, g2, g3, g4, g5, g6⟩ := sortC ((l ++ m).flatMap yE) (by rw [flat2 (fun _ => rfl)]; omega)
  have hsm : sameL s ((l ++ m).flatMap yE) = some () := by unfold sameL; rw [if_pos g2]
  rw [g1, Option.bind_some, hsm, Option.bind_some, g3, Option.bind_some] at y1
  simp only [Option.some.injEq] at y1
  subst y1
  rw [g1, Option.bind_some, hsm, Option.bind_some, g3, Option.bind_some]
 have progr : screen_region l m = some (flatB (bandsOf (pairsOf Rw ys) [] 0)) ∧ (flatB (bandsOf (pairsOf Rw ys) [] 0)).length ≤ (2 * (l.length + m.length) + 1) * (l.length * (m.length + 1)) := by
  rw [hreg]
  cases hy0 : ys with
  | nil => exact ⟨by rw [forL_eq (by simp)]; rfl, Nat.zero_le _⟩
  | cons ya yl =>
   rw [← hy0]
   have hyl : 0 < ys.length := by rw [hy0]; simp
   obtain ⟨b2, f2, q1, q4⟩ := simP ys l m (l.length * (m.length + 1)) (by omega) (by omega) hby Rw (fun j y _ _ => by
    obtain ⟨r1, r2, r3, r5, r4⟩ := hRw y
    exact ⟨r1, r5, r4⟩) (ys.length - 1) 0 ya [] [] 0 (by omega) (by rw [hy0]; rfl) (by unfold Bd; omega) (fun r hr => by cases hr) (by simp) (by
    have : (ys.length - 1 + 2) * (l.length * (m.length + 1)) ≤ 100 * (12 * 13) := Nat.mul_le_mul (by omega) hBl
    simp; omega)
   rw [List.drop_zero] at q1 q4
   refine ⟨by rw [forL_eq (by omega), q1]; rfl, Nat.le_trans q4 ?_⟩
   refine Nat.mul_le_mul ?_ (Nat.le_refl _)
   simp only [List.length_append] at y4
   omega
 have refer : ((loopO (([] : List Rect), ([] : List Rect), (0 : Int)) (fun s => regL3 is zs xs s)).bind fun o_22 => thenC o_22 (fun s_13 => (appL s_13.1 s_13.2.1).bind fun a_114 => some a_114) (fun _ => none)) = some (flatB (bandsOf (pairsOf Rw zs) [] 0)) := by
  cases hy0 : zs with
  | nil =>
   have : loopO (([] : List Rect), ([] : List Rect), (0 : Int)) (fun s => regL3 is [] xs s) = some (.go ([], [], 0)) := iter_loopO (n := 1) rfl
   rw [this]
   simp only [Option.bind_some, thenC]
   rw [appL_ok _ _ (by simp)]; rfl
  | cons ya yl =>
   rw [← hy0]
   have hyl : 0 < zs.length := by rw [hy0]; simp
   obtain ⟨o2, last2, i2, q2, q3⟩ := simR is xs zs (l.length * (m.length + 1)) (by omega) (by omega) hbz Rw hrow (zs.length - 1) 0 ya [] [] 0 (by omega) (by rw [hy0]; rfl) (by unfold Bd; omega) (fun r hr => by cases hr) (by simp) (by
    have : (zs.length - 1 + 2) * (l.length * (m.length + 1)) ≤ 300 * (12 * 13) := Nat.mul_le_mul (by omega) hBl
    simp; omega)
   rw [List.drop_zero] at q3
   have := iter_loopO q2
   rw [show ((0 : Nat) : Int) = 0 from rfl, List.map_nil] at this
   rw [this]
   simp only [Option.bind_some, thenC]
   rw [q3, Option.bind_some, List.nil_append]
 obtain ⟨b1, b2⟩ := fits_bands fY 0
 refine ⟨xs, zs, flatB (bandsOf (pairsOf Rw ys) [] 0), c1, c2, progr.1, by rw [refer, hflat], progr.2, _, rfl, b1, fun y => ?_⟩
 obtain ⟨r1, r2, r3, r5, r4⟩ := hRw y
 rw [b2]
 exact ⟨r2, r5, r3⟩
end Go.Proofs.YtiekkaelpgahoaaGreat.Law

