import Derived.Test.YtiekkaelpgahoaaGreatWsGeo
import Derived.Test.YtiekkaelpgahoaaGreatLsSeen
import Derived.Test.YtiekkaelpgahoaaGreatRmScale
import Derived.Test.YtiekkaelpgahoaaGreatRmReg3
/-
  PLAIN LEMMAS: the pieces of a layout, scaled to a wall.
-/
open Go Go.Eng
namespace Go.Proofs.YtiekkaelpgahoaaGreat.Law
set_option linter.unusedVariables false
set_option linter.unusedSimpArgs false

theorem seen_one {zs : List Zone} {i k : Nat} {x y : Int} (hi : SeenP zs i x y) (hk : SeenP zs k x y) : i = k := by
 obtain ⟨⟨a, a1, a2⟩, a3⟩ := hi
 obtain ⟨⟨b, b1, b2⟩, b3⟩ := hk
 by_cases h : i = k
 ·exact h
 ·exfalso
  rcases cov_tot a1 b1 h with g | g
  ·exact b3 i (List.getElem?_eq_some_iff.1 a1).1 ⟨a, a1, a2⟩ g
  ·exact a3 k (List.getElem?_eq_some_iff.1 b1).1 ⟨b, b1, b2⟩ g
def IsSeen (zs : List Zone) (Rf : Nat → List Rect) (k : Nat) (z : Zone) : Prop :=
 ∃ bs : List Band, Rf k = flatB bs ∧ CanonB (-200000) bs ∧ (∀ y, CanonFrom (-200000) (rowAt bs y) ∧ (∀ r ∈ rowAt bs y, Okr r) ∧ ∀ x, mem x (rowAt bs y) ↔ SeenP zs k x y) ∧ ∃ above : List Rect, (∀ r ∈ above, Fine r) ∧ Fine z.On ∧ ∀ x y, SeenP zs k x y ↔ hasP [z.On] x y ∧ ¬ hasP above x y
theorem IsSeen.ind {zs : List Zone} {Rf : Nat → List Rect} {k : Nat} {z : Zone} (h : IsSeen zs Rf k z) (x y : Int) : indL (Rf k) x y = P01 (SeenP zs k x y) := by
 obtain ⟨bs, h1, h2, h3, above, h4, h5, h6⟩ := h
 have := (region_area (l := [z.On]) (m := above) (fun r hr => by rw [List.mem_singleton] at hr; subst hr; exact h5) h2 (fun y => ⟨(h3 y).1, (h3 y).2.1, fun x => by rw [(h3 y).2.2, h6]⟩)).2.1 x y
 unfold indL
 rw [h1, this]
 exact P01_congr (h6 x y).symm
theorem IsSeen.inn {zs : List Zone} {Rf : Nat → List Rect} {k : Nat} {z : Zone} (hz : zs[k]? = some z) (h : IsSeen zs Rf k z) {r : Rect} (hr : r ∈ Rf k) : Fine r ∧ z.On.X ≤ r.X ∧ r.X + r.W ≤ z.On.X + z.On.W ∧ z.On.Y ≤ r.Y ∧ r.Y + r.H ≤ z.On.Y + z.On.H := by
 obtain ⟨bs, h1, h2, h3, above, h4, h5, h6⟩ := h
 rw [h1] at hr
 have hf := (region_area (l := [z.On]) (m := above) (fun r hr => by rw [List.mem_singleton] at hr; subst hr; exact h5) h2 (fun y => ⟨(h3 y).1, (h3 y).2.1, fun x => by rw [(h3 y).2.2, h6]⟩)).1 r hr
 have key : ∀ x y, r.X ≤ x → x < r.X + r.W → r.Y ≤ y → y < r.Y + r.H → has1 x y z.On = true := fun x y a b c d => by
  obtain ⟨q, q1, q2, q3⟩ := flat_run h2 hr c d
  have hm : mem x (rowAt bs y) := ⟨q, q1, by omega, by omega⟩
  obtain ⟨⟨z', e1, e2⟩, _⟩ := ((h3 y).2.2 x).1 hm
  rw [hz] at e1
  simp only [Option.some.injEq] at e1
  subst e1; exact e2
 obtain ⟨f1, f2, f3, f4⟩ := id hf
 have k1 := key r.X r.Y (Int.le_refl _) (by omega) (Int.le_refl _) (by omega)
 have k2 := key (r.X + r.W - 1) (r.Y + r.H - 1) (by omega) (by omega) (by omega) (by omega)
 simp only [has1, Bool.and_eq_true, decide_eq_true_eq] at k1 k2
 exact ⟨hf, by omega, by omega, by omega, by omega⟩
theorem IsSeen.edge {zs : List Zone} {Rf : Nat → List Rect} {k : Nat} {z : Zone} (h : IsSeen zs Rf k z) {r : Rect} (hr : r ∈ Rf k) {y : Int} (h1 : r.Y ≤ y) (h2 : y < r.Y + r.H) : r.X ∈ zs.flatMap (fun z => [z.On.X, z.On.X + z.On.W]) := by
 obtain ⟨bs, g1, g2, g3, above, g4, g5, g6⟩ := h
 rw [g1] at hr
 obtain ⟨q, q1, q2, q3⟩ := flat_run g2 hr h1 h2
 obtain ⟨c1, c2, c3⟩ := g3 y
 have hq := c1.lo q q1
 have m1 : mem q.f_from (rowAt bs y) := ⟨q, q1, Int.le_refl _, hq.2⟩
 have m2 := canon_left c1 q q1
 rw [c3] at m1 m2
 rw [q2]
 generalize q.f_from = x at *
 refine Classical.byContradiction (fun hn => m2 ?_)
 have same : ∀ i, hasZ zs x y i ↔ hasZ zs (x - 1) y i := fun i => by
  unfold hasZ
  refine exists_congr (fun z' => and_congr_right (fun hz' => ?_))
  have hm := List.mem_of_getElem? hz'
  have n1 : x ≠ z'.On.X := fun e => hn (List.mem_flatMap.2 ⟨z', hm, by simp [e]⟩)
  have n2 : x ≠ z'.On.X + z'.On.W := fun e => hn (List.mem_flatMap.2 ⟨z', hm, by simp [e]⟩)
  simp only [has1, Bool.and_eq_true, decide_eq_true_eq]
  omega
 exact ⟨(same k).1 m1.1, fun i hi hh => m1.2 i hi ((same i).2 hh)⟩
section
variable (zs : List Zone) (Rf : Nat → List Rect) (hR : ∀ (k : Nat) (z : Zone), zs[k]? = some z → IsSeen zs Rf k z)
include hR
theorem pieces_ind (x y : Int) : ∀ (l : List Zone) (k : Nat), zs.drop k = l → indL ((piecesFrom Rf l k).map (·.On)) x y = P01 (∃ j, k ≤ j ∧ j < zs.length ∧ SeenP zs j x y)
 | [], k, h => by
  rw [P01_f]
  ·rfl
  ·rintro ⟨j, h1, h2, _⟩
   have := List.drop_eq_nil_iff.1 h
   omega
 | z :: l, k, h => by
  have hg := drop_get h
  have hlt := drop_lt h
  have e : ((piecesFrom Rf (z :: l) k).map (·.On)) = Rf k ++ (piecesFrom Rf l (k + 1)).map (·.On) := by
   rw [piecesFrom, List.map_append, List.map_map]
   congr 1
   exact (List.map_congr_left (fun r _ => rfl)).trans (List.map_id _)
  have ih := pieces_ind x y l (k + 1) (drop_next h)
  have h1 := (hR k z hg).ind x y
  unfold indL at *
  rw [e, sumL_app, h1, ih]
  by_cases hs : SeenP zs k x y
  ·rw [P01_t hs, P01_f, P01_t ⟨k, Nat.le_refl _, hlt, hs⟩]
   ·rfl
   ·rintro ⟨j, j1, j2, j3⟩
    have := seen_one hs j3
    omega
  ·rw [P01_f hs, Int.zero_add]
   refine P01_congr ⟨?_, ?_⟩
   ·rintro ⟨j, j1, j2, j3⟩; exact ⟨j, by omega, j2, j3⟩
   ·rintro ⟨j, j1, j2, j3⟩
    rcases Nat.eq_or_lt_of_le j1 with g | g
    ·subst g; exact absurd j3 hs
    ·exact ⟨j, g, j2, j3⟩
omit hR in
theorem pieces_mem : ∀ (l : List Zone) (k : Nat), zs.drop k = l → ∀ p ∈ piecesFrom Rf l k, ∃ (j : Nat) (z : Zone), zs[j]? = some z ∧ p.On ∈ Rf j
 | [], _, _, p, hp => by cases hp
 | z :: l, k, h, p, hp => by
  rw [piecesFrom] at hp
  rcases List.mem_append.1 hp with hp | hp
  ·obtain ⟨r, hr, rfl⟩ := List.mem_map.1 hp
   exact ⟨k, z, drop_get h, hr⟩
  ·exact pieces_mem l (k + 1) (drop_next h) p hp
theorem pieces_all (W H : Int) (hi : ∀ z ∈ zs, 0 ≤ z.On.X ∧ z.On.X + z.On.W ≤ W ∧ 0 ≤ z.On.Y ∧ z.On.Y + z.On.H ≤ H) :
  (∀ x y, indL ((piecesFrom Rf zs 0).map (·.On)) x y ≤ 1) ∧ (∀ r ∈ (piecesFrom Rf zs 0).map (·.On), Fine r ∧ 0 ≤ r.X ∧ r.X + r.W ≤ W ∧ 0 ≤ r.Y ∧ r.Y + r.H ≤ H) ∧ ∀ y, (((piecesFrom Rf zs 0).map (·.On)).filter (covers y)).length ≤ 2 * zs.length := by
 have a1 : ∀ x y, indL ((piecesFrom Rf zs 0).map (·.On)) x y ≤ 1 := fun x y => by
  rw [pieces_ind zs Rf hR x y zs 0 rfl]
  unfold P01
  split <;> omega
 have a2 : ∀ r ∈ (piecesFrom Rf zs 0).map (·.On), ∃ (j : Nat) (z : Zone), zs[j]? = some z ∧ r ∈ Rf j := fun r hr => by
  obtain ⟨p, hp, rfl⟩ := List.mem_map.1 hr
  exact pieces_mem zs Rf zs 0 rfl p hp
 have a3 : ∀ r ∈ (piecesFrom Rf zs 0).map (·.On), Fine r ∧ 0 ≤ r.X ∧ r.X + r.W ≤ W ∧ 0 ≤ r.Y ∧ r.Y + r.H ≤ H := fun r hr => by
  obtain ⟨j, z, b1, b2⟩ := a2 r hr
  obtain ⟨c1, c2, c3, c4, c5⟩ := (hR j z b1).inn b1 b2
  have := hi z (List.mem_of_getElem? b1)
  exact ⟨c1, by omega, by omega, by omega, by omega⟩
 refine ⟨a1, a3, fun y => ?_⟩
 have hn := row_nodup y _ (fun x => a1 x y) (fun r hr => by
  obtain ⟨f1, f2, f3, f4⟩ := (a3 r hr).1
  exact f3.1)
 have := nodup_len _ (zs.flatMap (fun z => [z.On.X, z.On.X + z.On.W])) hn (fun x hx => by
  obtain ⟨r, hr, rfl⟩ := List.mem_map.1 hx
  obtain ⟨r1, r2⟩ := List.mem_filter.1 hr
  obtain ⟨j, z, b1, b2⟩ := a2 r r1
  simp only [covers, Bool.and_eq_true, decide_eq_true_eq] at r2
  exact (hR j z b1).edge b2 r2.1 r2.2)
 rw [List.length_map] at this
 have e : ∀ l : List Zone, (l.flatMap (fun z => [z.On.X, z.On.X + z.On.W])).length = 2 * l.length := fun l => by
  induction l with
  | nil => rfl
  | cons z l ih => rw [List.flatMap_cons, List.length_append, ih, List.length_cons]; simp; omega
 rw [e] at this
 exact this
end
theorem filt_le {α β : Type} (sc : α → β) (f : β → Bool) (g : α → Bool) : ∀ l : List α, (∀ r ∈ l, f (sc r) = true → g r = true) → ((l.map sc).filter f).length ≤ (l.filter g).length
 | [], _ => Nat.le_refl _
 | r :: l, h => by
  have ih := filt_le sc f g l (fun q hq => h q (by simp [hq]))
  rw [List.map_cons, List.filter_cons, List.filter_cons]
  cases hf : f (sc r) with
  | false =>
   simp only [Bool.false_eq_true, if_false]
   cases g r <;> simp <;> omega
  | true =>
   rw [h r (by simp) hf]; simp; omega
theorem scale_covers {w h W H : Int} (h0 : 0 < h) (H0 : 0 < H) (r : Rect) (y : Int) (hw : (scR w h W H r).W > 0) (hc : covers y (scR w h W H r) = true) : covers (back h H y) r = true := by
 have a3 := le_scale (t := r.Y) (y := y) h0 H0
 have a4 := le_scale (t := r.Y + r.H) (y := y) h0 H0
 unfold scR at hw hc
 generalize r.X * W / w = X0 at *
 generalize (r.X + r.W) * W / w = X1 at *
 generalize r.Y * H / h = Y0 at *
 generalize (r.Y + r.H) * H / h = Y1 at *
 cases hz : ((X1 - X0 == 0) || (Y1 - Y0 == 0)) with
 | true => rw [hz] at hw; simp only [cond_true] at hw; omega
 | false =>
  rw [hz] at hc
  simp only [cond_false, covers, Bool.and_eq_true, decide_eq_true_eq] at hc ⊢
  omega
theorem indL_scale {w h W H : Int} (w0 : 0 < w) (h0 : 0 < h) (W0 : 0 < W) (H0 : 0 < H) (x y : Int) (l : List Rect) : indL (l.map (scR w h W H)) x y = indL l (back w W x) (back h H y) := by
 unfold indL
 rw [sumL_map]
 exact sumL_congr (fun r _ => by unfold ind; rw [ind_scale w0 h0 W0 H0])
theorem indL_pos_only (x y : Int) : ∀ l : List Rect, indL (l.filter (fun r => decide (r.W > 0))) x y = indL l x y
 | [] => rfl
 | r :: l => by
  have ih := indL_pos_only x y l
  unfold indL at *
  rw [List.filter_cons]
  cases hc : decide (r.W > 0) with
  | true => simp only [if_true]; rw [sumL, sumL, ih]
  | false =>
   simp only [Bool.false_eq_true, if_false]
   rw [sumL, ih, ind_f, Int.zero_add]
   simp only [decide_eq_false_iff_not] at hc
   unfold has1
   cases h1 : decide (r.X ≤ x) with
   | false => rfl
   | true =>
    have : decide (x < r.X + r.W) = false := by
     simp only [decide_eq_true_eq] at h1
     rw [decide_eq_false_iff_not]; omega
    rw [this]; rfl
end Go.Proofs.YtiekkaelpgahoaaGreat.Law

