import Derived.Test.YtipcgokielgnhaaGreatDoorKpRegs
import Derived.Test.YtipcgokielgnhaaGreatDoorKpLit
/-
  THE PLAIN LAW: a region has just the pixels of its rectangles, is told the same in any order, and again, and areas add up.
-/
open Go Go.Eng
namespace Go.Proofs.YtipcgokielgnhaaGreatDoor.Law
set_option linter.unusedVariables false
set_option linter.unusedSimpArgs false

theorem pair_loop (R : List Rect) (e : Int) (hf : ∀ r ∈ R, Fine r) (hi : ∀ x y, indL R x y ≤ 1) (hl : R.length ≤ 1000) : ∀ (l : List Rect) (k : Nat) (s : Int), R.drop k = l → -1000000000000000000 ≤ s - 100000000000 * l.length → s + 100000000000 * l.length ≤ 1000000000000000000 →
  forR (fun k x s => keep_RegionsSame_L4 (R, e) k x s) l k s = some (.go (s + areaL l))
 | [], k, s, _, _, _ => by simp [forR, areaL, sumL]
 | x :: l, k, s, hd, h1, h2 => by
  have hg := drop_get hd
  have hk := drop_lt hd
  have hx := hf x (List.mem_of_getElem? hg)
  have hxb := id hx
  unfold Fine at hxb
  have p1 : 0 ≤ x.W * x.H := Int.mul_nonneg (by omega) (by omega)
  have p2 : x.W * x.H ≤ 200000 * 200000 := Int.mul_le_mul (by omega) (by omega) (by omega) (by decide)
  have hin : ∀ (t : List Rect) (j : Nat), (R.take k).drop j = t → forR (fun k x' s => keep_RegionsSame_L3 x k x' s) t j () = some (.go ()) := by
   intro t
   induction t with
   | nil => exact fun _ _ => rfl
   | cons q t ih =>
    intro j hj
    have hq := drop_get hj
    have hjk : j < k := by
     have := drop_lt hj
     rw [List.length_take] at this; omega
    rw [List.getElem?_take_of_lt hjk] at hq
    have hb : keep_RegionsSame_L3 x j q () = some (.go ()) := by
     unfold keep_RegionsSame_L3
     rw [Meet_fine hx (hf q (List.mem_of_getElem? hq)), no_meet hi hjk hq hg]
     rfl
    rw [forR, hb, Option.bind_some]
    exact ih (j + 1) (drop_next hj)
  have hsub : subL R 0 (k : Int) = some (R.take k) := by
   unfold subL
   rw [if_pos ⟨by omega, by omega, by simp, by simp; omega⟩]
   simp
  have hB : keep_RegionsSame_L4 (R, e) k x s = some (.go (s + x.W * x.H)) := by
   unfold keep_RegionsSame_L4
   simp only
   rw [hsub, Option.bind_some, forL_eq (by rw [List.length_take]; omega), hin (R.take k) 0 rfl, w64_id (n := x.W * x.H) (by omega), w64_id (n := s + x.W * x.H) (by simp only [List.length_cons] at h1 h2; omega)]
   rfl
  rw [forR, hB, Option.bind_some]
  simp only
  rw [pair_loop R e hf hi hl l (k + 1) _ (drop_next hd) (by simp only [List.length_cons] at h1 h2; omega) (by simp only [List.length_cons] at h1 h2; omega)]
  unfold areaL
  rw [sumL, Int.add_assoc]
theorem regionsSame (l : List Int) : keep_RegionsSame l = some true := by
 unfold keep_RegionsSame
 have h0 : Ok (⟨l, 0⟩ : Stream) 0 := ⟨Int.le_refl _, Int.le_refl _⟩
 obtain ⟨n, s1, a1, a2, a3, a4⟩ := range_ok _ 0 5 h0 (by decide) (by decide) (by decide) (by decide)
 obtain ⟨a, s2, b1, b2, b3, b4⟩ := rects_gen (body := fun k x s => keep_RegionsSame_L1 k x s) (fun _ _ _ => rfl) n s1 a4 (by omega) (by omega)
 obtain ⟨m, s3, c1, c2, c3, c4⟩ := range_ok s2 0 3 b4 (by omega) (by decide) (by decide) (by decide)
 obtain ⟨b, s4, d1, d2, d3, d4⟩ := rects_gen (body := fun k x s => keep_RegionsSame_L2 k x s) (fun _ _ _ => rfl) m s3 c4 (by omega) (by omega)
 obtain ⟨N, hN⟩ : ∃ N : Nat, N = 200000 := ⟨_, rfl⟩
 have ha : a.length ≤ 5 := by omega
 have hb : b.length ≤ 3 := by omega
 -- the region, in any order, and again
 obtain ⟨r, r1, r2, r3⟩ := Region_reg a 5 (by decide) b3 (fun y => Nat.le_trans (rowB_le _ _) ha) (by omega) (by omega)
 obtain ⟨rf, ri, ra⟩ := r3.facts b3
 have rl : r.length ≤ 55 := by
  have : (2 * a.length + 1) * 5 ≤ 11 * 5 := Nat.mul_le_mul (by omega) (Nat.le_refl _)
  omega
 obtain ⟨back, v1, v2⟩ := reverse_perm a (by omega)
 have bl : back.length = a.length := v2.length_eq
 obtain ⟨r', q1, _, q3⟩ := Region_reg back 5 (by decide) (fun x hx => b3 x (v2.mem_iff.1 hx)) (fun y => Nat.le_trans (rowB_le _ _) (by omega)) (by omega) (by omega)
 obtain rfl : r' = r := q3.uniq r3 (fun x y => by rw [hasP_perm v2])
 obtain ⟨r'', t1, _, t3⟩ := Region_reg r' 5 (by decide) rf (fun y => Nat.le_trans (r3.row b3 y) (by simpa using ha)) (by omega) (by omega)
 obtain rfl : r'' = r' := t3.uniq r3 (fun x y => by
  rw [r3.has b3]
  exact ⟨fun h => h.1, fun h => ⟨h, not_nil⟩⟩)
 -- without
 have hwb : (2 * (a.length + b.length) + 1) * (5 * (3 + 1)) ≤ 17 * 20 := Nat.mul_le_mul (by omega) (by omega)
 obtain ⟨w, w1, w2, w3⟩ := Without_reg a b 5 3 (by decide) (by decide) b3 d3 (fun y => Nat.le_trans (rowB_le _ _) ha) hb (by omega) (by omega)
 obtain ⟨wf, wi, wa⟩ := w3.facts b3
 -- areas
 have A1 := Area_reg a 5 (by decide) b3 (fun y => Nat.le_trans (rowB_le _ _) ha) (by omega) N hN
 have A2 := Area_reg w 8 (by decide) wf (fun y => Nat.le_trans (w3.row b3 y) (by omega)) (by omega) N hN
 have hab : ∀ x ∈ a ++ b, Fine x := fun x hx => by
  rcases List.mem_append.1 hx with hx | hx
  ·exact b3 x hx
  ·exact d3 x hx
 have A3 := Area_reg (a ++ b) 8 (by decide) hab (fun y => Nat.le_trans (rowB_le _ _) (by simp; omega)) (by simp; omega) N hN
 have A4 := Area_reg b 3 (by decide) d3 (fun y => Nat.le_trans (rowB_le _ _) hb) (by omega) N hN
 have hadd : SS (-100000) N (fun x y => P01 (hasP w x y)) = SS (-100000) N (fun x y => P01 (hasP (a ++ b) x y)) - SS (-100000) N (fun x y => P01 (hasP b x y)) := by
  rw [← SS_sub]
  refine SS_congr (fun x y => ?_)
  have e : hasP (a ++ b) x y ↔ hasP a x y ∨ hasP b x y := by
   unfold hasP
   constructor
   ·rintro ⟨q, hq, k⟩
    rcases List.mem_append.1 hq with hq | hq
    ·exact .inl ⟨q, hq, k⟩
    ·exact .inr ⟨q, hq, k⟩
   ·rintro (⟨q, hq, k⟩ | ⟨q, hq, k⟩)
    ·exact ⟨q, List.mem_append.2 (.inl hq), k⟩
    ·exact ⟨q, List.mem_append.2 (.inr hq), k⟩
  rw [P01_congr (w3.has b3 x y), P01_congr e]
  by_cases k1 : hasP a x y <;> by_cases k2 : hasP b x y
  ·rw [P01_f (fun h => h.2 k2), P01_t (.inl k1), P01_t k2]; rfl
  ·rw [P01_t ⟨k1, k2⟩, P01_t (.inl k1), P01_f k2]; rfl
  ·rw [P01_f (fun h => k1 h.1), P01_t (.inr k2), P01_t k2]; rfl
  ·rw [P01_f (fun h => k1 h.1), P01_f (fun h => h.elim k1 k2), P01_f k2]; rfl
 have B3 := SS_bnd (f := fun x y => P01 (hasP (a ++ b) x y)) (lo := -100000) (fun x y => P01_bnd _) N hN
 have B4 := SS_bnd (f := fun x y => P01 (hasP b x y)) (lo := -100000) (fun x y => P01_bnd _) N hN
 have hclone : slices_Clone_api_Rect_api_Rect a = some a := by
  unfold slices_Clone_api_Rect_api_Rect
  rw [appL_ok _ _ (by simp; omega)]; rfl
 have hsame : sameL back a = some () := by unfold sameL; rw [if_pos bl]
 have herr : keep_errs [0, 0, 0, 0, 0, 0, 0, 0] = some 0 := rfl
 have hsum := pair_loop r'' 0 rf (fun x y => by rw [ri]; exact P01_le _) (by omega) r'' 0 0 rfl (by omega) (by omega)
 have hn : areaL r'' = SS (-100000) N (fun x y => P01 (hasP a x y)) := by
  rw [ra N hN]
  exact SS_congr (fun x y => P01_congr ⟨fun h => h.1, fun h => ⟨h, not_nil⟩⟩)
 -- the spots
 have hspot : ∀ (xs : List Nat) (k : Nat) (s : List Int × Int) (c : Int), Ok ⟨s.1, s.2⟩ c → c + 2 * xs.length ≤ 900000 → ∃ s', forR (fun k x s => keep_RegionsSame_L5 (r'', 0) (a, s2.L, s2.f_at) (w, 0) (b, s4.L, s4.f_at) k x s) xs k s = some (.go s') := by
  intro xs
  induction xs with
  | nil => exact fun k s c _ _ => ⟨s, rfl⟩
  | cons z xs ih =>
   intro k s c hs hc
   simp only [List.length_cons] at hc
   obtain ⟨x, t1', e1, e2, e3, e4⟩ := range_ok _ (-3) 14 hs (by omega) (by decide) (by decide) (by decide)
   obtain ⟨y, t2', f1, f2, f3, f4⟩ := range_ok t1' (-3) 14 e4 (by omega) (by decide) (by decide) (by decide)
   have g1 : hasB r'' x y = hasB a x y := by
    rw [Bool.eq_iff_iff, hasB_iff, hasB_iff, r3.has b3]
    exact ⟨fun h => h.1, fun h => ⟨h, not_nil⟩⟩
   have g2 : hasB w x y = (hasB a x y && !hasB b x y) := by
    rw [Bool.eq_iff_iff, Bool.and_eq_true, hasB_iff, hasB_iff, Bool.not_eq_true', ← Bool.not_eq_true, hasB_iff, w3.has b3]
   have hB : keep_RegionsSame_L5 (r'', 0) (a, s2.L, s2.f_at) (w, 0) (b, s4.L, s4.f_at) k z s = some (.go (t2'.L, t2'.f_at)) := by
    unfold keep_RegionsSame_L5
    simp only [e1, f1, Option.bind_some, one_K rf (show r''.length ≤ 1000000 by omega), one_K b3 (show a.length ≤ 1000000 by omega), one_K wf (show w.length ≤ 1000000 by omega), one_K d3 (show b.length ≤ 1000000 by omega), g1, g2]
    cases hasB a x y <;> cases hasB b x y <;> rfl
   rw [forR, hB, Option.bind_some]
   exact ih (k + 1) _ _ f4 (by omega)
 obtain ⟨s', hs'⟩ := hspot (List.range (5 : Int).toNat) 0 (s4.L, s4.f_at) _ d4 (by simp; omega)
 simp only [a1, b1, Option.bind_some, thenC, c1, d1, r1, hclone, v1, hsame, q1, t1, w1, A1, A2, concat_eq a b (by omega), A3, A4, herr, bne_self_eq_false, cond_false, eqRects r'' (by omega), Bool.not_true]
 rw [hadd, w64_id (by omega), bne_self_eq_false, cond_false, forL_eq (by omega), hsum]
 simp only [Option.bind_some, thenC]
 rw [forL_eq (by simp), hs', Int.zero_add, hn]
 simp only [Option.bind_some, thenC, beq_self_eq_true, cond_true, ready_ok]
end Go.Proofs.YtipcgokielgnhaaGreatDoor.Law

