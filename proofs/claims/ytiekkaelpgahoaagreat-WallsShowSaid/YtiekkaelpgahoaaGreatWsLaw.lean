import Derived.Test.YtiekkaelpgahoaaGreatWsViews
import Derived.Test.YtiekkaelpgahoaaGreatWtGen
import Derived.Test.YtiekkaelpgahoaaGreatLsGen
import Derived.Test.YtiekkaelpgahoaaGreatWtLit
/-
  THE PLAIN LAW: Views and Lost.
-/
open Go Go.Eng
namespace Go.Proofs.YtiekkaelpgahoaaGreat.Law
set_option linter.unusedVariables false
set_option linter.unusedSimpArgs false

def or0 (a b : Int) : Int := bif a == 0 then b else a
theorem errs2 (a b : Int) : law_errs [a, b] = some (or0 a b) := by
 unfold law_errs or0
 rw [forL_eq (by simp)]
 simp only [forR, law_errs_L1]
 cases ha : a == 0 with
 | false =>
  have : (a != 0) = true := by simp [bne, ha]
  simp only [this, cond_true, cond_false, Option.bind_some, thenC]
 | true =>
  have : (a != 0) = false := by simp [bne, ha]
  simp only [this, cond_true, cond_false, Option.bind_some]
  cases hb : b == 0 with
  | false =>
   have : (b != 0) = true := by simp [bne, hb]
   simp only [this, cond_true, Option.bind_some, thenC]
  | true =>
   have : (b != 0) = false := by simp [bne, hb]
   simp only [this, cond_false, Option.bind_some, thenC]
   rw [eq_of_beq hb]
theorem eqViews (l : List View) (hl : l.length ≤ 1000000) : slices_Equal_api_View_api_View l l = some true := by
 have key : ∀ (xs : List View) (k : Nat), l.drop k = xs → forR (fun k x s => slices_Equal_api_View_api_View_L1 l k x s) xs k () = some (.go ()) := by
  intro xs
  induction xs with
  | nil => exact fun _ _ => rfl
  | cons x xs ih =>
   intro k h
   have hg : idx l (k : Int) = some x := drop_idx h
   rw [forR]
   have : slices_Equal_api_View_api_View_L1 l k x () = some (.go ()) := by
    unfold slices_Equal_api_View_api_View_L1
    rw [hg]; simp
   rw [this, Option.bind_some]
   exact ih (k + 1) (drop_next h)
 unfold slices_Equal_api_View_api_View
 have : ((l.length : Int) != (l.length : Int)) = false := by simp
 rw [this, cond_false, forL_eq (by omega), key l 0 rfl]; rfl
theorem chk_all {w : Wall} : ∀ (l : List Screen) (last : ByteArray), chk (fun s : Screen => s.Key) (stpW w) last l = 0 → ∀ s ∈ l, Fine s.On
 | [], _, _, s, hs => by cases hs
 | x :: l, last, h, s, hs => by
  rw [chk] at h
  cases he : stpW w last x == 0 with
  | false => rw [he, cond_false] at h; rw [h] at he; cases he
  | true =>
   rw [he, cond_true] at h
   rcases List.mem_cons.1 hs with rfl | hs
   ·have he := eq_of_beq he
    unfold stpW at he
    cases hk : keyB s.Key with
    | false => rw [hk] at he; cases he
    | true =>
     cases hb : badR s.On with
     | true => rw [hk, hb] at he; cases he
     | false => exact badR_fine hb
   ·exact chk_all l _ h s hs
theorem map_loop {α β : Type} (f : α → β) {body : Nat → α → List β → Option (Ctl (List β) Unit)} : ∀ (l : List α) (k : Nat) (s : List β), (∀ k r s, s.length ≤ 1000000 → body k r s = some (.go (s ++ [f r]))) → s.length + l.length ≤ 1000000 → forR body l k s = some (.go (s ++ l.map f))
 | [], k, s, _, _ => by simp [forR]
 | r :: l, k, s, h, hl => by
  simp only [List.length_cons] at hl
  rw [forR, h k r s (by omega), Option.bind_some]
  simp only
  rw [map_loop f l (k + 1) _ h (by simp; omega)]
  simp
theorem flat_loop {α β : Type} (f : α → List β) (c : Nat) {body : Nat → α → List β → Option (Ctl (List β) Unit)} : ∀ (l : List α) (k : Nat) (s : List β), (∀ k r s, r ∈ l → s.length ≤ 100000 → body k r s = some (.go (s ++ f r))) → (∀ r ∈ l, (f r).length ≤ c) → s.length + c * l.length ≤ 100000 → forR body l k s = some (.go (s ++ l.flatMap f))
 | [], k, s, _, _, _ => by simp [forR]
 | r :: l, k, s, h, hc, hl => by
  rw [List.length_cons, Nat.mul_succ] at hl
  have := hc r (by simp)
  rw [forR, h k r s (by simp) (by omega), Option.bind_some]
  simp only
  rw [flat_loop f c l (k + 1) _ (fun k q s hq => h k q s (by simp [hq])) (fun q hq => hc q (by simp [hq])) (by rw [List.length_append]; omega)]
  simp
theorem scaled_loop (L : Layout) (w : Wall) (sc : Piece → Piece) : ∀ (l : List Piece) (k : Nat) (out : List Piece), (∀ p ∈ l, screen_scale p.On L.W L.H w.W w.H = some (sc p).On ∧ (sc p).Zone = p.Zone) → out.length + l.length ≤ 1000000 → forR (fun k x s => screen_scaled_L1 L w k x s) l k out = some (.go (out ++ (l.map sc).filter (fun p => decide (p.On.W > 0))))
 | [], k, out, _, _ => by simp [forR]
 | p :: l, k, out, h, hl => by
  simp only [List.length_cons] at hl
  obtain ⟨h1, h2⟩ := h p (by simp)
  have hB : screen_scaled_L1 L w k p out = some (.go (out ++ bif decide ((sc p).On.W > 0) then [sc p] else [])) := by
   unfold screen_scaled_L1
   rw [h1, Option.bind_some, ← h2]
   cases decide ((sc p).On.W > 0) with
   | true => rw [cond_true, appL_ok _ _ (by simp; omega)]; rfl
   | false => simp
  rw [forR, hB, Option.bind_some]
  simp only
  rw [scaled_loop L w sc l (k + 1) _ (fun q hq => h q (by simp [hq])) (by cases decide ((sc p).On.W > 0) <;> simp <;> omega), List.map_cons, List.filter_cons]
  cases decide ((sc p).On.W > 0) <;> simp
theorem sum_loop2 {α : Type} (f : α → Int) (C : Int) (hC : 0 ≤ C) {body : Nat → α → Int → Option (Ctl Int Unit)} : ∀ (l : List α) (k : Nat) (s : Int), (∀ k x s, x ∈ l → body k x s = some (.go (w64 (s + w64 (f x))))) → (∀ x ∈ l, -C ≤ f x ∧ f x ≤ C) → -1000000000000000000 ≤ s - C * l.length → s + C * l.length ≤ 1000000000000000000 → C ≤ 1000000000000000000 →
  forR body l k s = some (.go (s + sumL f l)) ∧ s - C * l.length ≤ s + sumL f l ∧ s + sumL f l ≤ s + C * l.length
 | [], k, s, _, _, _, _, _ => by simp [forR, sumL]
 | x :: l, k, s, h, hb, h1, h2, h3 => by
  have hx := hb x (by simp)
  have hl : 0 ≤ C * (l.length : Int) := Int.mul_nonneg hC (by omega)
  have hm : C * ((x :: l).length : Int) = C * (l.length : Int) + C := by rw [List.length_cons, Int.natCast_add, Int.mul_add]; simp
  rw [hm] at h1 h2 ⊢
  rw [forR, h k x s (by simp), Option.bind_some, w64_id (n := f x) (by omega), w64_id (n := s + f x) (by omega)]
  simp only
  obtain ⟨g1, g2, g3⟩ := sum_loop2 f C hC l (k + 1) (s + f x) (fun k y s hy => h k y s (by simp [hy])) (fun y hy => hb y (by simp [hy])) (by omega) (by omega) h3
  rw [g1, sumL, Int.add_assoc]
  exact ⟨rfl, by omega, by omega⟩
theorem sub_loop {α : Type} (f : α → Int) (C : Int) (hC : 0 ≤ C) {body : Nat → α → Int → Option (Ctl Int Unit)} : ∀ (l : List α) (k : Nat) (s : Int), (∀ k x s, body k x s = some (.go (w64 (s - w64 (f x))))) → (∀ x ∈ l, -C ≤ f x ∧ f x ≤ C) → -1000000000000000000 ≤ s - C * l.length → s + C * l.length ≤ 1000000000000000000 → C ≤ 1000000000000000000 →
  forR body l k s = some (.go (s - sumL f l))
 | [], k, s, _, _, _, _, _ => by simp [forR, sumL]
 | x :: l, k, s, h, hb, h1, h2, h3 => by
  have hx := hb x (by simp)
  have hl : 0 ≤ C * (l.length : Int) := Int.mul_nonneg hC (by omega)
  have hm : C * ((x :: l).length : Int) = C * (l.length : Int) + C := by rw [List.length_cons, Int.natCast_add, Int.mul_add]; simp
  rw [hm] at h1 h2
  rw [forR, h, Option.bind_some, w64_id (n := f x) (by omega), w64_id (n := s - f x) (by omega)]
  simp only
  rw [sub_loop f C hC l (k + 1) _ h (fun y hy => hb y (by simp [hy])) (by omega) (by omega) h3, sumL]
  congr 2; omega
theorem mul_bound {a b c d : Int} (h1 : 0 ≤ a) (h2 : a ≤ c) (h3 : 0 ≤ b) (h4 : b ≤ d) : 0 ≤ a * b ∧ a * b ≤ c * d :=
 ⟨Int.mul_nonneg h1 h3, Int.le_trans (Int.mul_le_mul_of_nonneg_right h2 h3) (Int.mul_le_mul_of_nonneg_left h4 (by omega))⟩
theorem on_filter : ∀ l : List Piece, (l.filter (fun p => decide (p.On.W > 0))).map (·.On) = (l.map (·.On)).filter (fun r => decide (r.W > 0))
 | [] => rfl
 | p :: l => by
  rw [List.map_cons, List.filter_cons, List.filter_cons]
  cases h : decide (p.On.W > 0) <;> simp [on_filter l]
theorem lost_eq (SR SPR : List Rect) (hS1 : ∀ x y, indL SR x y ≤ 1) (hP1 : ∀ x y, indL SPR x y ≤ 1) (x y : Int) :
  P01 (hasP (SPR.filter (fun r => decide (r.W > 0))) x y ∧ ¬ hasP SR x y) = indL SPR x y - indL SR x y * indL SPR x y := by
 have e1 := indL_pos_only x y SPR
 have e2 : indL (SPR.filter (fun r => decide (r.W > 0))) x y = P01 (hasP (SPR.filter (fun r => decide (r.W > 0))) x y) := indL_P (by rw [e1]; exact hP1 x y)
 have e3 : indL SR x y = P01 (hasP SR x y) := indL_P (hS1 x y)
 rw [← e1, e2, e3]
 by_cases a : hasP (SPR.filter (fun r => decide (r.W > 0))) x y
 ·by_cases b : hasP SR x y
  ·rw [P01_t a, P01_t b, P01_f (fun h => h.2 b)]; rfl
  ·rw [P01_t a, P01_f b, P01_t ⟨a, b⟩]; rfl
 ·rw [P01_f a, P01_f (fun h => a h.1)]; simp
theorem show_ok (w : Wall) (L : Layout) (hwl : w.Screens.length ≤ 5) (hll : L.Zones.length ≤ 5) (w1 : screen_CheckWall w = some 0) (v1 : screen_CheckLayout L = some 0) (hwW : 1 ≤ w.W ∧ w.W ≤ 20000) (hwH : 1 ≤ w.H ∧ w.H ≤ 20000) (hLW : 1 ≤ L.W ∧ L.W ≤ 20000) (hLH : 1 ≤ L.H ∧ L.H ≤ 20000)
  (hs : ∀ s ∈ w.Screens, Fine s.On) (hpw : pairsO w = some 0) (hz : ∀ z ∈ L.Zones, Fine z.On ∧ insB z.On L.W L.H = true ∧ keyB z.Key = true) (hp : L.Zones.Pairwise (fun a b => lt a.Key b.Key)) :
  ∃ (V : List View) (n : Int), screen_Views w L = some (V, 0) ∧ screen_Lost w L = some (n, 0) ∧ ref_ViewsOf w L = some V ∧ ref_LostOf w L = some n ∧ V.length ≤ 1000000 := by
 obtain ⟨Rf, r1, r2, r3, r4⟩ := seenAll L (fun z h => ⟨(hz z h).1, (hz z h).2.2⟩) hp hll
 have hIs : ∀ (k : Nat) (z : Zone), L.Zones[k]? = some z → IsSeen L.Zones Rf k z := fun k z h => (r1 k z h).2.2.2
 have hin : ∀ z ∈ L.Zones, 0 ≤ z.On.X ∧ z.On.X + z.On.W ≤ L.W ∧ 0 ≤ z.On.Y ∧ z.On.Y + z.On.H ≤ L.H := fun z h => by
  obtain ⟨⟨f1, f2, f3, f4⟩, i, _⟩ := hz z h
  unfold insB at i
  rw [w64_id (n := z.On.X + z.On.W) (by omega), w64_id (n := z.On.Y + z.On.H) (by omega)] at i
  simp only [Bool.and_eq_true, decide_eq_true_eq] at i
  omega
 obtain ⟨p1, p2, p3⟩ := pieces_all L.Zones Rf hIs L.W L.H hin
 generalize hP : piecesFrom Rf L.Zones 0 = P at *
 obtain ⟨sc, hsc⟩ : ∃ sc : Piece → Piece, ∀ p, sc p = ⟨p.Zone, scR L.W L.H w.W w.H p.On⟩ := ⟨_, fun _ => rfl⟩
 have hsOn : ∀ p, (sc p).On = scR L.W L.H w.W w.H p.On := fun p => by rw [hsc]
 have hsZ : ∀ p, (sc p).Zone = p.Zone := fun p => by rw [hsc]
 have hpin : ∀ p ∈ P, Fine p.On ∧ 0 ≤ p.On.X ∧ p.On.X + p.On.W ≤ L.W ∧ 0 ≤ p.On.Y ∧ p.On.Y + p.On.H ≤ L.H := fun p h => p2 _ (List.mem_map.2 ⟨p, h, rfl⟩)
 have hse : ∀ p ∈ P, screen_scale p.On L.W L.H w.W w.H = some (sc p).On := fun p h => by
  obtain ⟨⟨f1, f2, f3, f4⟩, i⟩ := hpin p h
  rw [hsOn]
  exact scale_eq p.On _ _ _ _ (by omega) (by omega) hLW hLH hwW hwH
 have hsi : ∀ p ∈ P, 0 ≤ (sc p).On.X ∧ 0 ≤ (sc p).On.W ∧ (sc p).On.X + (sc p).On.W ≤ w.W ∧ 0 ≤ (sc p).On.Y ∧ 0 ≤ (sc p).On.H ∧ (sc p).On.Y + (sc p).On.H ≤ w.H ∧ ((sc p).On = ⟨0, 0, 0, 0⟩ ∨ (0 < (sc p).On.W ∧ 0 < (sc p).On.H)) := fun p h => by
  obtain ⟨⟨f1, f2, f3, f4⟩, i⟩ := hpin p h
  rw [hsOn]
  exact scR_in (by omega) (by omega) (by omega) (by omega) (by omega) (by omega)
 have hsb : ∀ p ∈ P, Bnd (sc p).On := fun p h => by
  have := hsi p h
  unfold Bnd; omega
 have hsb' : ∀ q ∈ P.map sc, Bnd q.On := fun q h => by
  obtain ⟨p, h1, rfl⟩ := List.mem_map.1 h
  exact hsb p h1
 have hsB : ∀ s ∈ w.Screens, Bnd s.On := fun s h => (hs s h).bnd
 -- the program's scaled pieces
 have hscal : screen_scaled w L = some ((P.map sc).filter (fun p => decide (p.On.W > 0)), 0) := by
  unfold screen_scaled
  rw [w1, Option.bind_some, v1]
  simp only [bne_self_eq_false, cond_false, Option.bind_some, r2]
  rw [forL_eq (by omega), scaled_loop L w sc P 0 [] (fun p h => ⟨hse p h, hsZ p⟩) (by simp; omega)]; rfl
 have hql : ((P.map sc).filter (fun p => decide (p.On.W > 0))).length ≤ 390 := Nat.le_trans (List.length_filter_le _ _) (by rw [List.length_map]; exact r4)
 have hfl : ∀ s ∈ w.Screens, ((P.map sc).flatMap (viewOf s)).length ≤ 390 := fun s _ => by
  have := flat_len (viewOf s) 1 (P.map sc) (fun p _ => viewOf_len s p)
  rw [List.length_map] at this; omega
 have hV1 : screen_Views w L = some (w.Screens.flatMap (fun s => (P.map sc).flatMap (viewOf s)), 0) := by
  unfold screen_Views
  rw [hscal, Option.bind_some]
  simp only [bne_self_eq_false, cond_false]
  rw [forL_eq (by omega), flat_loop (fun s => (P.map sc).flatMap (viewOf s)) 390 w.Screens 0 [] (fun k s out hm ho => by
   unfold screen_Views_L2
   simp only
   rw [forL_eq (by omega), views_prog s (hsB s hm) _ 0 out (fun q hq => hsb' q (List.mem_filter.1 hq).1) (by omega), views_pos s (P.map sc) (fun q hq => by
    obtain ⟨p, h1, rfl⟩ := List.mem_map.1 hq
    rcases (hsi p h1).2.2.2.2.2.2 with g | g
    ·exact .inl g
    ·exact .inr g.1)]; rfl) hfl (by simp; omega)]; rfl
 have hV2 : ref_ViewsOf w L = some (w.Screens.flatMap (fun s => (P.map sc).flatMap (viewOf s))) := by
  unfold ref_ViewsOf
  rw [forL_eq (by omega), flat_loop (fun s => (P.map sc).flatMap (viewOf s)) 390 w.Screens 0 [] (fun k s out hm ho => by
   unfold ref_ViewsOf_L2
   rw [r3, Option.bind_some, forL_eq (by omega), views_ref L w s (hsB s hm) sc P 0 out (fun p h => ⟨hse p h, hsZ p, hsb p h⟩) (by omega)]; rfl) hfl (by simp; omega)]; rfl
 have hVl : (w.Screens.flatMap (fun s => (P.map sc).flatMap (viewOf s))).length ≤ 390 * w.Screens.length := flat_len _ 390 _ hfl
 generalize hVV : w.Screens.flatMap (fun s => (P.map sc).flatMap (viewOf s)) = V at *
 -- the region
 obtain ⟨SR, hSR⟩ : ∃ SR, SR = w.Screens.map (·.On) := ⟨_, rfl⟩
 obtain ⟨SPR, hSPR⟩ : ∃ SPR, SPR = (P.map sc).map (·.On) := ⟨_, rfl⟩
 have hQR : ((P.map sc).filter (fun p => decide (p.On.W > 0))).map (·.On) = SPR.filter (fun r => decide (r.W > 0)) := by
  rw [hSPR]; exact on_filter _
 have hSPR2 : SPR = (P.map (·.On)).map (scR L.W L.H w.W w.H) := by
  rw [hSPR, List.map_map, List.map_map]
  exact List.map_congr_left (fun p _ => hsOn p)
 have hP1 : ∀ x y, indL SPR x y ≤ 1 := fun x y => by
  rw [hSPR2, indL_scale (by omega) (by omega) (by omega) (by omega)]; exact p1 _ _
 have hS1 : ∀ x y, indL SR x y ≤ 1 := fun x y => by
  rw [hSR]; exact indL_apart x y _ (screens_apart w hs (by omega) hpw)
 have hmQ : ∀ r ∈ SPR.filter (fun r => decide (r.W > 0)), Fine r := fun r h => by
  obtain ⟨h1, h2⟩ := List.mem_filter.1 h
  rw [hSPR, List.map_map] at h1
  obtain ⟨p, h3, rfl⟩ := List.mem_map.1 h1
  have := hsi p h3
  simp only [Function.comp, decide_eq_true_eq] at h2 ⊢
  rcases this.2.2.2.2.2.2 with g | g
  ·rw [g] at h2; simp at h2
  ·unfold Fine; omega
 have hSF : ∀ r ∈ SR, Fine r := fun r h => by
  rw [hSR] at h
  obtain ⟨s, h1, rfl⟩ := List.mem_map.1 h
  exact hs s h1
 obtain ⟨bs, b1, b2, b3, b4⟩ := region_prog (SPR.filter (fun r => decide (r.W > 0))) SR hmQ hSF (fun y => by
  unfold rowB
  rw [List.length_map, List.filter_filter, hSPR2]
  refine Nat.le_trans (filt_le (scR L.W L.H w.W w.H) _ (covers (back L.H w.H y)) _ (fun r _ h => ?_)) (Nat.le_trans (p3 (back L.H w.H y)) (by omega))
  simp only [Bool.and_eq_true, decide_eq_true_eq] at h
  exact scale_covers (by omega) (by omega) r y h.2 h.1) (by rw [hSR, List.length_map]; omega) (by rw [← hQR, List.length_map]; omega)
 obtain ⟨n, hn⟩ : ∃ n : Nat, n = 200000 := ⟨_, rfl⟩
 obtain ⟨g1, g2, g3⟩ := region_area hmQ b3 b4
 have hA := g3 n hn
 -- the sums
 have hArea : screen_area (flatB bs) = some (areaL (flatB bs)) := by
  unfold screen_area
  have hle : ((flatB bs).length : Int) ≤ 1000000 := by omega
  have hmu : (40000000000 : Int) * (flatB bs).length ≤ 40000000000 * 1000000 := Int.mul_le_mul_of_nonneg_left hle (by omega)
  have hmn : (0 : Int) ≤ 40000000000 * (flatB bs).length := Int.mul_nonneg (by omega) (by omega)
  have := (sum_loop2 (fun r : Rect => r.W * r.H) 40000000000 (by omega) (body := fun k x s => screen_area_L1 k x s) (flatB bs) 0 0 (fun k x s _ => rfl) (fun r h => by
   obtain ⟨f1, f2, f3, f4⟩ := g1 r h
   have := mul_bound (a := r.W) (b := r.H) (c := 200000) (d := 200000) (by omega) (by omega) (by omega) (by omega)
   omega) (by omega) (by omega) (by omega)).1
  rw [forL_eq (by omega), this, Int.zero_add]; rfl
 have hL1 : screen_Lost w L = some (areaL (flatB bs), 0) := by
  unfold screen_Lost
  rw [hscal, Option.bind_some]
  simp only [bne_self_eq_false, cond_false]
  have hlit : screen_lit w = some SR := by
   unfold screen_lit
   rw [forL_eq (by omega), map_loop (fun s : Screen => s.On) w.Screens 0 [] (fun k r s hs => by unfold screen_lit_L1; rw [appL_ok _ _ (by simp; omega)]; rfl) (by simp; omega), hSR]; rfl
  rw [forL_eq (by omega), map_loop (fun p : Piece => p.On) _ 0 [] (fun k r s hs => by unfold screen_Lost_L1; rw [appL_ok _ _ (by simp; omega)]; rfl) (by simp only [List.length_nil, Nat.zero_add]; omega)]
  simp only [List.nil_append, Option.bind_some, thenC]
  rw [hlit, hQR, Option.bind_some, b1, Option.bind_some, hArea]; rfl
 have hbp : ∀ p ∈ P, -400000000 ≤ (sc p).On.W * (sc p).On.H ∧ (sc p).On.W * (sc p).On.H ≤ 400000000 := fun p h => by
  have := hsi p h
  have := mul_bound (a := (sc p).On.W) (b := (sc p).On.H) (c := 20000) (d := 20000) (by omega) (by omega) (by omega) (by omega)
  omega
 have hbv : ∀ v ∈ V, -400000000 ≤ v.On.W * v.On.H ∧ v.On.W * v.On.H ≤ 400000000 := fun v h => by
  rw [← hVV] at h
  obtain ⟨s, h1, h2⟩ := List.mem_flatMap.1 h
  obtain ⟨q, h3, h4⟩ := List.mem_flatMap.1 h2
  obtain ⟨p, h5, rfl⟩ := List.mem_map.1 h3
  have hi := hsi p h5
  have hb := hsB s h1
  unfold viewOf meetR at h4
  unfold Bnd at hb
  cases hc : decide (min (s.On.X + s.On.W) ((sc p).On.X + (sc p).On.W) - max s.On.X (sc p).On.X ≤ 0) || decide (min (s.On.Y + s.On.H) ((sc p).On.Y + (sc p).On.H) - max s.On.Y (sc p).On.Y ≤ 0) with
  | true => rw [hc] at h4; cases h4
  | false =>
   rw [hc] at h4
   simp only [cond_false, cond_true, List.mem_singleton] at h4
   simp only [Bool.or_eq_false_iff, decide_eq_false_iff_not] at hc
   subst h4
   have := mul_bound (a := min (s.On.X + s.On.W) ((sc p).On.X + (sc p).On.W) - max s.On.X (sc p).On.X) (b := min (s.On.Y + s.On.H) ((sc p).On.Y + (sc p).On.H) - max s.On.Y (sc p).On.Y) (c := 20000) (d := 20000) (by omega) (by omega) (by omega) (by omega)
   simp only
   omega
 have hL2 : ref_LostOf w L = some (0 + sumL (fun p => (sc p).On.W * (sc p).On.H) P - sumL (fun v : View => v.On.W * v.On.H) V) := by
  unfold ref_LostOf
  have hm1 : (400000000 : Int) * P.length ≤ 400000000 * 390 := Int.mul_le_mul_of_nonneg_left (by omega) (by omega)
  have hm1n : (0 : Int) ≤ 400000000 * P.length := Int.mul_nonneg (by omega) (by omega)
  have hm2 : (400000000 : Int) * V.length ≤ 400000000 * 1950 := Int.mul_le_mul_of_nonneg_left (by omega) (by omega)
  have hm2n : (0 : Int) ≤ 400000000 * V.length := Int.mul_nonneg (by omega) (by omega)
  obtain ⟨s1, s2, s3⟩ := sum_loop2 (fun p => (sc p).On.W * (sc p).On.H) 400000000 (by omega) (body := fun k x s => ref_LostOf_L1 L w k x s) P 0 0 (fun k p s h => by
   unfold ref_LostOf_L1
   have h1 : ref_scaled p.On L.W L.H w.W w.H = some (sc p).On := hse p h
   rw [h1]; rfl) hbp (by omega) (by omega) (by omega)
  rw [r3, Option.bind_some, forL_eq (by omega), s1]
  simp only [Option.bind_some, thenC]
  rw [hV2, Option.bind_some, forL_eq (by omega), sub_loop (fun v : View => v.On.W * v.On.H) 400000000 (by omega) (body := fun k x s => ref_LostOf_L2 k x s) V 0 _ (fun k x s => rfl) hbv (by omega) (by omega) (by omega)]; rfl
 have hS2 : sumL (fun p => (sc p).On.W * (sc p).On.H) P = SS (-100000) n (fun x y => indL SPR x y) := by
  rw [sumL_congr (g := fun p => SS (-100000) n (ind (sc p).On)) (fun p h => (area_bnd (hsb p h) n hn).symm), SS_sumL]
  refine SS_congr (fun x y => ?_)
  rw [hSPR]; unfold indL
  rw [sumL_map, sumL_map]
 have hS3 : sumL (fun v : View => v.On.W * v.On.H) V = SS (-100000) n (fun x y => indL SR x y * indL SPR x y) := by
  rw [← hVV, sumL_flat]
  rw [sumL_congr (g := fun s : Screen => SS (-100000) n (fun x y => ind s.On x y * indL SPR x y)) (fun s h => by
   rw [sumL_flat, sumL_congr (g := fun q : Piece => SS (-100000) n (fun x y => ind s.On x y * ind q.On x y)) (fun q hq => by
    rw [view_area, ← area_bnd (meetR_bnd (hsB s h) (hsb' q hq)) n hn]
    exact SS_congr (fun x y => meetR_ind _ _ x y)), SS_sumL]
   refine SS_congr (fun x y => ?_)
   rw [sumL_mul, hSPR]; unfold indL
   simp only [sumL_map]), SS_sumL]
  refine SS_congr (fun x y => ?_)
  rw [sumL_congr (g := fun s : Screen => indL SPR x y * ind s.On x y) (fun s _ => Int.mul_comm _ _), sumL_mul, hSR, Int.mul_comm]
  unfold indL
  rw [sumL_map]
 refine ⟨V, areaL (flatB bs), hV1, hL1, hV2, ?_, by omega⟩
 rw [hL2, hA, hS2, hS3, Int.zero_add, ← SS_sub]
 congr 1
 exact SS_congr (fun x y => (lost_eq SR SPR hS1 hP1 x y).symm)
theorem wallsShow (l : List Int) : law_WallsShow l = some true := by
 unfold law_WallsShow
 have h0 : Ok (⟨l, 0⟩ : Stream) 0 := ⟨Int.le_refl _, Int.le_refl _⟩
 obtain ⟨w, s1, a1, ⟨a2, a3⟩, a4, a5⟩ := wall_gen _ h0 (by decide)
 obtain ⟨L, s2, b1, ⟨b2, b3⟩, b4, b5⟩ := layout_gen s1 a5 (by decide)
 obtain ⟨e, w1, w2, w3⟩ := wall_ok w a2 a3 (by omega)
 obtain ⟨f, v1, v2, v3⟩ := layout_ok L b2 b3 (by omega)
 by_cases he : e = 0
 ·by_cases hf : f = 0
  ·obtain ⟨hW, hH, hc, hpw⟩ := w3 he
   obtain ⟨lW, lH, lc⟩ := v3 hf
   obtain ⟨z1, z2⟩ := zones_ok _ _ lc
   obtain ⟨V, n, q1, q2, q3, q4, q5⟩ := show_ok w L a4 b4 (by rw [w1, he]) (by rw [v1, hf]) (outB_f hW) (outB_f hH) (outB_f lW) (outB_f lH) (chk_all _ _ hc) hpw (fun z hz => ⟨(z1 z hz).1, (z1 z hz).2.1, (z1 z hz).2.2.1⟩) z2
   have h00 : (or0 e f != 0) = false := by rw [he, hf]; rfl
   simp only [a1, b1, q1, q2, w2, v2, errs2, h00, cond_false, Option.bind_some, q3, q4, eqViews V q5, lit_ok, cond_true, beq_self_eq_true]
  ·have hs : screen_scaled w L = some ([], or0 e f) := by
    unfold screen_scaled
    have hfz : (f != 0) = true := by simpa using hf
    rw [w1, Option.bind_some, v1, Option.bind_some, he, hfz]; rfl
   have h00 : (or0 e f != 0) = true := by rw [he]; simpa [or0] using hf
   have q1 : screen_Views w L = some ([], or0 e f) := by
    unfold screen_Views
    rw [hs, Option.bind_some, h00]; rfl
   have q2 : screen_Lost w L = some (0, or0 e f) := by
    unfold screen_Lost
    rw [hs, Option.bind_some, h00]; rfl
   have hl0 : (((([] : List View).length : Nat) : Int) == 0) = true := rfl
   simp only [a1, b1, q1, q2, w2, v2, errs2, h00, hl0, cond_false, Option.bind_some, lit_ok, cond_true, beq_self_eq_true]
 ·have hez : (e != 0) = true := by simpa using he
  have hs : screen_scaled w L = some ([], or0 e f) := by
   unfold screen_scaled or0
   have : (e == 0) = false := by simpa using he
   rw [w1, Option.bind_some, hez, this]; rfl
  have h00 : (or0 e f != 0) = true := by
   unfold or0
   have : (e == 0) = false := by simpa using he
   rw [this]; exact hez
  have q1 : screen_Views w L = some ([], or0 e f) := by
   unfold screen_Views
   rw [hs, Option.bind_some, h00]; rfl
  have q2 : screen_Lost w L = some (0, or0 e f) := by
   unfold screen_Lost
   rw [hs, Option.bind_some, h00]; rfl
  have hl0 : (((([] : List View).length : Nat) : Int) == 0) = true := rfl
  simp only [a1, b1, q1, q2, w2, v2, errs2, h00, hl0, cond_false, Option.bind_some, lit_ok, cond_true, beq_self_eq_true]
end Go.Proofs.YtiekkaelpgahoaaGreat.Law

