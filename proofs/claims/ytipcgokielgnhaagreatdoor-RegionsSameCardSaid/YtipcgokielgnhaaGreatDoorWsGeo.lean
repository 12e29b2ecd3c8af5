import Derived.Test.YtipcgokielgnhaaGreatDoorRmArea
/-
  PLAIN LEMMAS: rectangles without common pixels; how many of them are in a row.
-/
open Go Go.Eng
namespace Go.Proofs.YtipcgokielgnhaaGreatDoor.Law
set_option linter.unusedVariables false
set_option linter.unusedSimpArgs false

theorem nodup_len {α : Type} [BEq α] [LawfulBEq α] : ∀ (l m : List α), l.Nodup → (∀ x ∈ l, x ∈ m) → l.length ≤ m.length
 | [], _, _, _ => Nat.zero_le _
 | x :: l, m, hd, hs => by
  obtain ⟨h1, h2⟩ := List.nodup_cons.1 hd
  have hx := hs x (by simp)
  have := nodup_len l (m.erase x) h2 (fun y hy => (List.mem_erase_of_ne (fun e => h1 (by rw [← e]; exact hy))).2 (hs y (by simp [hy])))
  have h3 := List.length_erase_of_mem hx
  have h4 := List.length_pos_of_mem hx
  simp only [List.length_cons]; omega
theorem ind_01 (r : Rect) (x y : Int) : ind r x y = 0 ∨ ind r x y = 1 := by
 unfold ind b01
 cases has1 x y r
 ·exact .inl rfl
 ·exact .inr rfl
theorem ind_t {r : Rect} {x y : Int} (h : has1 x y r = true) : ind r x y = 1 := by unfold ind; rw [h]; rfl
theorem ind_f {r : Rect} {x y : Int} (h : has1 x y r = false) : ind r x y = 0 := by unfold ind; rw [h]; rfl
def indL (l : List Rect) (x y : Int) : Int := sumL (fun r => ind r x y) l
theorem indL_nonneg (x y : Int) : ∀ l : List Rect, 0 ≤ indL l x y
 | [] => Int.le_refl _
 | r :: l => by
  have := indL_nonneg x y l
  unfold indL at *
  rw [sumL]
  rcases ind_01 r x y with h | h <;> omega
theorem hasP_iff (l : List Rect) (x y : Int) : hasP l x y ↔ ∃ r ∈ l, has1 x y r = true := by
 rw [← hasB_iff, hasB, List.any_eq_true]
theorem indL_pos {x y : Int} : ∀ {l : List Rect}, hasP l x y → 1 ≤ indL l x y
 | [], h => by rw [hasP_iff] at h; obtain ⟨r, hr, _⟩ := h; cases hr
 | r :: l, h => by
  have h0 := indL_nonneg x y l
  unfold indL at *
  rw [sumL]
  rw [hasP_iff] at h
  obtain ⟨q, hq, hh⟩ := h
  rcases List.mem_cons.1 hq with rfl | hq
  ·rw [ind_t hh]; omega
  ·have := indL_pos (l := l) ((hasP_iff _ _ _).2 ⟨q, hq, hh⟩)
   unfold indL at this
   rcases ind_01 r x y with h | h <;> omega
theorem indL_zero {x y : Int} : ∀ {l : List Rect}, ¬ hasP l x y → indL l x y = 0
 | [], _ => rfl
 | r :: l, h => by
  unfold indL
  rw [sumL]
  have h1 : has1 x y r = false := by
   cases hh : has1 x y r with
   | false => rfl
   | true => exact absurd ((hasP_iff _ _ _).2 ⟨r, by simp, hh⟩) h
  have h2 := indL_zero (l := l) (fun k => h (by
   obtain ⟨q, hq, hh⟩ := (hasP_iff _ _ _).1 k
   exact (hasP_iff _ _ _).2 ⟨q, by simp [hq], hh⟩))
  unfold indL at h2
  rw [ind_f h1, h2]; rfl
theorem row_nodup (y : Int) : ∀ l : List Rect, (∀ x, indL l x y ≤ 1) → (∀ r ∈ l, 1 ≤ r.W) → ((l.filter (covers y)).map (·.X)).Nodup
 | [], _, _ => List.nodup_nil
 | r :: l, h, hw => by
  have h' : ∀ x, indL l x y ≤ 1 := fun x => by
   have := h x
   unfold indL at *
   rw [sumL] at this
   rcases ind_01 r x y with k | k <;> omega
  have ih := row_nodup y l h' (fun q hq => hw q (by simp [hq]))
  rw [List.filter_cons]
  cases hc : covers y r with
  | false => exact ih
  | true =>
   simp only [if_true, List.map_cons]
   refine List.nodup_cons.2 ⟨fun hm => ?_, ih⟩
   obtain ⟨q, hq, he⟩ := List.mem_map.1 hm
   obtain ⟨q1, q2⟩ := List.mem_filter.1 hq
   have hwr := hw r (by simp)
   have hwq := hw q (by simp [q1])
   have e1 : has1 r.X y r = true := by
    unfold has1; unfold covers at hc
    rw [hc, decide_eq_true (Int.le_refl _), decide_eq_true (show r.X < r.X + r.W by omega)]; rfl
   have e2 : has1 r.X y q = true := by
    unfold has1; unfold covers at q2
    rw [q2, ← he, decide_eq_true (Int.le_refl _), decide_eq_true (show q.X < q.X + q.W by omega)]; rfl
   have h1 := h r.X
   have h2 := indL_pos (l := l) ((hasP_iff _ _ _).2 ⟨q, q1, e2⟩)
   unfold indL at h1 h2
   rw [sumL, ind_t e1] at h1
   omega
theorem band_rows : ∀ (bs : List Band) (lo : Int), CanonB lo bs → ∀ b ∈ bs, (∀ y, b.a ≤ y → y < b.b → rowAt bs y = b.row) ∧ b.a < b.b ∧ b.row ≠ []
 | [], _, _, b, hb => by cases hb
 | p :: bs, lo, ⟨h1, h2, h3, h4, h5⟩, b, hb => by
  rcases List.mem_cons.1 hb with rfl | hb
  ·exact ⟨fun y k1 k2 => rowAt_in k1 k2, h2, h3⟩
  ·obtain ⟨i1, i2, i3⟩ := band_rows bs _ h5 b hb
   refine ⟨fun y k1 k2 => ?_, i2, i3⟩
   have hge : p.b ≤ y := by
    rcases Int.lt_or_le y p.b with k | k
    ·have e := i1 y k1 k2
     rw [rowAt_low h5 k] at e
     exact absurd e.symm i3
    ·exact k
   rw [rowAt_out (.inr hge)]; exact i1 y k1 k2
theorem flat_run {bs : List Band} {lo : Int} (h : CanonB lo bs) {r : Rect} (hr : r ∈ flatB bs) {y : Int} (h1 : r.Y ≤ y) (h2 : y < r.Y + r.H) : ∃ q ∈ rowAt bs y, r.X = q.f_from ∧ r.X + r.W = q.f_to := by
 obtain ⟨b, hb, hr⟩ := List.mem_flatMap.1 hr
 obtain ⟨q, hq, rfl⟩ := List.mem_map.1 hr
 obtain ⟨i1, i2, i3⟩ := band_rows bs lo h b hb
 have e : b.a + (b.b - b.a) = b.b := by omega
 refine ⟨q, ?_, rfl, by show q.f_from + (q.f_to - q.f_from) = q.f_to; omega⟩
 rw [i1 y h1 (by have : y < b.a + (b.b - b.a) := h2; omega)]; exact hq
theorem canon_left : ∀ {L : List Run} {lo : Int}, CanonFrom lo L → ∀ q ∈ L, ¬ mem (q.f_from - 1) L
 | [], _, _, q, hq => by cases hq
 | r :: L, lo, ⟨h1, h2, h3⟩, q, hq => by
  rw [mem_cons]
  rcases List.mem_cons.1 hq with rfl | hq
  ·rintro (k | k)
   ·omega
   ·have := h3.gt k; omega
  ·have h4 := h3.lo q hq
   rintro (k | k)
   ·omega
   ·exact canon_left h3 q hq k
def meetR (a b : Rect) : Rect × Bool :=
 bif decide (min (a.X + a.W) (b.X + b.W) - max a.X b.X ≤ 0) || decide (min (a.Y + a.H) (b.Y + b.H) - max a.Y b.Y ≤ 0) then (⟨0, 0, 0, 0⟩, false)
 else (⟨max a.X b.X, max a.Y b.Y, min (a.X + a.W) (b.X + b.W) - max a.X b.X, min (a.Y + a.H) (b.Y + b.H) - max a.Y b.Y⟩, true)
def Bnd (r : Rect) : Prop := (-100000 ≤ r.X ∧ r.X ≤ 100000) ∧ (-100000 ≤ r.Y ∧ r.Y ≤ 100000) ∧ (0 ≤ r.W ∧ r.X + r.W ≤ 100000) ∧ 0 ≤ r.H ∧ r.Y + r.H ≤ 100000
theorem minI_eq (a b : Int) : minI a b = min a b := by unfold minI; split <;> omega
theorem Fine.bnd {r : Rect} (h : Fine r) : Bnd r := by unfold Fine at h; unfold Bnd; omega
theorem meet_eq {a b : Rect} (ha : Bnd a) (hb : Bnd b) : screen_meet a b = some (meetR a b) := by
 unfold Bnd at *
 unfold screen_meet meetR
 rw [w64_id (n := a.X + a.W) (by omega), w64_id (n := a.Y + a.H) (by omega), w64_id (n := b.X + b.W) (by omega), w64_id (n := b.Y + b.H) (by omega)]
 simp only [minI_eq, maxI_eq]
 rw [w64_id (n := min (a.X + a.W) (b.X + b.W) - max a.X b.X) (by omega), w64_id (n := min (a.Y + a.H) (b.Y + b.H) - max a.Y b.Y) (by omega)]
 cases decide (min (a.X + a.W) (b.X + b.W) - max a.X b.X ≤ 0) <;> cases decide (min (a.Y + a.H) (b.Y + b.H) - max a.Y b.Y ≤ 0) <;> rfl
theorem sum_loop {α : Type} (f : α → Int) (C : Int) (hC : 0 ≤ C) {body : Nat → α → Int → Option (Ctl Int Unit)} : ∀ (l : List α) (k : Nat) (s : Int), (∀ k x s, body k x s = some (.go (w64 (s + w64 (f x))))) → (∀ x ∈ l, -C ≤ f x ∧ f x ≤ C) → -1000000000000000000 ≤ s - C * l.length → s + C * l.length ≤ 1000000000000000000 → C ≤ 1000000000000000000 →
  forR body l k s = some (.go (s + sumL f l))
 | [], k, s, _, _, _, _, _ => by simp [forR, sumL]
 | x :: l, k, s, h, hb, h1, h2, h3 => by
  have hx := hb x (by simp)
  have hl : 0 ≤ C * (l.length : Int) := Int.mul_nonneg hC (by omega)
  have hm : C * ((x :: l).length : Int) = C * (l.length : Int) + C := by rw [List.length_cons, Int.natCast_add, Int.mul_add]; simp
  rw [hm] at h1 h2
  rw [forR, h, Option.bind_some, w64_id (n := f x) (by omega), w64_id (n := s + f x) (by omega)]
  simp only
  rw [sum_loop f C hC l (k + 1) _ h (fun y hy => hb y (by simp [hy])) (by omega) (by omega) h3, sumL, Int.add_assoc]
end Go.Proofs.YtipcgokielgnhaaGreatDoor.Law

