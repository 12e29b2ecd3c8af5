import Derived.Test.YtipcgokielgnhaaGreatDoorKpKit
import Derived.Test.YtipcgokielgnhaaGreatDoorEpStream
/-
  PLAIN LEMMAS: right rectangles; lists turned round; pixels of a list; pairs that do not meet; sums over pixels.
-/
open Go Go.Eng
namespace Go.Proofs.YtipcgokielgnhaaGreatDoor.Law
set_option linter.unusedVariables false
set_option linter.unusedSimpArgs false

theorem rightRectF (s : Stream) {b : Int} (hs : Ok s b) (hb : b ≤ 900000) : ∃ r s', mk_Stream_RightRect s = some (r, s') ∧ Fine r ∧ (-2 ≤ r.X ∧ r.X ≤ 8 ∧ -2 ≤ r.Y ∧ r.Y ≤ 8 ∧ r.W ≤ 5 ∧ r.H ≤ 5) ∧ Ok s' (b + 4) := by
 unfold mk_Stream_RightRect
 obtain ⟨X, q1, c1, c2, c3, c4⟩ := range_ok s (-2) 8 hs (by omega) (by decide) (by decide) (by decide)
 obtain ⟨Y, q2, d1, d2, d3, d4⟩ := range_ok q1 (-2) 8 c4 (by omega) (by decide) (by decide) (by decide)
 obtain ⟨U, q3, e1, e2, e3, e4⟩ := range_ok q2 1 5 d4 (by omega) (by decide) (by decide) (by decide)
 obtain ⟨V, q4, f1, f2, f3, f4⟩ := range_ok q3 1 5 e4 (by omega) (by decide) (by decide) (by decide)
 simp only [c1, d1, e1, f1, Option.bind_some]
 refine ⟨_, _, rfl, ?_, by simp only []; omega, f4.mono (by omega)⟩
 unfold Fine
 simp only []; omega
theorem rects_gen {body : Nat → Nat → (List Rect × List Int × Int) → Option (Ctl (List Rect × List Int × Int) Unit)} (hB : ∀ k x t, body k x t = (mk_Stream_RightRect ⟨t.2.1, t.2.2⟩).bind fun r => (appL t.1 [r.1]).bind fun a => some (.go (a, r.2.L, r.2.f_at))) (n : Int) (s : Stream) {b : Int} (hs : Ok s b) (hb : b ≤ 800000) (hn : 0 ≤ n ∧ n ≤ 100) :
  ∃ l s', forL (List.range n.toNat) (([] : List Rect), s.L, s.f_at) body = some (.go (l, s'.L, s'.f_at)) ∧ (l.length : Int) ≤ n ∧ (∀ r ∈ l, Fine r) ∧ Ok s' (b + 4 * n) := by
 obtain ⟨t, t1, t2, t3, t4⟩ := forL_inv (body := body) (s := (([] : List Rect), s.L, s.f_at)) (xs := List.range n.toNat) (fun j t => t.1.length ≤ j ∧ (∀ r ∈ t.1, Fine r) ∧ Ok ⟨t.2.1, t.2.2⟩ (b + 4 * j)) (by simp; omega) (fun k x t hx hk ⟨i1, i2, i3⟩ => by
  simp only [List.length_range] at hk
  obtain ⟨r, s1, g1, g2, g3, g4⟩ := rightRectF _ i3 (by omega)
  rw [hB, g1, Option.bind_some, appL_ok _ _ (by simp; omega)]
  refine ⟨_, rfl, by simp; omega, fun q hq => ?_, g4.mono (by omega)⟩
  rcases List.mem_append.1 hq with hq | hq
  ·exact i2 q hq
  ·rw [List.mem_singleton.1 hq]; exact g2) ⟨Nat.zero_le _, fun r hr => (by cases hr), hs.mono (by omega)⟩
 rw [List.length_range] at t2 t4
 exact ⟨t.1, ⟨t.2.1, t.2.2⟩, t1, by omega, t3, t4.mono (by omega)⟩
theorem rev_step (l : List Rect) (i j : Nat) (hi : i < j) (hj : j < l.length) : ∃ l', slices_Reverse_api_Rect_api_Rect_v1_L1 (l, (i : Int), (j : Int)) = some (.go (l', w64 ((i : Int) + 1), w64 ((j : Int) - 1))) ∧ l'.Perm l := by
 have hil : i < l.length := by omega
 have inr : ∀ (m : List Rect) (k : Nat), k < m.length → inR (k : Int) m = some () := fun m k hk => by unfold inR; rw [if_pos ⟨by omega, by omega⟩]
 unfold slices_Reverse_api_Rect_api_Rect_v1_L1
 simp only
 rw [decide_eq_true (show (i : Int) < (j : Int) by omega), cond_true]
 simp only [inr l j hj, inr l i hil, Option.bind_some, Nat.zero_add, Int.toNat_natCast, List.getElem?_eq_getElem hj, List.getElem?_eq_getElem hil]
 rw [inr _ j (by simpa using hj)]
 have hne : ((l.set i l[j])[j]?) = some l[j] := by rw [List.getElem?_set_ne (by omega)]; exact List.getElem?_eq_getElem hj
 simp only [Option.bind_some, hne]
 exact ⟨_, rfl, List.set_set_perm hil hj⟩
theorem rev_iter (N : Nat) (hN : N ≤ 1000000) : ∀ (m i : Nat) (l : List Rect), l.length = N → i + m = N → (∃ l' n t, iterN (fun s => slices_Reverse_api_Rect_api_Rect_v1_L1 s) n (l, (i : Int), (N : Int) - 1 - i) = some (.go (l', t)) ∧ l'.Perm l)
 | m, i, l, hl, hm => by
  by_cases h : (i : Int) < (N : Int) - 1 - i
  ·have e : (N : Int) - 1 - i = ((N - 1 - i : Nat) : Int) := by omega
   obtain ⟨l1, s1, p1⟩ := rev_step l i (N - 1 - i) (by omega) (by omega)
   rw [← e, w64_id (n := (i : Int) + 1) (by omega), w64_id (by omega)] at s1
   cases m with
   | zero => omega
   | succ m =>
    obtain ⟨l2, n, t, g1, g2⟩ := rev_iter N hN m (i + 1) l1 (by rw [p1.length_eq]; exact hl) (by omega)
    refine ⟨l2, n + 1, t, ?_, g2.trans p1⟩
    rw [iterN, s1, Option.bind_some]
    rw [show (N : Int) - 1 - i - 1 = (N : Int) - 1 - ((i + 1 : Nat) : Int) by omega, show (i : Int) + 1 = ((i + 1 : Nat) : Int) by omega]
    exact g1
  ·refine ⟨l, 1, ((i : Int), (N : Int) - 1 - i), ?_, List.Perm.refl _⟩
   rw [iterN]
   unfold slices_Reverse_api_Rect_api_Rect_v1_L1
   simp only
   rw [decide_eq_false h]
   rfl
theorem reverse_perm (l : List Rect) (hl : l.length ≤ 1000000) : ∃ l', slices_Reverse_api_Rect_api_Rect_v1 l = some l' ∧ l'.Perm l := by
 obtain ⟨l', n, t, h1, h2⟩ := rev_iter l.length hl l.length 0 l rfl (by omega)
 refine ⟨l', ?_, h2⟩
 unfold slices_Reverse_api_Rect_api_Rect_v1
 have e : w64 ((l.length : Int) - 1) = (l.length : Int) - 1 - ((0 : Nat) : Int) := by rw [w64_id (by omega)]; omega
 rw [e, show (0 : Int) = ((0 : Nat) : Int) from rfl, iter_loopO h1]
 rfl
theorem hasP_perm {l m : List Rect} (h : l.Perm m) (x y : Int) : hasP l x y ↔ hasP m x y := by
 unfold hasP
 exact ⟨fun ⟨r, hr, k⟩ => ⟨r, h.mem_iff.1 hr, k⟩, fun ⟨r, hr, k⟩ => ⟨r, h.mem_iff.2 hr, k⟩⟩
theorem has_K {r : Rect} (h : Fine r) (x y : Int) : keep_has r x y = some (has1 x y r) := by
 unfold Fine at h
 unfold keep_has has1
 rw [w64_id (n := r.X + r.W) (by omega), w64_id (n := r.Y + r.H) (by omega)]
 cases decide (r.X ≤ x) <;> cases decide (x < r.X + r.W) <;> cases decide (r.Y ≤ y) <;> rfl
theorem any_loop (f : Rect → Option Bool) (p : Rect → Bool) : ∀ (l : List Rect) (k : Nat), (∀ r ∈ l, f r = some (p r)) → (forR (fun k z s => slices_IndexFunc_api_Rect_api_Rect_L1 f k z s) l k () = some (.go ()) ∧ l.any p = false) ∨ ∃ j : Nat, forR (fun k z s => slices_IndexFunc_api_Rect_api_Rect_L1 f k z s) l k () = some (.ret (j : Int)) ∧ l.any p = true
 | [], k, _ => .inl ⟨rfl, rfl⟩
 | r :: l, k, h => by
  have hB : slices_IndexFunc_api_Rect_api_Rect_L1 f k r () = some (bif p r then .ret (k : Int) else .go ()) := by
   unfold slices_IndexFunc_api_Rect_api_Rect_L1
   rw [h r (by simp), Option.bind_some]
   cases p r <;> rfl
  rw [forR, hB, Option.bind_some, List.any_cons]
  cases p r with
  | true => exact .inr ⟨k, rfl, rfl⟩
  | false => exact any_loop f p l (k + 1) (fun r hr => h r (by simp [hr]))
theorem any_eq (f : Rect → Option Bool) (p : Rect → Bool) {l : List Rect} (h : ∀ r ∈ l, f r = some (p r)) (hl : l.length ≤ 1000000) : slices_ContainsFunc_api_Rect_api_Rect l f = some (l.any p) := by
 unfold slices_ContainsFunc_api_Rect_api_Rect slices_IndexFunc_api_Rect_api_Rect
 rw [forL_eq (by omega)]
 rcases any_loop f p l 0 h with ⟨h1, h2⟩ | ⟨j, h1, h2⟩
 ·rw [h1, h2]; rfl
 ·rw [h1, h2]
  simp only [Option.bind_some, thenC]
  have : decide ((j : Int) ≥ 0) = true := by simp
  rw [this]
theorem one_K {l : List Rect} (h : ∀ r ∈ l, Fine r) (hl : l.length ≤ 1000000) (x y : Int) : keep_one l x y = some (hasB l x y) := by
 unfold keep_one
 rw [any_eq (fun x0 => keep_one_1 x0 x y) (has1 x y) (fun r hr => by
  unfold keep_one_1
  rw [has_K (h r hr)]; rfl) hl]
 rfl
theorem meetR_true {a b : Rect} (h : (meetR a b).2 = true) : ∃ x y, has1 x y a = true ∧ has1 x y b = true := by
 unfold meetR at h
 cases hc : decide (min (a.X + a.W) (b.X + b.W) - max a.X b.X ≤ 0) || decide (min (a.Y + a.H) (b.Y + b.H) - max a.Y b.Y ≤ 0) with
 | true => rw [hc] at h; cases h
 | false =>
  simp only [Bool.or_eq_false_iff, decide_eq_false_iff_not] at hc
  refine ⟨max a.X b.X, max a.Y b.Y, ?_, ?_⟩ <;>
  ·simp only [has1, Bool.and_eq_true, decide_eq_true_eq]
   omega
theorem Meet_fine {a b : Rect} (ha : Fine a) (hb : Fine b) : screen_Meet a b = some ((meetR a b).1, (meetR a b).2, 0) := by
 have hl : forL (List.range (2 : Int).toNat) () (fun k x s => screen_Meet_L1 a b k x s) = some (.go ()) := by
  rw [forL_eq (by simp)]
  show forR _ [0, 1] 0 () = _
  simp only [forR, screen_Meet_L1]
  rw [show idx [a, b] ((0 : Nat) : Int) = some a from rfl, show idx [a, b] ((0 + 1 : Nat) : Int) = some b from rfl]
  simp only [Option.bind_some, checkRect_eq, fine_badR ha, fine_badR hb]
  rfl
 unfold screen_Meet
 rw [hl, Option.bind_some, meet_eq ha.bnd hb.bnd]
 rfl
theorem indL_two {x y : Int} {l : List Rect} {i k : Nat} {a b : Rect} (hik : i < k) (ha : l[i]? = some a) (hb : l[k]? = some b) (h1 : has1 x y a = true) (h2 : has1 x y b = true) : 2 ≤ indL l x y := by
 induction l generalizing i k with
 | nil => simp at ha
 | cons r l ih =>
  cases k with
  | zero => omega
  | succ k =>
   cases i with
   | zero =>
    simp only [List.getElem?_cons_zero, Option.some.injEq] at ha
    subst ha
    simp only [List.getElem?_cons_succ] at hb
    have := indL_pos (l := l) ((hasP_iff _ _ _).2 ⟨b, List.mem_of_getElem? hb, h2⟩)
    unfold indL at *
    rw [sumL, ind_t h1]; omega
   | succ i =>
    simp only [List.getElem?_cons_succ] at ha hb
    have := ih (by omega) ha hb
    have h0 : 0 ≤ ind r x y := by rcases ind_01 r x y with k | k <;> omega
    unfold indL at *
    rw [sumL]; omega
theorem no_meet {l : List Rect} (h : ∀ x y, indL l x y ≤ 1) {i k : Nat} {a b : Rect} (hik : i < k) (ha : l[i]? = some a) (hb : l[k]? = some b) : (meetR b a).2 = false := by
 cases hm : (meetR b a).2 with
 | false => rfl
 | true =>
  obtain ⟨x, y, h1, h2⟩ := meetR_true hm
  have := indL_two hik ha hb h2 h1
  have := h x y
  omega
theorem sumN_bnd {f : Int → Int} {c lo : Int} (h : ∀ x, 0 ≤ f x ∧ f x ≤ c) : ∀ n : Nat, 0 ≤ sumN f lo n ∧ sumN f lo n ≤ c * n
 | 0 => by simp [sumN]
 | n + 1 => by
  have ih := sumN_bnd (lo := lo) h n
  have hx := h (lo + n)
  have e : c * ((n + 1 : Nat) : Int) = c * (n : Int) + c := by rw [Int.natCast_add, Int.mul_add]; simp
  rw [e]
  simp only [sumN]
  omega
theorem SS_bnd {f : Int → Int → Int} {lo : Int} (h : ∀ x y, 0 ≤ f x y ∧ f x y ≤ 1) (n : Nat) (hn : n = 200000) : 0 ≤ SS lo n f ∧ SS lo n f ≤ 40000000000 := by
 have h1 := sumN_bnd (f := fun y => sumN (fun x => f x y) lo n) (c := 1 * n) (lo := lo) (fun y => sumN_bnd (fun x => h x y) n) n
 unfold SS
 rw [hn] at h1 ⊢
 exact ⟨h1.1, h1.2⟩
theorem P01_bnd (p : Prop) : 0 ≤ P01 p ∧ P01 p ≤ 1 := by
 by_cases h : p
 ·rw [P01_t h]; omega
 ·rw [P01_f h]; omega
theorem Without_reg (l m : List Rect) (a0 c0 : Nat) (ha0 : a0 ≤ 12) (hc0 : c0 ≤ 12) (hfl : ∀ r ∈ l, Fine r) (hfm : ∀ r ∈ m, Fine r) (h1 : ∀ y, (rowB l y).length ≤ a0) (h2 : m.length ≤ c0) (h3 : l.length ≤ 480) (h4 : (2 * (l.length + m.length) + 1) * (a0 * (c0 + 1)) ≤ 2000) :
  ∃ R : List Rect, screen_Without l m = some (R, 0) ∧ R.length ≤ (2 * (l.length + m.length) + 1) * (a0 * (c0 + 1)) ∧ RegB R (fun x y => hasP l x y ∧ ¬ hasP m x y) := by
 obtain ⟨R, r1, r2, r3⟩ := region_reg l m a0 c0 ha0 hc0 hfl hfm h1 h2 h3
 refine ⟨R, ?_, r2, r3⟩
 have hl : forL (List.range (2 : Int).toNat) () (fun k x s => screen_Without_L1 l m k x s) = some (.go ()) := by
  rw [forL_eq (by simp)]
  show forR _ [0, 1] 0 () = _
  simp only [forR, screen_Without_L1]
  rw [show idx [l, m] ((0 : Nat) : Int) = some l from rfl, show idx [l, m] ((0 + 1 : Nat) : Int) = some m from rfl]
  simp only [Option.bind_some, rects_fine l (by omega) (fun r hr => fine_badR (hfl r hr)), rects_fine m (by omega) (fun r hr => fine_badR (hfm r hr))]
  rfl
 unfold screen_Without
 rw [hl, Option.bind_some]
 simp only [thenC]
 rw [r1, Option.bind_some, bounded_ok R (by omega)]; rfl
end Go.Proofs.YtipcgokielgnhaaGreatDoor.Law

