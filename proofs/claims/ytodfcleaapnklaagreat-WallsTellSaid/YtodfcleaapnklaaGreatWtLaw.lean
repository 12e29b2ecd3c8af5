import Derived.Test.YtodfcleaapnklaaGreatWtInst
import Derived.Test.YtodfcleaapnklaaGreatWtGen
import Derived.Test.YtodfcleaapnklaaGreatWtLit
/-
  THE PLAIN LAW: CheckWall, ScreenAt, Dark and Parts.
-/
open Go Go.Eng
namespace Go.Proofs.YtodfcleaapnklaaGreat.Law
set_option linter.unusedVariables false
set_option linter.unusedSimpArgs false

def or0 (a b : Int) : Int := bif a == 0 then b else a
theorem errs2 (a b : Int) : law_errs [a, b] = some (or0 a b) := by
  unfold law_errs or0
  rw [forL_eq (by simp)]
  simp only [forR, law_errs_L1]
  cases ha : a == 0 with
  | false =>
    have : (a != 0) = true := by simp [bne, ha]
    simp only [this, cond_true, cond_false, Option.bind_some, thenC]
  | true =>
    have : (a != 0) = false := by simp [bne, ha]
    simp only [this, cond_true, cond_false, Option.bind_some]
    cases hb : b == 0 with
    | false =>
      have : (b != 0) = true := by simp [bne, hb]
      simp only [this, cond_true, Option.bind_some, thenC]
    | true =>
      have : (b != 0) = false := by simp [bne, hb]
      simp only [this, cond_false, Option.bind_some, thenC]
      rw [eq_of_beq hb]
def bad (b : Bool) : Int := bif b then 1 else 0
theorem eqRects (l : List Rect) (hl : l.length ≤ 1000000) : slices_Equal_api_Rect_api_Rect l l = some true := by
  have key : ∀ (xs : List Rect) (k : Nat), l.drop k = xs → forR (fun k x s => slices_Equal_api_Rect_api_Rect_L1 l k x s) xs k () = some (.go ()) := by
    intro xs
    induction xs with
    | nil => exact fun _ _ => rfl
    | cons x xs ih =>
      intro k h
      have hg : idx l (k : Int) = some x := drop_idx h
      rw [forR]
      have : slices_Equal_api_Rect_api_Rect_L1 l k x () = some (.go ()) := by
        unfold slices_Equal_api_Rect_api_Rect_L1
        rw [hg]; simp
      rw [this, Option.bind_some]
      exact ih (k + 1) (drop_next h)
  unfold slices_Equal_api_Rect_api_Rect
  have : ((l.length : Int) != (l.length : Int)) = false := by simp
  rw [this, cond_false, forL_eq (by omega), key l 0 rfl]; rfl
theorem eqPatches (l : List Patch) (hl : l.length ≤ 1000000) : slices_Equal_api_Patch_api_Patch l l = some true := by
  have key : ∀ (xs : List Patch) (k : Nat), l.drop k = xs → forR (fun k x s => slices_Equal_api_Patch_api_Patch_L1 l k x s) xs k () = some (.go ()) := by
    intro xs
    induction xs with
    | nil => exact fun _ _ => rfl
    | cons x xs ih =>
      intro k h
      have hg : idx l (k : Int) = some x := drop_idx h
      rw [forR]
      have : slices_Equal_api_Patch_api_Patch_L1 l k x () = some (.go ()) := by
        unfold slices_Equal_api_Patch_api_Patch_L1
        rw [hg]; simp
      rw [this, Option.bind_some]
      exact ih (k + 1) (drop_next h)
  unfold slices_Equal_api_Patch_api_Patch
  have : ((l.length : Int) != (l.length : Int)) = false := by simp
  rw [this, cond_false, forL_eq (by omega), key l 0 rfl]; rfl
theorem bounded_ok (R : List Rect) (h : R.length ≤ 2000) : screen_bounded R = some (R, 0) := by
  unfold screen_bounded
  have : decide ((R.length : Int) > 2000) = false := by simp; omega
  rw [this]; rfl
theorem chk_all {w : Wall} : ∀ (l : List Screen) (last : ByteArray), chk (fun s : Screen => s.Key) (stpW w) last l = 0 → ∀ s ∈ l, Fine s.On
  | [], _, _, s, hs => by cases hs
  | x :: l, last, h, s, hs => by
    rw [chk] at h
    cases he : stpW w last x == 0 with
    | false => rw [he, cond_false] at h; rw [h] at he; cases he
    | true =>
      rw [he, cond_true] at h
      rcases List.mem_cons.1 hs with rfl | hs
      · have he := eq_of_beq he
        unfold stpW at he
        cases hk : keyB s.Key with
        | false => rw [hk] at he; cases he
        | true =>
          cases hb : badR s.On with
          | true => rw [hk, hb] at he; cases he
          | false => exact badR_fine hb
      · exact chk_all l _ h s hs
theorem on_loop {body : Nat → Screen → List Rect → Option (Ctl (List Rect) Unit)} : ∀ (l : List Screen) (k : Nat) (s : List Rect), (∀ k r s, s.length ≤ 1000000 → body k r s = some (.go (s ++ [r.On]))) → s.length + l.length ≤ 1000000 → forR body l k s = some (.go (s ++ l.map (·.On)))
  | [], k, s, _, _ => by simp [forR]
  | r :: l, k, s, h, hl => by
    simp only [List.length_cons] at hl
    rw [forR, h k r s (by omega), Option.bind_some]
    simp only
    rw [on_loop l (k + 1) _ h (by simp; omega)]
    simp
theorem lit_eq (w : Wall) (h : w.Screens.length ≤ 1000) : screen_lit w = some (w.Screens.map (·.On)) ∧ ref_rects w = some (w.Screens.map (·.On)) := by
  constructor
  · unfold screen_lit
    rw [forL_eq (by omega), on_loop w.Screens 0 [] (fun k r s hs => by unfold screen_lit_L1; rw [appL_ok _ _ (by simp; omega)]; rfl) (by simp; omega)]; rfl
  · unfold ref_rects
    rw [forL_eq (by omega), on_loop w.Screens 0 [] (fun k r s hs => by unfold ref_rects_L1; rw [appL_ok _ _ (by simp; omega)]; rfl) (by simp; omega)]; rfl
theorem shas_eq {r : Rect} (h : Fine r) (x y : Int) : screen_has r x y = some (has1 x y r) := by
  obtain ⟨h1, h2, h3, h4⟩ := h
  unfold screen_has has1
  rw [w64_id (n := r.X + r.W) (by omega), w64_id (n := r.Y + r.H) (by omega)]
  cases decide (r.X ≤ x) <;> cases decide (x < r.X + r.W) <;> cases decide (r.Y ≤ y) <;> rfl
theorem rhas_eq {r : Rect} (h : Fine r) (x y : Int) : ref_has r x y = some (has1 x y r) := by
  have := has_eq h x y
  unfold ref_some_1 at this
  obtain ⟨b, h1, h2⟩ := Option.bind_eq_some_iff.1 this
  rw [h1]; exact h2
theorem at_loop (x y : Int) : ∀ (l : List Screen) (k : Nat), (∀ s ∈ l, Fine s.On) → (forR (fun k z s => screen_ScreenAt_L1 x y k z s) l k () = some (.go ()) ∧ forR (fun k z s => ref_ScreenOf_L1 x y k z s) l k () = some (.go ())) ∨
    ∃ s : Screen, forR (fun k z s => screen_ScreenAt_L1 x y k z s) l k () = some (.ret (s.Key, true, 0)) ∧ forR (fun k z s => ref_ScreenOf_L1 x y k z s) l k () = some (.ret (s.Key, true))
  | [], k, _ => .inl ⟨rfl, rfl⟩
  | s :: l, k, h => by
    have h1 : screen_ScreenAt_L1 x y k s () = some (bif has1 x y s.On then .ret (s.Key, true, 0) else .go ()) := by
      unfold screen_ScreenAt_L1
      rw [shas_eq (h s (by simp)), Option.bind_some]
      cases has1 x y s.On <;> rfl
    have h2 : ref_ScreenOf_L1 x y k s () = some (bif has1 x y s.On then .ret (s.Key, true) else .go ()) := by
      unfold ref_ScreenOf_L1
      rw [rhas_eq (h s (by simp)), Option.bind_some]
      cases has1 x y s.On <;> rfl
    rw [forR, forR, h1, h2]
    cases has1 x y s.On with
    | true => exact .inr ⟨s, rfl, rfl⟩
    | false => exact at_loop x y l (k + 1) (fun s hs => h s (by simp [hs]))
theorem parts_same (r : Rect) : (fun k x s => screen_Parts_L1 r k x s) = fun k x s => ref_PartsOf_L1 r k x s := rfl
theorem parts_ok (w : Wall) (r : Rect) (h : w.Screens.length ≤ 1000) : ∃ P : List Patch, forL w.Screens ([] : List Patch) (fun k x s => ref_PartsOf_L1 r k x s) = some (.go P) ∧ P.length ≤ 1000 := by
  obtain ⟨P, h1, h2⟩ := forL_inv (body := fun k x s => ref_PartsOf_L1 r k x s) (s := ([] : List Patch)) (fun j s => s.length ≤ j) (xs := w.Screens) (by omega) (fun j x s _ hj hs => by
    obtain ⟨m, hm⟩ := meet_ok x.On r
    have hm' : ref_MeetOf x.On r = some m := hm
    unfold ref_PartsOf_L1
    rw [hm', Option.bind_some, appL_ok _ _ (by simp; omega)]
    cases m.2 with
    | true => exact ⟨_, rfl, by simp; omega⟩
    | false => exact ⟨_, rfl, by omega⟩) (Nat.le_refl _)
  exact ⟨P, h1, by omega⟩
theorem wallsTell (l : List Int) : law_WallsTell l = some true := by
  unfold law_WallsTell
  have h0 : Ok (⟨l, 0⟩ : Stream) 0 := ⟨Int.le_refl _, Int.le_refl _⟩
  obtain ⟨w, s1, a1, ⟨a2, a3⟩, a4, a5⟩ := wall_gen _ h0 (by decide)
  obtain ⟨r, s2, b1, b2⟩ := rect_ok _ a5 (by decide)
  obtain ⟨x0, s3, c1, c2, c3, c4⟩ := range_ok s2 (-2) 30 b2 (by decide) (by decide) (by decide) (by decide)
  obtain ⟨y, s4, d1, d2, d3, d4⟩ := range_ok s3 (-2) 30 c4 (by decide) (by decide) (by decide) (by decide)
  obtain ⟨g, s5, e1, e2⟩ := flip_ok s4 20 d4 (by decide) (by decide) (by decide)
  obtain ⟨x, L, f, hx⟩ : ∃ (x : Int) (L : List Int) (f : Int), (bif g then (mk_Stream_Odd s5 (-100000) 100000).bind fun r_23 => some (r_23.1, r_23.2.L, r_23.2.f_at) else some (x0, s5.L, s5.f_at)) = some (x, L, f) := by
    cases g with
    | false => exact ⟨_, _, _, rfl⟩
    | true =>
      obtain ⟨v, s6, f1, _⟩ := odd_ok s5 (-100000) 100000 e2 (by decide) (by decide) (by decide) (by decide)
      exact ⟨_, _, _, by rw [f1]; rfl⟩
  obtain ⟨e, w1, w2, w3⟩ := wall_ok w a2 a3 (by omega)
  have hr1 : screen_CheckRect r = some (bad (badR r)) := checkRect_eq r
  have hr2 : ref_RectFault r = some (bad (badR r)) := rectFault_eq r
  have hy : outB y (-100000) 100000 = false := outB_in (by omega)
  have hsf : screen_spotFault x y = some (bad (outB x (-100000) 100000)) := by
    unfold screen_spotFault
    rw [outside_eq, outside_eq, hy]
    cases outB x (-100000) 100000 <;> rfl
  obtain ⟨P, p1, p2⟩ := parts_ok w r (by omega)
  -- ScreenAt
  have hAt : ∃ (k : ByteArray) (ok : Bool), screen_ScreenAt w x y = some (k, ok, or0 e (bad (outB x (-100000) 100000))) ∧ (bif or0 e (bad (outB x (-100000) 100000)) == 0 then (ref_ScreenOf w x y).bind fun r_59 => some (r_59.1, r_59.2) else some ((⟨#[]⟩ : ByteArray), false)) = some (k, ok) := by
    unfold screen_ScreenAt
    rw [w1, Option.bind_some]
    by_cases he : e = 0
    · obtain ⟨_, _, hc⟩ := w3 he
      subst he
      have hne : ((0 : Int) != 0) = false := rfl
      rw [hne, cond_false, hsf, Option.bind_some]
      cases outB x (-100000) 100000 with
      | true => exact ⟨_, _, rfl, rfl⟩
      | false =>
        have hz : (bad false != 0) = false := rfl
        rw [hz, cond_false, forL_eq (by omega)]
        show ∃ k ok, _ ∧ ((ref_ScreenOf w x y).bind fun r_59 => some (r_59.1, r_59.2)) = _
        unfold ref_ScreenOf
        rw [forL_eq (by omega)]
        rcases at_loop x y w.Screens 0 (chk_all _ _ hc) with ⟨q1, q2⟩ | ⟨s, q1, q2⟩
        · rw [q1, q2]; exact ⟨_, _, rfl, rfl⟩
        · rw [q1, q2]; exact ⟨_, _, rfl, rfl⟩
    · have hne : (e != 0) = true := by simpa using he
      have hz : (e == 0) = false := by simpa using he
      rw [hne, cond_true]
      exact ⟨_, _, by unfold or0; rw [hz]; rfl, by unfold or0; rw [hz, cond_false, hz]; rfl⟩
  obtain ⟨k, ok, k1, k2⟩ := hAt
  -- Dark
  have hD : ∃ R : List Rect, screen_Dark w = some (R, e) ∧ R.length ≤ 2000 ∧ (bif e == 0 then (ref_DarkOf w).bind fun r_66 => some r_66 else some ([] : List Rect)) = some R := by
    unfold screen_Dark
    rw [w1, Option.bind_some]
    by_cases he : e = 0
    · obtain ⟨hW, hH, hc⟩ := w3 he
      subst he
      have hW := outB_f hW
      have hH := outB_f hH
      obtain ⟨l1, l2⟩ := lit_eq w (by omega)
      obtain ⟨R, r1, r2, r3⟩ := withoutOf_ok [⟨0, 0, w.W, w.H⟩] (w.Screens.map (·.On)) (fun q hq => by
        rw [List.mem_singleton] at hq; subst hq
        exact ⟨⟨by show (-100000 : Int) ≤ 0; omega, by show (0 : Int) ≤ 100000; omega⟩, ⟨by show (-100000 : Int) ≤ 0; omega, by show (0 : Int) ≤ 100000; omega⟩, ⟨hW.1, by show 0 + w.W ≤ 100000; omega⟩, hH.1, by show 0 + w.H ≤ 100000; omega⟩) (fun q hq => by
        obtain ⟨s, hs, rfl⟩ := List.mem_map.1 hq
        exact chk_all _ _ hc s hs) (by simp) (by simp; omega)
      have hR : R.length ≤ 2000 := by
        simp only [List.length_map, List.length_cons, List.length_nil] at r3
        have : (2 * (0 + 1 + w.Screens.length) + 1) * ((0 + 1) * (w.Screens.length + 1)) ≤ 13 * 6 := Nat.mul_le_mul (by omega) (by omega)
        omega
      refine ⟨R, ?_, hR, ?_⟩
      · show ((screen_lit w).bind fun r_6 => (screen_region [⟨0, 0, w.W, w.H⟩] r_6).bind fun r_8 => (screen_bounded r_8).bind fun r_10 => some (r_10.1, r_10.2)) = _
        rw [l1, Option.bind_some, r1, Option.bind_some, bounded_ok R hR]; rfl
      · show ((ref_DarkOf w).bind fun r_66 => some r_66) = _
        unfold ref_DarkOf
        rw [l2, Option.bind_some, r2]; rfl
    · have hne : (e != 0) = true := by simpa using he
      have hz : (e == 0) = false := by simpa using he
      rw [hne, cond_true, hz, cond_false]
      exact ⟨[], rfl, by simp, rfl⟩
  obtain ⟨R, g1, g2, g3⟩ := hD
  -- Parts
  have hP : ∃ Q : List Patch, screen_Parts w r = some (Q, or0 e (bad (badR r))) ∧ Q.length ≤ 1000 ∧ (bif or0 e (bad (badR r)) == 0 then (ref_PartsOf w r).bind fun r_73 => some r_73 else some ([] : List Patch)) = some Q := by
    unfold screen_Parts
    rw [w1, Option.bind_some]
    by_cases he : e = 0
    · subst he
      have hne : ((0 : Int) != 0) = false := rfl
      rw [hne, cond_false, hr1, Option.bind_some]
      cases badR r with
      | true => exact ⟨[], rfl, by simp, rfl⟩
      | false =>
        have hz : (bad false != 0) = false := rfl
        rw [hz, cond_false, parts_same, p1]
        refine ⟨P, rfl, p2, ?_⟩
        show ((ref_PartsOf w r).bind fun r_73 => some r_73) = _
        unfold ref_PartsOf
        rw [p1]; rfl
    · have hne : (e != 0) = true := by simpa using he
      have hz : (e == 0) = false := by simpa using he
      rw [hne, cond_true]
      exact ⟨[], by unfold or0; rw [hz]; rfl, by simp, by unfold or0; rw [hz, cond_false, hz]; rfl⟩
  obtain ⟨Q, q1, q2, q3⟩ := hP
  have hne : (e != e) = false := by simp
  have hwhen : (bif decide (x < (-100000)) then (law_when true 1).bind fun r_40 => (law_errs [e, r_40]).bind fun r_42 => (ref_RectFault r).bind fun r_44 => (law_errs [e, r_44]).bind fun r_46 => some (r_42, r_46) else (law_when (decide (x > 100000)) 1).bind fun r_48 => (law_errs [e, r_48]).bind fun r_50 => (ref_RectFault r).bind fun r_52 => (law_errs [e, r_52]).bind fun r_54 => some (r_50, r_54)) = some (or0 e (bad (outB x (-100000) 100000)), or0 e (bad (badR r))) := by
    simp only [errs2, hr2, Option.bind_some]
    unfold outB law_when
    cases decide (x < -100000) <;> cases decide (x > 100000) <;> rfl
  simp only [a1, b1, c1, d1, e1, hx, k1, g1, q1, w1, w2, hne, cond_false, Option.bind_some, hwhen, k2, g3, q3, beq_self_eq_true, cond_true, show sEq k k = true from (sEq_iff k k).2 rfl, eqRects R (by omega), eqPatches Q (by omega), lit_ok]
end Go.Proofs.YtodfcleaapnklaaGreat.Law
