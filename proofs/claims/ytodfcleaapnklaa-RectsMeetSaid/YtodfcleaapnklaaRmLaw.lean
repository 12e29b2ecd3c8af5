import Derived.Test.YtodfcleaapnklaaRmRegion
import Derived.Test.YtodfcleaapnklaaRmGen
import Derived.Test.YtodfcleaapnklaaRmLit
/-
  THE PLAIN LAW: CheckRect, Meet, Region, Without and Area.
-/
open Go Go.Eng
namespace Go.Proofs.Ytodfcleaapnklaa.Law
set_option linter.unusedVariables false
set_option linter.unusedSimpArgs false

def or0 (a b : Int) : Int := bif a == 0 then b else a
theorem errs2 (a b : Int) : law_errs [a, b] = some (or0 a b) := by
  unfold law_errs or0
  rw [forL_eq (by simp)]
  simp only [forR, law_errs_L1]
  cases ha : a == 0 with
  | false =>
    have : (a != 0) = true := by simp [bne, ha]
    simp only [this, cond_true, cond_false, Option.bind_some, thenC]
  | true =>
    have : (a != 0) = false := by simp [bne, ha]
    simp only [this, cond_true, cond_false, Option.bind_some]
    cases hb : b == 0 with
    | false =>
      have : (b != 0) = true := by simp [bne, hb]
      simp only [this, cond_true, Option.bind_some, thenC]
    | true =>
      have : (b != 0) = false := by simp [bne, hb]
      simp only [this, cond_false, Option.bind_some, thenC]
      rw [eq_of_beq hb]
def bad (b : Bool) : Int := bif b then 1 else 0
theorem meet_ok (a b : Rect) : ∃ m, screen_meet a b = some m := by
  unfold screen_meet
  cases decide (w64 (minI (w64 (a.X + a.W)) (w64 (b.X + b.W)) - maxI a.X b.X) ≤ 0) <;> cases decide (w64 (minI (w64 (a.Y + a.H)) (w64 (b.Y + b.H)) - maxI a.Y b.Y) ≤ 0) <;> exact ⟨_, rfl⟩
theorem Meet_eq (a b : Rect) {m : Rect × Bool} (hm : screen_meet a b = some m) : screen_Meet a b = some (bif or0 (bad (badR a)) (bad (badR b)) == 0 then (m.1, m.2, 0) else (⟨0, 0, 0, 0⟩, false, or0 (bad (badR a)) (bad (badR b)))) := by
  have hl : forL (List.range (2 : Int).toNat) () (fun k x s => screen_Meet_L1 a b k x s) = some (bif badR a || badR b then .ret (⟨0, 0, 0, 0⟩, false, 1) else .go ()) := by
    rw [forL_eq (by simp)]
    show forR _ [0, 1] 0 () = _
    simp only [forR, screen_Meet_L1]
    rw [show idx [a, b] ((0 : Nat) : Int) = some a from rfl, show idx [a, b] ((0 + 1 : Nat) : Int) = some b from rfl]
    simp only [Option.bind_some, checkRect_eq]
    cases badR a <;> cases badR b <;> rfl
  unfold screen_Meet
  rw [hl, hm]
  cases badR a <;> cases badR b <;> rfl
theorem eqRects (l : List Rect) (hl : l.length ≤ 1000000) : slices_Equal_api_Rect_api_Rect l l = some true := by
  have key : ∀ (xs : List Rect) (k : Nat), l.drop k = xs → forR (fun k x s => slices_Equal_api_Rect_api_Rect_L1 l k x s) xs k () = some (.go ()) := by
    intro xs
    induction xs with
    | nil => exact fun _ _ => rfl
    | cons x xs ih =>
      intro k h
      have hg : idx l (k : Int) = some x := drop_idx h
      rw [forR]
      have : slices_Equal_api_Rect_api_Rect_L1 l k x () = some (.go ()) := by
        unfold slices_Equal_api_Rect_api_Rect_L1
        rw [hg]; simp
      rw [this, Option.bind_some]
      exact ih (k + 1) (drop_next h)
  unfold slices_Equal_api_Rect_api_Rect
  have : ((l.length : Int) != (l.length : Int)) = false := by simp
  rw [this, cond_false, forL_eq (by omega), key l 0 rfl]; rfl
theorem area_ok (R : List Rect) (h : R.length ≤ 1000000) : ∃ n, screen_area R = some n := by
  unfold screen_area
  obtain ⟨s', h1, _⟩ := forL_inv (body := fun k x s => screen_area_L1 k x s) (s := (0 : Int)) (fun _ _ => True) (xs := R) (by omega) (fun k x s _ _ _ => ⟨_, rfl, trivial⟩) trivial
  exact ⟨s', by rw [h1]; rfl⟩
theorem regionOf_ok (l : List Rect) (hl : ∀ r ∈ l, Fine r) (h1 : l.length ≤ 12) : ∃ res, screen_region l [] = some res ∧ ref_RegionOf l = some res ∧ res.length ≤ (2 * l.length + 1) * l.length := by
  obtain ⟨xs, ys, res, c1, c2, c3, c4, c5⟩ := region_ok (fun x y => ref_RegionOf_1 x y l) l [] hl (fun r hr => by cases hr) h1 (by simp) (fun x y => by
    unfold ref_RegionOf_1
    rw [some_eq hl (by omega)]
    simp [hasB])
  rw [List.append_nil] at c1 c2
  refine ⟨res, c3, ?_, by simpa using c5⟩
  unfold ref_RegionOf ref_regionOf_v1
  rw [c1, Option.bind_some, c2, Option.bind_some, reg_v1, c4]; rfl
theorem withoutOf_ok (l m : List Rect) (hl : ∀ r ∈ l, Fine r) (hm : ∀ r ∈ m, Fine r) (h1 : l.length ≤ 12) (h2 : m.length ≤ 12) : ∃ res, screen_region l m = some res ∧ ref_WithoutOf l m = some res ∧ res.length ≤ (2 * (l.length + m.length) + 1) * (l.length * (m.length + 1)) := by
  obtain ⟨xs, ys, res, c1, c2, c3, c4, c5⟩ := region_ok (fun x y => ref_WithoutOf_1 x y l m) l m hl hm h1 h2 (fun x y => by
    unfold ref_WithoutOf_1
    rw [some_eq hl (by omega), some_eq hm (by omega)]
    cases hasB l x y <;> rfl)
  refine ⟨res, c3, ?_, c5⟩
  unfold ref_WithoutOf ref_regionOf_v2
  rw [concat_eq l m (by omega), Option.bind_some, c1, Option.bind_some, c2, Option.bind_some, reg_v2, c4]; rfl
theorem bounded_ok (R : List Rect) (h : R.length ≤ 2000) : screen_bounded R = some (R, 0) := by
  unfold screen_bounded
  have : decide ((R.length : Int) > 2000) = false := by simp; omega
  rw [this]; rfl
theorem rectsMeet (l : List Int) : law_RectsMeet l = some true := by
  unfold law_RectsMeet
  have h0 : Ok (⟨l, 0⟩ : Stream) 0 := ⟨Int.le_refl _, Int.le_refl _⟩
  obtain ⟨a, s1, a1, a2⟩ := rect_ok _ h0 (by decide)
  obtain ⟨b, s2, b1, b2⟩ := rect_ok _ a2 (by decide)
  obtain ⟨x, s3, x1, x2, x3⟩ := rects_ok s2 5 b2 (by decide) (by decide) (by decide)
  obtain ⟨y, s4, y1, y2, y3⟩ := rects_ok s3 3 x3 (by decide) (by decide) (by decide)
  obtain ⟨m, m1⟩ := meet_ok a b
  have hM := Meet_eq a b m1
  have hmo : ref_MeetOf a b = some m := m1
  have hcr : screen_CheckRect a = some (bad (badR a)) := checkRect_eq a
  have hra : ref_RectFault a = some (bad (badR a)) := rectFault_eq a
  have hrb : ref_RectFault b = some (bad (badR b)) := rectFault_eq b
  have hxl : x.length ≤ 5 := by omega
  have hyl : y.length ≤ 3 := by omega
  -- the regions
  have hX : ∃ (fx : Int) (R : List Rect) (n : Int), screen_rectsFault x = some fx ∧ screen_Region x = some (R, fx) ∧ screen_Area x = some (n, fx) ∧ R.length ≤ 2000 ∧ ((bif fx == 0 then (ref_RegionOf x).bind fun r_56 => (ref_AreaOf x).bind fun r_58 => some (r_58, r_56) else some (0, ([] : List Rect))) = some (n, R)) := by
    rcases rectsFault_ok x (by omega) with ⟨f1, f2⟩ | f1
    · obtain ⟨R, r1, r2, r3⟩ := regionOf_ok x f2 (by omega)
      have hR : R.length ≤ 2000 := by
        have : (2 * x.length + 1) * x.length ≤ 11 * 5 := Nat.mul_le_mul (by omega) hxl
        omega
      obtain ⟨n, n1⟩ := area_ok R (by omega)
      have hA : ref_AreaOf x = some n := by
        show (ref_RegionOf x).bind screen_area = _
        rw [r2]; exact n1
      refine ⟨0, R, n, f1, ?_, ?_, hR, ?_⟩
      · unfold screen_Region
        rw [f1, Option.bind_some, r1]
        show (screen_bounded R).bind _ = _
        rw [bounded_ok R hR]; rfl
      · unfold screen_Area
        rw [f1, Option.bind_some, r1]
        show (screen_area R).bind _ = _
        rw [n1]; rfl
      · rw [r2, hA]; rfl
    · refine ⟨1, [], 0, f1, ?_, ?_, by simp, rfl⟩
      · unfold screen_Region
        rw [f1]; rfl
      · unfold screen_Area
        rw [f1]; rfl
  obtain ⟨fx, R, n, g1, g2, g3, g4, g5⟩ := hX
  have hY : ∃ (fy : Int) (Q : List Rect), screen_rectsFault y = some fy ∧ screen_Without x y = some (Q, or0 fx fy) ∧ Q.length ≤ 2000 ∧ ((bif or0 fx fy == 0 then (ref_WithoutOf x y).bind fun r_65 => some r_65 else some ([] : List Rect)) = some Q) := by
    have hL : ∀ fy, screen_rectsFault y = some fy → forL (List.range (2 : Int).toNat) () (fun k z s => screen_Without_L1 x y k z s) = some (bif fx != 0 then .ret ([], fx) else bif fy != 0 then .ret ([], fy) else .go ()) := fun fy hfy => by
      rw [forL_eq (by simp)]
      show forR _ [0, 1] 0 () = _
      simp only [forR, screen_Without_L1]
      rw [show idx [x, y] ((0 : Nat) : Int) = some x from rfl, show idx [x, y] ((0 + 1 : Nat) : Int) = some y from rfl]
      simp only [Option.bind_some, g1, hfy]
      cases fx != 0 <;> cases fy != 0 <;> rfl
    rcases rectsFault_ok x (by omega) with ⟨f1, f2⟩ | f1
    · rw [g1] at f1
      simp only [Option.some.injEq] at f1
      subst f1
      rcases rectsFault_ok y (by omega) with ⟨e1, e2⟩ | e1
      · obtain ⟨Q, q1, q2, q3⟩ := withoutOf_ok x y f2 e2 (by omega) (by omega)
        have hQ : Q.length ≤ 2000 := by
          have h1 : x.length * (y.length + 1) ≤ 5 * 4 := Nat.mul_le_mul hxl (by omega)
          have : (2 * (x.length + y.length) + 1) * (x.length * (y.length + 1)) ≤ 17 * (5 * 4) := Nat.mul_le_mul (by omega) h1
          omega
        refine ⟨0, Q, e1, ?_, hQ, by rw [q2]; rfl⟩
        unfold screen_Without
        rw [hL 0 e1]
        show ((screen_region x y).bind fun r_18 => (screen_bounded r_18).bind fun r_20 => some (r_20.1, r_20.2)) = _
        rw [q1, Option.bind_some, bounded_ok Q hQ]; rfl
      · refine ⟨1, [], e1, ?_, by simp, rfl⟩
        unfold screen_Without
        rw [hL 1 e1]; rfl
    · rw [g1] at f1
      simp only [Option.some.injEq] at f1
      subst f1
      rcases rectsFault_ok y (by omega) with ⟨e1, e2⟩ | e1
      · refine ⟨0, [], e1, ?_, by simp, rfl⟩
        unfold screen_Without
        rw [hL 0 e1]; rfl
      · refine ⟨1, [], e1, ?_, by simp, rfl⟩
        unfold screen_Without
        rw [hL 1 e1]; rfl
  obtain ⟨fy, Q, k1, k2, k3, k4⟩ := hY
  have hne : ((bad (badR a)) != (bad (badR a))) = false := by simp
  simp only [a1, b1, x1, y1, hM, g2, k2, g3, hcr, hra, hrb, rectsFault_same, g1, k1, errs2, Option.bind_some, hne, cond_false, g5, k4, hmo]
  cases hz : or0 (bad (badR a)) (bad (badR b)) == 0 with
  | true =>
    have hz' := eq_of_beq hz
    simp only [cond_true, Option.bind_some, hz', beq_self_eq_true, Bool.and_self, eqRects R (by omega), eqRects Q (by omega), lit_ok]
  | false =>
    simp only [cond_false, Option.bind_some, beq_self_eq_true, Bool.and_self, cond_true, eqRects R (by omega), eqRects Q (by omega), lit_ok]
end Go.Proofs.Ytodfcleaapnklaa.Law
