import Derived.Test.YtodfcleaapnklaaRgBase
/-
  PLAIN LEMMAS: pictures that are turned, scaled and fitted.
-/
open Go Go.Eng
namespace Go.Proofs.Ytodfcleaapnklaa.Law
set_option linter.unusedVariables false
set_option linter.unusedSimpArgs false

theorem turn_L : @ref_TurnedOf_L1 = @screen_Turned_L1 := by
  funext k x s
  unfold ref_TurnedOf_L1 screen_Turned_L1
  have : w64 (w64 (s.2.1 - 1) - w64 (w64 (s.2.2.2.1 + s.2.2.2.2.2) - 1)) = w64 (w64 (s.2.1 - s.2.2.2.1) - s.2.2.2.2.2) := by
    simp only [w64, IntKind.wrap_i64]; omega
  rw [this]
theorem turned_eq (r : Rect) (w h q : Int) : ∃ a, screen_Turned r w h q = some a ∧ ref_TurnedOf r w h q = some a := by
  unfold screen_Turned ref_TurnedOf
  rw [checkRect_eq, rectFault_eq, isSide_eq, isSide_eq, side_eq, side_eq, outside_eq, in_eq, turn_L, show ref_within r w h = screen_inside r w h from rfl]
  simp only [Option.bind_some, Bool.not_not]
  cases badR r with
  | true => exact ⟨_, rfl, rfl⟩
  | false =>
    cases badS w with
    | true => exact ⟨_, rfl, rfl⟩
    | false =>
      cases badS h with
      | true => exact ⟨_, rfl, rfl⟩
      | false =>
        cases hq : outB q 0 3 with
        | true => exact ⟨_, rfl, rfl⟩
        | false =>
          have hq' := outB_f hq
          obtain ⟨b, hb⟩ : ∃ b, screen_inside r w h = some b := by
            unfold screen_inside
            cases decide (r.X ≥ 0) <;> cases decide (r.Y ≥ 0) <;> cases decide (w64 (r.X + r.W) ≤ w) <;> exact ⟨_, rfl⟩
          simp only [cond_true, cond_false, Option.bind_some, bne_self_eq_false, hb]
          cases b with
          | false => exact ⟨_, rfl, rfl⟩
          | true =>
            simp only [Bool.not_true, cond_false]
            have hl : (List.range q.toNat).length ≤ 1000000000000 := by simp; omega
            obtain ⟨s', h1, _⟩ := forL_inv (body := fun k x s => screen_Turned_L1 k x s) (s := (w, h, r.X, r.Y, r.W, r.H)) (fun _ _ => True) hl (fun k x s _ _ _ => ⟨_, rfl, trivial⟩) trivial
            rw [h1]
            exact ⟨_, rfl, rfl⟩
theorem quo_ok {a b : Int} (h : badS b = false) : ∃ q, quoO .i64 a b = some q := by
  have := outB_f h
  exact ⟨_, by unfold quoO; rw [if_neg (by omega)]⟩
theorem scale_eq (r : Rect) (w h tw th : Int) : ∃ a, screen_Scale r w h tw th = some a ∧ ref_ScaleOf r w h tw th = some a := by
  unfold screen_Scale ref_ScaleOf
  rw [checkRect_eq, rectFault_eq, sides4, side_eq, side_eq, side_eq, side_eq, show ref_within r w h = screen_inside r w h from rfl, show ref_scaled r w h tw th = screen_scale r w h tw th from rfl]
  simp only [Option.bind_some, Bool.not_not]
  cases badR r with
  | true => exact ⟨_, rfl, rfl⟩
  | false =>
    cases hw : badS w with
    | true => exact ⟨_, rfl, rfl⟩
    | false =>
      cases hh : badS h with
      | true => exact ⟨_, rfl, rfl⟩
      | false =>
        cases badS tw with
        | true => exact ⟨_, rfl, rfl⟩
        | false =>
          cases badS th with
          | true => exact ⟨_, rfl, rfl⟩
          | false =>
            obtain ⟨b, hb⟩ : ∃ b, screen_inside r w h = some b := by
              unfold screen_inside
              cases decide (r.X ≥ 0) <;> cases decide (r.Y ≥ 0) <;> cases decide (w64 (r.X + r.W) ≤ w) <;> exact ⟨_, rfl⟩
            obtain ⟨a, ha⟩ : ∃ a, screen_scale r w h tw th = some a := by
              unfold screen_scale
              obtain ⟨q1, h1⟩ := quo_ok (a := w64 (r.X * tw)) hw
              obtain ⟨q2, h2⟩ := quo_ok (a := w64 (r.Y * th)) hh
              obtain ⟨q3, h3⟩ := quo_ok (a := w64 (w64 (r.X + r.W) * tw)) hw
              obtain ⟨q4, h4⟩ := quo_ok (a := w64 (w64 (r.Y + r.H) * th)) hh
              simp only [h1, h2, h3, h4, Option.bind_some]
              cases (w64 (q3 - q1)) == 0 <;> cases (w64 (q4 - q2)) == 0 <;> exact ⟨_, rfl⟩
            simp only [cond_true, cond_false, Option.bind_some, bne_self_eq_false, hb, Bool.or_self, ha]
            cases b <;> exact ⟨_, rfl, rfl⟩
theorem middle_self (w h : Int) : ref_middle w h w h = some ⟨0, 0, w, h⟩ := by
  unfold ref_middle
  have e : ∀ x : Int, w64 ((w64 (x - x)).tdiv 2) = 0 := fun x => by rw [show x - x = 0 by omega]; rfl
  rw [e, e]
theorem fit_eq (w h tw th how : Int) : ∃ a, screen_Fit w h tw th how = some a ∧ ref_FitOf w h tw th how = some a := by
  unfold screen_Fit ref_FitOf
  rw [sides4, side_eq, side_eq, side_eq, side_eq, middle_self, middle_self, show @ref_middle = @screen_middle from rfl]
  simp only [Option.bind_some, Bool.not_not]
  cases hw : badS w with
  | true => exact ⟨_, rfl, rfl⟩
  | false =>
    cases hh : badS h with
    | true => exact ⟨_, rfl, rfl⟩
    | false =>
      cases htw : badS tw with
      | true => exact ⟨_, rfl, rfl⟩
      | false =>
        cases hth : badS th with
        | true => exact ⟨_, rfl, rfl⟩
        | false =>
          obtain ⟨q1, h1⟩ := quo_ok (a := w64 (h * tw)) hw
          obtain ⟨q2, h2⟩ := quo_ok (a := w64 (w * th)) hh
          obtain ⟨q3, h3⟩ := quo_ok (a := w64 (h * tw)) hth
          obtain ⟨q4, h4⟩ := quo_ok (a := w64 (w * th)) htw
          simp only [h1, h2, h3, h4, Option.bind_some, cond_true, cond_false, Bool.or_self, bne_self_eq_false, screen_middle]
          cases e1 : how == 1 with
          | true =>
            have : how = 1 := eq_of_beq e1
            subst this
            exact ⟨_, rfl, rfl⟩
          | false =>
            have hn : (how != 1) = true := by simp [bne, e1]
            simp only [hn, cond_true, cond_false]
            cases how == 2 <;> cases how == 3 <;> cases decide (w64 (w * th) ≥ w64 (h * tw)) <;> exact ⟨_, rfl, rfl⟩
end Go.Proofs.Ytodfcleaapnklaa.Law
