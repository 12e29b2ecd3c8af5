import Derived.Test.YtkjnmkompibhgaaPlSuit
/-
  PLAIN LEMMAS: the office: spots and campaigns, and the first fault.
-/
open Go Go.Eng
namespace Go.Proofs.Ytkjnmkompibhgaa.Law
set_option linter.unusedVariables false
set_option linter.unusedSimpArgs false

def or0 (a b : Int) : Int := bif a == 0 then b else a
theorem errs2 (a b : Int) : law_errs [a, b] = some (or0 a b) := by
  unfold law_errs or0
  rw [forL_eq (by simp)]
  simp only [forR, law_errs_L1]
  cases ha : a == 0 with
  | false =>
    have : (a != 0) = true := by simp [bne, ha]
    simp only [this, cond_true, cond_false, Option.bind_some, thenC]
  | true =>
    have : (a != 0) = false := by simp [bne, ha]
    simp only [this, cond_true, cond_false, Option.bind_some]
    cases hb : b == 0 with
    | false =>
      have : (b != 0) = true := by simp [bne, hb]
      simp only [this, cond_true, Option.bind_some, thenC]
    | true =>
      have : (b != 0) = false := by simp [bne, hb]
      simp only [this, cond_false, Option.bind_some, thenC]
      rw [eq_of_beq hb]

theorem both_eq (x : List Spot) (c : List Campaign) (hx : ∀ s ∈ x, GoodS s) (hc : ∀ s ∈ c, GoodC s) (h1 : x.length ≤ 1000) (h2 : c.length ≤ 1000) : booking_checkBoth x c = some (or0 (spotsF x) (campsF c)) := by
  unfold booking_checkBoth or0
  rw [spotsK x hx (by omega), campsK c hc (by omega)]
  simp only [Option.bind_some]
  cases h : spotsF x == 0 with
  | true => have : (spotsF x != 0) = false := by simp [bne, h]
            simp only [this, cond_false, cond_true]
  | false => have : (spotsF x != 0) = true := by simp [bne, h]
             simp only [this, cond_true, cond_false]

theorem spotStp_0 {last : ByteArray} {x : Spot} (h : spotStp last x = 0) : tagsF x.Tags = 0 := by
  unfold spotStp at h
  generalize (badT x.Time || out x.Room 1000000) = q at h
  generalize sLe x.Key last = p at h
  generalize keyB x.Key = k at h
  cases k <;> cases p <;> cases q <;> first | (cases h; done) | exact h
theorem chk_spots : ∀ (l : List Spot) (last : ByteArray), chk Spot.Key spotStp last l = 0 → ∀ x ∈ l, tagsF x.Tags = 0
  | [], _, _, x, hx => by simp at hx
  | y :: l, last, h, x, hx => by
    rw [chk] at h
    cases he : spotStp last y == 0 with
    | false => rw [he] at h; simp only [cond_false] at h; rw [h] at he; cases he
    | true =>
      rw [he] at h
      simp only [cond_true] at h
      rcases List.mem_cons.1 hx with rfl | hx
      · exact spotStp_0 (eq_of_beq he)
      · exact chk_spots l _ h x hx
theorem spotsF_0 {l : List Spot} (h : spotsF l = 0) : ∀ x ∈ l, tagsF x.Tags = 0 := by
  unfold spotsF at h
  by_cases hl : l.length > 60
  · rw [decide_eq_true hl] at h; cases h
  · rw [decide_eq_false hl] at h; exact chk_spots l _ h

theorem booked_ok : law_booked = some true := by
  unfold law_booked booking_Due
  rw [campsK _ (by intro x hx; simp only [List.mem_singleton] at hx; subst hx; exact ⟨short_lit rfl, short_lit rfl, by simp, by simp⟩) (by simp)]
  have : campsF [(⟨(⟨#[97]⟩ : ByteArray), (⟨#[]⟩ : ByteArray), (⟨0, 100⟩ : Window), ([] : List ByteArray), 10, 0, 0⟩ : Campaign)] = 0 := by decide +kernel
  rw [this]
  simp only [Option.bind_some]
  decide +kernel

theorem office_ok (s : Stream) (hs : Ok s 0) : ∃ x c e s', law_office s = some (x, c, e, s') ∧ (∀ y ∈ x, GoodS y) ∧ x.length ≤ 5 ∧ (∀ y ∈ c, GoodC y) ∧ c.length ≤ 4 ∧ e = or0 (spotsF x) (campsF c) ∧ Ok s' 400 := by
  obtain ⟨x, s1, h1, h2, h3, h4⟩ := spots_ok s hs (by decide)
  obtain ⟨c, s2, h5, h6, h7, h8⟩ := campaigns_ok s1 4 (by decide) h2 (by decide)
  refine ⟨x, c, _, s2, ?_, h4, h3, h8, h7, rfl, h6⟩
  simp only [law_office, h1, h5, spotsR x h4 (by omega), campsR c h8 (by omega), errs2, Option.bind_some]

end Go.Proofs.Ytkjnmkompibhgaa.Law
