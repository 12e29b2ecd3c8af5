import Derived.Test.YtkjnmkompibhgaaPlSuit
/-
  PLAIN LAW: BookingsCheck is true of every stream.
-/
open Go Go.Eng
namespace Go.Proofs.Ytkjnmkompibhgaa.Law
set_option linter.unusedVariables false
set_option linter.unusedSimpArgs false

def or0 (a b : Int) : Int := bif a == 0 then b else a
theorem errs2 (a b : Int) : law_errs [a, b] = some (or0 a b) := by
  unfold law_errs or0
  rw [forL_eq (by simp)]
  simp only [forR, law_errs_L1]
  cases ha : a == 0 with
  | false =>
    have : (a != 0) = true := by simp [bne, ha]
    simp only [this, cond_true, cond_false, Option.bind_some, thenC]
  | true =>
    have : (a != 0) = false := by simp [bne, ha]
    simp only [this, cond_true, cond_false, Option.bind_some]
    cases hb : b == 0 with
    | false =>
      have : (b != 0) = true := by simp [bne, hb]
      simp only [this, cond_true, Option.bind_some, thenC]
    | true =>
      have : (b != 0) = false := by simp [bne, hb]
      simp only [this, cond_false, Option.bind_some, thenC]
      rw [eq_of_beq hb]

theorem both_eq (x : List Spot) (c : List Campaign) (hx : ∀ s ∈ x, GoodS s) (hc : ∀ s ∈ c, GoodC s) (h1 : x.length ≤ 1000) (h2 : c.length ≤ 1000) : booking_checkBoth x c = some (or0 (spotsF x) (campsF c)) := by
  unfold booking_checkBoth or0
  rw [spotsK x hx (by omega), campsK c hc (by omega)]
  simp only [Option.bind_some]
  cases h : spotsF x == 0 with
  | true => have : (spotsF x != 0) = false := by simp [bne, h]
            simp only [this, cond_false, cond_true]
  | false => have : (spotsF x != 0) = true := by simp [bne, h]
             simp only [this, cond_true, cond_false]

theorem spotStp_0 {last : ByteArray} {x : Spot} (h : spotStp last x = 0) : tagsF x.Tags = 0 := by
  unfold spotStp at h
  generalize (badT x.Time || out x.Room 1000000) = q at h
  generalize sLe x.Key last = p at h
  generalize keyB x.Key = k at h
  cases k <;> cases p <;> cases q <;> first | (cases h; done) | exact h
theorem chk_spots : ∀ (l : List Spot) (last : ByteArray), chk Spot.Key spotStp last l = 0 → ∀ x ∈ l, tagsF x.Tags = 0
  | [], _, _, x, hx => by simp at hx
  | y :: l, last, h, x, hx => by
    rw [chk] at h
    cases he : spotStp last y == 0 with
    | false => rw [he] at h; simp only [cond_false] at h; rw [h] at he; cases he
    | true =>
      rw [he] at h
      simp only [cond_true] at h
      rcases List.mem_cons.1 hx with rfl | hx
      · exact spotStp_0 (eq_of_beq he)
      · exact chk_spots l _ h x hx
theorem spotsF_0 {l : List Spot} (h : spotsF l = 0) : ∀ x ∈ l, tagsF x.Tags = 0 := by
  unfold spotsF at h
  by_cases hl : l.length > 60
  · rw [decide_eq_true hl] at h; cases h
  · rw [decide_eq_false hl] at h; exact chk_spots l _ h

theorem suits_eq (c : Campaign) (s : Spot) (hc : GoodC c) (hs : GoodS s) : booking_Suits c s = some (bif or0 (spotsF [s]) (campsF [c]) == 0 then (suitB c s, 0) else (false, or0 (spotsF [s]) (campsF [c]))) := by
  unfold booking_Suits
  rw [both_eq [s] [c] (by simpa using hs) (by simpa using hc) (by simp) (by simp), Option.bind_some]
  cases h : or0 (spotsF [s]) (campsF [c]) == 0 with
  | false =>
    have : (or0 (spotsF [s]) (campsF [c]) != 0) = true := by simp [bne, h]
    simp only [this, cond_true, cond_false]
  | true =>
    have : (or0 (spotsF [s]) (campsF [c]) != 0) = false := by simp [bne, h]
    simp only [this, cond_true, cond_false]
    have h0 : spotsF [s] = 0 := by
      have h1 := eq_of_beq h
      unfold or0 at h1
      cases h2 : spotsF [s] == 0 with
      | true => exact eq_of_beq h2
      | false => rw [h2] at h1; exact h1
    rw [suitsK c s (by have := hc.2.2.1; omega) (spotsF_0 h0 s (by simp)), Option.bind_some]

def addR (c : Campaign) (_ : Nat) (s : Spot) (n : Int) : Ctl Int Unit := .go (bif suitB c s then w64 (n + minI s.Room c.Most) else n)
theorem room_eq (x : List Spot) (c : Campaign) (hx : ∀ s ∈ x, GoodS s) (hc : GoodC c) (hl : x.length ≤ 1000) :
    ∃ n, booking_Room x c = some (bif or0 (spotsF x) (campsF [c]) == 0 then (n, 0) else (0, or0 (spotsF x) (campsF [c]))) ∧ ref_RoomOf x c = some n := by
  have hr : ref_RoomOf x c = thenC (runR (addR c) x 0 0) (fun s => some s) (fun _ => none) := by
    unfold ref_RoomOf
    rw [forL_run (addR c) (by omega) (fun k s n hs => by
      obtain ⟨_, g, _⟩ := hx s hs
      simp only [ref_RoomOf_L1, suitsR c s (by have := hc.2.2.1; omega) (by omega), Option.bind_some, addR]
      cases suitB c s <;> rfl), Option.bind_some]
  have hgo : ∀ (xs : List Spot) (k : Nat) (n : Int), ∃ m, runR (addR c) xs k n = .go m := by
    intro xs
    induction xs with
    | nil => exact fun k n => ⟨n, rfl⟩
    | cons y xs ih => exact fun k n => by simp only [runR, addR]; exact ih _ _
  obtain ⟨m, hm⟩ := hgo x 0 0
  rw [hm, thenC_go] at hr
  refine ⟨m, ?_, hr⟩
  unfold booking_Room
  rw [both_eq x [c] hx (by simpa using hc) hl (by simp), Option.bind_some]
  cases h : or0 (spotsF x) (campsF [c]) == 0 with
  | false =>
    have : (or0 (spotsF x) (campsF [c]) != 0) = true := by simp [bne, h]
    simp only [this, cond_true, cond_false]
  | true =>
    have : (or0 (spotsF x) (campsF [c]) != 0) = false := by simp [bne, h]
    simp only [this, cond_true, cond_false]
    have h0 : spotsF x = 0 := by
      have h1 := eq_of_beq h
      unfold or0 at h1
      cases h2 : spotsF x == 0 with
      | true => exact eq_of_beq h2
      | false => rw [h2] at h1; exact h1
    rw [forL_run (addR c) (by omega) (fun k s n hs => by
      simp only [booking_Room_L1, suitsK c s (by have := hc.2.2.1; omega) (spotsF_0 h0 s hs), Option.bind_some, addR]
      cases suitB c s <;> rfl), Option.bind_some, hm, thenC_go]

theorem booked_ok : law_booked = some true := by
  unfold law_booked booking_Due
  rw [campsK _ (by intro x hx; simp only [List.mem_singleton] at hx; subst hx; exact ⟨short_lit rfl, short_lit rfl, by simp, by simp⟩) (by simp)]
  have : campsF [(⟨(⟨#[97]⟩ : ByteArray), (⟨#[]⟩ : ByteArray), (⟨0, 100⟩ : Window), ([] : List ByteArray), 10, 0, 0⟩ : Campaign)] = 0 := by decide +kernel
  rw [this]
  simp only [Option.bind_some]
  decide +kernel

theorem law_L1 (c : Campaign) (s : Spot) (k : Nat) (hc : GoodC c) (hs : GoodS s) : law_BookingsCheck_L1 c k s () = some (.go ()) := by
  have hss : ∀ x ∈ [s], GoodS x := by simpa using hs
  have hcc : ∀ x ∈ [c], GoodC x := by simpa using hc
  simp only [law_BookingsCheck_L1, suits_eq c s hc hs, spotsR [s] hss (by simp), campsR [c] hcc (by simp), errs2, Option.bind_some, suitsR c s (by have := hc.2.2.1; omega) (by have := hs.2.1; omega)]
  generalize hv : or0 (spotsF [s]) (campsF [c]) = e
  cases he : e == 0 with
  | true =>
    have e0 : e = 0 := eq_of_beq he
    subst e0
    simp only [cond_true]
    cases suitB c s <;> rfl
  | false =>
    simp only [cond_false]
    have : (e != e) = false := by simp
    rw [this]; rfl
theorem law_L2 (r : List Spot × List Campaign × Int × Stream) (c : Campaign) (k : Nat) (hx : ∀ s ∈ r.1, GoodS s) (hl : r.1.length ≤ 1000) (hc : GoodC c) : law_BookingsCheck_L2 r k c () = some (.go ()) := by
  have hcc : ∀ x ∈ [c], GoodC x := by simpa using hc
  obtain ⟨n, h1, h2⟩ := room_eq r.1 c hx hc hl
  have hin : forL r.1 () (fun k x s => law_BookingsCheck_L1 c k x s) = some (.go ()) := by
    rw [forL_run (fun _ _ _ => .go ()) (by omega) (fun k s u hs => law_L1 c s k hc (hx s hs))]
    have : ∀ (xs : List Spot) (k : Nat), runR (σ := Unit) (ρ := Bool) (fun _ _ _ => .go ()) xs k () = .go () := by
      intro xs
      induction xs with
      | nil => exact fun _ => rfl
      | cons y xs ih => exact fun k => ih _
    rw [this]
  simp only [law_BookingsCheck_L2, spotsR r.1 hx (by omega), campsR [c] hcc (by simp), errs2, h1, h2, hin, Option.bind_some, thenC_go]
  generalize hv : or0 (spotsF r.1) (campsF [c]) = e
  cases he : e == 0 with
  | true =>
    have e0 : e = 0 := eq_of_beq he
    subst e0
    simp only [cond_true, Option.bind_some]
    have : (n != n) = false := by simp
    simp only [this]
    rfl
  | false =>
    simp only [cond_false, Option.bind_some]
    have : (e != e) = false := by simp
    rw [this]; rfl

theorem office_ok (s : Stream) (hs : Ok s 0) : ∃ x c e s', law_office s = some (x, c, e, s') ∧ (∀ y ∈ x, GoodS y) ∧ x.length ≤ 5 ∧ (∀ y ∈ c, GoodC y) ∧ c.length ≤ 4 ∧ e = or0 (spotsF x) (campsF c) ∧ Ok s' 400 := by
  obtain ⟨x, s1, h1, h2, h3, h4⟩ := spots_ok s hs (by decide)
  obtain ⟨c, s2, h5, h6, h7, h8⟩ := campaigns_ok s1 4 (by decide) h2 (by decide)
  refine ⟨x, c, _, s2, ?_, h4, h3, h8, h7, rfl, h6⟩
  simp only [law_office, h1, h5, spotsR x h4 (by omega), campsR c h8 (by omega), errs2, Option.bind_some]

theorem bookingsCheck (l : List Int) : law_BookingsCheck l = some true := by
  obtain ⟨x, c, e, s', h1, h2, h3, h4, h5, h6, _⟩ := office_ok ⟨l, 0⟩ ⟨Int.le_refl _, Int.le_refl _⟩
  have hout : forL c () (fun k y s => law_BookingsCheck_L2 (x, c, e, s') k y s) = some (.go ()) := by
    rw [forL_run (fun _ _ _ => .go ()) (by omega) (fun k y u hy => law_L2 (x, c, e, s') y k h2 (by show x.length ≤ 1000; omega) (h4 y hy))]
    have : ∀ (xs : List Campaign) (k : Nat), runR (σ := Unit) (ρ := Bool) (fun _ _ _ => .go ()) xs k () = .go () := by
      intro xs
      induction xs with
      | nil => exact fun _ => rfl
      | cons y xs ih => exact fun k => ih _
    rw [this]
  have e1 : (spotsF x != spotsF x) = false := by simp
  have e2 : (campsF c != campsF c) = false := by simp
  simp only [law_BookingsCheck, h1, spotsK x h2 (by omega), spotsR x h2 (by omega), campsK c h4 (by omega), campsR c h4 (by omega), e1, e2, hout, cond_false, Option.bind_some, thenC_go, booked_ok]
end Go.Proofs.Ytkjnmkompibhgaa.Law
