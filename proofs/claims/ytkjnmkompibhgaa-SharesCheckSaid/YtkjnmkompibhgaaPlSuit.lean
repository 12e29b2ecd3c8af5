import Derived.Test.YtkjnmkompibhgaaPlCheck
/-
  PLAIN LEMMAS: whether a spot suits a campaign.
-/
open Go Go.Eng
namespace Go.Proofs.Ytkjnmkompibhgaa.Law
set_option linter.unusedVariables false
set_option linter.unusedSimpArgs false

def memB (v : ByteArray) (l : List ByteArray) : Bool := l.any fun x => decide (v = x)
theorem memB_iff {v : ByteArray} {l : List ByteArray} : memB v l = true ↔ v ∈ l := by simp [memB]
theorem memB_f {v : ByteArray} {l : List ByteArray} (h : v ∉ l) : memB v l = false := by
  cases hb : memB v l with
  | false => rfl
  | true => exact absurd (memB_iff.1 hb) h
theorem index_run (l : List ByteArray) (v : ByteArray) : ∀ (xs : List ByteArray) (k : Nat), ∃ o, forR (fun k x s => slices_Index_string_string_L1 v k x s) xs k () = some o ∧ ∃ r : Int, thenC o (fun _ => some (-1)) (fun r => some r) = some r ∧ decide (r ≥ 0) = memB v xs
  | [], k => ⟨.go (), rfl, -1, rfl, by simp [memB]⟩
  | x :: xs, k => by
    have hst : slices_Index_string_string_L1 v k x () = some (bif decide (v = x) then .ret (k : Int) else .go ()) := by
      simp only [slices_Index_string_string_L1, sEq_dec]; cases decide (v = x) <;> rfl
    rw [forR, hst, Option.bind_some]
    by_cases h : v = x
    · simp only [decide_eq_true h, cond_true]
      exact ⟨_, rfl, _, rfl, by simp [memB, h]⟩
    · simp only [decide_eq_false h, cond_false]
      obtain ⟨o, h1, r, h2, h3⟩ := index_run l v xs (k + 1)
      exact ⟨o, h1, r, h2, by rw [h3]; simp [memB, h]⟩
theorem contains_eq (l : List ByteArray) (v : ByteArray) (hl : l.length ≤ 1000000) : slices_Contains_string_string l v = some (memB v l) := by
  obtain ⟨o, h1, r, h2, h3⟩ := index_run l v l 0
  unfold slices_Contains_string_string slices_Index_string_string
  rw [forL_eq (by omega), h1, Option.bind_some, h2, Option.bind_some, h3]
theorem containsF_eq (l : List ByteArray) (f : ByteArray → Option Bool) (p : ByteArray → Bool) (hf : ∀ x ∈ l, f x = some (p x)) (hl : l.length ≤ 1000000) : slices_ContainsFunc_string_string l f = some (l.any p) := by
  have run : ∀ (xs : List ByteArray) (k : Nat), (∀ x ∈ xs, f x = some (p x)) → ∃ o, forR (fun k x s => slices_IndexFunc_string_string_L1 f k x s) xs k () = some o ∧ ∃ r : Int, thenC o (fun _ => some (-1)) (fun r => some r) = some r ∧ decide (r ≥ 0) = xs.any p := by
    intro xs
    induction xs with
    | nil => exact fun k _ => ⟨.go (), rfl, -1, rfl, by simp⟩
    | cons x xs ih =>
      intro k hf
      have hst : slices_IndexFunc_string_string_L1 f k x () = some (bif p x then .ret (k : Int) else .go ()) := by
        simp only [slices_IndexFunc_string_string_L1, hf x (by simp), Option.bind_some]; cases p x <;> rfl
      rw [forR, hst, Option.bind_some]
      cases hp : p x with
      | true => exact ⟨_, rfl, _, rfl, by simp [hp]⟩
      | false =>
        simp only [cond_false]
        obtain ⟨o, h1, r, h2, h3⟩ := ih (k + 1) (fun y hy => hf y (by simp [hy]))
        exact ⟨o, h1, r, h2, by rw [h3]; simp [hp]⟩
  obtain ⟨o, h1, r, h2, h3⟩ := run l 0 hf
  unfold slices_ContainsFunc_string_string slices_IndexFunc_string_string
  rw [forL_eq (by omega), h1, Option.bind_some, h2, Option.bind_some, h3]

/-! ### the search in a list that rises -/
def Rises (l : List ByteArray) : Prop := ∀ i j (hi : i < l.length) (hj : j < l.length), i < j → lt l[i] l[j]
theorem chk_rises : ∀ (l : List ByteArray) (last : ByteArray), chk id tagStp last l = 0 → Rises l ∧ ∀ x ∈ l, lt last x
  | [], last, h => ⟨fun i j hi => absurd hi (Nat.not_lt_zero i), by simp⟩
  | x :: xs, last, h => by
    rw [chk] at h
    cases he : tagStp last x == 0 with
    | false => rw [he] at h; simp only [cond_false] at h; rw [h] at he; cases he
    | true =>
      rw [he] at h
      simp only [cond_true, id] at h
      obtain ⟨h1, h2⟩ := chk_rises xs x h
      have hx : lt last x := by
        unfold tagStp at he
        cases hk : keyB x with
        | false => rw [hk] at he; cases he
        | true =>
          cases hl : sLe x last with
          | true => rw [hk, hl] at he; cases he
          | false =>
            have := mt (sLe_iff x last).2 (by rw [hl]; simp)
            exact Classical.not_not.1 this
      refine ⟨fun i j hi hj hij => ?_, fun y hy => ?_⟩
      · cases i with
        | zero => cases j with
          | zero => omega
          | succ j => exact h2 _ (List.getElem_mem _)
        | succ i => cases j with
          | zero => omega
          | succ j => exact h1 i j (by simpa using hi) (by simpa using hj) (by omega)
      · rcases List.mem_cons.1 hy with rfl | hy
        · exact hx
        · exact lt_trans hx (h2 y hy)
theorem tagsF_0 {l : List ByteArray} (h : tagsF l = 0) : l.length ≤ 20 ∧ Rises l := by
  unfold tagsF at h
  by_cases hl : l.length > 20
  · rw [decide_eq_true hl] at h; cases h
  · rw [decide_eq_false hl] at h
    exact ⟨by omega, (chk_rises l nilS h).1⟩

theorem less_eq (x y : ByteArray) : cmp_Less_string x y = some (sLt x y) := by
  unfold cmp_Less_string cmp_isNaN_string
  have : sNe x x = false := by rw [sNe_dec]; simp
  rw [this]; rfl
theorem half (i j : Nat) (h : i ≤ 1000000 ∧ j ≤ 1000000) : shrO .u64 (IntKind.u64.wrap (w64 ((i : Int) + (j : Int)))) 1 = some (((i + j) / 2 : Nat) : Int) := by
  have e1 : w64 ((i : Int) + j) = ((i + j : Nat) : Int) := by rw [w64_id (by omega)]; omega
  have e2 : IntKind.u64.wrap ((i + j : Nat) : Int) = ((i + j : Nat) : Int) := IntWalk.u64_in _ (by omega)
  rw [e1, e2]
  unfold shrO
  rw [if_neg (by omega)]
  congr 1
  show Int.fdiv _ (2 ^ 1) = _
  rw [Int.fdiv_eq_ediv_of_nonneg _ (by decide)]
  omega

/-- What is known of the two ends. -/
structure Ends (l : List ByteArray) (t : ByteArray) (i j : Nat) : Prop where
  le : i ≤ j
  len : j ≤ l.length
  lo : ∀ k (h : k < l.length), k < i → lt l[k] t
  hi : ∀ k (h : k < l.length), j ≤ k → ¬ lt l[k] t
theorem bs_step (l : List ByteArray) (t : ByteArray) (i j : Nat) (hij : i < j) (hm : (i + j) / 2 < l.length) (hl : j ≤ 1000) :
    slices_BinarySearch_string_string_L1 l t ((i : Int), (j : Int)) = some (bif sLt l[(i + j) / 2] t then .go ((((i + j) / 2 + 1 : Nat) : Int), (j : Int)) else .go ((i : Int), (((i + j) / 2 : Nat) : Int))) := by
  have e1 : decide ((i : Int) < (j : Int)) = true := by simp; omega
  have ew : w64 (((i + j) / 2 : Nat) : Int) = (((i + j) / 2 : Nat) : Int) := w64_id (by omega)
  have ew2 : w64 ((((i + j) / 2 : Nat) : Int) + 1) = (((i + j) / 2 + 1 : Nat) : Int) := by rw [w64_id (by omega)]; omega
  simp only [slices_BinarySearch_string_string_L1, e1, cond_true, half i j (by omega), Option.bind_some, ew, ew2, idx_nat, List.getElem?_eq_getElem hm, less_eq]
  cases sLt l[(i + j) / 2] t <;> rfl
theorem bs_iter (l : List ByteArray) (t : ByteArray) (hr : Rises l) (hl : l.length ≤ 1000) : ∀ (d i j : Nat), j - i ≤ d → Ends l t i j → ∃ m : Nat, iterN (fun s => slices_BinarySearch_string_string_L1 l t s) (d + 1) ((i : Int), (j : Int)) = some (.go ((m : Int), (m : Int))) ∧ Ends l t m m
  | d, i, j, hd, he => by
    have hlen := he.len
    have hle := he.le
    by_cases hij : i < j
    · have hm : (i + j) / 2 < l.length := by omega
      rw [iterN, bs_step l t i j hij hm (by omega), Option.bind_some]
      cases d with
      | zero => omega
      | succ d =>
        cases hc : sLt l[(i + j) / 2] t with
        | true =>
          have hlt := (sLt_iff _ _).1 hc
          simp only [cond_true]
          refine bs_iter l t hr hl d ((i + j) / 2 + 1) j (by omega) ⟨by omega, hlen, fun k hk hki => ?_, he.hi⟩
          rcases Nat.lt_or_ge k ((i + j) / 2) with h | h
          · exact lt_trans (hr k _ hk hm h) hlt
          · have : k = (i + j) / 2 := by omega
            subst this; exact hlt
        | false =>
          have hlt := mt (sLt_iff _ _).2 (by rw [hc]; simp)
          simp only [cond_false]
          refine bs_iter l t hr hl d i ((i + j) / 2) (by omega) ⟨by omega, by omega, he.lo, fun k hk hki => ?_⟩
          rcases Nat.lt_or_ge ((i + j) / 2) k with h | h
          · exact fun hx => hlt (lt_trans (hr _ k hm hk h) hx)
          · have : k = (i + j) / 2 := by omega
            subst this; exact hlt
    · have e1 : decide ((i : Int) < (j : Int)) = false := by simp; omega
      have : i = j := by omega
      subst this
      have hst : slices_BinarySearch_string_string_L1 l t ((i : Int), (i : Int)) = some (.brk ((i : Int), (i : Int))) := by simp only [slices_BinarySearch_string_string_L1, e1, cond_false]
      rw [iterN, hst, Option.bind_some]
      exact ⟨i, rfl, he⟩
theorem bs_eq (l : List ByteArray) (t : ByteArray) (hr : Rises l) (hl : l.length ≤ 1000) : ∃ i : Int, slices_BinarySearch_string_string l t = some (i, memB t l) := by
  obtain ⟨m, h1, h2⟩ := bs_iter l t hr hl l.length 0 l.length (by omega) ⟨by omega, Nat.le_refl _, fun k _ h => absurd h (Nat.not_lt_zero k), fun k hk h => absurd h (by omega)⟩
  have h3 := iter_loopO h1
  refine ⟨m, ?_⟩
  unfold slices_BinarySearch_string_string
  have h4 : loopO ((0 : Int), (l.length : Int)) (fun s => slices_BinarySearch_string_string_L1 l t s) = some (Ctl.go ((m : Int), (m : Int))) := h3
  rw [h4, Option.bind_some, thenC_go]
  have key : t ∈ l ↔ ∃ h : m < l.length, l[m] = t := by
    constructor
    · intro hm
      obtain ⟨k, hk, he⟩ := List.getElem_of_mem hm
      have hk1 : ¬ k < m := fun h => by have := h2.lo k hk h; rw [he] at this; exact lt_irr _ this
      have hml : m < l.length := by omega
      refine ⟨hml, ?_⟩
      rcases Nat.lt_or_ge m k with h | h
      · have h5 := hr m k hml hk h
        rw [he] at h5
        exact absurd h5 (h2.hi m hml (Nat.le_refl _))
      · have : k = m := by omega
        subst this; exact he
    · rintro ⟨h, he⟩
      rw [← he]; exact List.getElem_mem _
  by_cases hml : m < l.length
  · have e1 : decide ((m : Int) < (l.length : Int)) = true := by simp; omega
    simp only [e1, cond_true, idx_nat, List.getElem?_eq_getElem hml, Option.bind_some, sEq_dec]
    have hn : slices_isNaN_string l[m] = some false := by
      unfold slices_isNaN_string; rw [sNe_dec]; simp
    rw [hn]
    by_cases he : l[m] = t
    · simp only [decide_eq_true he, cond_true, Option.bind_some, memB_iff.2 (key.2 ⟨hml, he⟩)]
    · simp only [decide_eq_false he, cond_false, Option.bind_some, memB_f (fun h => he (key.1 h).2)]
  · have e1 : decide ((m : Int) < (l.length : Int)) = false := by simp; omega
    simp only [e1, cond_false, Option.bind_some]
    rw [memB_f (fun h => hml (key.1 h).1)]

def suitB (c : Campaign) (s : Spot) : Bool := (decide (c.Time.From ≤ s.Time.From) && decide (s.Time.To ≤ c.Time.To)) && !(c.Tags.any fun t => !memB t s.Tags)
theorem suitsR (c : Campaign) (s : Spot) (h1 : c.Tags.length ≤ 1000) (h2 : s.Tags.length ≤ 1000) : ref_SuitsOf c s = some (suitB c s) := by
  unfold ref_SuitsOf suitB
  rw [containsF_eq c.Tags (fun x0 => ref_SuitsOf_1 x0 s) (fun t => !memB t s.Tags) (fun x _ => by simp only [ref_SuitsOf_1, contains_eq _ _ (show s.Tags.length ≤ 1000000 by omega), Option.bind_some]) (by omega)]
  cases decide (c.Time.From ≤ s.Time.From) <;> cases decide (s.Time.To ≤ c.Time.To) <;> simp
theorem suitsK (c : Campaign) (s : Spot) (h1 : c.Tags.length ≤ 1000) (h2 : tagsF s.Tags = 0) : booking_suits c s = some (suitB c s) := by
  obtain ⟨hl, hr⟩ := tagsF_0 h2
  have run : ∀ (xs : List ByteArray) (k : Nat), forR (fun k x u => booking_suits_L1 s k x u) xs k () = some (bif xs.any (fun t => !memB t s.Tags) then .ret false else .go ()) := by
    intro xs
    induction xs with
    | nil => exact fun k => rfl
    | cons x xs ih =>
      intro k
      obtain ⟨i, hb⟩ := bs_eq s.Tags x hr (by omega)
      have hst : booking_suits_L1 s k x () = some (bif memB x s.Tags then .go () else .ret false) := by
        simp only [booking_suits_L1, hb, Option.bind_some]; cases memB x s.Tags <;> rfl
      rw [forR, hst, Option.bind_some, List.any_cons]
      cases memB x s.Tags with
      | true => simp only [Bool.not_true, cond_true, Bool.false_or]; exact ih (k + 1)
      | false => rfl
  unfold booking_suits suitB
  rw [forL_eq (by omega), run]
  have e1 : decide (s.Time.From < c.Time.From) = !decide (c.Time.From ≤ s.Time.From) := by rw [Bool.eq_iff_iff]; simp
  have e2 : decide (s.Time.To > c.Time.To) = !decide (s.Time.To ≤ c.Time.To) := by rw [Bool.eq_iff_iff]; simp
  rw [e1, e2]
  cases decide (c.Time.From ≤ s.Time.From) <;> cases decide (s.Time.To ≤ c.Time.To) <;> cases (c.Tags.any fun t => !memB t s.Tags) <;> rfl
end Go.Proofs.Ytkjnmkompibhgaa.Law
