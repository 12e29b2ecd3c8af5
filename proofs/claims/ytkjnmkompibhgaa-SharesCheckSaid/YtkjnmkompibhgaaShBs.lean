import Derived.Test.YtkjnmkompibhgaaPlOffice
/-
  PLAIN LEMMAS: searches by key in a list that rises.
-/
open Go Go.Eng
namespace Go.Proofs.Ytkjnmkompibhgaa.Law
set_option linter.unusedVariables false
set_option linter.unusedSimpArgs false

def RisesK {α : Type} (key : α → ByteArray) (l : List α) : Prop := ∀ i j (hi : i < l.length) (hj : j < l.length), i < j → lt (key l[i]) (key l[j])
theorem chk_risesK {α : Type} {key : α → ByteArray} {stp : ByteArray → α → Int} (hs : ∀ last x, stp last x = 0 → lt last (key x)) : ∀ (l : List α) (last : ByteArray), chk key stp last l = 0 → RisesK key l ∧ ∀ x ∈ l, lt last (key x)
  | [], last, h => ⟨fun i j hi => absurd hi (Nat.not_lt_zero i), by simp⟩
  | x :: xs, last, h => by
    rw [chk] at h
    cases he : stp last x == 0 with
    | false => rw [he] at h; simp only [cond_false] at h; rw [h] at he; cases he
    | true =>
      rw [he] at h
      simp only [cond_true] at h
      obtain ⟨h1, h2⟩ := chk_risesK hs xs (key x) h
      have hx : lt last (key x) := hs last x (eq_of_beq he)
      refine ⟨fun i j hi hj hij => ?_, fun y hy => ?_⟩
      · cases i with
        | zero => cases j with
          | zero => omega
          | succ j => exact h2 _ (List.getElem_mem _)
        | succ i => cases j with
          | zero => omega
          | succ j => exact h1 i j (by simpa using hi) (by simpa using hj) (by omega)
      · rcases List.mem_cons.1 hy with rfl | hy
        · exact hx
        · exact lt_trans hx (h2 y hy)
theorem spot_lt (last : ByteArray) (x : Spot) (h : spotStp last x = 0) : lt last x.Key := by
  unfold spotStp at h
  cases hl : sLe x.Key last with
  | true =>
    rw [hl] at h
    generalize keyB x.Key = k at h
    cases k <;> cases h
  | false => exact Classical.not_not.1 (mt (sLe_iff x.Key last).2 (by rw [hl]; simp))
theorem camp_lt (last : ByteArray) (x : Campaign) (h : campStp last x = 0) : lt last x.Key := by
  unfold campStp at h
  cases hl : sLe x.Key last with
  | true =>
    rw [hl] at h
    cases hq : (!keyB x.Key || decide (x.Class.size ≠ 0) && !keyB x.Class) with
    | true => rw [hq] at h; cases h
    | false => rw [hq] at h; cases h
  | false => exact Classical.not_not.1 (mt (sLe_iff x.Key last).2 (by rw [hl]; simp))
theorem spots_rise {l : List Spot} (h : spotsF l = 0) : RisesK Spot.Key l ∧ l.length ≤ 60 := by
  unfold spotsF at h
  by_cases hl : l.length > 60
  · rw [decide_eq_true hl] at h; cases h
  · rw [decide_eq_false hl] at h; exact ⟨(chk_risesK spot_lt l nilS h).1, by omega⟩
theorem camps_rise {l : List Campaign} (h : campsF l = 0) : RisesK Campaign.Key l ∧ l.length ≤ 30 := by
  unfold campsF at h
  by_cases hl : l.length > 30
  · rw [decide_eq_true hl] at h; cases h
  · rw [decide_eq_false hl] at h; exact ⟨(chk_risesK camp_lt l nilS h).1, by omega⟩

/-- The place of a key. -/
def findI {α : Type} (key : α → ByteArray) (t : ByteArray) : List α → Option Nat
  | [] => none
  | x :: xs => if key x = t then some 0 else (findI key t xs).map (· + 1)
theorem findI_some {α : Type} {key : α → ByteArray} {t : ByteArray} : ∀ {l : List α} {j : Nat}, findI key t l = some j → ∃ h : j < l.length, key l[j] = t
  | x :: xs, j, h => by
    simp only [findI] at h
    split at h
    · rename_i he
      simp only [Option.some.injEq] at h; subst h
      exact ⟨by simp, he⟩
    · simp only [Option.map_eq_some_iff] at h
      obtain ⟨i, hi, rfl⟩ := h
      obtain ⟨h1, h2⟩ := findI_some hi
      exact ⟨by simpa using h1, by simpa using h2⟩
theorem findI_none {α : Type} {key : α → ByteArray} {t : ByteArray} : ∀ {l : List α}, findI key t l = none → ∀ x ∈ l, key x ≠ t
  | [], _ => fun x hx => by cases hx
  | x :: xs, h => by
    simp only [findI] at h
    split at h
    · cases h
    · rename_i he
      simp only [Option.map_eq_none_iff] at h
      intro y hy
      rcases List.mem_cons.1 hy with rfl | hy
      · exact he
      · exact findI_none h y hy
theorem rises_uniq {α : Type} {key : α → ByteArray} {l : List α} (h : RisesK key l) {i j : Nat} (hi : i < l.length) (hj : j < l.length) (he : key l[i] = key l[j]) : i = j := by
  rcases Nat.lt_trichotomy i j with hlt | heq | hgt
  · have := h i j hi hj hlt; rw [he] at this; exact absurd this (lt_irr _)
  · exact heq
  · have := h j i hj hi hgt; rw [he] at this; exact absurd this (lt_irr _)

theorem cmpB_spec (a b : ByteArray) : (lt a b ∧ cmpB a b = -1) ∨ (a = b ∧ cmpB a b = 0) ∨ (lt b a ∧ cmpB a b = 1) := by
  have key : ∀ (x y : List UInt8), (x < y ∧ Lib.compareBytes x y = -1) ∨ (x = y ∧ Lib.compareBytes x y = 0) ∨ (y < x ∧ Lib.compareBytes x y = 1) := by
    intro x
    induction x with
    | nil => intro y; cases y with
      | nil => exact .inr (.inl ⟨rfl, rfl⟩)
      | cons b y => exact .inl ⟨by simp, rfl⟩
    | cons a x ih => intro y; cases y with
      | nil => exact .inr (.inr ⟨by simp, rfl⟩)
      | cons b y =>
        simp only [Lib.compareBytes, List.cons_lt_cons_iff, List.cons.injEq]
        by_cases h1 : a < b
        · exact .inl ⟨.inl h1, by rw [if_pos h1]⟩
        · by_cases h2 : b < a
          · exact .inr (.inr ⟨.inl h2, by rw [if_neg h1, if_pos h2]⟩)
          · have e : a = b := UInt8.le_antisymm (UInt8.not_lt.1 h2) (UInt8.not_lt.1 h1)
            subst e
            rw [if_neg h1, if_neg h1]
            rcases ih y with ⟨h, k⟩ | ⟨h, k⟩ | ⟨h, k⟩
            · exact .inl ⟨.inr ⟨rfl, h⟩, k⟩
            · exact .inr (.inl ⟨⟨rfl, h⟩, k⟩)
            · exact .inr (.inr ⟨.inr ⟨rfl, h⟩, k⟩)
  unfold cmpB lt
  rw [toL, toL]
  rcases key a.data.toList b.data.toList with ⟨h, k⟩ | ⟨h, k⟩ | ⟨h, k⟩
  · exact .inl ⟨h, k⟩
  · exact .inr (.inl ⟨str_ext (by rw [toL, toL]; exact h), k⟩)
  · exact .inr (.inr ⟨h, k⟩)

/-! ### BinarySearchFunc -/
def bsfBody {α : Type} (x : List α) (cmp : α → ByteArray → Option Int) (t : ByteArray) (s : Int × Int) : Option (Ctl (Int × Int) Unit) :=
  bif (decide (s.1 < s.2)) then (shrO .u64 (IntKind.u64.wrap (w64 (s.1 + s.2))) 1).bind fun q => (idx x (w64 q)).bind fun y => (cmp y t).bind fun r => bif (decide (r < 0)) then some (.go ((w64 ((w64 q) + 1)), s.2)) else some (.go (s.1, (w64 q))) else some (.brk (s.1, s.2))
noncomputable def bsfF {α : Type} (x : List α) (t : ByteArray) (cmp : α → ByteArray → Option Int) : Option (Int × Bool) :=
  (loopO (0, (x.length : Int)) (fun s => bsfBody x cmp t s)).bind fun o => thenC o (fun s_9 => (bif (decide (s_9.1 < (x.length : Int))) then (idx x s_9.1).bind fun y_25 => (cmp y_25 t).bind fun r_27 => some (r_27 == 0) else some false).bind fun v_22 => some (s_9.1, v_22)) (fun _ => none)
structure EndsK {α : Type} (key : α → ByteArray) (l : List α) (t : ByteArray) (i j : Nat) : Prop where
  le : i ≤ j
  len : j ≤ l.length
  lo : ∀ k (h : k < l.length), k < i → lt (key l[k]) t
  hi : ∀ k (h : k < l.length), j ≤ k → ¬ lt (key l[k]) t
section
variable {α : Type} {key : α → ByteArray} {cmp : α → ByteArray → Option Int}
theorem cmp_neg (hc : ∀ y t, cmp y t = some (cmpB (key y) t)) (y : α) (t : ByteArray) : ∃ r, cmp y t = some r ∧ (r < 0 ↔ lt (key y) t) ∧ (r = 0 ↔ key y = t) := by
  refine ⟨_, hc y t, ?_⟩
  rcases cmpB_spec (key y) t with ⟨h, k⟩ | ⟨h, k⟩ | ⟨h, k⟩
  · rw [k]; exact ⟨by simp [h], ⟨fun h' => (by cases h'), fun e => absurd (e ▸ h) (lt_irr _)⟩⟩
  · rw [k]; exact ⟨⟨fun h' => (by cases h'), fun h' => absurd (h ▸ h') (lt_irr _)⟩, by simp [h]⟩
  · rw [k]; exact ⟨⟨fun h' => (by cases h'), fun h' => absurd (lt_trans h h') (lt_irr _)⟩, ⟨fun h' => (by cases h'), fun e => absurd (e ▸ h) (lt_irr _)⟩⟩
theorem bsf_iter (hc : ∀ y t, cmp y t = some (cmpB (key y) t)) (l : List α) (t : ByteArray) (hr : RisesK key l) (hl : l.length ≤ 1000) : ∀ (d i j : Nat), j - i ≤ d → EndsK key l t i j → ∃ m : Nat, iterN (fun s => bsfBody l cmp t s) (d + 1) ((i : Int), (j : Int)) = some (.go ((m : Int), (m : Int))) ∧ EndsK key l t m m
  | d, i, j, hd, he => by
    have hlen := he.len
    have hle := he.le
    by_cases hij : i < j
    · have hm : (i + j) / 2 < l.length := by omega
      obtain ⟨r, hr1, hr2, _⟩ := cmp_neg hc l[(i + j) / 2] t
      have e1 : decide ((i : Int) < (j : Int)) = true := by simp; omega
      have ew : w64 (((i + j) / 2 : Nat) : Int) = (((i + j) / 2 : Nat) : Int) := w64_id (by omega)
      have ew2 : w64 ((((i + j) / 2 : Nat) : Int) + 1) = (((i + j) / 2 + 1 : Nat) : Int) := by rw [w64_id (by omega)]; omega
      have hst : bsfBody l cmp t ((i : Int), (j : Int)) = some (bif decide (r < 0) then .go ((((i + j) / 2 + 1 : Nat) : Int), (j : Int)) else .go ((i : Int), (((i + j) / 2 : Nat) : Int))) := by
        simp only [bsfBody, e1, cond_true, half i j (by omega), Option.bind_some, ew, ew2, idx_nat, List.getElem?_eq_getElem hm, hr1]
        cases decide (r < 0) <;> rfl
      rw [iterN, hst, Option.bind_some]
      cases d with
      | zero => omega
      | succ d =>
        by_cases hneg : r < 0
        · have hlt := hr2.1 hneg
          simp only [decide_eq_true hneg, cond_true]
          refine bsf_iter hc l t hr hl d ((i + j) / 2 + 1) j (by omega) ⟨by omega, hlen, fun k hk hki => ?_, he.hi⟩
          rcases Nat.lt_or_ge k ((i + j) / 2) with h | h
          · exact lt_trans (hr k _ hk hm h) hlt
          · have : k = (i + j) / 2 := by omega
            subst this; exact hlt
        · have hlt := mt hr2.2 hneg
          simp only [decide_eq_false hneg, cond_false]
          refine bsf_iter hc l t hr hl d i ((i + j) / 2) (by omega) ⟨by omega, by omega, he.lo, fun k hk hki => ?_⟩
          rcases Nat.lt_or_ge ((i + j) / 2) k with h | h
          · exact fun hx => hlt (lt_trans (hr _ k hm hk h) hx)
          · have : k = (i + j) / 2 := by omega
            subst this; exact hlt
    · have e1 : decide ((i : Int) < (j : Int)) = false := by simp; omega
      have : i = j := by omega
      subst this
      have hst : bsfBody l cmp t ((i : Int), (i : Int)) = some (.brk ((i : Int), (i : Int))) := by simp only [bsfBody, e1, cond_false]
      rw [iterN, hst, Option.bind_some]
      exact ⟨i, rfl, he⟩
theorem bsf_eq (hc : ∀ y t, cmp y t = some (cmpB (key y) t)) (l : List α) (t : ByteArray) (hr : RisesK key l) (hl : l.length ≤ 1000) : ∃ i : Int, bsfF l t cmp = some (i, (findI key t l).isSome) ∧ ∀ j, findI key t l = some j → i = (j : Int) := by
  obtain ⟨m, h1, h2⟩ := bsf_iter hc l t hr hl l.length 0 l.length (by omega) ⟨by omega, Nat.le_refl _, fun k _ h => absurd h (Nat.not_lt_zero k), fun k hk h => absurd h (by omega)⟩
  have h3 := iter_loopO h1
  have h4 : loopO ((0 : Int), (l.length : Int)) (fun s => bsfBody l cmp t s) = some (Ctl.go ((m : Int), (m : Int))) := h3
  have hat : ∀ j, findI key t l = some j → m = j := by
    intro j hj
    obtain ⟨hjl, hje⟩ := findI_some hj
    have hk1 : ¬ j < m := fun h => by have := h2.lo j hjl h; rw [hje] at this; exact lt_irr _ this
    rcases Nat.lt_or_ge m j with h | h
    · have h5 := hr m j (by omega) hjl h
      rw [hje] at h5
      exact absurd h5 (h2.hi m (by omega) (Nat.le_refl _))
    · omega
  refine ⟨m, ?_, fun j hj => by rw [hat j hj]⟩
  unfold bsfF
  rw [h4, Option.bind_some, thenC_go]
  by_cases hml : m < l.length
  · have e1 : decide ((m : Int) < (l.length : Int)) = true := by simp; omega
    obtain ⟨r, hr1, _, hr3⟩ := cmp_neg hc l[m] t
    simp only [e1, cond_true, idx_nat, List.getElem?_eq_getElem hml, Option.bind_some, hr1]
    congr 2
    rw [Bool.eq_iff_iff, beq_iff_eq, hr3]
    constructor
    · intro he
      cases hf : findI key t l with
      | none => exact absurd he (findI_none hf _ (List.getElem_mem hml))
      | some j => rfl
    · intro hs
      obtain ⟨j, hj⟩ := Option.isSome_iff_exists.1 hs
      obtain ⟨hjl, hje⟩ := findI_some hj
      have := hat j hj
      subst this; exact hje
  · have e1 : decide ((m : Int) < (l.length : Int)) = false := by simp; omega
    simp only [e1, cond_false, Option.bind_some]
    cases hf : findI key t l with
    | none => rfl
    | some j => have := hat j hf; obtain ⟨hjl, _⟩ := findI_some hf; omega
end
/-! ### IndexFunc -/
def ifBody {α : Type} (f : α → Option Bool) (k : Nat) (x : α) (s : Unit) : Option (Ctl Unit Int) := (f x).bind fun r => bif r then some (.ret (k : Int)) else some (.go ())
def ifF {α : Type} (l : List α) (f : α → Option Bool) : Option Int := (forL l () (fun k x s => ifBody f k x s)).bind fun o => thenC o (fun _ => some (-1)) (fun r => some r)
theorem ifF_eq {α : Type} {f : α → Option Bool} {key : α → ByteArray} {t : ByteArray} (l : List α) (hf : ∀ x ∈ l, f x = some (decide (key x = t))) (hl : l.length ≤ 1000000) : ifF l f = some (match findI key t l with | some j => (j : Int) | none => -1) := by
  have run : ∀ (xs : List α) (k : Nat), (∀ x ∈ xs, f x = some (decide (key x = t))) → forR (fun k x s => ifBody f k x s) xs k () = some (match findI key t xs with | some j => .ret ((k + j : Nat) : Int) | none => .go ()) := by
    intro xs
    induction xs with
    | nil => exact fun k _ => rfl
    | cons x xs ih =>
      intro k hf
      have hst : ifBody f k x () = some (bif decide (key x = t) then .ret (k : Int) else .go ()) := by
        simp only [ifBody, hf x (by simp), Option.bind_some]; cases decide (key x = t) <;> rfl
      rw [forR, hst, Option.bind_some, findI]
      by_cases he : key x = t
      · simp only [decide_eq_true he, cond_true, if_pos he]; rfl
      · simp only [decide_eq_false he, cond_false, if_neg he]
        rw [ih (k + 1) (fun y hy => hf y (by simp [hy]))]
        cases findI key t xs with
        | none => rfl
        | some j => simp only [Option.map_some]; rw [show k + 1 + j = k + (j + 1) by omega]
  unfold ifF
  rw [forL_eq (by omega), run l 0 hf, Option.bind_some]
  cases findI key t l with
  | none => rfl
  | some j => simp only [Nat.zero_add]; rfl
theorem ifAny {α : Type} {f : α → Option Bool} {p : α → Bool} (l : List α) (hf : ∀ x ∈ l, f x = some (p x)) (hl : l.length ≤ 1000000) : ∃ r, ifF l f = some r ∧ decide (r ≥ 0) = l.any p := by
  have run : ∀ (xs : List α) (k : Nat), (∀ x ∈ xs, f x = some (p x)) → ∃ o, forR (fun k x s => ifBody f k x s) xs k () = some o ∧ ∃ r : Int, thenC o (fun _ => some (-1)) (fun r => some r) = some r ∧ decide (r ≥ 0) = xs.any p := by
    intro xs
    induction xs with
    | nil => exact fun k _ => ⟨.go (), rfl, -1, rfl, by simp⟩
    | cons x xs ih =>
      intro k hf
      have hst : ifBody f k x () = some (bif p x then .ret (k : Int) else .go ()) := by
        simp only [ifBody, hf x (by simp), Option.bind_some]; cases p x <;> rfl
      rw [forR, hst, Option.bind_some]
      cases hp : p x with
      | true => exact ⟨_, rfl, _, rfl, by simp [hp]⟩
      | false =>
        simp only [cond_false]
        obtain ⟨o, h1, r, h2, h3⟩ := ih (k + 1) (fun y hy => hf y (by simp [hy]))
        exact ⟨o, h1, r, h2, by rw [h3]; simp [hp]⟩
  obtain ⟨o, h1, r, h2, h3⟩ := run l 0 hf
  refine ⟨r, ?_, h3⟩
  unfold ifF
  rw [forL_eq (by omega), h1, Option.bind_some, h2]
end Go.Proofs.Ytkjnmkompibhgaa.Law
