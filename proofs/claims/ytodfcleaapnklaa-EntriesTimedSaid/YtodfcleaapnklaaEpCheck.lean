import Derived.Test.YtodfcleaapnklaaEpKey
import Derived.Test.YtodfcleaapnklaaEpGen
/-
  PLAIN LEMMAS: the checks of entries, players and windows.
-/
open Go Go.Eng
namespace Go.Proofs.Ytodfcleaapnklaa.Law
set_option linter.unusedVariables false
set_option linter.unusedSimpArgs false

def nilS : ByteArray := ⟨#[]⟩
/-- What stands before. -/
def prevK {α : Type} (key : α → ByteArray) (l : List α) (k : Nat) : ByteArray := if k = 0 then nilS else match l[k - 1]? with | some y => key y | none => nilS
/-- A list checked one by one, each with the key before. -/
def chk {α : Type} (key : α → ByteArray) (stp : ByteArray → α → Int) : ByteArray → List α → Int
  | _, [] => 0
  | last, x :: xs => bif stp last x == 0 then chk key stp (key x) xs else stp last x
def outC (e : Int) : Ctl Unit Int := bif e == 0 then .go () else .ret e

theorem chk_prev {α : Type} {key : α → ByteArray} {stp : ByteArray → α → Int} {body : Nat → α → Unit → Option (Ctl Unit Int)} (l : List α) : ∀ (xs : List α) (k : Nat), l.drop k = xs → (∀ k x, l[k]? = some x → body k x () = some (outC (stp (prevK key l k) x))) →
    forR body xs k () = some (outC (chk key stp (prevK key l k) xs))
  | [], k, h, hb => rfl
  | x :: xs, k, h, hb => by
    have hg := drop_get h
    rw [forR, hb k x hg, Option.bind_some, chk]
    cases he : stp (prevK key l k) x == 0 with
    | true =>
      simp only [outC, he, cond_true]
      rw [chk_prev l xs (k + 1) (drop_next h) hb]
      have : prevK key l (k + 1) = key x := by simp [prevK, hg]
      rw [this]; rfl
    | false => simp only [outC, he, cond_false]
theorem chk_last {α : Type} {key : α → ByteArray} {stp : ByteArray → α → Int} {body : Nat → α → ByteArray → Option (Ctl ByteArray Int)} : ∀ (xs : List α) (k : Nat) (last : ByteArray), (∀ k x last, x ∈ xs → body k x last = some (bif stp last x == 0 then .go (key x) else .ret (stp last x))) →
    ∃ o, forR body xs k last = some o ∧ thenC o (fun _ => some (0 : Int)) (fun r => some r) = some (chk key stp last xs)
  | [], k, last, hb => ⟨_, rfl, rfl⟩
  | x :: xs, k, last, hb => by
    rw [forR, hb k x last (by simp), Option.bind_some, chk]
    cases he : stp last x == 0 with
    | true => exact chk_last xs (k + 1) (key x) (fun k y last hy => hb k y last (by simp [hy]))
    | false => exact ⟨_, rfl, rfl⟩
theorem outC_then (e : Int) : thenC (outC e) (fun _ => some (0 : Int)) (fun r => some r) = some e := by
  unfold outC
  cases h : e == 0 with
  | true => simp only [cond_true, thenC_go]; rw [eq_of_beq h]
  | false => rfl

/-! ### tags -/
def tagStp (last x : ByteArray) : Int := bif !keyB x then 5 else bif sLe x last then 7 else 0
def tagsF (l : List ByteArray) : Int := bif decide (l.length > 20) then 2 else chk id tagStp nilS l

theorem idx_prev {α : Type} {l : List α} {k : Nat} {x : α} (h : l[k]? = some x) (hk : 0 < k) (hl : l.length ≤ 1000000000) : ∃ y, idx l (w64 ((k : Int) - 1)) = some y ∧ l[k - 1]? = some y := by
  have hlt : k < l.length := (List.getElem?_eq_some_iff.1 h).1
  rw [w64_id (by omega), show (k : Int) - 1 = ((k - 1 : Nat) : Int) by omega, idx_nat]
  exact ⟨l[k - 1], List.getElem?_eq_getElem (by omega), List.getElem?_eq_getElem (by omega)⟩

/-- The test 'i > 0 && key <= key before': what stands before the first is the empty string. -/
theorem prev_test {α : Type} {key : α → ByteArray} {l : List α} {k : Nat} {x : α} {s : ByteArray} (h : l[k]? = some x) (hl : l.length ≤ 1000000000) (hs : s.size ≠ 0) :
    (bif decide ((k : Int) > 0) then (idx l (w64 ((k : Int) - 1))).bind fun y => some (sLe s (key y)) else some false) = some (sLe s (prevK key l k)) := by
  by_cases hk : 0 < k
  · obtain ⟨y, h1, h2⟩ := idx_prev h hk hl
    have hd : decide ((k : Int) > 0) = true := by simp; omega
    simp only [hd, cond_true, h1, Option.bind_some, prevK, if_neg (show ¬ k = 0 by omega), h2]
  · have hk0 : k = 0 := by omega
    subst hk0
    simp only [prevK, if_pos, nilS, sLe_nil, decide_eq_false hs]
    rfl

theorem tagsK (l : List ByteArray) (hs : ∀ t ∈ l, Short t) (hl : l.length ≤ 1000000000) : schedule_tagsFault l = some (tagsF l) := by
  unfold schedule_tagsFault tagsF
  have e : decide ((l.length : Int) > 20) = decide (l.length > 20) := decide_eq_decide.2 (by omega)
  rw [e]
  cases decide (l.length > 20) with
  | true => rfl
  | false =>
    simp only [cond_false]
    unfold kit_RisingFault
    rw [forL_eq (by omega), chk_prev (key := id) (stp := tagStp) l l 0 rfl (fun k x hx => ?_)]
    · simp only [Option.bind_some, outC_then]; rfl
    · have hxs : Short x := hs x (List.mem_of_getElem? hx)
      simp only [kit_RisingFault_L1, isKey_eq x (by unfold Short at hxs; omega), Option.bind_some, tagStp]
      cases hk : keyB x with
      | false => rfl
      | true =>
        simp only [Bool.not_true, cond_false]
        have := prev_test (key := id) hx hl (keyB_ne hk)
        simp only [id] at this
        rw [this, Option.bind_some]
        cases sLe x (prevK id l k) <;> rfl
theorem tagsR (l : List ByteArray) (hs : ∀ t ∈ l, Short t) (hl : l.length ≤ 1000000000) : ref_TagsFault l = some (tagsF l) := by
  unfold ref_TagsFault tagsF
  have e : decide ((l.length : Int) > 20) = decide (l.length > 20) := decide_eq_decide.2 (by omega)
  rw [e]
  cases decide (l.length > 20) with
  | true => rfl
  | false =>
    simp only [cond_false]
    unfold ref_risingFault
    rw [forL_eq (by omega), chk_prev (key := id) (stp := tagStp) l l 0 rfl (fun k x hx => ?_)]
    · simp only [Option.bind_some, outC_then]; rfl
    · have hxs : Short x := hs x (List.mem_of_getElem? hx)
      simp only [ref_risingFault_L1, refKey_eq x (by unfold Short at hxs; omega), Option.bind_some, tagStp]
      cases hk : keyB x with
      | false => rfl
      | true =>
        simp only [Bool.not_true, cond_false]
        have := prev_test (key := id) hx hl (keyB_ne hk)
        simp only [id] at this
        rw [this, Option.bind_some]
        cases sLe x (prevK id l k) <;> rfl


/-! ### days that are left out -/
def chkG {α : Type} (stp : Option α → α → Int) : Option α → List α → Int
  | _, [] => 0
  | p, x :: xs => bif stp p x == 0 then chkG stp (some x) xs else stp p x
def prevO {α : Type} (l : List α) (k : Nat) : Option α := if k = 0 then none else l[k - 1]?
theorem chkG_prev {α : Type} {stp : Option α → α → Int} {body : Nat → α → Unit → Option (Ctl Unit Int)} (l : List α) : ∀ (xs : List α) (k : Nat), l.drop k = xs → (∀ k x, l[k]? = some x → body k x () = some (outC (stp (prevO l k) x))) →
    forR body xs k () = some (outC (chkG stp (prevO l k) xs))
  | [], k, h, hb => rfl
  | x :: xs, k, h, hb => by
    have hg := drop_get h
    rw [forR, hb k x hg, Option.bind_some, chkG]
    cases he : stp (prevO l k) x == 0 with
    | true =>
      simp only [outC, he, cond_true]
      rw [chkG_prev l xs (k + 1) (drop_next h) hb]
      have : prevO l (k + 1) = some x := by simp [prevO, hg]
      rw [this]; rfl
    | false => simp only [outC, he, cond_false]
def outB (n lo hi : Int) : Bool := decide (n < lo) || decide (n > hi)
theorem outside_eq (n lo hi : Int) : kit_Outside n lo hi = some (outB n lo hi) := by
  unfold kit_Outside outB
  cases decide (n < lo) <;> cases decide (n > hi) <;> rfl
theorem in_eq (n lo hi : Int) : ref_in n lo hi = some (!outB n lo hi) := by
  unfold ref_in outB
  have e1 : decide (lo ≤ n) = !decide (n < lo) := by rw [Bool.eq_iff_iff]; simp
  have e2 : decide (n ≤ hi) = !decide (n > hi) := by rw [Bool.eq_iff_iff]; simp
  rw [e1, e2]
  cases decide (n < lo) <;> cases decide (n > hi) <;> rfl
def leP (p : Option Int) (x : Int) : Bool := match p with
  | none => false
  | some y => decide (x ≤ y)
def exStp (p : Option Int) (x : Int) : Int := bif outB x 0 4000 then 1 else bif leP p x then 7 else 0
def exF (l : List Int) : Int := bif decide (l.length > 100) then 2 else chkG exStp none l
theorem prevI_test {l : List Int} {k : Nat} {x : Int} (h : l[k]? = some x) (hl : l.length ≤ 1000000000) :
    (bif decide ((k : Int) > 0) then (idx l (w64 ((k : Int) - 1))).bind fun y => some (decide (x ≤ y)) else some false) = some (leP (prevO l k) x) := by
  by_cases hk : 0 < k
  · obtain ⟨y, h1, h2⟩ := idx_prev h hk hl
    have hd : decide ((k : Int) > 0) = true := by simp; omega
    simp only [hd, cond_true, h1, Option.bind_some, prevO, if_neg (show ¬ k = 0 by omega), h2, leP]
  · have hk0 : k = 0 := by omega
    subst hk0
    rfl
theorem isDay_eq (n : Int) : kit_IsDay n = some (!outB n 0 4000) := by
  unfold kit_IsDay outB
  have e1 : decide (n ≥ 0) = !decide (n < 0) := by rw [Bool.eq_iff_iff]; simp
  have e2 : decide (n ≤ 4000) = !decide (n > 4000) := by rw [Bool.eq_iff_iff]; simp
  rw [e1, e2]
  cases decide (n < 0) <;> cases decide (n > 4000) <;> rfl
theorem exK (l : List Int) (hl : l.length ≤ 1000000000) : schedule_exceptFault l = some (exF l) := by
  unfold schedule_exceptFault exF
  have e : decide ((l.length : Int) > 100) = decide (l.length > 100) := decide_eq_decide.2 (by omega)
  rw [e]
  cases decide (l.length > 100) with
  | true => rfl
  | false =>
    simp only [cond_false]
    rw [forL_eq (by omega), chkG_prev (stp := exStp) l l 0 rfl (fun k x hx => ?_)]
    · simp only [Option.bind_some, outC_then]; rfl
    · simp only [schedule_exceptFault_L1, isDay_eq, Option.bind_some, exStp]
      cases outB x 0 4000 with
      | true => rfl
      | false =>
        simp only [Bool.not_false, Bool.not_true, cond_false]
        rw [prevI_test hx hl, Option.bind_some]
        cases leP (prevO l k) x <;> rfl

/-! ### entries -/
def entF (e : Entry) : Int :=
  bif !keyB e.Key || !keyB e.Item then 5 else
  bif outB e.Version 0 1000000 || (outB e.First 0 e.Last || (decide (e.Last > 4000) || (outB e.Every 1 400 || outB e.Days 1 127))) then 1 else
  bif exF e.Except == 0 then (bif outB e.From 0 1439 || (outB e.To 0 1439 || outB e.Prio 0 9) then 1 else tagsF e.Tags) else exF e.Except
theorem entK (e : Entry) (h : GoodE e) : schedule_entryFault e = some (entF e) := by
  obtain ⟨h1, h2, h3, h4, h5⟩ := h
  unfold Short at h1 h2
  unfold schedule_entryFault entF
  simp only [isKey_eq e.Key (by omega), isKey_eq e.Item (by omega), outside_eq, exK e.Except (by omega), tagsK e.Tags h5 (by omega), Option.bind_some]
  cases keyB e.Key with
  | false => rfl
  | true =>
  cases keyB e.Item with
  | false => rfl
  | true =>
  simp only [Bool.not_true, cond_false, Option.bind_some, Bool.or_self, Bool.false_or]
  cases outB e.Version 0 1000000 with
  | true => rfl
  | false =>
  cases outB e.First 0 e.Last with
  | true => rfl
  | false =>
  cases decide (e.Last > 4000) with
  | true => rfl
  | false =>
  cases outB e.Every 1 400 with
  | true => rfl
  | false =>
  cases outB e.Days 1 127 with
  | true => rfl
  | false =>
  simp only [cond_false, Option.bind_some, Bool.or_self]
  cases hx : exF e.Except == 0 with
  | false =>
    have : (exF e.Except != 0) = true := by simp [bne, hx]
    simp only [this, cond_true, cond_false]
  | true =>
    have : (exF e.Except != 0) = false := by simp [bne, hx]
    simp only [this, cond_true, cond_false]
    cases outB e.From 0 1439 with
    | true => rfl
    | false =>
    cases outB e.To 0 1439 with
    | true => rfl
    | false =>
    cases outB e.Prio 0 9 with
    | true => rfl
    | false => rfl
theorem entR (e : Entry) (h : GoodE e) : ref_entryFault e = some (entF e) := by
  obtain ⟨h1, h2, h3, h4, h5⟩ := h
  unfold Short at h1 h2
  unfold ref_entryFault entF
  simp only [refKey_eq e.Key (by omega), refKey_eq e.Item (by omega), in_eq, tagsR e.Tags h5 (by omega), Option.bind_some, Bool.not_not]
  cases keyB e.Key with
  | false => rfl
  | true =>
  cases keyB e.Item with
  | false => rfl
  | true =>
  simp only [Bool.not_true, cond_false, Option.bind_some, Bool.or_self, Bool.false_or]
  cases outB e.Version 0 1000000 with
  | true => rfl
  | false =>
  cases outB e.First 0 e.Last with
  | true => rfl
  | false =>
  cases decide (e.Last > 4000) with
  | true => rfl
  | false =>
  cases outB e.Every 1 400 with
  | true => rfl
  | false =>
  cases outB e.Days 1 127 with
  | true => rfl
  | false =>
  simp only [cond_false, Option.bind_some, Bool.or_self]
  have el : decide ((e.Except.length : Int) > 100) = decide (e.Except.length > 100) := decide_eq_decide.2 (by omega)
  rw [el]
  unfold exF
  cases decide (e.Except.length > 100) with
  | true => rfl
  | false =>
  simp only [cond_false]
  rw [forL_eq (by omega), chkG_prev (stp := exStp) e.Except e.Except 0 rfl (fun k x hx => ?_)]
  · simp only [Option.bind_some]
    show thenC (outC (chkG exStp none e.Except)) _ _ = _
    unfold outC
    cases hx : chkG exStp none e.Except == 0 with
    | false => rfl
    | true =>
      simp only [cond_true, thenC_go]
      cases outB e.From 0 1439 with
      | true => rfl
      | false =>
      cases outB e.To 0 1439 with
      | true => rfl
      | false =>
      cases outB e.Prio 0 9 with
      | true => rfl
      | false => rfl
  · simp only [ref_entryFault_L1, in_eq, Option.bind_some, exStp]
    cases outB x 0 4000 with
    | true => rfl
    | false =>
      simp only [Bool.not_false, Bool.not_true, cond_false]
      rw [prevI_test hx (by omega), Option.bind_some]
      cases leP (prevO e.Except k) x <;> rfl
theorem entF_key {e : Entry} (h : entF e = 0) : e.Key.size ≠ 0 := by
  unfold entF at h
  cases hk : keyB e.Key with
  | false => rw [hk] at h; cases h
  | true => exact keyB_ne hk
theorem oneK (e : Entry) (h : GoodE e) : schedule_CheckEntries [e] = some (entF e) := by
  unfold schedule_CheckEntries
  have : decide ((([e] : List Entry).length : Int) > 200) = false := rfl
  rw [this, cond_false, forL_eq (by simp)]
  simp only [forR, schedule_CheckEntries_L1, entK e h, Option.bind_some]
  cases hx : entF e == 0 with
  | false =>
    have : (entF e != 0) = true := by simp [bne, hx]
    simp only [this, cond_true, Option.bind_some, thenC_ret]
  | true =>
    have : (entF e != 0) = false := by simp [bne, hx]
    rw [eq_of_beq hx]
    rfl
theorem oneR (e : Entry) (h : GoodE e) : ref_EntriesFault [e] = some (entF e) := by
  unfold ref_EntriesFault
  have : decide ((([e] : List Entry).length : Int) > 200) = false := rfl
  rw [this, cond_false, forL_eq (by simp)]
  simp only [forR, ref_EntriesFault_L1, entR e h, Option.bind_some]
  cases hx : entF e == 0 with
  | false =>
    have : (entF e != 0) = true := by simp [bne, hx]
    simp only [this, cond_true, Option.bind_some, thenC_ret]
  | true =>
    have : (entF e != 0) = false := by simp [bne, hx]
    have hk := entF_key (eq_of_beq hx)
    simp only [this, cond_false, sLe_nil, decide_eq_false hk, Option.bind_some, thenC_go]
    rw [eq_of_beq hx]

/-! ### players and windows -/
def playF (p : Player) : Int := bif !keyB p.Key || !keyB p.Screen then 5 else bif outB p.Zone (-1440) 1440 then 1 else tagsF p.Tags
theorem playK (p : Player) (h : GoodP p) : schedule_CheckPlayer p = some (playF p) := by
  obtain ⟨h1, h2, h4, h5⟩ := h
  unfold Short at h1 h2
  unfold schedule_CheckPlayer playF
  simp only [isKey_eq p.Key (by omega), isKey_eq p.Screen (by omega), outside_eq, tagsK p.Tags h5 (by omega), Option.bind_some]
  cases keyB p.Key with
  | false => rfl
  | true =>
  cases keyB p.Screen with
  | false => rfl
  | true => cases outB p.Zone (-1440) 1440 <;> rfl
theorem playR (p : Player) (h : GoodP p) : ref_PlayerFault p = some (playF p) := by
  obtain ⟨h1, h2, h4, h5⟩ := h
  unfold Short at h1 h2
  unfold ref_PlayerFault playF
  simp only [refKey_eq p.Key (by omega), refKey_eq p.Screen (by omega), in_eq, tagsR p.Tags h5 (by omega), Option.bind_some]
  cases keyB p.Key with
  | false => rfl
  | true =>
  cases keyB p.Screen with
  | false => rfl
  | true => cases outB p.Zone (-1440) 1440 <;> rfl
def winF (w : Window) : Int := bif outB w.From 0 w.To || decide (w.To > 345686400000) then 1 else bif decide (w64 (w.To - w.From) > 34560000000) then 2 else 0
theorem winK (w : Window) : schedule_windowFault w = some (winF w) := by
  unfold schedule_windowFault winF
  simp only [outside_eq, Option.bind_some]
  cases outB w.From 0 w.To with
  | true => rfl
  | false =>
  cases decide (w.To > 345686400000) with
  | true => rfl
  | false => cases decide (w64 (w.To - w.From) > 34560000000) <;> rfl
theorem winR (w : Window) : ref_SpanFault w = some (winF w) := by
  unfold ref_SpanFault ref_WindowFault winF
  simp only [in_eq, Option.bind_some]
  cases outB w.From 0 w.To with
  | true => rfl
  | false =>
  cases decide (w.To > 345686400000) with
  | true => rfl
  | false => cases decide (w64 (w.To - w.From) > 34560000000) <;> rfl

/-! ### the first fault -/
def or0 (a b : Int) : Int := bif a == 0 then b else a
theorem errs2 (a b : Int) : law_errs [a, b] = some (or0 a b) := by
  unfold law_errs or0
  rw [forL_eq (by simp)]
  simp only [forR, law_errs_L1]
  cases ha : a == 0 with
  | false =>
    have : (a != 0) = true := by simp [bne, ha]
    simp only [this, cond_true, cond_false, Option.bind_some, thenC]
  | true =>
    have : (a != 0) = false := by simp [bne, ha]
    simp only [this, cond_true, cond_false, Option.bind_some]
    cases hb : b == 0 with
    | false =>
      have : (b != 0) = true := by simp [bne, hb]
      simp only [this, cond_true, Option.bind_some, thenC]
    | true =>
      have : (b != 0) = false := by simp [bne, hb]
      simp only [this, cond_false, Option.bind_some, thenC]
      rw [eq_of_beq hb]


theorem errs3 (a b c : Int) : law_errs [a, b, c] = some (or0 a (or0 b c)) := by
  unfold law_errs or0
  rw [forL_eq (by simp)]
  simp only [forR, law_errs_L1]
  cases ha : a == 0 with
  | false =>
    have : (a != 0) = true := by simp [bne, ha]
    simp only [this, cond_true, cond_false, Option.bind_some, thenC]
  | true =>
    have : (a != 0) = false := by simp [bne, ha]
    simp only [this, cond_true, cond_false, Option.bind_some]
    cases hb : b == 0 with
    | false =>
      have : (b != 0) = true := by simp [bne, hb]
      simp only [this, cond_true, cond_false, Option.bind_some, thenC]
    | true =>
      have : (b != 0) = false := by simp [bne, hb]
      simp only [this, cond_true, cond_false, Option.bind_some]
      cases hc : c == 0 with
      | false =>
        have : (c != 0) = true := by simp [bne, hc]
        simp only [this, cond_true, cond_false, Option.bind_some, thenC]
      | true =>
        have : (c != 0) = false := by simp [bne, hc]
        simp only [this, cond_true, cond_false, Option.bind_some, thenC]
        rw [eq_of_beq hc]
end Go.Proofs.Ytodfcleaapnklaa.Law
