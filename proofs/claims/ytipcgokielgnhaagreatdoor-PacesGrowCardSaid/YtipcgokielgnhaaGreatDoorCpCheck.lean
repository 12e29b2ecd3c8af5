import Derived.Test.YtipcgokielgnhaaGreatDoorCpGen
import Derived.Test.YtipcgokielgnhaaGreatDoorCpKey
/-
  PLAIN LEMMAS: the checks of campaigns.
-/
open Go Go.Eng
namespace Go.Proofs.YtipcgokielgnhaaGreatDoor.Law
set_option linter.unusedVariables false
set_option linter.unusedSimpArgs false

def nilS : ByteArray := ⟨#[]⟩
def prevK {α : Type} (key : α → ByteArray) (l : List α) (k : Nat) : ByteArray := if k = 0 then nilS else match l[k - 1]? with | some y => key y | none => nilS
def chk {α : Type} (key : α → ByteArray) (stp : ByteArray → α → Int) : ByteArray → List α → Int
 | _, [] => 0
 | last, x :: xs => bif stp last x == 0 then chk key stp (key x) xs else stp last x
def outC (e : Int) : Ctl Unit Int := bif e == 0 then .go () else .ret e

theorem chk_prev {α : Type} {key : α → ByteArray} {stp : ByteArray → α → Int} {body : Nat → α → Unit → Option (Ctl Unit Int)} (l : List α) : ∀ (xs : List α) (k : Nat), l.drop k = xs → (∀ k x, l[k]? = some x → body k x () = some (outC (stp (prevK key l k) x))) →
  forR body xs k () = some (outC (chk key stp (prevK key l k) xs))
 | [], k, h, hb => rfl
 | x :: xs, k, h, hb => by
  have hg := drop_get h
  rw [forR, hb k x hg, Option.bind_some, chk]
  cases he : stp (prevK key l k) x == 0 with
  | true =>
   simp only [outC, he, cond_true]
   rw [chk_prev l xs (k + 1) (drop_next h) hb]
   have : prevK key l (k + 1) = key x := by simp [prevK, hg]
   rw [this]; rfl
  | false => simp only [outC, he, cond_false]
theorem outC_then (e : Int) : thenC (outC e) (fun _ => some (0 : Int)) (fun r => some r) = some e := by
 unfold outC
 cases h : e == 0 with
 | true => simp only [cond_true, thenC_go]; rw [eq_of_beq h]
 | false => rfl

def tagStp (last x : ByteArray) : Int := bif !keyB x then 5 else bif sLe x last then 7 else 0
def tagsF (l : List ByteArray) : Int := bif decide (l.length > 20) then 2 else chk id tagStp nilS l

theorem idx_prev {α : Type} {l : List α} {k : Nat} {x : α} (h : l[k]? = some x) (hk : 0 < k) (hl : l.length ≤ 1000000000) : ∃ y, idx l (w64 ((k : Int) - 1)) = some y ∧ l[k - 1]? = some y := by
 have hlt : k < l.length := (List.getElem?_eq_some_iff.1 h).1
 rw [w64_id (by omega), show (k : Int) - 1 = ((k - 1 : Nat) : Int) by omega, idx_nat]
 exact ⟨l[k - 1], List.getElem?_eq_getElem (by omega), List.getElem?_eq_getElem (by omega)⟩

theorem prev_test {α : Type} {key : α → ByteArray} {l : List α} {k : Nat} {x : α} {s : ByteArray} (h : l[k]? = some x) (hl : l.length ≤ 1000000000) (hs : s.size ≠ 0) :
  (bif decide ((k : Int) > 0) then (idx l (w64 ((k : Int) - 1))).bind fun y => some (sLe s (key y)) else some false) = some (sLe s (prevK key l k)) := by
 by_cases hk : 0 < k
 ·obtain ⟨y, h1, h2⟩ := idx_prev h hk hl
  have hd : decide ((k : Int) > 0) = true := by simp; omega
  simp only [hd, cond_true, h1, Option.bind_some, prevK, if_neg (show ¬ k = 0 by omega), h2]
 ·have hk0 : k = 0 := by omega
  subst hk0
  simp only [prevK, if_pos, nilS, sLe_nil, decide_eq_false hs]
  rfl

theorem tagsK (l : List ByteArray) (hs : ∀ t ∈ l, Short t) (hl : l.length ≤ 1000000000) : booking_tagsFault l = some (tagsF l) := by
 unfold booking_tagsFault tagsF
 have e : decide ((l.length : Int) > 20) = decide (l.length > 20) := decide_eq_decide.2 (by omega)
 rw [e]
 cases decide (l.length > 20) with
 | true => rfl
 | false =>
  simp only [cond_false]
  unfold kit_RisingFault
  rw [forL_eq (by omega), chk_prev (key := id) (stp := tagStp) l l 0 rfl (fun k x hx => ?_)]
  ·simp only [Option.bind_some, outC_then]; rfl
  ·have hxs : Short x := hs x (List.mem_of_getElem? hx)
   simp only [kit_RisingFault_L1, isKey_eq x (by unfold Short at hxs; omega), Option.bind_some, tagStp]
   cases hk : keyB x with
   | false => rfl
   | true =>
    simp only [Bool.not_true, cond_false]
    have := prev_test (key := id) hx hl (keyB_ne hk)
    simp only [id] at this
    rw [this, Option.bind_some]
    cases sLe x (prevK id l k) <;> rfl
def badT (w : Window) : Bool := decide (w.From < 0) || (decide (w.From ≥ w.To) || decide (w.To > 345686400000))
def out (n hi : Int) : Bool := decide (n < 0) || decide (n > hi)
theorem isTime_eq (w : Window) : booking_isTime w = some (!badT w) := by
 unfold booking_isTime badT
 have e1 : decide (w.From ≥ 0) = !decide (w.From < 0) := by rw [Bool.eq_iff_iff]; simp
 have e2 : decide (w.From < w.To) = !decide (w.From ≥ w.To) := by rw [Bool.eq_iff_iff]; simp
 have e3 : decide (w.To ≤ 345686400000) = !decide (w.To > 345686400000) := by rw [Bool.eq_iff_iff]; simp
 rw [e1, e2, e3]
 cases decide (w.From < 0) <;> cases decide (w.From ≥ w.To) <;> cases decide (w.To > 345686400000) <;> rfl
theorem outside_eq (n hi : Int) : kit_Outside n 0 hi = some (out n hi) := by
 unfold kit_Outside out
 cases decide (n < 0) <;> cases decide (n > hi) <;> rfl
def campStp (last : ByteArray) (c : Campaign) : Int :=
 bif !keyB c.Key || (decide (c.Class.size ≠ 0) && !keyB c.Class) then 5 else bif sLe c.Key last then 7 else
 bif badT c.Time || (out c.Goal 1000000 || (out c.Most 1000000 || out c.Cents 1000000000)) then 1 else tagsF c.Tags
def campsF (l : List Campaign) : Int := bif decide (l.length > 30) then 2 else chk Campaign.Key campStp nilS l

theorem campsK (l : List Campaign) (hg : ∀ x ∈ l, GoodC x) (hl : l.length ≤ 1000000) : booking_CheckCampaigns l = some (campsF l) := by
 unfold booking_CheckCampaigns campsF
 have e : decide ((l.length : Int) > 30) = decide (l.length > 30) := decide_eq_decide.2 (by omega)
 rw [e]
 cases decide (l.length > 30) with
 | true => rfl
 | false =>
  simp only [cond_false]
  rw [forL_eq (by omega), chk_prev (key := Campaign.Key) (stp := campStp) l l 0 rfl (fun k x hx => ?_)]
  ·simp only [Option.bind_some, outC_then]; rfl
  ·obtain ⟨g1, g0, g2, g3⟩ := hg x (List.mem_of_getElem? hx)
   simp only [booking_CheckCampaigns_L1, isKey_eq x.Key (by unfold Short at g1; omega), isKey_eq x.Class (by unfold Short at g0; omega), sNe_nil, Option.bind_some, campStp, isTime_eq, outside_eq, tagsK x.Tags g3 (by omega)]
   cases hk : keyB x.Key with
   | false => rfl
   | true =>
    simp only [Bool.not_true, cond_false, Bool.false_or]
    have hc : (bif decide (x.Class.size ≠ 0) then some (!keyB x.Class) else some false) = some (decide (x.Class.size ≠ 0) && !keyB x.Class) := by cases decide (x.Class.size ≠ 0) <;> rfl
    rw [hc, Option.bind_some]
    cases (decide (x.Class.size ≠ 0) && !keyB x.Class) with
    | true => rfl
    | false =>
    simp only [cond_false]
    rw [prev_test (key := Campaign.Key) hx (by omega) (keyB_ne hk), Option.bind_some]
    cases sLe x.Key (prevK Campaign.Key l k) with
    | true => rfl
    | false =>
     simp only [cond_false]
     cases badT x.Time <;> cases out x.Goal 1000000 <;> cases out x.Most 1000000 <;> cases out x.Cents 1000000000 <;> simp only [Bool.not_true, Bool.not_false, cond_true, cond_false, Option.bind_some, Bool.or_true, Bool.or_false, Bool.true_or, Bool.false_or] <;> first | rfl | skip
     simp only [outC]
     have : (tagsF x.Tags != 0) = !(tagsF x.Tags == 0) := rfl
     rw [this]
     cases tagsF x.Tags == 0 <;> rfl
end Go.Proofs.YtipcgokielgnhaaGreatDoor.Law

