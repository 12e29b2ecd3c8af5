import Derived.Test.YtipcgokielgnhaaGreatDoorCpCheck
/-
  THE PLAIN LAW: Due, Paces, Choose and Bill.
-/
open Go Go.Eng
namespace Go.Proofs.YtipcgokielgnhaaGreatDoor.Law
set_option linter.unusedVariables false
set_option linter.unusedSimpArgs false

def or0 (a b : Int) : Int := bif a == 0 then b else a
def badM (n : Int) : Bool := out n 345686399999
theorem isMoment_eq (n : Int) : kit_IsMoment n = some (!badM n) := by
 unfold kit_IsMoment badM out
 have e1 : decide (n ≥ 0) = !decide (n < 0) := by rw [Bool.eq_iff_iff]; simp
 have e2 : decide (n < 345686400000) = !decide (n > 345686399999) := by rw [Bool.eq_iff_iff]; simp; omega
 rw [e1, e2]
 cases decide (n < 0) <;> cases decide (n > 345686399999) <;> rfl
def badL (n : Int) : Bool := decide (n < 1) || decide (n > 86400000)
theorem outL_eq (n : Int) : kit_Outside n 1 86400000 = some (badL n) := by
 unfold kit_Outside badL
 cases decide (n < 1) <;> cases decide (n > 86400000) <;> rfl
def GoodP (p : Play) : Prop := Short p.Player ∧ Short p.Item
def playE (p : Play) : Int := bif !keyB p.Player || !keyB p.Item then 5 else bif badM p.At || badL p.Long then 1 else 0
def playsE : List Play → Int
 | [] => 0
 | p :: l => or0 (playE p) (playsE l)
theorem plays_loop {body : Nat → Play → Unit → Option (Ctl Unit Int)} : ∀ (l : List Play) (k : Nat), (∀ k p, p ∈ l → body k p () = some (outC (playE p))) → forR body l k () = some (outC (playsE l))
 | [], k, _ => rfl
 | p :: l, k, h => by
  rw [forR, h k p (by simp), Option.bind_some, playsE]
  unfold outC or0
  cases hp : playE p == 0 with
  | true => exact plays_loop l (k + 1) (fun k p hp => h k p (by simp [hp]))
  | false =>
   simp only [cond_false]
   rw [hp]; rfl
theorem playK (k : Nat) (p : Play) (h : GoodP p) : booking_paceFault_L1 k p () = some (outC (playE p)) := by
 obtain ⟨h1, h2⟩ := h
 unfold Short at h1 h2
 unfold booking_paceFault_L1 playE
 rw [isKey_eq _ (by omega), isKey_eq _ (by omega), isMoment_eq, outL_eq]
 cases keyB p.Player <;> cases keyB p.Item <;> cases badM p.At <;> cases badL p.Long <;> rfl
def bad (b : Bool) : Int := bif b then 1 else 0
def faultOf (l : List Campaign) (p : List Play) (at_ : Int) : Int := or0 (campsF l) (or0 (playsE p) (bad (badM at_)))
theorem paceFault_eq (l : List Campaign) (p : List Play) (at_ : Int) (hl : ∀ x ∈ l, GoodC x) (hp : ∀ x ∈ p, GoodP x) (h1 : l.length ≤ 1000) (h2 : p.length ≤ 1000) : booking_paceFault l p at_ = some (faultOf l p at_) := by
 unfold booking_paceFault faultOf
 rw [campsK l hl (by omega), Option.bind_some]
 have hd : decide ((p.length : Int) > 3000) = false := by simp; omega
 rw [hd, cond_false, forL_eq (by omega), plays_loop p 0 (fun k q hq => playK k q (hp q hq)), isMoment_eq]
 unfold or0 bne
 cases h : campsF l == 0 with
 | false => rfl
 | true =>
  simp only [Bool.not_true, cond_false, cond_true, Option.bind_some]
  unfold outC
  cases hq : playsE p == 0 with
  | true => cases badM at_ <;> rfl
  | false => rfl
def RightC (c : Campaign) : Prop := 0 ≤ c.Time.From ∧ c.Time.From < c.Time.To ∧ c.Time.To ≤ 345686400000 ∧ (0 ≤ c.Goal ∧ c.Goal ≤ 1000000) ∧ 0 ≤ c.Cents ∧ c.Cents ≤ 1000000000
theorem camp_right {c : Campaign} {last : ByteArray} (h : campStp last c = 0) : RightC c := by
 unfold campStp at h
 cases h1 : (!keyB c.Key || (decide (c.Class.size ≠ 0) && !keyB c.Class)) with
 | true => rw [h1] at h; cases h
 | false =>
  cases h2 : sLe c.Key last with
  | true => rw [h1, h2] at h; cases h
  | false =>
   cases h3 : (badT c.Time || (out c.Goal 1000000 || (out c.Most 1000000 || out c.Cents 1000000000))) with
   | true => rw [h1, h2, h3] at h; cases h
   | false =>
    simp only [badT, out, Bool.or_eq_false_iff, decide_eq_false_iff_not] at h3
    unfold RightC
    omega
theorem camps_right : ∀ (l : List Campaign) (last : ByteArray), chk Campaign.Key campStp last l = 0 → ∀ c ∈ l, RightC c
 | [], _, _, c, hc => by cases hc
 | x :: l, last, h, c, hc => by
  rw [chk] at h
  cases he : campStp last x == 0 with
  | false => rw [he, cond_false] at h; rw [h] at he; cases he
  | true =>
   rw [he, cond_true] at h
   rcases List.mem_cons.1 hc with rfl | hc
   ·exact camp_right (eq_of_beq he)
   ·exact camps_right l _ h c hc
theorem campsF_right {l : List Campaign} (h : campsF l = 0) : ∀ c ∈ l, RightC c := by
 unfold campsF at h
 cases hd : decide (l.length > 30) with
 | true => rw [hd] at h; cases h
 | false => rw [hd] at h; exact camps_right l _ h
def dueF (c : Campaign) (at_ : Int) : Int := if at_ < c.Time.From then 0 else if at_ ≥ c.Time.To then c.Goal else (c.Goal * (at_ - c.Time.From)).tdiv (c.Time.To - c.Time.From)
theorem due_eqK (c : Campaign) (at_ : Int) (hc : RightC c) (ha : -1000 ≤ at_ ∧ at_ ≤ 1000) : booking_due c at_ = some (dueF c at_) := by
 obtain ⟨h1, h2, h3, h4, h5⟩ := hc
 have hq : ∀ a b : Int, 0 < b → -9223372036854775808 ≤ a.tdiv b → a.tdiv b ≤ 9223372036854775807 → quoO .i64 a b = some (a.tdiv b) := fun a b hb k1 k2 => by
  unfold quoO
  rw [if_neg (by omega)]
  exact congrArg some (w64_id (n := a.tdiv b) ⟨k1, k2⟩)
 unfold booking_due dueF
 by_cases k1 : at_ < c.Time.From
 ·rw [decide_eq_true k1, if_pos k1]; rfl
 ·rw [decide_eq_false k1, if_neg k1, cond_false]
  by_cases k2 : at_ ≥ c.Time.To
  ·rw [decide_eq_true k2, if_pos k2]; rfl
  ·rw [decide_eq_false k2, if_neg k2, cond_false]
   have hm : c.Goal * (at_ - c.Time.From) ≤ 1000000 * 1000 := Int.le_trans (Int.mul_le_mul_of_nonneg_right h4.2 (by omega)) (Int.mul_le_mul_of_nonneg_left (by omega) (by omega))
   have hm0 : 0 ≤ c.Goal * (at_ - c.Time.From) := Int.mul_nonneg h4.1 (by omega)
   have e : (c.Goal * (at_ - c.Time.From)).tdiv (c.Time.To - c.Time.From) = c.Goal * (at_ - c.Time.From) / (c.Time.To - c.Time.From) := Int.tdiv_eq_ediv_of_nonneg hm0
   have k3 : 0 ≤ c.Goal * (at_ - c.Time.From) / (c.Time.To - c.Time.From) := Int.ediv_nonneg hm0 (by omega)
   have k4 := Int.ediv_le_self (c.Time.To - c.Time.From) hm0
   rw [w64_id (n := at_ - c.Time.From) (by omega), w64_id (n := c.Goal * (at_ - c.Time.From)) (by omega), w64_id (n := c.Time.To - c.Time.From) (by omega), hq _ _ (by omega) (by rw [e]; omega) (by rw [e]; omega)]
   rfl
def isDone (c : Campaign) (at_ : Int) (p : Play) : Bool := sEq p.Item c.Key && (decide (c.Time.From ≤ p.At) && (decide (p.At < c.Time.To) && decide (p.At < at_)))
def doneF (c : Campaign) (at_ : Int) : List Play → Int
 | [] => 0
 | p :: l => (bif isDone c at_ p then 1 else 0) + doneF c at_ l
theorem count_loop (c : Campaign) (at_ : Int) {body : Nat → Play → Int → Option (Ctl Int Unit)} : ∀ (l : List Play) (k : Nat) (s : Int), (∀ k p s, body k p s = some (.go (bif isDone c at_ p then w64 (s + 1) else s))) → 0 ≤ s → s + l.length ≤ 1000000 → forR body l k s = some (.go (s + doneF c at_ l))
 | [], k, s, _, _, _ => by simp [forR, doneF]
 | p :: l, k, s, h, h0, hl => by
  simp only [List.length_cons] at hl
  rw [forR, h, Option.bind_some, doneF]
  cases isDone c at_ p with
  | true =>
   simp only [cond_true]
   rw [w64_id (n := s + 1) (by omega), count_loop c at_ l (k + 1) (s + 1) h (by omega) (by omega), Int.add_assoc]
  | false =>
   simp only [cond_false]
   rw [count_loop c at_ l (k + 1) s h h0 (by omega), Int.zero_add]
theorem doneK (c : Campaign) (at_ : Int) (p : List Play) (hl : p.length ≤ 1000) : forL p (0 : Int) (fun k x s => booking_paces_L1 c at_ k x s) = some (.go (doneF c at_ p)) := by
 rw [forL_eq (by omega), count_loop c at_ p 0 0 (fun k q s => by
  unfold booking_paces_L1 isDone
  cases sEq q.Item c.Key <;> cases decide (c.Time.From ≤ q.At) <;> cases decide (q.At < c.Time.To) <;> cases decide (q.At < at_) <;> rfl) (Int.le_refl _) (by omega), Int.zero_add]
def paceF (at_ : Int) (p : List Play) (c : Campaign) : Pace := ⟨c.Key, dueF c at_, doneF c at_ p⟩
theorem push_loop {α β : Type} (f : α → β) {body : Nat → α → List β → Option (Ctl (List β) Unit)} : ∀ (l : List α) (k : Nat) (s : List β), (∀ k r s, r ∈ l → s.length ≤ 1000000 → body k r s = some (.go (s ++ [f r]))) → s.length + l.length ≤ 1000000 → forR body l k s = some (.go (s ++ l.map f))
 | [], k, s, _, _ => by simp [forR]
 | r :: l, k, s, h, hl => by
  simp only [List.length_cons] at hl
  rw [forR, h k r s (by simp) (by omega), Option.bind_some]
  simp only
  rw [push_loop f l (k + 1) _ (fun k q s hq => h k q s (by simp [hq])) (by simp; omega)]
  simp
theorem pacesK (l : List Campaign) (p : List Play) (at_ : Int) (hl : l.length ≤ 1000) (hp : p.length ≤ 1000) (hc : ∀ c ∈ l, RightC c) (ha : -1000 ≤ at_ ∧ at_ ≤ 1000) : booking_paces l p at_ = some (l.map (paceF at_ p)) := by
 unfold booking_paces
 rw [forL_eq (by omega), push_loop (paceF at_ p) l 0 [] (fun k c s hcm hs => by
  unfold booking_paces_L2
  rw [due_eqK c at_ (hc c hcm) ha, Option.bind_some, doneK c at_ p hp]
  simp only [Option.bind_some, thenC]
  rw [appL_ok _ _ (by simp; omega)]; rfl) (by simp; omega)]; rfl
end Go.Proofs.YtipcgokielgnhaaGreatDoor.Law

