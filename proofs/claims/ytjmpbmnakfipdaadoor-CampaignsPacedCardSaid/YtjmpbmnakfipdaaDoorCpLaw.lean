import Derived.Test.YtjmpbmnakfipdaaDoorCpCheck
/-
  THE PLAIN LAW: Due, Paces, Choose and Bill.
-/
open Go Go.Eng
namespace Go.Proofs.YtjmpbmnakfipdaaDoor.Law
set_option linter.unusedVariables false
set_option linter.unusedSimpArgs false

theorem minI_eq (a b : Int) : minI a b = min a b := by unfold minI; split <;> omega
theorem maxI_eq (a b : Int) : maxI a b = max a b := by unfold maxI; split <;> omega
def or0 (a b : Int) : Int := bif a == 0 then b else a
theorem errsL (l : List Int) (hl : l.length ≤ 1000) : law_errs l = some (l.foldr or0 0) := by
 have key : ∀ (xs : List Int) (k : Nat), ∃ o, forR (fun k x s => law_errs_L1 k x s) xs k () = some o ∧ thenC o (fun _ => some (0 : Int)) (fun r => some r) = some (xs.foldr or0 0) := by
  intro xs
  induction xs with
  | nil => exact fun k => ⟨_, rfl, rfl⟩
  | cons x xs ih =>
   intro k
   rw [forR]
   unfold law_errs_L1
   rw [List.foldr_cons]
   cases hx : x == 0 with
   | true =>
    have : (x != 0) = false := by simp [bne, hx]
    rw [this, cond_false, Option.bind_some]
    obtain ⟨o, h1, h2⟩ := ih (k + 1)
    exact ⟨o, h1, by rw [h2]; unfold or0; rw [hx]; rfl⟩
   | false =>
    have : (x != 0) = true := by simp [bne, hx]
    rw [this, cond_true, Option.bind_some]
    exact ⟨_, rfl, by unfold or0; rw [hx]; rfl⟩
 unfold law_errs
 rw [forL_eq (by omega)]
 obtain ⟨o, h1, h2⟩ := key l 0
 rw [h1, Option.bind_some]
 exact h2
theorem or0_0 (a : Int) : or0 a 0 = a := by
 unfold or0
 cases h : a == 0 with
 | true => rw [eq_of_beq h]; rfl
 | false => rfl
def badM (n : Int) : Bool := out n 345686399999
theorem isMoment_eq (n : Int) : kit_IsMoment n = some (!badM n) := by
 unfold kit_IsMoment badM out
 have e1 : decide (n ≥ 0) = !decide (n < 0) := by rw [Bool.eq_iff_iff]; simp
 have e2 : decide (n < 345686400000) = !decide (n > 345686399999) := by rw [Bool.eq_iff_iff]; simp; omega
 rw [e1, e2]
 cases decide (n < 0) <;> cases decide (n > 345686399999) <;> rfl
theorem rMoment_eq (n : Int) : ref_Moment n = some (!badM n) := by unfold ref_Moment; rw [in_eq]; rfl
def badL (n : Int) : Bool := decide (n < 1) || decide (n > 86400000)
theorem outL_eq (n : Int) : kit_Outside n 1 86400000 = some (badL n) := by
 unfold kit_Outside badL
 cases decide (n < 1) <;> cases decide (n > 86400000) <;> rfl
theorem inL_eq (n : Int) : ref_in n 1 86400000 = some (!badL n) := by
 unfold ref_in badL
 have e1 : decide (1 ≤ n) = !decide (n < 1) := by rw [Bool.eq_iff_iff]; simp
 have e2 : decide (n ≤ 86400000) = !decide (n > 86400000) := by rw [Bool.eq_iff_iff]; simp
 rw [e1, e2]
 cases decide (n < 1) <;> cases decide (n > 86400000) <;> rfl
def GoodP (p : Play) : Prop := Short p.Player ∧ Short p.Item
def playE (p : Play) : Int := bif !keyB p.Player || !keyB p.Item then 5 else bif badM p.At || badL p.Long then 1 else 0
def playsE : List Play → Int
 | [] => 0
 | p :: l => or0 (playE p) (playsE l)
theorem plays_loop {body : Nat → Play → Unit → Option (Ctl Unit Int)} : ∀ (l : List Play) (k : Nat), (∀ k p, p ∈ l → body k p () = some (outC (playE p))) → forR body l k () = some (outC (playsE l))
 | [], k, _ => rfl
 | p :: l, k, h => by
  rw [forR, h k p (by simp), Option.bind_some, playsE]
  unfold outC or0
  cases hp : playE p == 0 with
  | true => exact plays_loop l (k + 1) (fun k p hp => h k p (by simp [hp]))
  | false =>
   simp only [cond_false]
   rw [hp]; rfl
theorem playK (k : Nat) (p : Play) (h : GoodP p) : booking_paceFault_L1 k p () = some (outC (playE p)) := by
 obtain ⟨h1, h2⟩ := h
 unfold Short at h1 h2
 unfold booking_paceFault_L1 playE
 rw [isKey_eq _ (by omega), isKey_eq _ (by omega), isMoment_eq, outL_eq]
 cases keyB p.Player <;> cases keyB p.Item <;> cases badM p.At <;> cases badL p.Long <;> rfl
theorem playR (k : Nat) (p : Play) (h : GoodP p) : ref_PlayedFault_L1 k p () = some (outC (playE p)) := by
 obtain ⟨h1, h2⟩ := h
 unfold Short at h1 h2
 unfold ref_PlayedFault_L1 playE
 rw [refKey_eq _ (by omega), refKey_eq _ (by omega), rMoment_eq, inL_eq]
 cases keyB p.Player <;> cases keyB p.Item <;> cases badM p.At <;> cases badL p.Long <;> rfl
def bad (b : Bool) : Int := bif b then 1 else 0
def faultOf (l : List Campaign) (p : List Play) (at_ : Int) : Int := or0 (campsF l) (or0 (playsE p) (bad (badM at_)))
theorem paceFault_eq (l : List Campaign) (p : List Play) (at_ : Int) (hl : ∀ x ∈ l, GoodC x) (hp : ∀ x ∈ p, GoodP x) (h1 : l.length ≤ 1000) (h2 : p.length ≤ 1000) : booking_paceFault l p at_ = some (faultOf l p at_) := by
 unfold booking_paceFault faultOf
 rw [campsK l hl (by omega), Option.bind_some]
 have hd : decide ((p.length : Int) > 3000) = false := by simp; omega
 rw [hd, cond_false, forL_eq (by omega), plays_loop p 0 (fun k q hq => playK k q (hp q hq)), isMoment_eq]
 unfold or0 bne
 cases h : campsF l == 0 with
 | false => rfl
 | true =>
  simp only [Bool.not_true, cond_false, cond_true, Option.bind_some]
  unfold outC
  cases hq : playsE p == 0 with
  | true => cases badM at_ <;> rfl
  | false => rfl
theorem playedFault_eq (p : List Play) (hp : ∀ x ∈ p, GoodP x) (h2 : p.length ≤ 1000) : ref_PlayedFault p = some (playsE p) := by
 unfold ref_PlayedFault
 have hd : decide ((p.length : Int) > 3000) = false := by simp; omega
 rw [hd, cond_false, forL_eq (by omega), plays_loop p 0 (fun k q hq => playR k q (hp q hq))]
 exact outC_then _
theorem momentFault_eq (n : Int) : law_momentFault n = some (bad (badM n)) := by
 unfold law_momentFault law_when
 rw [rMoment_eq]
 cases badM n <;> rfl
def RightC (c : Campaign) : Prop := 0 ≤ c.Time.From ∧ c.Time.From < c.Time.To ∧ c.Time.To ≤ 345686400000 ∧ (0 ≤ c.Goal ∧ c.Goal ≤ 1000000) ∧ 0 ≤ c.Cents ∧ c.Cents ≤ 1000000000
theorem camp_right {c : Campaign} {last : ByteArray} (h : campStp last c = 0) : RightC c := by
 unfold campStp at h
 cases h1 : (!keyB c.Key || (decide (c.Class.size ≠ 0) && !keyB c.Class)) with
 | true => rw [h1] at h; cases h
 | false =>
  cases h2 : sLe c.Key last with
  | true => rw [h1, h2] at h; cases h
  | false =>
   cases h3 : (badT c.Time || (out c.Goal 1000000 || (out c.Most 1000000 || out c.Cents 1000000000))) with
   | true => rw [h1, h2, h3] at h; cases h
   | false =>
    simp only [badT, out, Bool.or_eq_false_iff, decide_eq_false_iff_not] at h3
    unfold RightC
    omega
theorem camps_right : ∀ (l : List Campaign) (last : ByteArray), chk Campaign.Key campStp last l = 0 → ∀ c ∈ l, RightC c
 | [], _, _, c, hc => by cases hc
 | x :: l, last, h, c, hc => by
  rw [chk] at h
  cases he : campStp last x == 0 with
  | false => rw [he, cond_false] at h; rw [h] at he; cases he
  | true =>
   rw [he, cond_true] at h
   rcases List.mem_cons.1 hc with rfl | hc
   ·exact camp_right (eq_of_beq he)
   ·exact camps_right l _ h c hc
theorem campsF_right {l : List Campaign} (h : campsF l = 0) : ∀ c ∈ l, RightC c := by
 unfold campsF at h
 cases hd : decide (l.length > 30) with
 | true => rw [hd] at h; cases h
 | false => rw [hd] at h; exact camps_right l _ h
def dueF (c : Campaign) (at_ : Int) : Int := if at_ < c.Time.From then 0 else if at_ ≥ c.Time.To then c.Goal else (c.Goal * (at_ - c.Time.From)).tdiv (c.Time.To - c.Time.From)
theorem due_eq (c : Campaign) (at_ : Int) (hc : RightC c) (ha : -1000 ≤ at_ ∧ at_ ≤ 1000) : booking_due c at_ = some (dueF c at_) ∧ ref_DueOf c at_ = some (dueF c at_) := by
 obtain ⟨h1, h2, h3, h4, h5⟩ := hc
 have hq : ∀ a b : Int, 0 < b → -9223372036854775808 ≤ a.tdiv b → a.tdiv b ≤ 9223372036854775807 → quoO .i64 a b = some (a.tdiv b) := fun a b hb k1 k2 => by
  unfold quoO
  rw [if_neg (by omega)]
  exact congrArg some (w64_id (n := a.tdiv b) ⟨k1, k2⟩)
 unfold booking_due ref_DueOf dueF
 simp only [minI_eq, maxI_eq]
 by_cases k1 : at_ < c.Time.From
 ·rw [decide_eq_true k1, if_pos k1, show min (max at_ c.Time.From) c.Time.To - c.Time.From = 0 by omega]
  refine ⟨rfl, ?_⟩
  rw [show w64 0 = 0 from rfl, Int.mul_zero, show w64 0 = 0 from rfl, w64_id (n := c.Time.To - c.Time.From) (by omega), hq 0 _ (by omega) (by simp) (by simp)]
  simp
 ·rw [decide_eq_false k1, if_neg k1, cond_false]
  by_cases k2 : at_ ≥ c.Time.To
  ·rw [decide_eq_true k2, if_pos k2, cond_true, show min (max at_ c.Time.From) c.Time.To - c.Time.From = c.Time.To - c.Time.From by omega]
   refine ⟨rfl, ?_⟩
   have hm : c.Goal * (c.Time.To - c.Time.From) ≤ 1000000 * 345686400000 := Int.le_trans (Int.mul_le_mul_of_nonneg_right h4.2 (by omega)) (Int.mul_le_mul_of_nonneg_left (by omega) (by omega))
   have hm0 : 0 ≤ c.Goal * (c.Time.To - c.Time.From) := Int.mul_nonneg h4.1 (by omega)
   have e : (c.Goal * (c.Time.To - c.Time.From)).tdiv (c.Time.To - c.Time.From) = c.Goal := Int.mul_tdiv_cancel _ (by omega)
   rw [w64_id (n := c.Time.To - c.Time.From) (by omega), w64_id (n := c.Goal * (c.Time.To - c.Time.From)) (by omega), hq _ _ (by omega) (by rw [e]; omega) (by rw [e]; omega), e]; rfl
  ·rw [decide_eq_false k2, if_neg k2, cond_false, show min (max at_ c.Time.From) c.Time.To - c.Time.From = at_ - c.Time.From by omega]
   have hm : c.Goal * (at_ - c.Time.From) ≤ 1000000 * 1000 := Int.le_trans (Int.mul_le_mul_of_nonneg_right h4.2 (by omega)) (Int.mul_le_mul_of_nonneg_left (by omega) (by omega))
   have hm0 : 0 ≤ c.Goal * (at_ - c.Time.From) := Int.mul_nonneg h4.1 (by omega)
   have e : (c.Goal * (at_ - c.Time.From)).tdiv (c.Time.To - c.Time.From) = c.Goal * (at_ - c.Time.From) / (c.Time.To - c.Time.From) := Int.tdiv_eq_ediv_of_nonneg hm0
   have k3 : 0 ≤ c.Goal * (at_ - c.Time.From) / (c.Time.To - c.Time.From) := Int.ediv_nonneg hm0 (by omega)
   have k4 := Int.ediv_le_self (c.Time.To - c.Time.From) hm0
   rw [w64_id (n := at_ - c.Time.From) (by omega), w64_id (n := c.Goal * (at_ - c.Time.From)) (by omega), w64_id (n := c.Time.To - c.Time.From) (by omega), hq _ _ (by omega) (by rw [e]; omega) (by rw [e]; omega)]
   exact ⟨rfl, rfl⟩
def isDone (c : Campaign) (at_ : Int) (p : Play) : Bool := sEq p.Item c.Key && (decide (c.Time.From ≤ p.At) && (decide (p.At < c.Time.To) && decide (p.At < at_)))
def doneF (c : Campaign) (at_ : Int) : List Play → Int
 | [] => 0
 | p :: l => (bif isDone c at_ p then 1 else 0) + doneF c at_ l
theorem doneF_b (c : Campaign) (at_ : Int) : ∀ l : List Play, 0 ≤ doneF c at_ l ∧ doneF c at_ l ≤ l.length
 | [] => ⟨Int.le_refl _, Int.le_refl _⟩
 | p :: l => by
  have := doneF_b c at_ l
  rw [doneF, List.length_cons]
  cases isDone c at_ p <;> simp only [cond_true, cond_false] <;> omega
theorem count_loop (c : Campaign) (at_ : Int) {body : Nat → Play → Int → Option (Ctl Int Unit)} : ∀ (l : List Play) (k : Nat) (s : Int), (∀ k p s, body k p s = some (.go (bif isDone c at_ p then w64 (s + 1) else s))) → 0 ≤ s → s + l.length ≤ 1000000 → forR body l k s = some (.go (s + doneF c at_ l))
 | [], k, s, _, _, _ => by simp [forR, doneF]
 | p :: l, k, s, h, h0, hl => by
  simp only [List.length_cons] at hl
  rw [forR, h, Option.bind_some, doneF]
  cases isDone c at_ p with
  | true =>
   simp only [cond_true]
   rw [w64_id (n := s + 1) (by omega), count_loop c at_ l (k + 1) (s + 1) h (by omega) (by omega), Int.add_assoc]
  | false =>
   simp only [cond_false]
   rw [count_loop c at_ l (k + 1) s h h0 (by omega), Int.zero_add]
theorem doneK (c : Campaign) (at_ : Int) (p : List Play) (hl : p.length ≤ 1000) : forL p (0 : Int) (fun k x s => booking_paces_L1 c at_ k x s) = some (.go (doneF c at_ p)) := by
 rw [forL_eq (by omega), count_loop c at_ p 0 0 (fun k q s => by
  unfold booking_paces_L1 isDone
  cases sEq q.Item c.Key <;> cases decide (c.Time.From ≤ q.At) <;> cases decide (q.At < c.Time.To) <;> cases decide (q.At < at_) <;> rfl) (Int.le_refl _) (by omega), Int.zero_add]
theorem doneR (c : Campaign) (at_ : Int) (p : List Play) (hl : p.length ≤ 1000) (hc : RightC c) (ha : -1000 ≤ at_ ∧ at_ ≤ 1000) : ref_doneOf c p at_ = some (doneF c at_ p) := by
 unfold RightC at hc
 unfold ref_doneOf
 rw [forL_eq (by omega), count_loop c at_ p 0 0 (fun k q s => by
  unfold ref_doneOf_L1 isDone ref_in
  rw [minI_eq, w64_id (n := min c.Time.To at_ - 1) (by omega)]
  have e : decide (q.At ≤ min c.Time.To at_ - 1) = (decide (q.At < c.Time.To) && decide (q.At < at_)) := by
   rw [Bool.eq_iff_iff]; simp only [Bool.and_eq_true, decide_eq_true_eq]; omega
  rw [e]
  cases sEq q.Item c.Key <;> cases decide (c.Time.From ≤ q.At) <;> cases decide (q.At < c.Time.To) <;> cases decide (q.At < at_) <;> rfl) (Int.le_refl _) (by omega), Int.zero_add]; rfl
def paceF (at_ : Int) (p : List Play) (c : Campaign) : Pace := ⟨c.Key, dueF c at_, doneF c at_ p⟩
theorem push_loop {α β : Type} (f : α → β) {body : Nat → α → List β → Option (Ctl (List β) Unit)} : ∀ (l : List α) (k : Nat) (s : List β), (∀ k r s, r ∈ l → s.length ≤ 1000000 → body k r s = some (.go (s ++ [f r]))) → s.length + l.length ≤ 1000000 → forR body l k s = some (.go (s ++ l.map f))
 | [], k, s, _, _ => by simp [forR]
 | r :: l, k, s, h, hl => by
  simp only [List.length_cons] at hl
  rw [forR, h k r s (by simp) (by omega), Option.bind_some]
  simp only
  rw [push_loop f l (k + 1) _ (fun k q s hq => h k q s (by simp [hq])) (by simp; omega)]
  simp
theorem pacesK (l : List Campaign) (p : List Play) (at_ : Int) (hl : l.length ≤ 1000) (hp : p.length ≤ 1000) (hc : ∀ c ∈ l, RightC c) (ha : -1000 ≤ at_ ∧ at_ ≤ 1000) : booking_paces l p at_ = some (l.map (paceF at_ p)) := by
 unfold booking_paces
 rw [forL_eq (by omega), push_loop (paceF at_ p) l 0 [] (fun k c s hcm hs => by
  unfold booking_paces_L2
  rw [(due_eq c at_ (hc c hcm) ha).1, Option.bind_some, doneK c at_ p hp]
  simp only [Option.bind_some, thenC]
  rw [appL_ok _ _ (by simp; omega)]; rfl) (by simp; omega)]; rfl
theorem pacesR (l : List Campaign) (p : List Play) (at_ : Int) (hl : l.length ≤ 1000) (hp : p.length ≤ 1000) (hc : ∀ c ∈ l, RightC c) (ha : -1000 ≤ at_ ∧ at_ ≤ 1000) : ref_PacesOf l p at_ = some (l.map (paceF at_ p)) := by
 unfold ref_PacesOf
 rw [forL_eq (by omega), push_loop (paceF at_ p) l 0 [] (fun k c s hcm hs => by
  unfold ref_PacesOf_L1
  rw [(due_eq c at_ (hc c hcm) ha).2, Option.bind_some, doneR c at_ p hp (hc c hcm) ha, Option.bind_some, appL_ok _ _ (by simp; omega)]; rfl) (by simp; omega)]; rfl
theorem choose_loop (l0 : List Campaign) (p : List Play) (at_ : Int) (hp : p.length ≤ 1000) (hl0 : l0.length ≤ 1000) (hc : ∀ c ∈ l0, RightC c) (ha : -1000 ≤ at_ ∧ at_ ≤ 1000) : ∀ (l : List Campaign) (k : Nat) (s : Int), l0.drop k = l → (s = -1 ∨ ∃ j : Nat, s = (j : Int) ∧ j < k ∧ j < l0.length) →
  ∃ s', forR (fun k x s => booking_Choose_L1 at_ (l0.map (paceF at_ p)) l0 k x s) l k s = some (.go s') ∧ forR (fun k x s => ref_ChooseOf_L1 at_ p l0 k x s) l k s = some (.go s') ∧ (s' = -1 ∨ ∃ j : Nat, s' = (j : Int) ∧ j < l0.length)
 | [], k, s, h, hs => by
  exact ⟨s, rfl, rfl, hs.imp id (fun ⟨j, h1, _, h3⟩ => ⟨j, h1, h3⟩)⟩
 | x :: l, k, s, h, hs => by
  have hg := drop_get h
  have hlt := drop_lt h
  have hcx := hc x (List.mem_of_getElem? hg)
  have hpk : idx (l0.map (paceF at_ p)) (k : Int) = some (paceF at_ p x) := by rw [idx_nat, List.getElem?_map, hg]; rfl
  have hr := hcx
  unfold RightC at hr
  obtain ⟨s', b1, b2, b3⟩ : ∃ s', booking_Choose_L1 at_ (l0.map (paceF at_ p)) l0 k x s = some (.go s') ∧ ref_ChooseOf_L1 at_ p l0 k x s = some (.go s') ∧ (s' = s ∨ s' = (k : Int)) := by
   unfold booking_Choose_L1 ref_ChooseOf_L1 ref_in
   rw [doneR x at_ p hp hcx ha, w64_id (n := x.Time.To - 1) (by omega), hpk]
   have e1 : decide (x.Time.From ≤ at_) = !decide (at_ < x.Time.From) := by rw [Bool.eq_iff_iff]; simp
   have e2 : decide (at_ ≤ x.Time.To - 1) = !decide (at_ ≥ x.Time.To) := by rw [Bool.eq_iff_iff]; simp; omega
   rw [e1, e2]
   simp only [Option.bind_some]
   have ed : (paceF at_ p x).Done = doneF x at_ p := rfl
   rw [ed]
   cases decide (at_ < x.Time.From) with
   | true => exact ⟨s, rfl, rfl, .inl rfl⟩
   | false =>
    cases decide (at_ ≥ x.Time.To) with
    | true => exact ⟨s, rfl, rfl, .inl rfl⟩
    | false =>
     simp only [Bool.not_false, cond_true, cond_false, Option.bind_some, Bool.not_true]
     cases decide (doneF x at_ p ≥ x.Goal) with
     | true => exact ⟨s, rfl, rfl, .inl rfl⟩
     | false =>
      simp only [cond_false]
      rcases hs with rfl | ⟨j, rfl, hj, hjl⟩
      ·exact ⟨(k : Int), rfl, rfl, .inr rfl⟩
      ·have hd : decide ((j : Int) < 0) = false := by simp
       have hgj : l0[j]? = some l0[j] := List.getElem?_eq_getElem hjl
       have hcj := hc _ (List.getElem_mem hjl)
       have hpj : idx (l0.map (paceF at_ p)) (j : Int) = some (paceF at_ p l0[j]) := by rw [idx_nat, List.getElem?_map, hgj]; rfl
       unfold ref_ChooseOf_1
       simp only [idx_nat, hg, hgj, Option.bind_some, (due_eq x at_ hcx ha).2, doneR x at_ p hp hcx ha, (due_eq l0[j] at_ hcj ha).2, doneR l0[j] at_ p hp hcj ha]
       rw [← idx_nat, hpj]
       simp only [Option.bind_some]
       have q1 : (paceF at_ p x).Due = dueF x at_ := rfl
       have q2 : (paceF at_ p l0[j]).Due = dueF l0[j] at_ := rfl
       have q3 : (paceF at_ p l0[j]).Done = doneF l0[j] at_ p := rfl
       rw [hd, cond_false, cond_false, q1, q2, q3]
       simp only [Option.bind_some]
       cases decide (w64 (w64 (dueF x at_ - doneF x at_ p) * l0[j].Goal) > w64 (w64 (dueF l0[j] at_ - doneF l0[j] at_ p) * x.Goal)) with
       | true => exact ⟨(k : Int), rfl, rfl, .inr rfl⟩
       | false => exact ⟨(j : Int), rfl, rfl, .inl rfl⟩
  rw [forR, forR, b1, b2]
  refine choose_loop l0 p at_ hp hl0 hc ha l (k + 1) s' (drop_next h) ?_
  rcases b3 with rfl | rfl
  ·exact hs.imp id (fun ⟨j, h1, h2, h3⟩ => ⟨j, h1, by omega, h3⟩)
  ·exact .inr ⟨k, rfl, by omega, hlt⟩
theorem itoa_some (n : Int) (h : -9223372036854775808 ≤ n ∧ n ≤ 9223372036854775807) : ∃ s, strconv_Itoa n = some s := by
 unfold strconv_Itoa itoaF
 rw [if_pos h]
 exact ⟨_, rfl⟩
def costF (at_ : Int) (p : List Play) (c : Campaign) : Int := (min (doneF c at_ p) c.Goal * c.Cents).tdiv 1000
theorem cost_b {at_ : Int} {p : List Play} {c : Campaign} (hp : p.length ≤ 1000) (hc : RightC c) : (0 ≤ min (doneF c at_ p) c.Goal * c.Cents ∧ min (doneF c at_ p) c.Goal * c.Cents ≤ 1000000000000) ∧ 0 ≤ costF at_ p c ∧ costF at_ p c ≤ 1000000000000 := by
 unfold RightC at hc
 have hd := doneF_b c at_ p
 have h0 : 0 ≤ min (doneF c at_ p) c.Goal * c.Cents := Int.mul_nonneg (by omega) (by omega)
 have h1 : min (doneF c at_ p) c.Goal * c.Cents ≤ 1000 * 1000000000 := Int.le_trans (Int.mul_le_mul_of_nonneg_right (show min (doneF c at_ p) c.Goal ≤ 1000 by omega) (by omega)) (Int.mul_le_mul_of_nonneg_left (by omega) (by omega))
 have e : costF at_ p c = min (doneF c at_ p) c.Goal * c.Cents / 1000 := Int.tdiv_eq_ediv_of_nonneg h0
 have h2 : 0 ≤ min (doneF c at_ p) c.Goal * c.Cents / 1000 := Int.ediv_nonneg h0 (by omega)
 have h3 := Int.ediv_le_self 1000 h0
 exact ⟨⟨h0, by omega⟩, by rw [e]; exact h2, by rw [e]; omega⟩
theorem bill_loop (l0 : List Campaign) (p : List Play) (at_ : Int) (hp : p.length ≤ 1000) (hl0 : l0.length ≤ 1000) (hc : ∀ c ∈ l0, RightC c) (ha : -1000 ≤ at_ ∧ at_ ≤ 1000) : ∀ (l : List Campaign) (k : Nat) (s : List Pair), l0.drop k = l → s.length ≤ k →
  ∃ s', forR (fun k x s => booking_Bill_L1 l0 k x s) (l.map (paceF at_ p)) k s = some (.go s') ∧ forR (fun k x s => ref_BillOf_L1 p at_ k x s) l k s = some (.go s') ∧ s'.length ≤ k + l.length
 | [], k, s, _, hs => ⟨s, rfl, rfl, hs⟩
 | x :: l, k, s, h, hs => by
  have hg := drop_get h
  have hlt := drop_lt h
  have hcx := hc x (List.mem_of_getElem? hg)
  obtain ⟨⟨c1, c2⟩, c3, c4⟩ := cost_b (at_ := at_) hp hcx
  obtain ⟨t, ht⟩ := itoa_some (costF at_ p x) (by omega)
  have b1 : booking_Bill_L1 l0 k (paceF at_ p x) s = some (.go (s ++ bif decide (costF at_ p x > 0) then [(⟨x.Key, t⟩ : Pair)] else [])) := by
   unfold booking_Bill_L1
   have q1 : (paceF at_ p x).Done = doneF x at_ p := rfl
   have q2 : (paceF at_ p x).Campaign = x.Key := rfl
   simp only [idx_nat, hg, Option.bind_some, q1, q2, minI_eq]
   rw [w64_id (n := min (doneF x at_ p) x.Goal * x.Cents) (by omega)]
   have e : (min (doneF x at_ p) x.Goal * x.Cents).tdiv 1000 = costF at_ p x := rfl
   rw [e, w64_id (n := costF at_ p x) (by omega), ht]
   cases decide (costF at_ p x > 0) with
   | true => simp only [cond_true, Option.bind_some]; rw [appL_ok _ _ (by simp; omega)]; rfl
   | false => simp
  have b2 : ref_BillOf_L1 p at_ k x s = some (.go (s ++ bif decide (costF at_ p x > 0) then [(⟨x.Key, t⟩ : Pair)] else [])) := by
   unfold ref_BillOf_L1
   rw [doneR x at_ p hp hcx ha]
   simp only [Option.bind_some, minI_eq]
   rw [Int.min_comm x.Goal (doneF x at_ p), w64_id (n := min (doneF x at_ p) x.Goal * x.Cents) (by omega)]
   have e : (min (doneF x at_ p) x.Goal * x.Cents).tdiv 1000 = costF at_ p x := rfl
   rw [e, w64_id (n := costF at_ p x) (by omega), ht]
   cases decide (costF at_ p x > 0) with
   | true => simp only [cond_true, Option.bind_some]; rw [appL_ok _ _ (by simp; omega)]; rfl
   | false => simp
  rw [List.map_cons, forR, forR, b1, b2]
  obtain ⟨s', d1, d2, d3⟩ := bill_loop l0 p at_ hp hl0 hc ha l (k + 1) (s ++ bif decide (costF at_ p x > 0) then [(⟨x.Key, t⟩ : Pair)] else []) (drop_next h) (by cases decide (costF at_ p x > 0) <;> simp <;> omega)
  exact ⟨s', d1, d2, by rw [List.length_cons]; omega⟩
theorem played_ok (s : Stream) (n : Int) (hn : 0 ≤ n ∧ n ≤ 12) {b : Int} (hs : Ok s b) (hb : b ≤ 500000) : ∃ p s', mk_Stream_Played s n = some (p, s') ∧ Ok s' (b + 300) ∧ p.length ≤ 12 ∧ ∀ x ∈ p, GoodP x := by
 unfold mk_Stream_Played
 have hlen : (List.range n.toNat).length = n.toNat := List.length_range
 obtain ⟨t, h1, h2, h3, h4⟩ := forL_inv (body := fun k x s => mk_Stream_Played_L1 k x s) (s := (([] : List Play), s.L, s.f_at)) (fun k s => Ok ⟨s.2.1, s.2.2⟩ (b + 20 * k) ∧ s.1.length ≤ k ∧ ∀ x ∈ s.1, GoodP x) (xs := List.range n.toNat) (by rw [hlen]; omega) (fun k x t hxm hk ⟨i1, i2, i3⟩ => by
  have hk5 : k < 12 := by rw [hlen] at hk; omega
  unfold mk_Stream_Played_L1
  obtain ⟨it, s1, a1, a0, a2⟩ := some_ok ⟨t.2.1, t.2.2⟩ [(⟨#[99, 97]⟩ : ByteArray), (⟨#[99, 97]⟩ : ByteArray), (⟨#[99, 98]⟩ : ByteArray), (⟨#[99, 99]⟩ : ByteArray), (⟨#[122, 122]⟩ : ByteArray)] i1 (by omega) (by simp) (by simp)
  obtain ⟨at1, s2, b1, b2, b3, b4⟩ := range_ok s1 0 70 a2 (by omega) (by decide) (by decide) (by decide)
  obtain ⟨lo, s3, c1, _, c2⟩ := pick_ok s2 [1, 5] b4 (by omega) (by simp) (by simp)
  obtain ⟨f, s4, d1, d2⟩ := flip_ok s3 80 c2 (by omega) (by decide) (by decide)
  simp only [a1, b1, c1, d1, Option.bind_some]
  have hit : Short it := by
   simp only [List.mem_cons, List.not_mem_nil, or_false] at a0
   rcases a0 with rfl | rfl | rfl | rfl | rfl <;> exact short_lit rfl
  cases f with
  | false =>
   simp only [cond_false, Option.bind_some, appL_ok t.1 _ (show t.1.length + [_].length ≤ _ by simp; omega)]
   refine ⟨_, rfl, d2.mono (by omega), by simp; omega, fun y hy => ?_⟩
   rcases List.mem_append.1 hy with hy | hy
   ·exact i3 y hy
   ·rw [List.mem_singleton.1 hy]; exact ⟨short_lit rfl, hit⟩
  | true =>
   obtain ⟨pl, s5, e1, e0, e2⟩ := some_ok s4 [(⟨#[112]⟩ : ByteArray), (⟨#[]⟩ : ByteArray)] d2 (by omega) (by simp) (by simp)
   obtain ⟨it2, s6, f1, f0, f2⟩ := some_ok s5 [(⟨#[99, 97]⟩ : ByteArray), (⟨#[65]⟩ : ByteArray)] e2 (by omega) (by simp) (by simp)
   obtain ⟨at2, s7, g1, g2⟩ := odd_ok s6 0 70 f2 (by omega) (by decide) (by decide) (by decide)
   obtain ⟨lo2, s8, m1, m2⟩ := odd_ok s7 1 9 g2 (by omega) (by decide) (by decide) (by decide)
   simp only [cond_true, e1, f1, g1, m1, Option.bind_some, appL_ok t.1 _ (show t.1.length + [_].length ≤ _ by simp; omega)]
   have hpl : Short pl := by
    simp only [List.mem_cons, List.not_mem_nil, or_false] at e0
    rcases e0 with rfl | rfl <;> exact short_lit rfl
   have hi2 : Short it2 := by
    simp only [List.mem_cons, List.not_mem_nil, or_false] at f0
    rcases f0 with rfl | rfl <;> exact short_lit rfl
   refine ⟨_, rfl, m2.mono (by omega), by simp; omega, fun y hy => ?_⟩
   rcases List.mem_append.1 hy with hy | hy
   ·exact i3 y hy
   ·rw [List.mem_singleton.1 hy]; exact ⟨hpl, hi2⟩) ⟨by simpa using hs, by simp, by simp⟩
 rw [h1]
 rw [hlen] at h2 h3
 exact ⟨t.1, ⟨t.2.1, t.2.2⟩, rfl, h2.mono (by omega), by omega, h4⟩
theorem eqPaces (l : List Pace) (hl : l.length ≤ 1000000) : slices_Equal_api_Pace_api_Pace l l = some true := by
 have key : ∀ (xs : List Pace) (k : Nat), l.drop k = xs → forR (fun k x s => slices_Equal_api_Pace_api_Pace_L1 l k x s) xs k () = some (.go ()) := by
  intro xs
  induction xs with
  | nil => exact fun _ _ => rfl
  | cons x xs ih =>
   intro k h
   have hg : idx l (k : Int) = some x := drop_idx h
   rw [forR]
   have : slices_Equal_api_Pace_api_Pace_L1 l k x () = some (.go ()) := by
    unfold slices_Equal_api_Pace_api_Pace_L1
    rw [hg]; simp
   rw [this, Option.bind_some]
   exact ih (k + 1) (drop_next h)
 unfold slices_Equal_api_Pace_api_Pace
 have : ((l.length : Int) != (l.length : Int)) = false := by simp
 rw [this, cond_false, forL_eq (by omega), key l 0 rfl]; rfl
theorem eqPairs (l : List Pair) (hl : l.length ≤ 1000000) : slices_Equal_api_Pair_api_Pair l l = some true := by
 have key : ∀ (xs : List Pair) (k : Nat), l.drop k = xs → forR (fun k x s => slices_Equal_api_Pair_api_Pair_L1 l k x s) xs k () = some (.go ()) := by
  intro xs
  induction xs with
  | nil => exact fun _ _ => rfl
  | cons x xs ih =>
   intro k h
   have hg : idx l (k : Int) = some x := drop_idx h
   rw [forR]
   have : slices_Equal_api_Pair_api_Pair_L1 l k x () = some (.go ()) := by
    unfold slices_Equal_api_Pair_api_Pair_L1
    rw [hg]; simp
   rw [this, Option.bind_some]
   exact ih (k + 1) (drop_next h)
 unfold slices_Equal_api_Pair_api_Pair
 have : ((l.length : Int) != (l.length : Int)) = false := by simp
 rw [this, cond_false, forL_eq (by omega), key l 0 rfl]; rfl
theorem booked_ok : law_booked = some true := by
 unfold law_booked booking_Due
 rw [campsK _ (by intro x hx; simp only [List.mem_singleton] at hx; subst hx; exact ⟨short_lit rfl, short_lit rfl, by simp, by simp⟩) (by simp)]
 have : campsF [(⟨(⟨#[97]⟩ : ByteArray), (⟨#[]⟩ : ByteArray), (⟨0, 100⟩ : Window), ([] : List ByteArray), 10, 0, 0⟩ : Campaign)] = 0 := by decide +kernel
 rw [this]
 simp only [Option.bind_some]
 decide +kernel
theorem due_L1 (r : Int × Stream) (c : Campaign) (k : Nat) (hg : GoodC c) (ha : -1000 ≤ r.1 ∧ r.1 ≤ 1000) : law_CampaignsPaced_L1 r k c () = some (.go ()) := by
 have hgg : ∀ x ∈ [c], GoodC x := by simpa using hg
 unfold law_CampaignsPaced_L1 booking_Due
 rw [campsK [c] hgg (by simp), campsR [c] hgg (by simp), isMoment_eq, momentFault_eq]
 simp only [Option.bind_some, errsL _ (show [campsF [c], bad (badM r.1)].length ≤ 1000 by simp), List.foldr_cons, List.foldr_nil, or0_0]
 cases hc : campsF [c] == 0 with
 | false =>
  have hne : (campsF [c] != 0) = true := by simp [bne, hc]
  have ho : or0 (campsF [c]) (bad (badM r.1)) = campsF [c] := by unfold or0; rw [hc]; rfl
  simp only [hne, cond_true, Option.bind_some, ho, hc, cond_false, bne_self_eq_false]
 | true =>
  have hne : (campsF [c] != 0) = false := by simp [bne, hc]
  have ho : or0 (campsF [c]) (bad (badM r.1)) = bad (badM r.1) := by unfold or0; rw [hc]; rfl
  have hr := campsF_right (eq_of_beq hc) c (by simp)
  simp only [hne, cond_false, Option.bind_some, ho]
  cases badM r.1 with
  | true => rfl
  | false =>
   obtain ⟨d1, d2⟩ := due_eq c r.1 hr ha
   simp only [Bool.not_false, Bool.not_true, cond_false, d1, d2, Option.bind_some]
   show ((bif (0 : Int) != 0 then some true else bif (0 : Int) == 0 then (bif dueF c r.1 != dueF c r.1 then some true else bif (0 : Int) != 0 then some (dueF c r.1 != 0) else some false) else bif (0 : Int) != 0 then some (dueF c r.1 != 0) else some false).bind fun v_53 => bif v_53 then some (Ctl.ret false) else some (Ctl.go ())) = _
   rw [bne_self_eq_false, bne_self_eq_false]; rfl
theorem due_loop (r : Int × Stream) (ha : -1000 ≤ r.1 ∧ r.1 ≤ 1000) : ∀ (l : List Campaign) (k : Nat), (∀ c ∈ l, GoodC c) → forR (fun k x s => law_CampaignsPaced_L1 r k x s) l k () = some (.go ())
 | [], k, _ => rfl
 | c :: l, k, h => by
  rw [forR, due_L1 r c k (h c (by simp)) ha, Option.bind_some]
  exact due_loop r ha l (k + 1) (fun c hc => h c (by simp [hc]))
theorem campaignsPaced (l : List Int) : law_CampaignsPaced l = some true := by
 unfold law_CampaignsPaced
 have h0 : Ok (⟨l, 0⟩ : Stream) 0 := ⟨Int.le_refl _, Int.le_refl _⟩
 obtain ⟨c, s1, a1, a2, a3, a4⟩ := campaigns_ok _ 4 (by omega) h0 (by decide)
 obtain ⟨n, s2, b1, b2, b3, b4⟩ := range_ok s1 0 12 a2 (by decide) (by decide) (by decide) (by decide)
 obtain ⟨p, s3, c1, c2, c3, c4⟩ := played_ok s2 n ⟨b2, b3⟩ b4 (by decide)
 obtain ⟨at_, s4, d1, d0, d2⟩ := pick_ok s3 [0, 5, 10, 25, 40, 60, 100, (-1)] c2 (by decide) (by simp) (by simp)
 have ha : -1000 ≤ at_ ∧ at_ ≤ 1000 := by
  simp only [List.mem_cons, List.not_mem_nil, or_false] at d0; omega
 have hpf := paceFault_eq c p at_ a4 c4 (by omega) (by omega)
 have hloop : forL c () (fun k x s => law_CampaignsPaced_L1 (at_, s4) k x s) = some (.go ()) := by
  rw [forL_eq (by omega), due_loop (at_, s4) ha c 0 a4]
 have herr : law_errs [campsF c, playsE p, bad (badM at_)] = some (faultOf c p at_) := by
  rw [errsL _ (by simp)]
  simp only [List.foldr_cons, List.foldr_nil, or0_0]; rfl
 have hF1 := campsR c a4 (by omega)
 have hF2 := playedFault_eq p c4 (by omega)
 have hF3 := momentFault_eq at_
 generalize hF : faultOf c p at_ = F at *
 by_cases h : F = 0
 ·have hcf : campsF c = 0 := by
   rw [h] at hF
   unfold faultOf or0 at hF
   cases hz : campsF c == 0 with
   | true => exact eq_of_beq hz
   | false => rw [hz, cond_false] at hF; exact hF
  have hr := campsF_right hcf
  have hz : (F != 0) = false := by rw [h]; rfl
  have hP : booking_Paces c p at_ = some (c.map (paceF at_ p), 0) := by
   unfold booking_Paces
   rw [hpf, Option.bind_some, hz, cond_false, pacesK c p at_ (by omega) (by omega) hr ha]; rfl
  obtain ⟨s', e1, e2, e3⟩ := choose_loop c p at_ (by omega) (by omega) hr ha c 0 (-1) rfl (.inl rfl)
  obtain ⟨k, ok, q1, q2⟩ : ∃ k ok, booking_Choose c p at_ = some (k, ok, 0) ∧ ref_ChooseOf c p at_ = some (k, ok) := by
   unfold booking_Choose ref_ChooseOf
   rw [hpf, Option.bind_some, hz, cond_false, pacesK c p at_ (by omega) (by omega) hr ha, Option.bind_some, forL_eq (by omega), forL_eq (by omega), e1, e2]
   simp only [Option.bind_some, thenC]
   rcases e3 with rfl | ⟨j, rfl, hj⟩
   ·exact ⟨_, _, rfl, rfl⟩
   ·have hd : decide ((j : Int) < 0) = false := by simp
    simp only [hd, cond_false, idx_nat, List.getElem?_eq_getElem hj, Option.bind_some]
    exact ⟨_, _, rfl, rfl⟩
  obtain ⟨b, f1, f2, f3⟩ := bill_loop c p at_ (by omega) (by omega) hr ha c 0 [] rfl (Nat.le_refl _)
  have hB : booking_Bill c p at_ = some (b, 0) := by
   unfold booking_Bill
   rw [hpf, Option.bind_some, hz, cond_false, pacesK c p at_ (by omega) (by omega) hr ha, Option.bind_some, forL_eq (by simp; omega), f1]; rfl
  have hB2 : ref_BillOf c p at_ = some b := by
   unfold ref_BillOf
   rw [forL_eq (by omega), f2]; rfl
  have hz0 : ((0 : Int) != F) = false := by rw [h]; rfl
  have hkk : sEq k k = true := (sEq_iff k k).2 rfl
  simp only [a1, b1, c1, d1, hP, q1, hB, hF1, hF2, hF3, herr, hz0, cond_false, Option.bind_some, hloop, thenC, hz, q2, pacesR c p at_ (by omega) (by omega) hr ha, eqPaces _ (show (c.map (paceF at_ p)).length ≤ 1000000 by simp; omega), cond_true, hkk, beq_self_eq_true, hB2, eqPairs b (by omega), booked_ok]
 ·have hz : (F != 0) = true := by simpa using h
  have hP : booking_Paces c p at_ = some ([], F) := by
   unfold booking_Paces
   rw [hpf, Option.bind_some, hz]; rfl
  have hC : booking_Choose c p at_ = some (⟨#[]⟩, false, F) := by
   unfold booking_Choose
   rw [hpf, Option.bind_some, hz]; rfl
  have hB : booking_Bill c p at_ = some ([], F) := by
   unfold booking_Bill
   rw [hpf, Option.bind_some, hz]; rfl
  have hff : (F != F) = false := by simp
  have hl0 : (w64 (((([] : List Pace).length : Nat) : Int) + ((([] : List Pair).length : Nat) : Int)) == 0) = true := rfl
  have hss : sEq (⟨#[]⟩ : ByteArray) ⟨#[]⟩ = true := (sEq_iff _ _).2 rfl
  simp only [a1, b1, c1, d1, hP, hC, hB, hF1, hF2, hF3, herr, hff, cond_false, Option.bind_some, hloop, thenC, hz, hl0, hss, cond_true, Bool.not_false, booked_ok]
end Go.Proofs.YtjmpbmnakfipdaaDoor.Law

