import Derived.Test.YtipcgokielgnhaaGreatDoorCkGen
/-
  PLAIN LEMMAS: the check of beats; those of a player, in order.
-/
open Go Go.Eng
namespace Go.Proofs.YtipcgokielgnhaaGreatDoor.Law
set_option linter.unusedVariables false
set_option linter.unusedSimpArgs false

def beforeB (o b : Beat) : Prop := lt o.Player b.Player ∨ o.Player = b.Player ∧ o.At < b.At
instance (o b : Beat) : Decidable (beforeB o b) := by unfold beforeB lt; infer_instance
def bStp (p : Option Beat) (b : Beat) : Int :=
 bif !keyB b.Player then 5 else bif !momB b.At || !momB b.Clock then 1 else match p with
  | none => 0
  | some o => if beforeB o b then (if b.Player = o.Player ∧ b.Clock ≤ o.Clock then 16 else 0) else 7
def beatsF (l : List Beat) : Int := bif decide (l.length > 500) then 2 else chkG bStp none l

theorem compareBeats_eq (a b : Beat) : ∃ n, proof_compareBeats a b = some n ∧ (n ≥ 0 ↔ ¬ beforeB a b) := by
 refine ⟨_, by simp only [proof_compareBeats, compare_eq, cmpInt_eq, or2_eq, Option.bind_some]; rfl, ?_⟩
 unfold or0 beforeB cmpI
 rcases cmpB_spec a.Player b.Player with ⟨h, k⟩ | ⟨h, k⟩ | ⟨h, k⟩
 ·rw [k]; simp [h]
 ·rw [k, h]
  have := lt_irr b.Player
  by_cases h1 : a.At < b.At
  ·simp [h1]
  ·by_cases h2 : a.At > b.At
   ·simp [h1, h2, this]
   ·simp [h1, h2, this]
 ·rw [k]
  have h1 : ¬ lt a.Player b.Player := fun h2 => lt_irr _ (lt_trans h h2)
  have h2 : a.Player ≠ b.Player := fun e => lt_irr _ (e ▸ h)
  simp [h1, h2]

theorem beatsK (l : List Beat) (hs : ∀ x ∈ l, GoodB x) (hl : l.length ≤ 1000000) : proof_CheckBeats l = some (beatsF l) := by
 unfold proof_CheckBeats beatsF
 have e : decide ((l.length : Int) > 500) = decide (l.length > 500) := decide_eq_decide.2 (by omega)
 rw [e]
 cases decide (l.length > 500) with
 | true => rfl
 | false =>
  simp only [cond_false]
  rw [forL_eq (by omega), chkG_prev (stp := bStp) l l 0 rfl (fun k x hx => ?_)]
  ·simp only [Option.bind_some, outC_then]; rfl
  ·have hxs : Short x.Player := hs x (List.mem_of_getElem? hx)
   have eo : kit_Outside x.Clock 0 345686399999 = some (!momB x.Clock) := by rw [outside_eq]; simp [momB]
   simp only [proof_CheckBeats_L1, isKey_eq x.Player (by unfold Short at hxs; omega), isMoment_eq, eo, Option.bind_some, bStp]
   cases hk : keyB x.Player with
   | false => rfl
   | true =>
   simp only [Bool.not_true, cond_false]
   cases momB x.At with
   | false => rfl
   | true =>
   simp only [Bool.not_true, cond_false, Bool.false_or, Option.bind_some]
   cases momB x.Clock with
   | false => rfl
   | true =>
   simp only [Bool.not_true, cond_false]
   by_cases hk0 : 0 < k
   ·obtain ⟨y, h1, h2⟩ := idx_prev hx hk0 (by omega)
    have hd : decide ((k : Int) > 0) = true := by simp; omega
    obtain ⟨n, hn, hn2⟩ := compareBeats_eq y x
    simp only [hd, cond_true, h1, Option.bind_some, prevO, if_neg (show ¬ k = 0 by omega), h2, hn]
    by_cases hb : beforeB y x
    ·have : decide (n ≥ 0) = false := by simp only [decide_eq_false_iff_not]; exact fun h => (hn2.1 h) hb
     simp only [this, cond_false, if_pos hb, sEq_dec]
     by_cases he : x.Player = y.Player
     ·by_cases hc : x.Clock ≤ y.Clock
      ·simp [he, hc, outC]
      ·simp [he, hc, outC]
     ·simp [he, outC]
    ·have : decide (n ≥ 0) = true := decide_eq_true (hn2.2 hb)
     simp only [this, cond_true, if_neg hb, outC]; rfl
   ·have hk0 : k = 0 := by omega
    subst hk0
    rfl
theorem before_trans {a b c : Beat} (h : beforeB a b) (k : beforeB b c) : beforeB a c := by
 rcases h with h | ⟨h1, h2⟩
 ·rcases k with k | ⟨k1, _⟩
  ·exact .inl (lt_trans h k)
  ·exact .inl (k1 ▸ h)
 ·rcases k with k | ⟨k1, k2⟩
  ·exact .inl (h1 ▸ k)
  ·exact .inr ⟨h1.trans k1, by omega⟩
theorem bStp_0 {p : Option Beat} {b : Beat} (h : bStp p b = 0) : momB b.At = true ∧ momB b.Clock = true ∧ ∀ o, p = some o → beforeB o b := by
 unfold bStp at h
 cases hk : keyB b.Player with
 | false => rw [hk] at h; cases h
 | true =>
 rw [hk] at h
 simp only [Bool.not_true, cond_false] at h
 cases ha : momB b.At with
 | false => rw [ha] at h; cases h
 | true =>
 cases hc : momB b.Clock with
 | false => rw [ha, hc] at h; cases h
 | true =>
 rw [ha, hc] at h
 simp only [Bool.not_true, Bool.or_self, cond_false] at h
 refine ⟨rfl, rfl, fun o ho => ?_⟩
 subst ho
 simp only at h
 by_cases hb : beforeB o b
 ·exact hb
 ·rw [if_neg hb] at h; cases h
def SortedB : List Beat → Prop
 | [] => True
 | x :: xs => (∀ y ∈ xs, beforeB x y) ∧ SortedB xs
theorem chkB_sorted : ∀ {l : List Beat} {p : Option Beat}, chkG bStp p l = 0 → (∀ o, p = some o → ∀ y ∈ l, beforeB o y) ∧ SortedB l ∧ ∀ x ∈ l, momB x.At = true ∧ momB x.Clock = true
 | [], _, _ => ⟨fun _ _ y hy => (by cases hy), trivial, fun x hx => (by cases hx)⟩
 | x :: xs, p, h => by
  obtain ⟨h1, h2⟩ := chkG_0 h
  obtain ⟨i1, i2, i3⟩ := chkB_sorted h2
  obtain ⟨j1, j2, j3⟩ := bStp_0 h1
  refine ⟨fun o ho y hy => ?_, ⟨i1 x rfl, i2⟩, fun y hy => ?_⟩
  ·rcases List.mem_cons.1 hy with rfl | hy
   ·exact j3 o ho
   ·exact before_trans (j3 o ho) (i1 x rfl y hy)
  ·rcases List.mem_cons.1 hy with rfl | hy
   ·exact ⟨j1, j2⟩
   ·exact i3 y hy
theorem beatsF_0 {l : List Beat} (h : beatsF l = 0) : SortedB l ∧ ∀ x ∈ l, momB x.At = true ∧ momB x.Clock = true := by
 unfold beatsF at h
 cases hl : decide (l.length > 500) with
 | true => rw [hl] at h; cases h
 | false => rw [hl, cond_false] at h; exact (chkB_sorted h).2
end Go.Proofs.YtipcgokielgnhaaGreatDoor.Law

