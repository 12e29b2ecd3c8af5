import Derived.Test.YtipcgokielgnhaaGreatDoorCkCheck
import Derived.Test.YtipcgokielgnhaaGreatDoorPlSl
/-
  PLAIN LEMMAS: what belongs to a number by beats.
-/
open Go Go.Eng
namespace Go.Proofs.YtipcgokielgnhaaGreatDoor.Law
set_option linter.unusedVariables false
set_option linter.unusedSimpArgs false

structure Cut (m : List Beat_) (n : Int) (k : Nat) : Prop where
 le : k ≤ m.length
 lo : ∀ i (h : i < m.length), i < k → m[i].f_from ≤ n
 hi : ∀ (h : k < m.length), n < m[k].f_from
theorem cut_ex (m : List Beat_) (n : Int) : ∃ k, Cut m n k := by
 induction m with
 | nil => exact ⟨0, ⟨Nat.le_refl _, fun i h => absurd h (Nat.not_lt_zero i), fun h => absurd h (Nat.lt_irrefl 0)⟩⟩
 | cons x m ih =>
  by_cases hx : x.f_from ≤ n
  ·obtain ⟨k, h1, h2, h3⟩ := ih
   refine ⟨k + 1, ⟨by simp; omega, fun i h hik => ?_, fun h => ?_⟩⟩
   ·cases i with
    | zero => exact hx
    | succ i => exact h2 i (by simpa using h) (by omega)
   ·exact h3 (by simpa using h)
  ·exact ⟨0, ⟨Nat.zero_le _, fun i h hik => absurd hik (Nat.not_lt_zero i), fun h => by simpa using hx⟩⟩
def finV (x : Int) : Int × Int := bif momB x then (x, 0) else (0, 11)
def farB (p q : Beat_) : Bool := decide (w64 (q.f_from - p.f_from) > 2592000000) || decide (w64 (q.f_to - p.f_to) > 2592000000)
def between (p q : Beat_) (n : Int) : Int := w64 (p.f_to + w64 ((w64 ((w64 (n - p.f_from)) * (w64 (q.f_to - p.f_to)))).tdiv (w64 (q.f_from - p.f_from))))
def z2 : Beat_ := ⟨0, 0⟩
def mapV (m : List Beat_) (n : Int) (k : Nat) : Int × Int :=
 if m.length = 0 then (0, 8) else if k = 0 then finV ((m.getD 0 z2).f_to + n - (m.getD 0 z2).f_from) else
 if k = m.length then finV (w64 (w64 ((m.getD (k - 1) z2).f_to + n) - (m.getD (k - 1) z2).f_from)) else
 bif farB (m.getD (k - 1) z2) (m.getD k z2) then (0, 2) else finV (between (m.getD (k - 1) z2) (m.getD k z2) n)
def inM (x : Int) : Prop := 0 ≤ x ∧ x ≤ 345686399999
def BndM (m : List Beat_) : Prop := ∀ x ∈ m, inM x.f_from ∧ inM x.f_to
theorem getD_at {α : Type} {m : List α} {i : Nat} {z : α} (h : i < m.length) : m.getD i z = m[i] := by
 rw [List.getD_eq_getElem?_getD, List.getElem?_eq_getElem h]; rfl
theorem finV_eq (x : Int) : ((kit_IsMoment x).bind fun r => bif (!r) then some (0, 11) else some (x, 0)) = some (finV x) := by
 rw [isMoment_eq, Option.bind_some]; unfold finV
 cases momB x <;> rfl
theorem mapped_iter {m : List Beat_} {n : Int} {k : Nat} (hc : Cut m n k) (hl : m.length ≤ 1000000) : ∀ (d j : Nat), j + d = k → iterN (fun s => proof_mapped_L1 m n s) (d + 1) (j : Int) = some (.go (k : Int))
 | 0, j, h => by
  have hj : j = k := by omega
  subst hj
  have hst : proof_mapped_L1 m n (j : Int) = some (.brk (j : Int)) := by
   unfold proof_mapped_L1
   by_cases hlt : j < m.length
   ·have h1 : decide ((j : Int) < (m.length : Int)) = true := by simp; omega
    have h2 : decide ((m[j]).f_from ≤ n) = false := by have := hc.hi hlt; simp; omega
    simp only [h1, cond_true, idx_nat, List.getElem?_eq_getElem hlt, Option.bind_some, h2, cond_false]
   ·have h1 : decide ((j : Int) < (m.length : Int)) = false := by simp; omega
    simp only [h1, cond_false, Option.bind_some]
  rw [iterN, hst]; rfl
 | d + 1, j, h => by
  have hjk : j < k := by omega
  have hlt : j < m.length := by have := hc.le; omega
  have hst : proof_mapped_L1 m n (j : Int) = some (.go ((j + 1 : Nat) : Int)) := by
   unfold proof_mapped_L1
   have h1 : decide ((j : Int) < (m.length : Int)) = true := by simp; omega
   have h2 : decide ((m[j]).f_from ≤ n) = true := decide_eq_true (hc.lo j hlt hjk)
   simp only [h1, cond_true, idx_nat, List.getElem?_eq_getElem hlt, Option.bind_some, h2]
   rw [w64_id (by omega)]; congr 2
  rw [iterN, hst, Option.bind_some]
  exact mapped_iter hc hl d (j + 1) (by omega)

theorem mapped_eq {m : List Beat_} {n : Int} {k : Nat} (hc : Cut m n k) (hb : BndM m) (hn : inM n) (hl : m.length ≤ 1000000) : proof_mapped m n = some (mapV m n k) := by
 unfold proof_mapped mapV
 by_cases h0 : m.length = 0
 ·have : ((m.length : Int) == 0) = true := by simp [h0]
  simp only [this, cond_true, if_pos h0]
 ·have : ((m.length : Int) == 0) = false := by simpa using h0
  have hlo := iter_loopO (mapped_iter hc hl k 0 (by omega))
  rw [show ((0 : Nat) : Int) = 0 from rfl] at hlo
  simp only [this, cond_false, if_neg h0, hlo, Option.bind_some, thenC_go]
  by_cases hk0 : k = 0
  ·subst hk0
   have h1 : (((0 : Nat) : Int) == 0) = true := rfl
   have h2 : idx m 0 = some (m.getD 0 z2) := by
    have := idx_nat m 0
    rw [show ((0 : Nat) : Int) = 0 from rfl] at this
    rw [this, getD_at (by omega)]; exact List.getElem?_eq_getElem _
   have hm : m.getD 0 z2 ∈ m := by rw [getD_at (by omega)]; exact List.getElem_mem _
   obtain ⟨⟨b1, b2⟩, b3, b4⟩ := hb _ hm
   obtain ⟨n1, n2⟩ := hn
   simp only [h1, cond_true, h2, Option.bind_some, if_true]
   rw [w64_id (n := (m.getD 0 z2).f_from - n) (by omega), w64_id (by omega), show (m.getD 0 z2).f_to - ((m.getD 0 z2).f_from - n) = (m.getD 0 z2).f_to + n - (m.getD 0 z2).f_from by omega]
   exact finV_eq _
  ·have h1 : ((k : Int) == 0) = false := by simpa using hk0
   have hle := hc.le
   have hw : w64 ((k : Int) - 1) = ((k - 1 : Nat) : Int) := by rw [w64_id (by omega)]; omega
   have hp : idx m (w64 ((k : Int) - 1)) = some (m.getD (k - 1) z2) := by rw [hw, idx_nat, getD_at (by omega)]; exact List.getElem?_eq_getElem _
   have hpl : (m.getD (k - 1) z2).f_from ≤ n := by rw [getD_at (by omega)]; exact hc.lo _ _ (by omega)
   simp only [h1, cond_false, if_neg hk0, hp, Option.bind_some]
   by_cases hkl : k = m.length
   ·have h2 : ((k : Int) == (m.length : Int)) = true := by simp [hkl]
    simp only [h2, cond_true, if_pos hkl]
    exact finV_eq _
   ·have hlt : k < m.length := by omega
    have h2 : ((k : Int) == (m.length : Int)) = false := by simp; omega
    have hq : idx m (k : Int) = some (m.getD k z2) := by rw [idx_nat, getD_at hlt]; exact List.getElem?_eq_getElem _
    have hqh : n < (m.getD k z2).f_from := by rw [getD_at hlt]; exact hc.hi hlt
    have hbp := hb (m.getD (k - 1) z2) (by rw [getD_at (by omega)]; exact List.getElem_mem _)
    have hbq := hb (m.getD k z2) (by rw [getD_at hlt]; exact List.getElem_mem _)
    obtain ⟨⟨b1, b2⟩, _⟩ := hbp
    obtain ⟨⟨b5, b6⟩, _⟩ := hbq
    have hdne : w64 ((m.getD k z2).f_from - (m.getD (k - 1) z2).f_from) ≠ 0 := by rw [w64_id (by omega)]; omega
    simp only [h2, cond_false, if_neg hkl, hq, Option.bind_some]
    have hfar : (bif (decide ((w64 ((m.getD k z2).f_from - (m.getD (k - 1) z2).f_from)) > 2592000000)) then some true else some (decide ((w64 ((m.getD k z2).f_to - (m.getD (k - 1) z2).f_to)) > 2592000000))) = some (farB (m.getD (k - 1) z2) (m.getD k z2)) := by
     unfold farB
     cases decide ((w64 ((m.getD k z2).f_from - (m.getD (k - 1) z2).f_from)) > 2592000000) <;> rfl
    rw [hfar, Option.bind_some]
    cases farB (m.getD (k - 1) z2) (m.getD k z2) with
    | true => rfl
    | false =>
     simp only [cond_false, quoO, if_neg hdne, Option.bind_some]
     exact finV_eq _

def gB (b : Beat) : Beat_ := ⟨b.Clock, b.At⟩
end Go.Proofs.YtipcgokielgnhaaGreatDoor.Law

