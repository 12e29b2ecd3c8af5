import Derived.Test.YtipcgokielgnhaaGreatDoorEpLib
/-
  PLAIN LEMMAS: numbers that are mapped along rising places, and back.
-/
open Go Go.Eng
namespace Go.Proofs.YtipcgokielgnhaaGreatDoor.Law
set_option linter.unusedVariables false
set_option linter.unusedSimpArgs false

def StepF (f : Nat → Int) (N : Nat) : Prop := ∀ i, i + 1 < N → 50 ≤ f (i + 1) - f i ∧ f (i + 1) - f i ≤ 300
structure CutF (f : Nat → Int) (N : Nat) (n : Int) (k : Nat) : Prop where
 le : k ≤ N
 lo : ∀ i, i < k → f i ≤ n
 hi : k < N → n < f k
def VF (f t : Nat → Int) (N : Nat) (n : Int) (k : Nat) : Int :=
 if k = N then t (k - 1) + n - f (k - 1) else t (k - 1) + (n - f (k - 1)) * (t k - t (k - 1)) / (f k - f (k - 1))
theorem StepF.mono {f : Nat → Int} {N : Nat} (h : StepF f N) : ∀ (d i : Nat), i + d < N → f i ≤ f (i + d)
 | 0, i, _ => Int.le_refl _
 | d + 1, i, hd => by
  have h1 := h.mono d i (by omega)
  have h2 := h (i + d) (by omega)
  rw [← Nat.add_assoc]; omega
theorem StepF.le {f : Nat → Int} {N : Nat} (h : StepF f N) {i j : Nat} (hij : i ≤ j) (hj : j < N) : f i ≤ f j := by
 have := h.mono (j - i) i (by omega)
 rwa [show i + (j - i) = j by omega] at this
theorem StepF.bound {f : Nat → Int} {N : Nat} (h : StepF f N) : ∀ i, i < N → f i ≤ f 0 + 300 * i
 | 0, _ => by simp
 | i + 1, hi => by
  have h1 := h.bound i (by omega)
  have h2 := h i hi
  omega
theorem vf_lo {f t : Nat → Int} {N : Nat} {n : Int} {k : Nat} (hf : StepF f N) (ht : StepF t N) (hc : CutF f N n k) (hk : 1 ≤ k) : t (k - 1) ≤ VF f t N n k := by
 have h1 := hc.lo (k - 1) (by omega)
 unfold VF
 by_cases e : k = N
 ·rw [if_pos e]; omega
 ·rw [if_neg e]
  have hkN : k < N := by have := hc.le; omega
  have s1 := hf (k - 1) (by omega)
  have s2 := ht (k - 1) (by omega)
  rw [show k - 1 + 1 = k by omega] at s1 s2
  have : 0 ≤ (n - f (k - 1)) * (t k - t (k - 1)) / (f k - f (k - 1)) := Int.ediv_nonneg (Int.mul_nonneg (by omega) (by omega)) (by omega)
  omega
theorem vf_hi {f t : Nat → Int} {N : Nat} {n : Int} {k : Nat} (hf : StepF f N) (ht : StepF t N) (hc : CutF f N n k) (hk : 1 ≤ k) (hkN : k < N) : VF f t N n k < t k := by
 have h1 := hc.lo (k - 1) (by omega)
 have h2 := hc.hi hkN
 have s1 := hf (k - 1) (by omega)
 have s2 := ht (k - 1) (by omega)
 rw [show k - 1 + 1 = k by omega] at s1 s2
 unfold VF
 rw [if_neg (by omega)]
 have : (n - f (k - 1)) * (t k - t (k - 1)) / (f k - f (k - 1)) < t k - t (k - 1) := by
  refine Int.ediv_lt_of_lt_mul (by omega) ?_
  rw [Int.mul_comm (t k - t (k - 1))]
  exact Int.mul_lt_mul_of_pos_right (by omega) (by omega)
 omega
theorem vf_mono {f t : Nat → Int} {N : Nat} {n n' : Int} {k k' : Nat} (hf : StepF f N) (ht : StepF t N) (hc : CutF f N n k) (hc' : CutF f N n' k') (hk : 1 ≤ k) (hk' : 1 ≤ k') (h : n ≤ n') : VF f t N n k ≤ VF f t N n' k' := by
 have hkk : k ≤ k' := by
  rcases Nat.lt_or_ge k' k with g | g
  ·have h1 := hc.lo k' g
   have h2 := hc'.hi (by have := hc.le; omega)
   omega
  ·exact g
 rcases Nat.lt_or_ge k k' with g | g
 ·have h1 := vf_hi hf ht hc hk (by have := hc'.le; omega)
  have h2 := vf_lo hf ht hc' hk'
  have h3 := ht.le (i := k) (j := k' - 1) (by omega) (by have := hc'.le; omega)
  omega
 ·obtain rfl : k = k' := by omega
  unfold VF
  by_cases e : k = N
  ·rw [if_pos e, if_pos e]; omega
  ·rw [if_neg e, if_neg e]
   have hkN : k < N := by have := hc.le; omega
   have s1 := hf (k - 1) (by omega)
   have s2 := ht (k - 1) (by omega)
   rw [show k - 1 + 1 = k by omega] at s1 s2
   have := Int.ediv_le_ediv (c := f k - f (k - 1)) (by omega) (Int.mul_le_mul_of_nonneg_right (show n - f (k - 1) ≤ n' - f (k - 1) by omega) (show 0 ≤ t k - t (k - 1) by omega))
   omega
theorem vf_back {f t : Nat → Int} {N : Nat} {c : Int} {k : Nat} (hf : StepF f N) (ht : StepF t N) (hc : CutF f N c k) (hk : 1 ≤ k) :
  CutF t N (VF f t N c k) k ∧ VF t f N (VF f t N c k) k ≤ c ∧ c - VF t f N (VF f t N c k) k < 8 := by
 have l1 := vf_lo hf ht hc hk
 refine ⟨⟨hc.le, fun i hi => ?_, fun h => vf_hi hf ht hc hk h⟩, ?_⟩
 ·have := ht.le (i := i) (j := k - 1) (by omega) (by have := hc.le; omega)
  omega
 ·have h1 := hc.lo (k - 1) (by omega)
  by_cases e : k = N
  ·unfold VF
   rw [if_pos e, if_pos e]; omega
  ·have hkN : k < N := by have := hc.le; omega
   have s1 := hf (k - 1) (by omega)
   have s2 := ht (k - 1) (by omega)
   rw [show k - 1 + 1 = k by omega] at s1 s2
   unfold VF
   rw [if_neg e, if_neg e]
   generalize hdf : f k - f (k - 1) = df at *
   generalize hdt : t k - t (k - 1) = dt at *
   generalize hx : c - f (k - 1) = x at *
   rw [show t (k - 1) + x * dt / df - t (k - 1) = x * dt / df by omega]
   have m1 : x * dt / df * df ≤ x * dt := Int.ediv_mul_le _ (by omega)
   have m2 : x * dt < (x * dt / df + 1) * df := Int.lt_ediv_add_one_mul_self _ (by omega)
   generalize x * dt / df = y at *
   have m3 : y * df / dt * dt ≤ y * df := Int.ediv_mul_le _ (by omega)
   have m4 : y * df < (y * df / dt + 1) * dt := Int.lt_ediv_add_one_mul_self _ (by omega)
   generalize y * df / dt = z at *
   have a1 : z ≤ x := Int.le_of_mul_le_mul_right (show z * dt ≤ x * dt by omega) (by omega)
   have a2 : x - z - 1 < 6 := by
    refine Int.lt_of_mul_lt_mul_right (a := dt) ?_ (by omega)
    rw [Int.sub_mul, Int.sub_mul, Int.one_mul]
    rw [Int.add_mul, Int.one_mul] at m2 m4
    omega
   omega
theorem vf_at {f t : Nat → Int} {N : Nat} {i : Nat} (hf : StepF f N) (hi : i < N) : CutF f N (f i) (i + 1) ∧ VF f t N (f i) (i + 1) = t i := by
 refine ⟨⟨by omega, fun j hj => hf.le (by omega) hi, fun h => ?_⟩, ?_⟩
 ·have := hf i h; omega
 ·unfold VF
  by_cases e : i + 1 = N
  ·rw [if_pos e, show i + 1 - 1 = i by omega]; omega
  ·rw [if_neg e, show i + 1 - 1 = i by omega, Int.sub_self, Int.zero_mul, Int.zero_ediv, Int.add_zero]
theorem cutF_one {f : Nat → Int} {N : Nat} {n : Int} {k : Nat} (hc : CutF f N n k) (hN : 1 ≤ N) (h : f 0 ≤ n) : 1 ≤ k := by
 rcases Nat.eq_zero_or_pos k with rfl | g
 ·have := hc.hi (by omega); omega
 ·exact g
end Go.Proofs.YtipcgokielgnhaaGreatDoor.Law

