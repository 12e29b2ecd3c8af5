import Derived.Test.YtipcgokielgnhaaGreatDoorKpClockM
import Derived.Test.YtipcgokielgnhaaGreatDoorCkLaw
import Derived.Test.YtipcgokielgnhaaGreatDoorKpLit
/-
  THE PLAIN LAW: right moments rise with the clock, at beats both agree, and what is shown at a right moment is near.
-/
open Go Go.Eng
namespace Go.Proofs.YtipcgokielgnhaaGreatDoor.Law
set_option linter.unusedVariables false
set_option linter.unusedSimpArgs false

def pS : ByteArray := ⟨#[112]⟩
def zB : Beat := ⟨pS, 0, 0⟩
def fA (b : List Beat) (i : Nat) : Int := (b.getD i zB).At
def fC (b : List Beat) (i : Nat) : Int := (b.getD i zB).Clock
structure Beats (b : List Beat) : Prop where
 len : b.length ≤ 4
 own : ∀ x ∈ b, x.Player = pS
 a0 : 0 < b.length → 0 ≤ fA b 0 ∧ fA b 0 ≤ 100
 c0 : 0 < b.length → fC b 0 = 1000
 sa : StepF (fA b) b.length
 sc : StepF (fC b) b.length
theorem getD_app {b : List Beat} {x : Beat} {i : Nat} : (b ++ [x]).getD i zB = if i < b.length then b.getD i zB else if i = b.length then x else zB := by
 simp only [List.getD_eq_getElem?_getD]
 by_cases h : i < b.length
 ·rw [if_pos h, List.getElem?_append_left h]
 ·rw [if_neg h, List.getElem?_append_right (by omega)]
  by_cases e : i = b.length
  ·rw [if_pos e, e, Nat.sub_self]; rfl
  ·rw [if_neg e]
   cases hk : i - b.length with
   | zero => omega
   | succ n => rfl
theorem beats_gen (n : Int) (s : Stream) (a0 : Int) {c : Int} (hs : Ok s c) (hc : c ≤ 800000) (hn : 1 ≤ n ∧ n ≤ 4) (ha : 0 ≤ a0 ∧ a0 ≤ 100) :
  ∃ b at_ clock s', forL (List.range n.toNat) (([] : List Beat), a0, (1000 : Int), s.L, s.f_at) (fun k x s => keep_ClocksComeBack_L1 k x s) = some (.go (b, at_, clock, s'.L, s'.f_at)) ∧ (b.length : Int) = n ∧ Beats b ∧ Ok s' (c + 20) := by
 obtain ⟨t, t1, t2, t3, t4, t5, t6⟩ := forL_inv (body := fun k x s => keep_ClocksComeBack_L1 k x s) (s := (([] : List Beat), a0, (1000 : Int), s.L, s.f_at)) (xs := List.range n.toNat)
  (fun j t => t.1.length = j ∧ (j ≤ 4 → Beats t.1) ∧ (0 < j → (50 ≤ t.2.1 - fA t.1 (j - 1) ∧ t.2.1 - fA t.1 (j - 1) ≤ 300) ∧ 50 ≤ t.2.2.1 - fC t.1 (j - 1) ∧ t.2.2.1 - fC t.1 (j - 1) ≤ 300) ∧ (j = 0 → t.2.1 = a0 ∧ t.2.2.1 = 1000) ∧ Ok ⟨t.2.2.2.1, t.2.2.2.2⟩ (c + 2 * j)) (by simp; omega) (fun j x t hx hj ⟨i1, i2, i3, i4, i5⟩ => by
  simp only [List.length_range] at hj
  have hB := i2 (by omega)
  obtain ⟨r1, s1, d1, d2, d3, d4⟩ := range_ok _ 50 300 i5 (by omega) (by decide) (by decide) (by decide)
  obtain ⟨r2, s2, e1, e2, e3, e4⟩ := range_ok s1 50 300 d4 (by omega) (by decide) (by decide) (by decide)
  have bA : ∀ i, i < j → 0 ≤ fA t.1 i ∧ fA t.1 i ≤ 1300 ∧ 0 ≤ fC t.1 i ∧ fC t.1 i ≤ 2200 := fun i hi => by
   have q1 := hB.sa.bound i (by omega)
   have q2 := hB.sc.bound i (by omega)
   have q3 := hB.a0 (by omega)
   have q4 := hB.c0 (by omega)
   have q5 := hB.sa.le (i := 0) (j := i) (by omega) (by omega)
   have q6 := hB.sc.le (i := 0) (j := i) (by omega) (by omega)
   omega
  have tb : 0 ≤ t.2.1 ∧ t.2.1 ≤ 2000 ∧ 0 ≤ t.2.2.1 ∧ t.2.2.1 ≤ 3000 := by
   rcases Nat.eq_zero_or_pos j with g | g
   ·have := i4 g; omega
   ·have := i3 g
    have := bA (j - 1) (by omega)
    omega
  unfold keep_ClocksComeBack_L1
  rw [appL_ok _ _ (by simp; omega), Option.bind_some, d1, Option.bind_some, e1, Option.bind_some, w64_id (n := t.2.1 + r1) (by omega), w64_id (n := t.2.2.1 + r2) (by omega)]
  have gA : ∀ i, fA (t.1 ++ [⟨⟨#[112]⟩, t.2.1, t.2.2.1⟩]) i = if i < j then fA t.1 i else if i = j then t.2.1 else 0 := fun i => by
   unfold fA
   rw [getD_app, i1]
   by_cases g : i < j
   ·rw [if_pos g, if_pos g]
   ·rw [if_neg g, if_neg g]
    by_cases g2 : i = j
    ·rw [if_pos g2, if_pos g2]
    ·rw [if_neg g2, if_neg g2]; rfl
  have gC : ∀ i, fC (t.1 ++ [⟨⟨#[112]⟩, t.2.1, t.2.2.1⟩]) i = if i < j then fC t.1 i else if i = j then t.2.2.1 else 0 := fun i => by
   unfold fC
   rw [getD_app, i1]
   by_cases g : i < j
   ·rw [if_pos g, if_pos g]
   ·rw [if_neg g, if_neg g]
    by_cases g2 : i = j
    ·rw [if_pos g2, if_pos g2]
    ·rw [if_neg g2, if_neg g2]; rfl
  refine ⟨_, rfl, by simp; omega, fun hj4 => ?_, fun _ => ?_, fun h => absurd h (Nat.succ_ne_zero _), e4.mono (by omega)⟩
  ·have hlen : (t.1 ++ [(⟨⟨#[112]⟩, t.2.1, t.2.2.1⟩ : Beat)]).length = j + 1 := by simp; omega
   refine ⟨by rw [hlen]; omega, fun y hy => ?_, fun _ => ?_, fun _ => ?_, fun i hi => ?_, fun i hi => ?_⟩
   ·rcases List.mem_append.1 hy with hy | hy
    ·exact hB.own y hy
    ·rw [List.mem_singleton.1 hy]; rfl
   ·rw [gA]
    rcases Nat.eq_zero_or_pos j with g | g
    ·rw [if_neg (by omega), if_pos (by omega)]; have := i4 g; omega
    ·rw [if_pos g]; exact hB.a0 (by omega)
   ·rw [gC]
    rcases Nat.eq_zero_or_pos j with g | g
    ·rw [if_neg (by omega), if_pos (by omega)]; exact (i4 g).2
    ·rw [if_pos g]; exact hB.c0 (by omega)
   ·rw [hlen] at hi
    rw [gA, gA]
    by_cases g : i + 1 < j
    ·rw [if_pos g, if_pos (by omega)]; exact hB.sa i (by omega)
    ·have e : i + 1 = j := by omega
     rw [if_neg g, if_pos e, if_pos (by omega)]
     have := (i3 (by omega)).1
     rw [show j - 1 = i by omega] at this; exact this
   ·rw [hlen] at hi
    rw [gC, gC]
    by_cases g : i + 1 < j
    ·rw [if_pos g, if_pos (by omega)]; exact hB.sc i (by omega)
    ·have e : i + 1 = j := by omega
     rw [if_neg g, if_pos e, if_pos (by omega)]
     have := (i3 (by omega)).2
     rw [show j - 1 = i by omega] at this; exact this
  ·rw [gA, gC, if_neg (by omega), if_pos (by omega), if_neg (by omega), if_pos (by omega)]
   simp only []
   omega) ⟨rfl, fun _ => ⟨by simp, fun x hx => (by cases hx), fun h => absurd h (Nat.lt_irrefl 0), fun h => absurd h (Nat.lt_irrefl 0), fun i hi => absurd hi (Nat.not_lt_zero _), fun i hi => absurd hi (Nat.not_lt_zero _)⟩, fun h => absurd h (Nat.lt_irrefl 0), fun _ => ⟨rfl, rfl⟩, hs.mono (by omega)⟩
 rw [List.length_range] at t2 t3 t4 t5 t6
 exact ⟨t.1, t.2.1, t.2.2.1, ⟨t.2.2.2.1, t.2.2.2.2⟩, t1, by omega, t3 (by omega), t6.mono (by omega)⟩
theorem Beats.bnd {b : List Beat} (h : Beats b) {i : Nat} (hi : i < b.length) : (0 ≤ fA b i ∧ fA b i ≤ 1300) ∧ 1000 ≤ fC b i ∧ fC b i ≤ 2200 := by
 have q0 := h.len
 have q1 := h.sa.bound i hi
 have q2 := h.sc.bound i hi
 have q3 := h.a0 (by omega)
 have q4 := h.c0 (by omega)
 have q5 := h.sa.le (i := 0) (j := i) (by omega) hi
 have q6 := h.sc.le (i := 0) (j := i) (by omega) hi
 omega
theorem fA_at {b : List Beat} {i : Nat} {x : Beat} (h : b[i]? = some x) : fA b i = x.At ∧ fC b i = x.Clock := by
 unfold fA fC
 rw [List.getD_eq_getElem?_getD, h]
 exact ⟨rfl, rfl⟩
theorem momB_in {n : Int} (h : 0 ≤ n ∧ n ≤ 100000) : momB n = true := by
 unfold momB
 rw [outB_in (by omega)]; rfl
theorem short_p : Short pS := short_lit rfl
theorem Beats.right {b : List Beat} (h : Beats b) : beatsF b = 0 := by
 have hk : keyB pS = true := by kernel_rfl
 have key : ∀ (l : List Beat) (k : Nat), b.drop k = l → chkG bStp (prevO b k) l = 0 := by
  intro l
  induction l with
  | nil => exact fun _ _ => rfl
  | cons x l ih =>
   intro k hd
   have hg := drop_get hd
   have hlt := drop_lt hd
   obtain ⟨e1, e2⟩ := fA_at hg
   have hb := h.bnd hlt
   have hx := h.own x (List.mem_of_getElem? hg)
   have h0 : bStp (prevO b k) x = 0 := by
    unfold bStp
    rw [hx, hk, momB_in (n := x.At) (by omega), momB_in (n := x.Clock) (by omega)]
    unfold prevO
    by_cases hk0 : k = 0
    ·rw [if_pos hk0]; rfl
    ·rw [if_neg hk0, List.getElem?_eq_getElem (show k - 1 < b.length by omega)]
     obtain ⟨d1, d2⟩ := fA_at (List.getElem?_eq_getElem (show k - 1 < b.length by omega))
     have s1 := h.sa (k - 1) (by omega)
     have s2 := h.sc (k - 1) (by omega)
     rw [show k - 1 + 1 = k by omega] at s1 s2
     have ho := h.own b[k - 1] (List.getElem_mem _)
     show (if beforeB b[k - 1] x then _ else _) = (0 : Int)
     rw [if_pos (.inr ⟨by rw [ho, hx], by omega⟩), if_neg (by omega)]
   rw [chkG, h0]
   show (bif (0 : Int) == 0 then _ else _) = _
   rw [beq_self_eq_true, cond_true]
   have hp : prevO b (k + 1) = some x := by unfold prevO; rw [if_neg (by omega), Nat.add_sub_cancel]; exact hg
   rw [← hp]
   exact ih (k + 1) (drop_next hd)
 unfold beatsF
 rw [decide_eq_false (by have := h.len; omega), cond_false]
 exact key b 0 rfl
theorem Beats.all {b : List Beat} (h : Beats b) : b.filter (ofB pS) = b := List.filter_eq_self.2 (fun x hx => by unfold ofB; rw [h.own x hx]; simp)
theorem cut_of {m : List Beat_} {f : Nat → Int} {N : Nat} {n : Int} {k : Nat} (hN : m.length = N) (hf : ∀ i, i < N → (m.getD i z2).f_from = f i) (hc : Cut m n k) : CutF f N n k := by
 subst hN
 refine ⟨hc.le, fun i hi => ?_, fun h => ?_⟩
 ·have hil : i < m.length := by have := hc.le; omega
  have := hc.lo i hil hi
  rw [← hf i hil, getD_at hil]; exact this
 ·have := hc.hi h
  rw [← hf k h, getD_at h]; exact this
theorem cutF_uniq {f : Nat → Int} {N : Nat} {n : Int} {k k' : Nat} (h : CutF f N n k) (h' : CutF f N n k') : k = k' := by
 rcases Nat.lt_trichotomy k k' with g | g | g
 ·have h1 := h'.lo k g
  have h2 := h.hi (by have := h'.le; omega)
  omega
 ·exact g
 ·have h1 := h.lo k' g
  have h2 := h'.hi (by have := h.le; omega)
  omega
theorem mapV_VF {m : List Beat_} {f t : Nat → Int} {N : Nat} {n : Int} {k : Nat} (hN : m.length = N) (h1 : 1 ≤ N) (h4 : N ≤ 4) (hf : ∀ i, i < N → (m.getD i z2).f_from = f i ∧ (m.getD i z2).f_to = t i) (sf : StepF f N) (st : StepF t N)
  (bf : 0 ≤ f 0 ∧ f 0 ≤ 1000) (bt : 0 ≤ t 0 ∧ t 0 ≤ 1000) (hn : f 0 ≤ n ∧ n ≤ 20000) (hc : CutF f N n k) : mapV m n k = (VF f t N n k, 0) ∧ 0 ≤ VF f t N n k ∧ VF f t N n k ≤ 30000 := by
 have hk := cutF_one hc h1 hn.1
 have bd : ∀ i, i < N → (0 ≤ f i ∧ f i ≤ 2200) ∧ 0 ≤ t i ∧ t i ≤ 2200 := fun i hi => by
  have q1 := sf.bound i hi
  have q2 := st.bound i hi
  have q3 := sf.le (i := 0) (j := i) (by omega) hi
  have q4 := st.le (i := 0) (j := i) (by omega) hi
  omega
 have hkl := hc.le
 obtain ⟨p1, p2⟩ := bd (k - 1) (by omega)
 obtain ⟨e1, e2⟩ := hf (k - 1) (by omega)
 have hlo := hc.lo (k - 1) (by omega)
 have hVlo := vf_lo sf st hc hk
 have hVb : 0 ≤ VF f t N n k ∧ VF f t N n k ≤ 30000 := by
  refine ⟨by omega, ?_⟩
  by_cases e : k = N
  ·unfold VF; rw [if_pos e]; omega
  ·have := vf_hi sf st hc hk (by omega)
   have := (bd k (by omega)).2
   omega
 refine ⟨?_, hVb⟩
 have hfin : ∀ v : Int, 0 ≤ v ∧ v ≤ 30000 → finV v = (v, 0) := fun v hv => by unfold finV; rw [momB_in (by omega)]; rfl
 unfold mapV
 rw [if_neg (by omega), if_neg (by omega), e1, e2, hN]
 by_cases e : k = N
 ·have hV : VF f t N n k = t (k - 1) + n - f (k - 1) := by unfold VF; rw [if_pos e]
  rw [if_pos e, w64_id (n := t (k - 1) + n) (by omega), w64_id (n := t (k - 1) + n - f (k - 1)) (by omega), ← hV, hfin _ hVb]
 ·obtain ⟨g1, g2⟩ := hf k (by omega)
  have s1 := sf (k - 1) (by omega)
  have s2 := st (k - 1) (by omega)
  rw [show k - 1 + 1 = k by omega] at s1 s2
  have hhi := hc.hi (by omega)
  have hV : VF f t N n k = t (k - 1) + (n - f (k - 1)) * (t k - t (k - 1)) / (f k - f (k - 1)) := by unfold VF; rw [if_neg e]
  have hfar : farB (m.getD (k - 1) z2) (m.getD k z2) = false := by
   unfold farB
   rw [e1, e2, g1, g2, w64_id (n := f k - f (k - 1)) (by omega), w64_id (n := t k - t (k - 1)) (by omega), decide_eq_false (by omega), decide_eq_false (by omega)]; rfl
  have hbet : between (m.getD (k - 1) z2) (m.getD k z2) n = VF f t N n k := by
   unfold between
   rw [e1, e2, g1, g2, w64_id (n := n - f (k - 1)) (by omega), w64_id (n := f k - f (k - 1)) (by omega), w64_id (n := t k - t (k - 1)) (by omega)]
   have m1 : 0 ≤ (n - f (k - 1)) * (t k - t (k - 1)) := Int.mul_nonneg (by omega) (by omega)
   have m2 : (n - f (k - 1)) * (t k - t (k - 1)) ≤ 300 * 300 := Int.mul_le_mul (by omega) (by omega) (by omega) (by decide)
   have m3 : (n - f (k - 1)) * (t k - t (k - 1)) / (f k - f (k - 1)) ≤ (n - f (k - 1)) * (t k - t (k - 1)) := Int.ediv_le_self _ m1
   have m4 : 0 ≤ (n - f (k - 1)) * (t k - t (k - 1)) / (f k - f (k - 1)) := Int.ediv_nonneg m1 (by omega)
   rw [w64_id (n := (n - f (k - 1)) * (t k - t (k - 1))) (by omega), Int.tdiv_eq_ediv_of_nonneg m1, w64_id (n := (n - f (k - 1)) * (t k - t (k - 1)) / (f k - f (k - 1))) (by omega), w64_id (by omega), hV]
  rw [if_neg e, hfar, cond_false, hbet, hfin _ hVb]
theorem map_at {b : List Beat} {i : Nat} (hi : i < b.length) : ((b.map gB).getD i z2).f_from = fC b i ∧ ((b.map gB).getD i z2).f_to = fA b i ∧ ((b.map gK).getD i z2).f_from = fA b i ∧ ((b.map gK).getD i z2).f_to = fC b i := by
 simp only [List.getD_eq_getElem?_getD, List.getElem?_map, fA, fC, List.getElem?_eq_getElem hi]
 exact ⟨rfl, rfl, rfl, rfl⟩
theorem right_is {b : List Beat} (h : Beats b) (h1 : 1 ≤ b.length) {n : Int} (hn : fC b 0 ≤ n ∧ n ≤ 20000) : ∃ k, CutF (fC b) b.length n k ∧ proof_Right b pS n = some (VF (fC b) (fA b) b.length n k, 0) ∧ 0 ≤ VF (fC b) (fA b) b.length n k ∧ VF (fC b) (fA b) b.length n k ≤ 30000 := by
 have hc0 := h.c0 (by omega)
 have ha0 := h.a0 (by omega)
 obtain ⟨k, k1, k2⟩ := asked_eq b pS n false (fun x hx => by unfold GoodB; rw [h.own x hx]; exact short_p) (by have := h.len; omega) short_p
 have hz : or0 (beatsF b) (or0 (namedF pS) (momF n)) = 0 := by
  rw [h.right]
  unfold namedF momF
  rw [show keyB pS = true by kernel_rfl, momB_in (by omega)]; rfl
 have hcut := k1 hz
 rw [h.all] at hcut k2
 rw [hz] at k2
 have hC := cut_of (f := fC b) (N := b.length) (m := b.map gB) (by simp) (fun i hi => (map_at hi).1) hcut
 obtain ⟨v1, v2⟩ := mapV_VF (m := b.map gB) (f := fC b) (t := fA b) (N := b.length) (by simp) h1 h.len (fun i hi => ⟨(map_at hi).1, (map_at hi).2.1⟩) h.sc h.sa (by omega) (by omega) hn hC
 refine ⟨k, hC, ?_, v2⟩
 rw [rightA, k2, ← v1]; rfl
theorem shown_is {b : List Beat} (h : Beats b) (h1 : 1 ≤ b.length) {n : Int} (hn : fA b 0 ≤ n ∧ n ≤ 20000) : ∃ k, CutF (fA b) b.length n k ∧ proof_Shown b pS n = some (VF (fA b) (fC b) b.length n k, 0) ∧ 0 ≤ VF (fA b) (fC b) b.length n k ∧ VF (fA b) (fC b) b.length n k ≤ 30000 := by
 have hc0 := h.c0 (by omega)
 have ha0 := h.a0 (by omega)
 obtain ⟨k, k1, k2⟩ := asked_eq b pS n true (fun x hx => by unfold GoodB; rw [h.own x hx]; exact short_p) (by have := h.len; omega) short_p
 have hz : or0 (beatsF b) (or0 (namedF pS) (momF n)) = 0 := by
  rw [h.right]
  unfold namedF momF
  rw [show keyB pS = true by kernel_rfl, momB_in (by omega)]; rfl
 have hcut := k1 hz
 rw [h.all] at hcut k2
 rw [hz] at k2
 have hC := cut_of (f := fA b) (N := b.length) (m := b.map gK) (by simp) (fun i hi => (map_at hi).2.2.1) hcut
 obtain ⟨v1, v2⟩ := mapV_VF (m := b.map gK) (f := fA b) (t := fC b) (N := b.length) (by simp) h1 h.len (fun i hi => ⟨(map_at hi).2.2.1, (map_at hi).2.2.2⟩) h.sa h.sc (by omega) (by omega) hn hC
 refine ⟨k, hC, ?_, v2⟩
 rw [shownA, k2, ← v1]; rfl
theorem each_ok {b : List Beat} (h : Beats b) (a1 a2 a3 : Int) (aL : List Int) : ∀ (l : List Beat) (k : Nat), b.drop k = l → forR (fun k x s => keep_ClocksComeBack_L2 (b, a1, a2, aL, a3) k x s) l k () = some (.go ())
 | [], _, _ => rfl
 | x :: l, k, hd => by
  have hg := drop_get hd
  have hlt := drop_lt hd
  obtain ⟨e1, e2⟩ := fA_at hg
  have hb := h.bnd hlt
  obtain ⟨u1, u2⟩ := vf_at (f := fC b) (t := fA b) h.sc hlt
  obtain ⟨w1, w2⟩ := vf_at (f := fA b) (t := fC b) h.sa hlt
  have m1 := h.sc.le (i := 0) (j := k) (by omega) hlt
  have m2 := h.sa.le (i := 0) (j := k) (by omega) hlt
  obtain ⟨k1, c1, c2, _⟩ := right_is h (by omega) (n := fC b k) (by omega)
  obtain ⟨k2, d1, d2, _⟩ := shown_is h (by omega) (n := fA b k) (by omega)
  obtain rfl := cutF_uniq c1 u1
  obtain rfl := cutF_uniq d1 w1
  rw [u2] at c2
  rw [w2] at d2
  have hB : keep_ClocksComeBack_L2 (b, a1, a2, aL, a3) k x () = some (.go ()) := by
   unfold keep_ClocksComeBack_L2
   simp only
   rw [← e2, ← e1, show (⟨#[112]⟩ : ByteArray) = pS from rfl, c2, Option.bind_some, d2, Option.bind_some]
   simp only [bne_self_eq_false]
   rfl
  rw [forR, hB, Option.bind_some]
  exact each_ok h a1 a2 a3 aL l (k + 1) (drop_next hd)
theorem clocksComeBack (l : List Int) : keep_ClocksComeBack l = some true := by
 unfold keep_ClocksComeBack
 have h0 : Ok (⟨l, 0⟩ : Stream) 0 := ⟨Int.le_refl _, Int.le_refl _⟩
 obtain ⟨a, s1, a1, a2, a3, a4⟩ := range_ok _ 0 100 h0 (by decide) (by decide) (by decide) (by decide)
 obtain ⟨n, s2, b1, b2, b3, b4⟩ := range_ok s1 1 4 a4 (by decide) (by decide) (by decide) (by decide)
 obtain ⟨b, at_, clock, s3, c1, c2, c3, c4⟩ := beats_gen n s2 a b4 (by decide) ⟨b2, b3⟩ ⟨a2, a3⟩
 have hN : 1 ≤ b.length := by omega
 have hc0 := c3.c0 (by omega)
 have ha0 := c3.a0 (by omega)
 obtain ⟨r, s4, d1, d2, d3, d4⟩ := range_ok s3 0 1200 c4 (by decide) (by decide) (by decide) (by decide)
 obtain ⟨q, s5, e1, e2, e3, e4⟩ := range_ok s4 0 300 d4 (by decide) (by decide) (by decide) (by decide)
 obtain ⟨k1, f1, f2, f3, f4⟩ := right_is c3 hN (n := 1000 + r) (by omega)
 obtain ⟨k2, g1, g2, g3, g4⟩ := right_is c3 hN (n := 1000 + r + q) (by omega)
 have hk1 := cutF_one f1 hN (by omega)
 have hk2 := cutF_one g1 hN (by omega)
 have hm := vf_mono c3.sc c3.sa f1 g1 hk1 hk2 (by omega)
 obtain ⟨v1, v2, v3⟩ := vf_back c3.sc c3.sa f1 hk1
 have hlo := vf_lo c3.sc c3.sa f1 hk1
 have hle := c3.sa.le (i := 0) (j := k1 - 1) (by omega) (by have := f1.le; omega)
 obtain ⟨hVa, hVb⟩ : fA b 0 ≤ VF (fC b) (fA b) b.length (1000 + r) k1 ∧ VF (fC b) (fA b) b.length (1000 + r) k1 ≤ 20000 := by
  refine ⟨by omega, ?_⟩
  have hb := c3.bnd (i := k1 - 1) (by have := f1.le; omega)
  by_cases e : k1 = b.length
  ·unfold VF; rw [if_pos e]; omega
  ·have := vf_hi c3.sc c3.sa f1 hk1 (by have := f1.le; omega)
   have := (c3.bnd (i := k1) (by have := f1.le; omega)).1
   omega
 obtain ⟨k3, w1, w2, w3, w4⟩ := shown_is c3 hN (n := VF (fC b) (fA b) b.length (1000 + r) k1) ⟨hVa, hVb⟩
 obtain rfl := cutF_uniq w1 v1
 have herr : keep_errs [0, 0, 0] = some 0 := rfl
 have e2' : (⟨s3.L, s3.f_at⟩ : Stream) = s3 := rfl
 simp only [a1, b1, Option.bind_some, c1, thenC]
 rw [forL_eq (by have := c3.len; omega), each_ok c3 at_ clock s3.f_at s3.L b 0 rfl]
 simp only [Option.bind_some, thenC, e2', d1]
 rw [w64_id (n := 1000 + r) (by omega), show (⟨#[112]⟩ : ByteArray) = pS from rfl, f2]
 simp only [Option.bind_some, e1]
 rw [w64_id (n := 1000 + r + q) (by omega), g2]
 simp only [Option.bind_some, w2, herr]
 generalize VF (fC b) (fA b) b.length (1000 + r) k3 = x at *
 generalize VF (fC b) (fA b) b.length (1000 + r + q) k2 = y at *
 generalize VF (fA b) (fC b) b.length x k3 = z at *
 rw [w64_id (n := 1000 + r - z) (by omega), decide_eq_true hm, decide_eq_true v2, decide_eq_true v3, beq_self_eq_true]
 simp only [cond_true, ready_ok, Option.bind_some]
end Go.Proofs.YtipcgokielgnhaaGreatDoor.Law

