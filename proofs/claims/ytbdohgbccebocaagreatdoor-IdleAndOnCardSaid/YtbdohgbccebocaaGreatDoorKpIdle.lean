import Derived.Test.YtbdohgbccebocaaGreatDoorKpPlays
import Derived.Test.YtbdohgbccebocaaGreatDoorKpLit
/-
  THE PLAIN LAW: at each moment of a window something is on, or it is idle, and not both.
-/
open Go Go.Eng
namespace Go.Proofs.YtbdohgbccebocaaGreatDoor.Law
set_option linter.unusedVariables false
set_option linter.unusedSimpArgs false
def onP (t : Int) (y : Play) : Prop := y.Player = paS ∧ y.At ≤ t ∧ t < y.At + y.Long
def idP (t : Int) (x : Window) : Prop := x.From ≤ t ∧ t < x.To
instance (t : Int) (y : Play) : Decidable (onP t y) := by unfold onP; exact inferInstance
instance (t : Int) (x : Window) : Decidable (idP t x) := by unfold idP; exact inferInstance
structure IdI (F T : Int) (pre : List Play) (d : List Window) (a : Int) : Prop where
 lo : F ≤ a
 hi : a ≤ 86400310
 win : ∀ x ∈ d, F ≤ x.From ∧ x.From < x.To ∧ x.To ≤ T ∧ x.To < a
 rise : d.Pairwise fun x y => x.To < y.From
 cov : ∀ t, F ≤ t → t < a → t < T → ((∃ x ∈ d, idP t x) ↔ ¬ ∃ p ∈ pre, onP t p)
 free : a < T → ∀ p ∈ pre, p.Player = paS → p.At + p.Long ≤ a
 own : ∀ x ∈ d, ∃ q ∈ pre, q.Player = paS ∧ x.To ≤ q.At
 len : d.length ≤ pre.length
theorem mem_snoc {α : Type} {l : List α} {x y : α} : y ∈ l ++ [x] ↔ y ∈ l ∨ y = x := by simp
theorem befP_at {a b : Play} (h : befP a b) (hp : a.Player = b.Player) : a.At < b.At := by
 rcases h with h | h
 ·rw [hp] at h; exact absurd h (lt_irr _)
 ·exact h.2
theorem idI_skip {F T : Int} {pre : List Play} {d : List Window} {a : Int} {p : Play} (h : IdI F T pre d a) (hpw : (pre ++ [p]).Pairwise befP) (hs : p.Player ≠ paS ∨ T ≤ a) : IdI F T (pre ++ [p]) d a := by
 obtain ⟨h1, h2, h3, h4, h5, h6, h7, h8⟩ := h
 refine ⟨h1, h2, h3, h4, fun t k1 k2 k3 => ?_, fun ha q hq hp => ?_, fun x hx => ?_, by simp; omega⟩
 ·rw [h5 t k1 k2 k3]
  refine not_congr ⟨fun ⟨q, hq, ho⟩ => ⟨q, mem_snoc.2 (.inl hq), ho⟩, fun ⟨q, hq, ho⟩ => ?_⟩
  rcases mem_snoc.1 hq with hq | rfl
  ·exact ⟨q, hq, ho⟩
  ·-- if nothing were on, it were idle there; but what is idle lies ahead of this play
   rcases hs with hs | hs
   ·exact absurd ho.1 hs
   ·refine Classical.byContradiction (fun hn => ?_)
    obtain ⟨x, hx, hi⟩ := (h5 t k1 k2 k3).2 hn
    obtain ⟨r, hr, r1, r2⟩ := h7 x hx
    have hb := (List.pairwise_append.1 hpw).2.2 r hr q (by simp)
    have := befP_at hb (r1.trans ho.1.symm)
    have h2 := hi.2
    have h3 := ho.2.1
    omega
 ·rcases mem_snoc.1 hq with hq | rfl
  ·exact h6 ha q hq hp
  ·rcases hs with hs | hs
   ·exact absurd hp hs
   ·omega
 ·obtain ⟨q, hq, k⟩ := h7 x hx
  exact ⟨q, mem_snoc.2 (.inl hq), k⟩
theorem idI_step {F T : Int} {pre : List Play} {d : List Window} {a : Int} {p : Play} (h : IdI F T pre d a) (hpw : (pre ++ [p]).Pairwise befP) (hp : p.Player = paS) (ha : a < T) (hr : RightP p) :
  IdI F T (pre ++ [p]) (if min p.At T > a then d ++ [⟨a, min p.At T⟩] else d) (max a (p.At + p.Long)) := by
 obtain ⟨h1, h2, h3, h4, h5, h6, h7, h8⟩ := h
 obtain ⟨_, _, q1, q2⟩ := hr
 have hb : ∀ r ∈ pre, r.Player = paS → r.At < p.At := fun r hr' e => befP_at ((List.pairwise_append.1 hpw).2.2 r hr' p (by simp)) (e.trans hp.symm)
 have hmem : ∀ x, x ∈ (if min p.At T > a then d ++ [⟨a, min p.At T⟩] else d) ↔ x ∈ d ∨ (min p.At T > a ∧ x = ⟨a, min p.At T⟩) := fun x => by
  split
  ·rename_i hc; simp [hc]
  ·rename_i hc; simp [hc]
 refine ⟨by omega, by omega, fun x hx => ?_, ?_, fun t k1 k2 k3 => ?_, fun ha' q hq e => ?_, fun x hx => ?_, ?_⟩
 ·rcases (hmem x).1 hx with hx | ⟨hc, rfl⟩
  ·have := h3 x hx; omega
  ·simp only []; omega
 ·split
  ·refine List.pairwise_append.2 ⟨h4, List.pairwise_singleton _ _, fun x hx y hy => ?_⟩
   rw [List.mem_singleton.1 hy]
   exact (h3 x hx).2.2.2
  ·exact h4
 ·by_cases hta : t < a
  ·have base := h5 t k1 hta k3
   constructor
   ·rintro ⟨x, hx, hi⟩ ⟨q, hq, ho⟩
    rcases (hmem x).1 hx with hx1 | ⟨hc, rfl⟩
    ·rcases mem_snoc.1 hq with hq | rfl
     ·exact (base.1 ⟨x, hx1, hi⟩) ⟨q, hq, ho⟩
     ·obtain ⟨r, hr', r1, r2⟩ := h7 x hx1
      have := hb r hr' r1
      have h2 := hi.2
      have h3 := ho.2.1
      omega
    ·have h2 := hi.1
     simp only [] at h2
     omega
   ·intro hn
    obtain ⟨x, hx, hi⟩ := base.2 (fun ⟨q, hq, ho⟩ => hn ⟨q, mem_snoc.2 (.inl hq), ho⟩)
    exact ⟨x, (hmem x).2 (.inl hx), hi⟩
  ·have hold : ∀ q ∈ pre, ¬ onP t q := fun q hq ho => by
    have := h6 ha q hq ho.1
    have h3 := ho.2.2
    omega
   by_cases htp : t < p.At
   ·constructor
    ·rintro _ ⟨q, hq, ho⟩
     rcases mem_snoc.1 hq with hq | rfl
     ·exact hold q hq ho
     ·have h3 := ho.2.1
      omega
    ·intro _
     exact ⟨⟨a, min p.At T⟩, (hmem _).2 (.inr ⟨by omega, rfl⟩), by show a ≤ t; omega, by show t < min p.At T; omega⟩
   ·constructor
    ·rintro ⟨x, hx, hi⟩ _
     rcases (hmem x).1 hx with hx | ⟨hc, rfl⟩
     ·have := h3 x hx
      have h2 := hi.2
      omega
     ·have h2 := hi.2
      simp only [] at h2
      omega
    ·intro hn
     exact absurd ⟨p, mem_snoc.2 (.inr rfl), hp, by omega, by omega⟩ hn
 ·rcases mem_snoc.1 hq with hq | rfl
  ·have := h6 ha q hq e; omega
  ·omega
 ·rcases (hmem x).1 hx with hx | ⟨hc, rfl⟩
  ·obtain ⟨q, hq, k⟩ := h7 x hx
   exact ⟨q, mem_snoc.2 (.inl hq), k⟩
  ·exact ⟨p, mem_snoc.2 (.inr rfl), hp, by show min p.At T ≤ p.At; omega⟩
 ·split <;> simp <;> omega
theorem minI_eq (a b : Int) : minI a b = min a b := by unfold minI; split <;> omega
theorem maxI_eq (a b : Int) : maxI a b = max a b := by unfold maxI; split <;> omega
theorem idle_ok {l : List Play} (h : RPlays l) {F T : Int} (hF : 0 ≤ F ∧ F ≤ T ∧ T ≤ 150) :
  ∃ d, proof_Idle l paS ⟨F, T⟩ = some (d, 0) ∧ d.length ≤ 30 ∧ (∀ x ∈ d, F ≤ x.From ∧ x.From < x.To ∧ x.To ≤ T) ∧ d.Pairwise (fun x y => x.To < y.From) ∧ ∀ t, F ≤ t → t < T → ((∃ x ∈ d, idP t x) ↔ ¬ ∃ p ∈ l, onP t p) := by
 have hk : kit_IsKey paS = some true := by rw [isKey_eq _ (by decide)]; exact congrArg some (by kernel_rfl)
 have hl := h.len
 obtain ⟨⟨d, a⟩, e, hI⟩ := forL_at (body := fun k x s => proof_Idle_L1 paS ⟨F, T⟩ k x s) (fun k s => IdI F T (l.take k) s.1 s.2) (xs := l) (s := (([] : List Window), F)) (by omega) (fun k x s hx hI => by
  have hkl : k < l.length := (List.getElem?_eq_some_iff.1 hx).1
  have et : l.take (k + 1) = l.take k ++ [x] := by rw [List.take_add_one, hx]; rfl
  have hpw : (l.take k ++ [x]).Pairwise befP := by rw [← et]; exact h.rise.sublist (List.take_sublist _ _)
  have hR := h.right x (List.mem_of_getElem? hx)
  have hlen := hI.len
  have hhi := hI.hi
  have hlo := hI.lo
  have hat := hR.at_
  have hlong := hR.lo
  rw [List.length_take] at hlen
  unfold proof_Idle_L1
  rw [sNe_dec]
  by_cases hp : x.Player = paS
  ·rw [decide_eq_true hp]
   simp only [Bool.not_true, cond_false, Option.bind_some]
   by_cases ha : s.2 < T
   ·rw [decide_eq_false (show ¬ s.2 ≥ T by omega)]
    simp only [cond_false, minI_eq, maxI_eq]
    rw [w64_id (n := x.At + x.Long) (by omega)]
    have hst := idI_step hI hpw hp ha hR
    rw [et]
    by_cases hc : min x.At T > s.2
    ·rw [decide_eq_true hc, cond_true, appL_ok _ _ (by simp; omega)]
     rw [if_pos hc] at hst
     exact ⟨_, rfl, hst⟩
    ·rw [decide_eq_false hc, cond_false]
     rw [if_neg hc] at hst
     exact ⟨_, rfl, hst⟩
   ·rw [decide_eq_true (show s.2 ≥ T by omega), cond_true]
    exact ⟨_, rfl, by rw [et]; exact idI_skip hI hpw (.inr (by omega))⟩
  ·rw [decide_eq_false hp]
   simp only [Bool.not_false, cond_true, Option.bind_some]
   exact ⟨_, rfl, by rw [et]; exact idI_skip hI hpw (.inl hp)⟩)
  ⟨Int.le_refl _, by simp only []; omega, fun x hx => (by cases hx), .nil, fun t k1 k2 => absurd k2 (by simp only []; omega), fun _ p hp => (by simp at hp), fun x hx => (by cases hx), by simp⟩
 rw [List.take_length] at hI
 obtain ⟨i1, i2, i3, i4, i5, i6, i7, i8⟩ := hI
 simp only [] at i1 i2 i3 i4 i5 i6 i7 i8
 unfold proof_Idle
 rw [checkPlays_0 h]
 simp only [Option.bind_some, bne_self_eq_false, cond_false, hk, Bool.not_true, outside_eq, outB_in (show (0 : Int) ≤ F ∧ F ≤ T by omega), decide_eq_false (show ¬ T > 345686400000 by omega), e, thenC]
 by_cases ha : a < T
 ·rw [decide_eq_true ha, cond_true, appL_ok _ _ (by simp; omega)]
  refine ⟨_, rfl, by simp; omega, fun x hx => ?_, ?_, fun t k1 k2 => ?_⟩
  ·rcases mem_snoc.1 hx with hx | rfl
   ·have := i3 x hx; omega
   ·simp only []; omega
  ·refine List.pairwise_append.2 ⟨i4, List.pairwise_singleton _ _, fun x hx y hy => ?_⟩
   rw [List.mem_singleton.1 hy]
   exact (i3 x hx).2.2.2
  ·by_cases hta : t < a
   ·rw [← i5 t k1 hta k2]
    constructor
    ·rintro ⟨x, hx, hi⟩
     rcases mem_snoc.1 hx with hx | rfl
     ·exact ⟨x, hx, hi⟩
     ·have := hi.1; simp only [] at this; omega
    ·rintro ⟨x, hx, hi⟩
     exact ⟨x, mem_snoc.2 (.inl hx), hi⟩
   ·constructor
    ·rintro _ ⟨q, hq, ho⟩
     have := i6 ha q hq ho.1
     have h3 := ho.2.2
     omega
    ·intro _
     exact ⟨⟨a, T⟩, mem_snoc.2 (.inr rfl), by show a ≤ t; omega, by show t < T; omega⟩
 ·rw [decide_eq_false ha, cond_false]
  exact ⟨_, rfl, by omega, fun x hx => by have := i3 x hx; omega, i4, fun t k1 k2 => i5 t k1 (by omega) k2⟩
theorem containsP {l : List Play} (hl : l.length ≤ 1000) {f : Play → Option Bool} {p : Play → Bool} (h : ∀ x ∈ l, f x = some (p x)) : slices_ContainsFunc_api_Play_api_Play l f = some (l.any p) := by
 unfold slices_ContainsFunc_api_Play_api_Play slices_IndexFunc_api_Play_api_Play
 rw [forL_eq (by omega)]
 obtain ⟨h1, h2⟩ := findR (f := f) (p := p) l 0 h
 have eb : (fun k x (s : Unit) => slices_IndexFunc_api_Play_api_Play_L1 f k x s) = fun k x (s : Unit) => (f x).bind fun r => bif r then some (.ret (k : Int)) else some (.go ()) := rfl
 rw [eb]
 cases ha : l.any p with
 | true =>
  obtain ⟨j, hj⟩ := h1 ha
  rw [hj]
  simp only [Option.bind_some, thenC]
  rw [decide_eq_true (by omega)]
 | false =>
  rw [h2 ha]; rfl
theorem containsW {l : List Window} (hl : l.length ≤ 1000) {f : Window → Option Bool} {p : Window → Bool} (h : ∀ x ∈ l, f x = some (p x)) : slices_ContainsFunc_api_Window_api_Window l f = some (l.any p) := by
 unfold slices_ContainsFunc_api_Window_api_Window slices_IndexFunc_api_Window_api_Window
 rw [forL_eq (by omega)]
 obtain ⟨h1, h2⟩ := findR (f := f) (p := p) l 0 h
 have eb : (fun k x (s : Unit) => slices_IndexFunc_api_Window_api_Window_L1 f k x s) = fun k x (s : Unit) => (f x).bind fun r => bif r then some (.ret (k : Int)) else some (.go ()) := rfl
 rw [eb]
 cases ha : l.any p with
 | true =>
  obtain ⟨j, hj⟩ := h1 ha
  rw [hj]
  simp only [Option.bind_some, thenC]
  rw [decide_eq_true (by omega)]
 | false =>
  rw [h2 ha]; rfl
theorem and3 (a b c : Bool) : (bif a then bif b then some c else some false else some false) = some (a && (b && c)) := by cases a <;> cases b <;> rfl
theorem idleAndOn (l : List Int) : keep_IdleAndOn l = some true := by
 unfold keep_IdleAndOn
 have h0 : Ok (⟨l, 0⟩ : Stream) 0 := ⟨Int.le_refl _, Int.le_refl _⟩
 obtain ⟨p, s1, a1, a2, a3⟩ := rightPlays 6 (by decide) _ h0 (by decide)
 obtain ⟨F, s2, b1, b2, b3, b4⟩ := range_ok s1 0 20 a3 (by decide) (by decide) (by decide) (by decide)
 obtain ⟨T, s3, c1, c2, c3, c4⟩ := range_ok s2 20 150 b4 (by decide) (by decide) (by decide) (by decide)
 obtain ⟨d, d1, d2, d3, d4, d5⟩ := idle_ok a2 (F := F) (T := T) (by omega)
 have e1 : proof_Idle p (⟨#[112, 97]⟩ : ByteArray) (⟨F, T⟩ : Window) = some (d, 0) := d1
 simp only [a1, b1, c1, e1, Option.bind_some, bne_self_eq_false, cond_false]
 obtain ⟨u, f1, _⟩ := forL_at (body := fun k x s => keep_IdleAndOn_L1 (F, s2) (T, s3) (d, 0) k x s) (fun _ _ => True) (xs := d) (s := ()) (by omega) (fun k x s hx _ => by
  refine ⟨(), ?_, trivial⟩
  have hm := d3 x (List.mem_of_getElem? hx)
  unfold keep_IdleAndOn_L1
  simp only [decide_eq_false (show ¬ x.From ≥ x.To by omega), decide_eq_false (show ¬ x.From < F by omega), decide_eq_false (show ¬ x.To > T by omega), cond_false]
  rcases Nat.eq_zero_or_pos k with hk | hk
  ·rw [decide_eq_false (by omega)]; rfl
  ·rw [decide_eq_true (by omega), cond_true]
   obtain ⟨y, q1, q2⟩ := idx_prev hx hk (by omega)
   have := pair_prev d4 q2 hx (by omega)
   rw [q1, Option.bind_some, decide_eq_false (by omega)]; rfl) trivial
 rw [f1]
 simp only [Option.bind_some, thenC]
 have hlen := a2.len
 obtain ⟨t, g1, g2⟩ := forL_inv (body := fun k x s => keep_IdleAndOn_L2 (F, s2) (T, s3) (p, s1) (d, 0) k x s) (s := (s3.L, s3.f_at)) (xs := List.range (6 : Int).toNat) (fun j t => Ok ⟨t.1, t.2⟩ (100 + j)) (by simp) (fun j x t hx hj hok => by
  obtain ⟨at_, s4, q1, q2, q3, q4⟩ := range_ok _ 0 150 hok (by simp at hj; omega) (by decide) (by decide) (by decide)
  unfold keep_IdleAndOn_L2
  simp only [q1, Option.bind_some]
  by_cases hF : at_ < F
  ·rw [decide_eq_true hF]
   simp only [cond_true, Option.bind_some]
   exact ⟨_, rfl, q4.mono (by omega)⟩
  ·rw [decide_eq_false hF]
   simp only [cond_false, Option.bind_some]
   by_cases hT : at_ ≥ T
   ·rw [decide_eq_true hT, cond_true]
    exact ⟨_, rfl, q4.mono (by omega)⟩
   ·rw [decide_eq_false hT, cond_false]
    have hon : slices_ContainsFunc_api_Play_api_Play p (fun x0 => keep_IdleAndOn_1 x0 at_) = some (p.any fun y => decide (onP at_ y)) := containsP (by omega) (fun y hy => by
     obtain ⟨_, _, r1, r2⟩ := a2.right y hy
     unfold keep_IdleAndOn_1
     rw [w64_id (n := y.At + y.Long) (by omega), and3, sEq_dec, Option.bind_some]
     refine congrArg some ?_
     rw [Bool.eq_iff_iff]
     simp only [Bool.and_eq_true, decide_eq_true_eq]
     exact Iff.rfl)
    have hid : slices_ContainsFunc_api_Window_api_Window d (fun x0 => keep_IdleAndOn_2 x0 at_) = some (d.any fun y => decide (idP at_ y)) := containsW (by omega) (fun y hy => by
     unfold keep_IdleAndOn_2
     have : (bif decide (y.From ≤ at_) then some (decide (at_ < y.To)) else some false) = some (decide (y.From ≤ at_) && decide (at_ < y.To)) := by cases decide (y.From ≤ at_) <;> rfl
     rw [this, Option.bind_some]
     refine congrArg some ?_
     rw [Bool.eq_iff_iff]
     simp only [Bool.and_eq_true, decide_eq_true_eq]
     exact Iff.rfl)
    rw [hon, hid]
    have key := d5 at_ (by omega) (by omega)
    have hne : ((p.any fun y => decide (onP at_ y)) == (d.any fun y => decide (idP at_ y))) = false := by
     by_cases ho : ∃ q ∈ p, onP at_ q
     ·have n1 : (p.any fun y => decide (onP at_ y)) = true := by simpa using ho
      have n2 : (d.any fun y => decide (idP at_ y)) = false := by
       rw [← Bool.not_eq_true]
       intro hx
       exact (key.1 (by simpa using hx)) ho
      rw [n1, n2]; rfl
     ·have n1 : (p.any fun y => decide (onP at_ y)) = false := by
       rw [← Bool.not_eq_true]
       intro hx
       exact ho (by simpa using hx)
      have n2 : (d.any fun y => decide (idP at_ y)) = true := by simpa using key.2 ho
      rw [n1, n2]; rfl
    simp only [Option.bind_some, hne, cond_false]
    exact ⟨_, rfl, q4.mono (by omega)⟩) (c4.mono (by omega))
 rw [g1]
 simp only [Option.bind_some, thenC, ready_ok]
end Go.Proofs.YtbdohgbccebocaaGreatDoor.Law

