import Derived.Test.YtipcgokielgnhaaGreatDoorDefs
import Derived.Test.YtipcgokielgnhaaGreatDoorEpLib
/-
  PLAIN LEMMAS: runs that rise and do not touch are told by their points.
-/
open Go Go.Eng
namespace Go.Proofs.YtipcgokielgnhaaGreatDoor.Law
set_option linter.unusedVariables false
set_option linter.unusedSimpArgs false

def mem (x : Int) (L : List Run) : Prop := ∃ r ∈ L, r.f_from ≤ x ∧ x < r.f_to
def CanonFrom : Int → List Run → Prop
 | _, [] => True
 | lo, r :: rs => lo < r.f_from ∧ r.f_from < r.f_to ∧ CanonFrom r.f_to rs
def EndOf : Int → List Run → Int
 | lo, [] => lo
 | _, r :: rs => EndOf r.f_to rs
theorem mem_nil (x : Int) : ¬ mem x [] := fun ⟨r, h, _⟩ => by cases h
theorem mem_cons (x : Int) (r : Run) (L : List Run) : mem x (r :: L) ↔ (r.f_from ≤ x ∧ x < r.f_to) ∨ mem x L := by
 constructor
 ·rintro ⟨q, h, k⟩
  rcases List.mem_cons.1 h with rfl | h
  ·exact .inl k
  ·exact .inr ⟨q, h, k⟩
 ·rintro (k | ⟨q, h, k⟩)
  ·exact ⟨r, by simp, k⟩
  ·exact ⟨q, by simp [h], k⟩
theorem mem_app (x : Int) (L M : List Run) : mem x (L ++ M) ↔ mem x L ∨ mem x M := by
 unfold mem
 constructor
 ·rintro ⟨q, h, k⟩
  rcases List.mem_append.1 h with h | h
  ·exact .inl ⟨q, h, k⟩
  ·exact .inr ⟨q, h, k⟩
 ·rintro (⟨q, h, k⟩ | ⟨q, h, k⟩)
  ·exact ⟨q, by simp [h], k⟩
  ·exact ⟨q, by simp [h], k⟩
theorem CanonFrom.lo : ∀ {L : List Run} {lo : Int}, CanonFrom lo L → ∀ r ∈ L, lo < r.f_from ∧ r.f_from < r.f_to
 | [], _, _, r, hr => by cases hr
 | q :: L, lo, h, r, hr => by
  obtain ⟨h1, h2, h3⟩ := h
  rcases List.mem_cons.1 hr with rfl | hr
  ·exact ⟨h1, h2⟩
  ·have := h3.lo r hr; omega
theorem CanonFrom.gt {L : List Run} {lo : Int} (h : CanonFrom lo L) {x : Int} (hx : mem x L) : lo < x := by
 obtain ⟨r, hr, k⟩ := hx
 have := h.lo r hr; omega
theorem CanonFrom.mono {L : List Run} {lo lo' : Int} (h : CanonFrom lo L) (hl : lo' ≤ lo) : CanonFrom lo' L := by
 cases L with
 | nil => trivial
 | cons r L => exact ⟨by have := h.1; omega, h.2⟩
theorem canon_app : ∀ {L : List Run} {lo : Int} {M : List Run}, CanonFrom lo (L ++ M) ↔ CanonFrom lo L ∧ CanonFrom (EndOf lo L) M
 | [], _, _ => by simp [CanonFrom, EndOf]
 | r :: L, lo, M => by
  simp only [List.cons_append, CanonFrom, EndOf, canon_app (L := L), and_assoc]
theorem end_app : ∀ {L : List Run} {lo : Int} {M : List Run}, EndOf lo (L ++ M) = EndOf (EndOf lo L) M
 | [], _, _ => rfl
 | r :: L, lo, M => by simp only [List.cons_append, EndOf, end_app (L := L)]
theorem canon_eq : ∀ {L M : List Run} {lo lo' : Int}, CanonFrom lo L → CanonFrom lo' M → (∀ x, mem x L ↔ mem x M) → L = M
 | [], [], _, _, _, _, _ => rfl
 | [], q :: M, _, _, _, hM, h => absurd ((h q.f_from).2 ((mem_cons _ _ _).2 (.inl ⟨Int.le_refl _, hM.2.1⟩))) (mem_nil _)
 | r :: L, [], _, _, hL, _, h => absurd ((h r.f_from).1 ((mem_cons _ _ _).2 (.inl ⟨Int.le_refl _, hL.2.1⟩))) (mem_nil _)
 | r :: L, q :: M, lo, lo', ⟨a1, a2, a3⟩, ⟨b1, b2, b3⟩, h => by
  have lowL : ∀ x, mem x (r :: L) → r.f_from ≤ x := fun x hx => by
   rcases (mem_cons _ _ _).1 hx with k | k
   ·exact k.1
   ·have := a3.gt k; omega
  have lowM : ∀ x, mem x (q :: M) → q.f_from ≤ x := fun x hx => by
   rcases (mem_cons _ _ _).1 hx with k | k
   ·exact k.1
   ·have := b3.gt k; omega
  have e1 : r.f_from = q.f_from := by
   have k1 := lowM _ ((h r.f_from).1 ((mem_cons _ _ _).2 (.inl ⟨Int.le_refl _, a2⟩)))
   have k2 := lowL _ ((h q.f_from).2 ((mem_cons _ _ _).2 (.inl ⟨Int.le_refl _, b2⟩)))
   omega
  have e2 : r.f_to = q.f_to := by
   rcases Int.lt_trichotomy r.f_to q.f_to with k | k | k
   ·exfalso
    have : mem r.f_to (r :: L) := (h r.f_to).2 ((mem_cons _ _ _).2 (.inl ⟨by omega, k⟩))
    rcases (mem_cons _ _ _).1 this with m | m
    ·omega
    ·have := a3.gt m; omega
   ·exact k
   ·exfalso
    have : mem q.f_to (q :: M) := (h q.f_to).1 ((mem_cons _ _ _).2 (.inl ⟨by omega, k⟩))
    rcases (mem_cons _ _ _).1 this with m | m
    ·omega
    ·have := b3.gt m; omega
  have e3 : L = M := canon_eq a3 b3 (fun x => by
   have hx := h x
   rw [mem_cons, mem_cons, e1, e2] at hx
   constructor
   ·intro k
    have := a3.gt k
    rcases hx.1 (.inr k) with m | m
    ·omega
    ·exact m
   ·intro k
    have := b3.gt k
    rcases hx.2 (.inr k) with m | m
    ·omega
    ·exact m)
  subst e3
  obtain ⟨f1, t1⟩ := r
  obtain ⟨f2, t2⟩ := q
  simp only at e1 e2
  rw [e1, e2]
def sub (rt : Int) : Int → List Run → List Run
 | rf, [] => bif decide (rf < rt) then [⟨rf, rt⟩] else []
 | rf, q :: M => bif decide (q.f_from < rt) then (bif decide (q.f_from > rf) then [⟨rf, q.f_from⟩] else []) ++ sub rt (max rf q.f_to) M else bif decide (rf < rt) then [⟨rf, rt⟩] else []
theorem sub_mem (rt x : Int) : ∀ (M : List Run) (rf c : Int), CanonFrom c M → (mem x (sub rt rf M) ↔ (rf ≤ x ∧ x < rt) ∧ ¬ mem x M)
 | [], rf, c, _ => by
  simp only [sub]
  by_cases h : rf < rt
  ·rw [decide_eq_true h, cond_true, mem_cons]; simp [mem_nil]
  ·rw [decide_eq_false h, cond_false]; simp only [mem_nil, false_iff, not_false_eq_true, and_true]; omega
 | q :: M, rf, c, ⟨h1, h2, h3⟩ => by
  simp only [sub]
  by_cases h : q.f_from < rt
  ·rw [decide_eq_true h, cond_true, mem_app, sub_mem rt x M _ _ h3, mem_cons]
   have hgt : ∀ {x}, mem x M → q.f_to < x := fun k => h3.gt k
   by_cases k : q.f_from > rf
   ·rw [decide_eq_true k, cond_true, mem_cons]
    simp only [mem_nil, or_false]
    constructor
    ·rintro (m | ⟨m1, m2⟩)
     ·refine ⟨by omega, ?_⟩
      rintro (n | n)
      ·omega
      ·have := hgt n; omega
     ·refine ⟨by omega, ?_⟩
      rintro (n | n)
      ·omega
      ·exact m2 n
    ·rintro ⟨m1, m2⟩
     by_cases n : x < q.f_from
     ·exact .inl ⟨m1.1, n⟩
     ·right
      have n2 : ¬ (q.f_from ≤ x ∧ x < q.f_to) := fun n2 => m2 (.inl n2)
      exact ⟨by omega, fun n3 => m2 (.inr n3)⟩
   ·rw [decide_eq_false k, cond_false]
    simp only [mem_nil, false_or]
    constructor
    ·rintro ⟨m1, m2⟩
     refine ⟨by omega, ?_⟩
     rintro (n | n)
     ·omega
     ·exact m2 n
    ·rintro ⟨m1, m2⟩
     have n2 : ¬ (q.f_from ≤ x ∧ x < q.f_to) := fun n2 => m2 (.inl n2)
     exact ⟨by omega, fun n3 => m2 (.inr n3)⟩
  ·rw [decide_eq_false h, cond_false, mem_cons]
   have hgt : mem x M → q.f_to < x := fun k => h3.gt k
   by_cases k : rf < rt
   ·rw [decide_eq_true k, cond_true, mem_cons]
    simp only [mem_nil, or_false]
    constructor
    ·intro m
     refine ⟨m, ?_⟩
     rintro (n | n)
     ·omega
     ·have := hgt n; omega
    ·exact fun m => m.1
   ·rw [decide_eq_false k, cond_false]; simp only [mem_nil, false_iff]; omega
theorem sub_canon (rt : Int) : ∀ (M : List Run) (rf c lo : Int), CanonFrom c M → lo < rf → CanonFrom lo (sub rt rf M) ∧ (sub rt rf M).length ≤ M.length + 1 ∧ ∀ r ∈ sub rt rf M, rf ≤ r.f_from ∧ r.f_to ≤ rt
 | [], rf, c, lo, _, hl => by
  simp only [sub]
  by_cases h : rf < rt
  ·rw [decide_eq_true h, cond_true]; exact ⟨⟨hl, h, trivial⟩, by simp, fun r hr => by rw [List.mem_singleton] at hr; subst hr; exact ⟨Int.le_refl _, Int.le_refl _⟩⟩
  ·rw [decide_eq_false h, cond_false]; exact ⟨trivial, by simp, fun r hr => by cases hr⟩
 | q :: M, rf, c, lo, ⟨h1, h2, h3⟩, hl => by
  simp only [sub]
  by_cases h : q.f_from < rt
  ·rw [decide_eq_true h, cond_true]
   by_cases k : q.f_from > rf
   ·rw [decide_eq_true k, cond_true]
    obtain ⟨i1, i2, i3⟩ := sub_canon rt M (max rf q.f_to) _ q.f_from h3 (by omega)
    refine ⟨⟨hl, k, i1⟩, by simp only [List.cons_append, List.nil_append, List.length_cons]; omega, fun r hr => ?_⟩
    rcases List.mem_append.1 hr with hr | hr
    ·rw [List.mem_singleton] at hr; subst hr; exact ⟨Int.le_refl _, by show q.f_from ≤ rt; omega⟩
    ·have := i3 r hr; omega
   ·rw [decide_eq_false k, cond_false]
    obtain ⟨i1, i2, i3⟩ := sub_canon rt M (max rf q.f_to) _ lo h3 (by omega)
    exact ⟨i1, by simp only [List.nil_append, List.length_cons]; omega, fun r hr => by have := i3 r hr; omega⟩
  ·rw [decide_eq_false h, cond_false]
   by_cases k : rf < rt
   ·rw [decide_eq_true k, cond_true]; exact ⟨⟨hl, k, trivial⟩, by simp, fun r hr => by rw [List.mem_singleton] at hr; subst hr; exact ⟨Int.le_refl _, Int.le_refl _⟩⟩
   ·rw [decide_eq_false k, cond_false]; exact ⟨trivial, by simp, fun r hr => by cases hr⟩
end Go.Proofs.YtipcgokielgnhaaGreatDoor.Law

