import Derived.Test.YtipcgokielgnhaaGreatDoorRmRuns
/-
  PLAIN LEMMAS: runs without others.
-/
open Go Go.Eng
namespace Go.Proofs.YtipcgokielgnhaaGreatDoor.Law
set_option linter.unusedVariables false
set_option linter.unusedSimpArgs false

theorem less_skip (m : List Run) (r : Run) (hm : m.length ≤ 1000000) : ∀ (n k : Nat), k + n = m.length → (∀ i (h : i < m.length), i < k → m[i].f_to ≤ r.f_from) →
  ∃ k', k ≤ k' ∧ k' ≤ m.length ∧ iterN (fun s => screen_less_L1 m r s) (n + 1) (k : Int) = some (.go (k' : Int)) ∧ (∀ i (h : i < m.length), i < k' → m[i].f_to ≤ r.f_from)
 | 0, k, hk, hb => by
  refine ⟨k, Nat.le_refl _, by omega, ?_, hb⟩
  have hc : decide ((k : Int) < (m.length : Int)) = false := by simp; omega
  simp only [iterN, screen_less_L1, hc, cond_false, Option.bind_some]
 | n + 1, k, hk, hb => by
  have hlt : k < m.length := by omega
  have hc : decide ((k : Int) < (m.length : Int)) = true := by simp; omega
  have hi : idx m (k : Int) = some m[k] := by rw [idx_nat, List.getElem?_eq_getElem hlt]
  rw [iterN]
  by_cases h : m[k].f_to ≤ r.f_from
  ·obtain ⟨k', h1, h2, h3, h4⟩ := less_skip m r hm n (k + 1) (by omega) (fun i hi hik => by
    by_cases e : i = k
    ·subst e; exact h
    ·exact hb i hi (by omega))
   refine ⟨k', by omega, h2, ?_, h4⟩
   have : screen_less_L1 m r (k : Int) = some (.go ((k + 1 : Nat) : Int)) := by
    unfold screen_less_L1
    rw [hc, cond_true, hi, Option.bind_some, decide_eq_true h, Option.bind_some, cond_true, w64_id (by omega)]; rfl
   rw [this]; exact h3
  ·refine ⟨k, Nat.le_refl _, by omega, ?_, hb⟩
   have : screen_less_L1 m r (k : Int) = some (.brk (k : Int)) := by
    unfold screen_less_L1
    rw [hc, cond_true, hi, Option.bind_some, decide_eq_false h, Option.bind_some, cond_false]
   rw [this]; rfl
theorem less_cut (m : List Run) (r : Run) (hm : m.length ≤ 1000000) : ∀ (n i : Nat) (out : List Run) (rf : Int), i + n = m.length → out.length + n ≤ 10000000 →
  ∃ (out' : List Run) (i' rf' : Int), iterN (fun s => screen_less_L2 m r s) (n + 1) (out, (i : Int), rf) = some (.go (out', i', rf')) ∧ out' ++ (bif decide (rf' < r.f_to) then [⟨rf', r.f_to⟩] else []) = out ++ sub r.f_to rf (m.drop i) ∧ out'.length ≤ out.length + n
 | 0, i, out, rf, hi, ho => by
  refine ⟨out, i, rf, ?_, ?_, by omega⟩
  ·have hc : decide ((i : Int) < (m.length : Int)) = false := by simp; omega
   simp only [iterN, screen_less_L2, hc, cond_false, Option.bind_some]
  ·rw [show m.drop i = [] from List.drop_eq_nil_of_le (by omega)]; rfl
 | n + 1, i, out, rf, hi, ho => by
  have hlt : i < m.length := by omega
  have hc : decide ((i : Int) < (m.length : Int)) = true := by simp; omega
  have hx : idx m (i : Int) = some m[i] := by rw [idx_nat, List.getElem?_eq_getElem hlt]
  have hdr : m.drop i = m[i] :: m.drop (i + 1) := List.drop_eq_getElem_cons hlt
  have hw : w64 ((i : Int) + 1) = ((i + 1 : Nat) : Int) := by rw [w64_id (by omega)]; rfl
  rw [iterN, hdr]
  simp only [sub]
  by_cases h : m[i].f_from < r.f_to
  ·simp only [decide_eq_true h, cond_true]
   by_cases k : m[i].f_from > rf
   ·obtain ⟨out', i', rf', h1, h2, h3⟩ := less_cut m r hm n (i + 1) (out ++ [⟨rf, m[i].f_from⟩]) (max rf m[i].f_to) (by omega) (by simp; omega)
    refine ⟨out', i', rf', ?_, ?_, by simp at h3; omega⟩
    ·have : screen_less_L2 m r (out, (i : Int), rf) = some (.go (out ++ [⟨rf, m[i].f_from⟩], ((i + 1 : Nat) : Int), max rf m[i].f_to)) := by
      unfold screen_less_L2
      simp only [hc, cond_true, hx, Option.bind_some, decide_eq_true h, decide_eq_true k, hw, maxI_eq]
      rw [appL_ok _ _ (by simp; omega)]; rfl
     rw [this]; exact h1
    ·rw [h2]; simp only [decide_eq_true k, cond_true, List.append_assoc]
   ·obtain ⟨out', i', rf', h1, h2, h3⟩ := less_cut m r hm n (i + 1) out (max rf m[i].f_to) (by omega) (by omega)
    refine ⟨out', i', rf', ?_, ?_, by omega⟩
    ·have : screen_less_L2 m r (out, (i : Int), rf) = some (.go (out, ((i + 1 : Nat) : Int), max rf m[i].f_to)) := by
      unfold screen_less_L2
      simp only [hc, cond_true, hx, Option.bind_some, decide_eq_true h, decide_eq_false k, hw, maxI_eq, cond_false]
     rw [this]; exact h1
    ·rw [h2]; simp only [decide_eq_false k, cond_false, List.nil_append]
  ·refine ⟨out, i, rf, ?_, ?_, by omega⟩
   ·have : screen_less_L2 m r (out, (i : Int), rf) = some (.brk (out, (i : Int), rf)) := by
     unfold screen_less_L2
     simp only [hc, cond_true, hx, Option.bind_some, decide_eq_false h, cond_false]
    rw [this]; rfl
   ·simp only [decide_eq_false h, cond_false]
theorem less_round (m : List Run) (r : Run) (hm : m.length ≤ 1000) (q k : Nat) (out : List Run) (hk : k ≤ m.length) (ho : out.length ≤ 1000000) (hb : ∀ i (h : i < m.length), i < k → m[i].f_to ≤ r.f_from) :
  ∃ k', k' ≤ m.length ∧ (∀ i (h : i < m.length), i < k' → m[i].f_to ≤ r.f_from) ∧ screen_less_L3 m q r (out, (k : Int)) = some (.go (out ++ sub r.f_to r.f_from (m.drop k'), (k' : Int))) := by
 obtain ⟨k', h1, h2, h3, h4⟩ := less_skip m r (by omega) (m.length - k) k (by omega) hb
 obtain ⟨out', i', rf', g1, g2, g3⟩ := less_cut m r (by omega) (m.length - k') k' out r.f_from (by omega) (by omega)
 refine ⟨k', h2, h4, ?_⟩
 unfold screen_less_L3
 simp only [iter_loopO h3, iter_loopO g1, Option.bind_some, thenC]
 rw [← g2, appL_ok _ _ (by simp; omega)]
 cases decide (rf' < r.f_to) <;> simp
theorem less_loop (m : List Run) (c : Int) (hm : m.length ≤ 1000) (hcm : CanonFrom c m) : ∀ (l : List Run) (q k : Nat) (out : List Run) (lo : Int), CanonFrom lo l → EndOf (-200000) out ≤ lo → CanonFrom (-200000) out → -200000 ≤ lo → k ≤ m.length → (∀ i (h : i < m.length), i < k → m[i].f_to ≤ lo) →
  out.length + l.length * (m.length + 1) ≤ 1000000 →
  ∃ (out' : List Run) (k' : Int), forR (fun k x s => screen_less_L3 m k x s) l q (out, (k : Int)) = some (.go (out', k')) ∧ CanonFrom (-200000) out' ∧ (∀ x, mem x out' ↔ mem x out ∨ (mem x l ∧ ¬ mem x m)) ∧ out'.length ≤ out.length + l.length * (m.length + 1) ∧ (∀ r ∈ out', r ∈ out ∨ ∃ z ∈ l, z.f_from ≤ r.f_from ∧ r.f_to ≤ z.f_to)
 | [], q, k, out, lo, _, _, hco, _, hk, hb, _ => ⟨out, k, rfl, hco, fun x => by simp [mem_nil], by omega, fun r hr => .inl hr⟩
 | r :: l, q, k, out, lo, ⟨c1, c2, c3⟩, he, hco, hlo, hk, hb, hlen => by
  simp only [List.length_cons, Nat.succ_mul] at hlen
  obtain ⟨k', h1, h2, h3⟩ := less_round m r hm q k out hk (by omega) (fun i hi hik => by have := hb i hi hik; omega)
  -- what is behind k' is canonical, and what is before has no point of the run
  have hdc : ∃ c', CanonFrom c' (m.drop k') := by
   have hsp := hcm
   rw [← List.take_append_drop k' m] at hsp
   exact ⟨_, (canon_app.1 hsp).2⟩
  obtain ⟨c', hdc⟩ := hdc
  have hmem : ∀ x, r.f_from ≤ x → (mem x m ↔ mem x (m.drop k')) := fun x hx => by
   constructor
   ·rintro ⟨z, hz, j1, j2⟩
    obtain ⟨i, hi, rfl⟩ := List.getElem_of_mem hz
    by_cases hik : i < k'
    ·have := h2 i hi hik; omega
    ·exact ⟨m[i], List.mem_iff_getElem.2 ⟨i - k', by rw [List.length_drop]; omega, by rw [List.getElem_drop]; congr 1; omega⟩, j1, j2⟩
   ·rintro ⟨z, hz, j⟩
    exact ⟨z, List.mem_of_mem_drop hz, j⟩
  obtain ⟨s1, s2, s3⟩ := sub_canon r.f_to (m.drop k') r.f_from c' (EndOf (-200000) out) hdc (by omega)
  have hsm := fun x => sub_mem r.f_to x (m.drop k') r.f_from c' hdc
  have hcn : CanonFrom (-200000) (out ++ sub r.f_to r.f_from (m.drop k')) := canon_app.2 ⟨hco, s1⟩
  have hdl : (m.drop k').length ≤ m.length := by rw [List.length_drop]; omega
  have hend : EndOf (-200000) (out ++ sub r.f_to r.f_from (m.drop k')) ≤ r.f_to := by
   rw [end_app]
   have key : ∀ (L : List Run) (a : Int), (∀ z ∈ L, z.f_to ≤ r.f_to) → a ≤ r.f_to → EndOf a L ≤ r.f_to := by
    intro L
    induction L with
    | nil => exact fun a _ h => h
    | cons z L ih => exact fun a h _ => ih z.f_to (fun w hw => h w (by simp [hw])) (h z (by simp))
   exact key _ _ (fun z hz => (s3 z hz).2) (by omega)
  obtain ⟨out', kk, g1, g2, g3, g4, g5⟩ := less_loop m c hm hcm l (q + 1) k' (out ++ sub r.f_to r.f_from (m.drop k')) r.f_to c3 hend hcn (by omega) h1 (fun i hi hik => by have := h2 i hi hik; omega) (by simp only [List.length_append]; omega)
  refine ⟨out', kk, by rw [forR, h3, Option.bind_some]; exact g1, g2, fun x => ?_, by simp only [List.length_append] at g4; simp only [List.length_cons, Nat.succ_mul]; omega, fun z hz => ?_⟩
  ·rw [g3, mem_app, hsm, mem_cons, or_assoc]
   refine or_congr Iff.rfl ?_
   constructor
   ·rintro (⟨j1, j2⟩ | ⟨j1, j2⟩)
    ·exact ⟨.inl j1, fun j => j2 ((hmem x j1.1).1 j)⟩
    ·exact ⟨.inr j1, j2⟩
   ·rintro ⟨j1 | j1, j2⟩
    ·exact .inl ⟨j1, fun j => j2 ((hmem x j1.1).2 j)⟩
    ·exact .inr ⟨j1, j2⟩
  ·rcases g5 z hz with hz | ⟨w, hw, j⟩
   ·rcases List.mem_append.1 hz with hz | hz
    ·exact .inl hz
    ·exact .inr ⟨r, by simp, s3 z hz⟩
   ·exact .inr ⟨w, by simp [hw], j⟩
theorem less_ok (l m : List Run) (hl : CanonFrom (-200000) l) (hm : CanonFrom (-200000) m) (hol : ∀ r ∈ l, Okr r) (h1 : l.length ≤ 12) (h2 : m.length ≤ 12) : ∃ R, screen_less l m = some R ∧ CanonFrom (-200000) R ∧ (∀ x, mem x R ↔ mem x l ∧ ¬ mem x m) ∧ R.length ≤ l.length * (m.length + 1) ∧ ∀ r ∈ R, Okr r := by
 have hb : l.length * (m.length + 1) ≤ 12 * 13 := Nat.mul_le_mul h1 (by omega)
 obtain ⟨R, k, g1, g2, g3, g4, g5⟩ := less_loop m _ (by omega) hm l 0 0 [] (-200000) hl (Int.le_refl _) trivial (Int.le_refl _) (Nat.zero_le _) (fun i hi h => absurd h (Nat.not_lt_zero i)) (by simp; omega)
 refine ⟨R, ?_, g2, fun x => by rw [g3]; simp [mem_nil], by simpa using g4, fun r hr => ?_⟩
 ·unfold screen_less
  rw [forL_eq (by omega)]
  rw [show ((0 : Nat) : Int) = 0 from rfl] at g1
  rw [g1]; rfl
 ·rcases g5 r hr with h | ⟨z, hz, j1, j2⟩
  ·cases h
  ·obtain ⟨o1, o2, o3⟩ := hol z hz
   have := g2.lo r hr
   exact ⟨by omega, this.2, by omega⟩
end Go.Proofs.YtipcgokielgnhaaGreatDoor.Law

