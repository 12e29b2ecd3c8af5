import Derived.Test.YtipcgokielgnhaaGreatDoorRmCanon
import Derived.Test.YtipcgokielgnhaaGreatDoorPlSort
/-
  PLAIN LEMMAS: the runs of a row; runs without others.
-/
open Go Go.Eng
namespace Go.Proofs.YtipcgokielgnhaaGreatDoor.Law
set_option linter.unusedVariables false
set_option linter.unusedSimpArgs false

theorem maxI_eq (a b : Int) : maxI a b = max a b := by unfold maxI; split <;> omega
theorem appL_ok {α : Type} (xs ys : List α) (h : xs.length + ys.length ≤ 1000000000) : appL xs ys = some (xs ++ ys) := by unfold appL; rw [if_pos h]
def Fine (r : Rect) : Prop := (-100000 ≤ r.X ∧ r.X ≤ 100000) ∧ (-100000 ≤ r.Y ∧ r.Y ≤ 100000) ∧ (1 ≤ r.W ∧ r.X + r.W ≤ 100000) ∧ 1 ≤ r.H ∧ r.Y + r.H ≤ 100000
def hasP (l : List Rect) (x y : Int) : Prop := ∃ r ∈ l, (r.X ≤ x ∧ x < r.X + r.W) ∧ r.Y ≤ y ∧ y < r.Y + r.H
def covers (y : Int) (r : Rect) : Bool := decide (r.Y ≤ y) && decide (y < r.Y + r.H)
def toRun (r : Rect) : Run := ⟨r.X, r.X + r.W⟩
def rowB (l : List Rect) (y : Int) : List Run := (l.filter (covers y)).map toRun

theorem runs_L1 (y : Int) (k : Nat) (r : Rect) (s : List Run) (h : Fine r) (hs : s.length ≤ 1000000) : screen_runs_L1 y k r s = some (.go (s ++ (bif covers y r then [toRun r] else []))) := by
 obtain ⟨h1, h2, h3, h4⟩ := h
 unfold screen_runs_L1 covers toRun
 rw [w64_id (n := r.Y + r.H) (by omega), w64_id (n := r.X + r.W) (by omega)]
 rw [appL_ok s _ (by simp; omega)]
 cases decide (r.Y ≤ y) <;> cases decide (y < r.Y + r.H) <;> simp
theorem rowB_loop (y : Int) : ∀ (l : List Rect) (k : Nat) (s : List Run), (∀ r ∈ l, Fine r) → s.length + l.length ≤ 1000000 → forR (fun k x s => screen_runs_L1 y k x s) l k s = some (.go (s ++ rowB l y))
 | [], k, s, _, _ => by simp [forR, rowB]
 | r :: l, k, s, h, hl => by
  simp only [List.length_cons] at hl
  rw [forR, runs_L1 y k r s (h r (by simp)) (by omega), Option.bind_some]
  simp only
  rw [rowB_loop y l (k + 1) _ (fun r hr => h r (by simp [hr])) (by cases covers y r <;> simp <;> omega)]
  unfold rowB
  rw [List.filter_cons]
  cases covers y r <;> simp
theorem rowB_mem (l : List Rect) (x y : Int) : mem x (rowB l y) ↔ hasP l x y := by
 unfold mem hasP rowB
 constructor
 ·rintro ⟨q, hq, k⟩
  obtain ⟨r, hr, rfl⟩ := List.mem_map.1 hq
  obtain ⟨h1, h2⟩ := List.mem_filter.1 hr
  simp only [covers, Bool.and_eq_true, decide_eq_true_eq] at h2
  exact ⟨r, h1, k, h2⟩
 ·rintro ⟨r, h1, k, h2⟩
  exact ⟨toRun r, List.mem_map.2 ⟨r, List.mem_filter.2 ⟨h1, by simp only [covers, Bool.and_eq_true, decide_eq_true_eq]; exact h2⟩, rfl⟩, k⟩
def Okr (r : Run) : Prop := -100000 ≤ r.f_from ∧ r.f_from < r.f_to ∧ r.f_to ≤ 100000
theorem rowB_ok {l : List Rect} (y : Int) (h : ∀ r ∈ l, Fine r) : ∀ q ∈ rowB l y, Okr q := by
 intro q hq
 obtain ⟨r, hr, rfl⟩ := List.mem_map.1 hq
 obtain ⟨h1, _⟩ := List.mem_filter.1 hr
 obtain ⟨k1, k2, k3, k4⟩ := h r h1
 exact ⟨k1.1, by show r.X < r.X + r.W; omega, k3.2⟩

theorem len_ok : ∀ n : Nat, n ≤ 12 → ∃ k, math_bits_Len (IntKind.u64.wrap (n : Int)) = some k := by
 have h : (List.range 13).all (fun n => (math_bits_Len (IntKind.u64.wrap (n : Int))).isSome) = true := by kernel_rfl
 intro n hn
 have := List.all_eq_true.1 h n (by simp; omega)
 exact Option.isSome_iff_exists.1 this
theorem pdq_eq (l : List Run) (b lim : Int) : slices_pdqsortCmpFunc_screen_run_v1 l 0 b lim = pdqAll screen_runs_1 l 0 b lim := rfl
theorem sortRuns (l : List Run) (hl : l.length ≤ 12) (h : ∀ q ∈ l, Okr q) : ∃ s, slices_SortFunc_screen_run_screen_run_v1 l = some s ∧ s.Perm l ∧ s.Pairwise (fun a b => a.f_from ≤ b.f_from) := by
 obtain ⟨k, hk⟩ := len_ok l.length hl
 obtain ⟨s, h1, h2, h3⟩ := pdq_ok (cmp := screen_runs_1) (le := fun a b => a.f_from ≤ b.f_from) (p := Okr) (fun a b ha hb => by
  obtain ⟨a1, a2, a3⟩ := ha
  obtain ⟨b1, b2, b3⟩ := hb
  refine ⟨w64 (a.f_from - b.f_from), rfl, ?_, ?_⟩ <;> (rw [w64_id (by omega)]; intro; omega)) (fun a b c h1 h2 => Int.le_trans h1 h2) l hl h k
 refine ⟨s, ?_, h2, h3⟩
 have hsm : sameL s l = some () := by unfold sameL; rw [if_pos h2.length_eq]
 unfold slices_SortFunc_screen_run_screen_run_v1
 rw [hk, Option.bind_some, pdq_eq, h1, Option.bind_some, hsm, Option.bind_some]
theorem runs_L2_0 (k : Nat) (r : Run) : screen_runs_L2 k r [] = some (.go [r]) := by
 unfold screen_runs_L2
 have : decide (w64 (((([] : List Run).length : Nat) : Int) - 1) ≥ 0) = false := rfl
 rw [this, cond_false, Option.bind_some, cond_false, appL_ok _ _ (by simp)]; rfl
theorem runs_L2_s (k : Nat) (r q : Run) (L : List Run) (hL : L.length ≤ 1000000) : screen_runs_L2 k r (L ++ [q]) = some (.go (bif decide (r.f_from ≤ q.f_to) then L ++ [⟨q.f_from, max q.f_to r.f_to⟩] else L ++ [q] ++ [r])) := by
 have hw : w64 (((L ++ [q]).length : Int) - 1) = (L.length : Int) := by rw [w64_id (by simp; omega)]; simp
 have hd : decide ((L.length : Int) ≥ 0) = true := by simp
 have hr : inR (L.length : Int) (L ++ [q]) = some () := inR_at (by simp)
 have hg : (L ++ [q])[0 + ((L.length : Nat) : Int).toNat]? = some q := by rw [show 0 + ((L.length : Nat) : Int).toNat = L.length by omega]; simp
 have hs : ∀ x, (L ++ [q]).set (0 + ((L.length : Nat) : Int).toNat) x = L ++ [x] := fun x => by
  rw [show 0 + ((L.length : Nat) : Int).toNat = L.length by omega, List.set_append_right _ _ (Nat.le_refl _)]; simp
 unfold screen_runs_L2
 simp only [hw, hd, cond_true, hr, hg, hs, Option.bind_some, maxI_eq]
 rw [appL_ok _ _ (by simp; omega)]
 cases decide (r.f_from ≤ q.f_to) <;> rfl
theorem runs_loop : ∀ (rest : List Run) (k : Nat) (out : List Run), (∀ r ∈ rest, Okr r) → (∀ o ∈ out, ∀ r ∈ rest, o.f_from ≤ r.f_from) → rest.Pairwise (fun a b => a.f_from ≤ b.f_from) → out.length + rest.length ≤ 1000000 → CanonFrom (-200000) out → (∀ o ∈ out, Okr o) →
  ∃ out', forR (fun k x s => screen_runs_L2 k x s) rest k out = some (.go out') ∧ CanonFrom (-200000) out' ∧ (∀ x, mem x out' ↔ mem x out ∨ mem x rest) ∧ out'.length ≤ out.length + rest.length ∧ ∀ o ∈ out', Okr o
 | [], k, out, _, _, _, _, hc, ho => ⟨out, rfl, hc, fun x => by simp [mem_nil], Nat.le_refl _, ho⟩
 | r :: rest, k, out, hr, hso, hsr, hl, hc, ho => by
  simp only [List.length_cons] at hl
  obtain ⟨r1, r2, r3⟩ := hr r (by simp)
  obtain ⟨p1, p2⟩ := List.pairwise_cons.1 hsr
  rw [forR]
  rcases List.eq_nil_or_concat out with h | ⟨L, q, h⟩
  ·subst h
   rw [runs_L2_0, Option.bind_some]
   obtain ⟨out', k1, k2, k3, k4, k5⟩ := runs_loop rest (k + 1) [r] (fun q hq => hr q (by simp [hq])) (fun o ho q hq => by rw [List.mem_singleton] at ho; subst ho; exact p1 q hq) p2 (by simp; omega) ⟨by omega, r2, trivial⟩ (fun o ho => by rw [List.mem_singleton] at ho; subst ho; exact ⟨r1, r2, r3⟩)
   refine ⟨out', k1, k2, fun x => ?_, by simp at k4 ⊢; omega, k5⟩
   rw [k3, mem_cons, mem_cons]; simp [mem_nil]
  ·subst h
   simp only [List.concat_eq_append] at hso hl hc ho ⊢
   simp only [List.length_append, List.length_cons, List.length_nil] at hl
   rw [runs_L2_s k r q L (by omega), Option.bind_some]
   obtain ⟨c1, c2⟩ := canon_app.1 hc
   obtain ⟨c3, c4, _⟩ := c2
   have hqr : q.f_from ≤ r.f_from := hso q (by simp) r (by simp)
   obtain ⟨q1, q2, q3⟩ := ho q (by simp)
   by_cases hd : r.f_from ≤ q.f_to
   ·simp only [decide_eq_true hd, cond_true]
    obtain ⟨out', k1, k2, k3, k4, k5⟩ := runs_loop rest (k + 1) (L ++ [⟨q.f_from, max q.f_to r.f_to⟩]) (fun q hq => hr q (by simp [hq])) (fun o ho z hz => by
     rcases List.mem_append.1 ho with ho | ho
     ·exact hso o (by simp [ho]) z (by simp [hz])
     ·rw [List.mem_singleton] at ho; subst ho; exact hso q (by simp) z (by simp [hz])) p2 (by simp; omega) (canon_app.2 ⟨c1, c3, by show q.f_from < max q.f_to r.f_to; omega, trivial⟩) (fun o ho' => by
     rcases List.mem_append.1 ho' with ho' | ho'
     ·exact ho o (by simp [ho'])
     ·rw [List.mem_singleton] at ho'; subst ho'; exact ⟨q1, by show q.f_from < max q.f_to r.f_to; omega, by show max q.f_to r.f_to ≤ 100000; omega⟩)
    refine ⟨out', k1, k2, fun x => ?_, by simp at k4 ⊢; omega, k5⟩
    rw [k3, mem_app, mem_app, mem_cons, mem_cons, mem_cons]
    simp only [mem_nil, or_false]
    constructor
    ·rintro ((h | h) | h)
     ·exact .inl (.inl h)
     ·by_cases hx : x < q.f_to
      ·exact .inl (.inr ⟨h.1, hx⟩)
      ·exact .inr (.inl ⟨by omega, by omega⟩)
     ·exact .inr (.inr h)
    ·rintro ((h | h) | (h | h))
     ·exact .inl (.inl h)
     ·exact .inl (.inr ⟨h.1, by omega⟩)
     ·exact .inl (.inr ⟨by omega, by omega⟩)
     ·exact .inr h
   ·simp only [decide_eq_false hd, cond_false]
    have hend : EndOf (-200000) (L ++ [q]) = q.f_to := by rw [end_app]; rfl
    obtain ⟨out', k1, k2, k3, k4, k5⟩ := runs_loop rest (k + 1) (L ++ [q] ++ [r]) (fun q hq => hr q (by simp [hq])) (fun o ho z hz => by
     rcases List.mem_append.1 ho with ho | ho
     ·exact hso o ho z (by simp [hz])
     ·rw [List.mem_singleton] at ho; subst ho; exact p1 z hz) p2 (by simp; omega) (canon_app.2 ⟨hc, by rw [hend]; omega, r2, trivial⟩) (fun o ho' => by
     rcases List.mem_append.1 ho' with ho' | ho'
     ·exact ho o ho'
     ·rw [List.mem_singleton] at ho'; subst ho'; exact ⟨r1, r2, r3⟩)
    refine ⟨out', k1, k2, fun x => ?_, by simp at k4 ⊢; omega, k5⟩
    rw [k3, mem_app, mem_cons, mem_cons]
    simp only [mem_nil, or_false, or_assoc]
theorem runs_ok (l : List Rect) (y : Int) (h : ∀ r ∈ l, Fine r) (hl : l.length ≤ 12) : ∃ R, screen_runs l y = some R ∧ CanonFrom (-200000) R ∧ (∀ x, mem x R ↔ hasP l x y) ∧ R.length ≤ l.length ∧ ∀ r ∈ R, Okr r := by
 have hb := rowB_ok y h
 have hbl : (rowB l y).length ≤ l.length := by unfold rowB; rw [List.length_map]; exact List.length_filter_le _ _
 obtain ⟨s, h1, h2, h3⟩ := sortRuns (rowB l y) (by omega) hb
 obtain ⟨R, k1, k2, k3, k4, k5⟩ := runs_loop s 0 [] (fun r hr => hb r (h2.mem_iff.1 hr)) (fun o ho => by cases ho) h3 (by rw [h2.length_eq]; simp; omega) trivial (fun o ho => by cases ho)
 have hsm : sameL s (rowB l y) = some () := by unfold sameL; rw [if_pos h2.length_eq]
 refine ⟨R, ?_, k2, fun x => ?_, by rw [h2.length_eq] at k4; simp at k4; omega, k5⟩
 ·unfold screen_runs
  rw [forL_eq (by omega), rowB_loop y l 0 [] h (by simp; omega), Option.bind_some]
  simp only [List.nil_append, thenC]
  rw [h1, Option.bind_some, hsm, Option.bind_some, forL_eq (by rw [h2.length_eq]; omega), k1]; rfl
 ·rw [k3, ← rowB_mem]
  simp only [mem_nil, false_or]
  unfold mem
  exact ⟨fun ⟨r, hr, k⟩ => ⟨r, h2.mem_iff.1 hr, k⟩, fun ⟨r, hr, k⟩ => ⟨r, h2.mem_iff.2 hr, k⟩⟩
end Go.Proofs.YtipcgokielgnhaaGreatDoor.Law

