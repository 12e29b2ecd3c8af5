import Derived.Test.YtpojeclokolkaaaGreatDoorKpPlays
import Derived.Test.YtpojeclokolkaaaGreatDoorKpLit
/-
  THE PLAIN LAW: each play is matched at most once, with one of the same that is near enough; with itself each one is.
-/
open Go Go.Eng
namespace Go.Proofs.YtpojeclokolkaaaGreatDoor.Law
set_option linter.unusedVariables false
set_option linter.unusedSimpArgs false
theorem maxI_eq' (a b : Int) : maxI a b = max a b := by unfold maxI; split <;> omega
theorem apart_eq {a b : Int} (h : -1000000000000 ≤ a - b ∧ a - b ≤ 1000000000000) : proof_apart a b = some (max (a - b) (b - a)) := by
 unfold proof_apart
 rw [maxI_eq', w64_id (n := a - b) (by omega), w64_id (n := b - a) (by omega)]
def dist (h w : Play) : Int := max (h.At - w.At) (w.At - h.At)
def Cand (tk : List Bool) (w : Play) (most : Int) (j : Nat) (h : Play) : Prop := tk[j]? = some false ∧ h.Player = w.Player ∧ h.Item = w.Item ∧ dist h w ≤ most
instance (tk : List Bool) (w : Play) (most : Int) (j : Nat) (h : Play) : Decidable (Cand tk w most j h) := by unfold Cand; exact inferInstance
theorem dist_ok {h w : Play} (h1 : RightP h) (h2 : RightP w) : proof_apart h.At w.At = some (dist h w) := by
 have := h1.at_; have := h2.at_
 exact apart_eq (by omega)
theorem best_ok {hv : List Play} (hh : RPlays hv) {w : Play} (hw : RightP w) {tk : List Bool} (ht : tk.length = hv.length) (out : List Match) (most : Int) :
  ∃ s, forL hv (-1) (fun k x s => proof_Compare_L2 (tk, out) w most hv k x s) = some (.go s) ∧ ((s = -1 ∧ ∀ j h, hv[j]? = some h → ¬ Cand tk w most j h) ∨ ∃ (j : Nat) (h : Play), s = j ∧ hv[j]? = some h ∧ Cand tk w most j h) := by
 have hl := hh.len
 obtain ⟨s, e, hI⟩ := forL_at (body := fun k x s => proof_Compare_L2 (tk, out) w most hv k x s) (fun k s => (s = -1 ∧ ∀ j h, j < k → hv[j]? = some h → ¬ Cand tk w most j h) ∨ ∃ (j : Nat) (h : Play), s = j ∧ hv[j]? = some h ∧ Cand tk w most j h) (xs := hv) (s := -1) (by omega) (fun k x s hx hI => by
  have hk : k < hv.length := (List.getElem?_eq_some_iff.1 hx).1
  have hR := hh.right x (List.mem_of_getElem? hx)
  have hkt : tk[k]? = some (tk[k]'(by omega)) := List.getElem?_eq_getElem (by omega)
  unfold proof_Compare_L2
  simp only [inR_ok (xs := tk) (i := (k : Int)) (by omega) (by omega), Option.bind_some, Int.toNat_natCast, Nat.zero_add, hkt]
  have hc : ((bif tk[k]'(by omega) then some true else bif sNe x.Player w.Player then some true else bif sNe x.Item w.Item then some true else (proof_apart x.At w.At).bind fun r => some (decide (r > most)))) = some (decide (¬ Cand tk w most k x)) := by
   rw [sNe_dec, sNe_dec, dist_ok hR hw]
   by_cases hC : Cand tk w most k x
   ·have hC' := hC
    obtain ⟨c1, c2, c3, c4⟩ := hC'
    rw [decide_eq_false (show ¬ ¬ Cand tk w most k x from fun h => h hC)]
    have hb : tk[k]'(by omega) = false := by rw [hkt] at c1; exact Option.some.inj c1
    rw [hb, c2, c3]
    simp [c4]
   ·rw [decide_eq_true hC]
    cases hb : tk[k]'(by omega) with
    | true => rfl
    | false =>
     by_cases h1 : x.Player = w.Player
     ·by_cases h2 : x.Item = w.Item
      ·have h3 : ¬ dist x w ≤ most := fun h3 => hC ⟨by rw [hkt, hb], h1, h2, h3⟩
       simp [h1, h2]; omega
      ·simp [h1, h2]
     ·simp [h1]
  rw [hc, Option.bind_some]
  by_cases hC : Cand tk w most k x
  ·rw [decide_eq_false (show ¬ ¬ Cand tk w most k x from fun h => h hC), cond_false]
   rcases hI with ⟨rfl, _⟩ | ⟨j, h, rfl, hj, hc'⟩
   ·rw [decide_eq_true (by decide), cond_true]
    exact ⟨_, rfl, .inr ⟨k, x, rfl, hx, hC⟩⟩
   ·rw [decide_eq_false (show ¬ (j : Int) < 0 by omega)]
    simp only [cond_false, dist_ok hR hw, Option.bind_some, idx_nat, hj, dist_ok (hh.right h (List.mem_of_getElem? hj)) hw]
    cases decide (dist x w < dist h w) with
    | true => exact ⟨_, rfl, .inr ⟨k, x, rfl, hx, hC⟩⟩
    | false => exact ⟨_, rfl, .inr ⟨j, h, rfl, hj, hc'⟩⟩
  ·rw [decide_eq_true hC, cond_true]
   refine ⟨_, rfl, ?_⟩
   rcases hI with ⟨rfl, hI⟩ | hI
   ·refine .inl ⟨rfl, fun j h hj hjh => ?_⟩
    by_cases e : j = k
    ·subst e
     rw [hx] at hjh
     rw [← Option.some.inj hjh]; exact hC
    ·exact hI j h (by omega) hjh
   ·exact .inr hI) (.inl ⟨rfl, fun j h hj => absurd hj (Nat.not_lt_zero j)⟩)
 refine ⟨s, e, ?_⟩
 rcases hI with ⟨e1, hI⟩ | hI
 ·exact .inl ⟨e1, fun j h hj => hI j h (List.getElem?_eq_some_iff.1 hj).1 hj⟩
 ·exact .inr hI
def fits (want hv : List Play) (most : Int) (i : Nat) (m : Match) : Prop := m.Want = i ∧ (m.Have = -1 ∨ ∃ (j : Nat) (w h : Play), m.Have = j ∧ want[i]? = some w ∧ hv[j]? = some h ∧ h.Player = w.Player ∧ h.Item = w.Item ∧ dist h w ≤ most)
structure MI (want hv : List Play) (most : Int) (k : Nat) (tk : List Bool) (out : List Match) : Prop where
 tl : tk.length = hv.length
 ol : out.length = k
 ok : ∀ (i : Nat) (m : Match), out[i]? = some m → fits want hv most i m
 tkn : ∀ j : Nat, tk[j]? = some true ↔ ∃ m : Match, m ∈ out ∧ m.Have = (j : Int)
 dis : out.Pairwise fun (m m' : Match) => 0 ≤ m.Have → m.Have ≠ m'.Have
 cnt : (out.filter fun (m : Match) => decide (0 ≤ m.Have)).length + tk.count false = hv.length
 self : want = hv → most = 0 → ∀ (i : Nat) (m : Match), out[i]? = some m → m.Have = i
theorem count_set : ∀ (l : List Bool) (j : Nat), l[j]? = some false → (l.set j true).count false + 1 = l.count false
 | [], j, h => by simp at h
 | b :: l, 0, h => by
  simp only [List.getElem?_cons_zero, Option.some.injEq] at h
  subst h
  simp
 | b :: l, j + 1, h => by
  simp only [List.getElem?_cons_succ] at h
  have := count_set l j h
  simp only [List.set_cons_succ, List.count_cons]
  omega
theorem get_snoc {α : Type} {l : List α} {x y : α} {i : Nat} : (l ++ [x])[i]? = some y ↔ l[i]? = some y ∨ (i = l.length ∧ y = x) := by
 by_cases h : i < l.length
 ·rw [List.getElem?_append_left h]
  exact ⟨.inl, fun h' => h'.resolve_right (fun e => by omega)⟩
 ·rw [List.getElem?_append_right (by omega)]
  have hn : l[i]? = none := List.getElem?_eq_none (by omega)
  rw [hn]
  cases hd : i - l.length with
  | zero =>
   simp only [List.getElem?_cons_zero, Option.some.injEq, reduceCtorEq, false_or]
   exact ⟨fun e => ⟨by omega, e.symm⟩, fun e => e.2.symm⟩
  | succ n =>
   simp only [List.getElem?_cons_succ, List.getElem?_nil, reduceCtorEq, false_or, false_iff]
   omega
theorem mi_none {want hv : List Play} {most : Int} {k : Nat} {tk : List Bool} {out : List Match} (h : MI want hv most k tk out) (hs : want = hv → most = 0 → False) : MI want hv most (k + 1) tk (out ++ [⟨(k : Int), -1⟩]) := by
 obtain ⟨h1, h2, h3, h4, h5, h6, h7⟩ := h
 refine ⟨h1, by simp [h2], fun i m hm => ?_, fun j => ?_, ?_, ?_, fun e1 e2 => (hs e1 e2).elim⟩
 ·rcases get_snoc.1 hm with hm | ⟨rfl, rfl⟩
  ·exact h3 i m hm
  ·exact ⟨by simp [h2], .inl rfl⟩
 ·rw [h4]
  constructor
  ·rintro ⟨m, hm, e⟩; exact ⟨m, by simp [hm], e⟩
  ·rintro ⟨m, hm, e⟩
   rcases List.mem_append.1 hm with hm | hm
   ·exact ⟨m, hm, e⟩
   ·rw [List.mem_singleton.1 hm] at e; simp only [] at e; omega
 ·refine List.pairwise_append.2 ⟨h5, List.pairwise_singleton _ _, fun m hm m' hm' h0 e => ?_⟩
  rw [List.mem_singleton.1 hm'] at e; simp only [] at e; omega
 ·rw [List.filter_append, List.length_append]
  simpa using h6
theorem mi_some {want hv : List Play} {most : Int} {k j : Nat} {tk : List Bool} {out : List Match} {w x : Play} (h : MI want hv most k tk out) (hw : want[k]? = some w) (hx : hv[j]? = some x) (hc : Cand tk w most j x)
  (hs : want = hv → most = 0 → j = k) : MI want hv most (k + 1) (tk.set j true) (out ++ [⟨(k : Int), (j : Int)⟩]) := by
 obtain ⟨h1, h2, h3, h4, h5, h6, h7⟩ := h
 obtain ⟨c1, c2, c3, c4⟩ := hc
 have hj : j < tk.length := (List.getElem?_eq_some_iff.1 c1).1
 have hfree : ∀ m ∈ out, m.Have ≠ (j : Int) := fun m hm e => by
  have := (h4 j).2 ⟨m, hm, e⟩
  rw [c1] at this; cases this
 refine ⟨by simp [h1], by simp [h2], fun i m hm => ?_, fun i => ?_, ?_, ?_, fun e1 e2 i m hm => ?_⟩
 ·rcases get_snoc.1 hm with hm | ⟨rfl, rfl⟩
  ·exact h3 i m hm
  ·exact ⟨by simp [h2], .inr ⟨j, w, x, rfl, by rw [h2]; exact hw, hx, c2, c3, c4⟩⟩
 ·by_cases e : i = j
  ·subst e
   rw [set_at hj]
   exact ⟨fun _ => ⟨_, List.mem_append.2 (.inr (List.mem_singleton.2 rfl)), rfl⟩, fun _ => rfl⟩
  ·rw [List.getElem?_set_ne (Ne.symm e), h4]
   constructor
   ·rintro ⟨m, hm, e'⟩; exact ⟨m, by simp [hm], e'⟩
   ·rintro ⟨m, hm, e'⟩
    rcases List.mem_append.1 hm with hm | hm
    ·exact ⟨m, hm, e'⟩
    ·rw [List.mem_singleton.1 hm] at e'; simp only [] at e'; omega
 ·refine List.pairwise_append.2 ⟨h5, List.pairwise_singleton _ _, fun m hm m' hm' _ => ?_⟩
  rw [List.mem_singleton.1 hm']; exact hfree m hm
 ·have := count_set tk j c1
  have e : decide (0 ≤ (j : Int)) = true := decide_eq_true (by omega)
  rw [List.filter_append, List.length_append, List.filter_cons, e]
  simp only [if_true, List.filter_nil, List.length_cons, List.length_nil]
  omega
 ·rcases get_snoc.1 hm with hm | ⟨rfl, rfl⟩
  ·exact h7 e1 e2 i m hm
  ·show (j : Int) = _
   rw [hs e1 e2, h2]
theorem left_ok (tk : List Bool) (hl : tk.length ≤ 1000) : ∃ left, forL tk ([] : List Int) (fun k x s => proof_Compare_L4 k x s) = some (.go left) ∧ left.length = tk.count false ∧ ∀ x ∈ left, ∃ j : Nat, x = j ∧ tk[j]? = some false := by
 obtain ⟨left, e, h1, h2⟩ := forL_at (body := fun k x s => proof_Compare_L4 k x s) (fun k s => s.length = (tk.take k).count false ∧ ∀ x ∈ s, ∃ j : Nat, x = j ∧ tk[j]? = some false) (xs := tk) (s := ([] : List Int)) (by omega) (fun k x s hx ⟨i1, i2⟩ => by
  have et : tk.take (k + 1) = tk.take k ++ [x] := by rw [List.take_add_one, hx]; rfl
  have hc : (tk.take k).count false ≤ tk.length := Nat.le_trans List.count_le_length (by rw [List.length_take]; omega)
  unfold proof_Compare_L4
  cases x with
  | true => exact ⟨s, rfl, by rw [et, List.count_append, i1]; rfl, i2⟩
  | false =>
   rw [Bool.not_false, cond_true, appL_ok _ _ (by simp; omega)]
   refine ⟨_, rfl, by rw [et, List.count_append]; simp [i1], fun y hy => ?_⟩
   rcases List.mem_append.1 hy with hy | hy
   ·exact i2 y hy
   ·rw [List.mem_singleton.1 hy]; exact ⟨k, rfl, hx⟩) ⟨rfl, fun x hx => by cases hx⟩
 rw [List.take_length] at h1
 exact ⟨left, e, h1, h2⟩
theorem compare_ok {want hv : List Play} (hw : RPlays want) (hh : RPlays hv) {most : Int} (hm : 0 ≤ most ∧ most ≤ 40) :
  ∃ out left tk, proof_Compare want hv most = some (out, left, 0) ∧ MI want hv most want.length tk out ∧ left.length = tk.count false ∧ ∀ x ∈ left, ∃ j : Nat, x = j ∧ tk[j]? = some false := by
 have hwl := hw.len
 have hhl := hh.len
 unfold proof_Compare
 have e1 : forL (List.range (2 : Int).toNat) () (fun k x s => proof_Compare_L1 want hv k x s) = some (.go ()) := by
  rw [forL_eq (by simp)]
  have a0 : proof_Compare_L1 want hv 0 0 () = some (.go ()) := by
   unfold proof_Compare_L1
   have : idx ([want, hv] : List (List Play)) ((0 : Nat) : Int) = some want := rfl
   rw [this, Option.bind_some, checkPlays_0 hw]; rfl
  have a1 : proof_Compare_L1 want hv (0 + 1) 1 () = some (.go ()) := by
   unfold proof_Compare_L1
   have : idx ([want, hv] : List (List Play)) ((0 + 1 : Nat) : Int) = some hv := rfl
   rw [this, Option.bind_some, checkPlays_0 hh]; rfl
  have er : List.range (2 : Int).toNat = [0, 1] := rfl
  rw [er]
  simp only [forR, a0, a1, Option.bind_some]
 rw [e1]
 simp only [Option.bind_some, thenC, outside_eq, outB_in (show (0 : Int) ≤ most ∧ most ≤ 86400000 by omega), cond_false]
 have emk : mkN (hv.length : Int) 1 = some hv.length := by
  unfold mkN
  rw [if_pos (by omega)]; simp
 rw [emk, Option.bind_some]
 obtain ⟨⟨tk, out⟩, e2, hI⟩ := forL_at (body := fun k x s => proof_Compare_L3 hv most k x s) (fun k s => MI want hv most k s.1 s.2) (xs := want) (s := (List.replicate hv.length false, ([] : List Match))) (by omega) (fun k x s hx hI => by
  have hk : k < want.length := (List.getElem?_eq_some_iff.1 hx).1
  have hR := hw.right x (List.mem_of_getElem? hx)
  obtain ⟨b, f1, f2⟩ := best_ok hh hR hI.tl s.2 most
  have ht := hI.tl
  have hol := hI.ol
  unfold proof_Compare_L3
  have es : (s.1, s.2) = s := rfl
  rw [es] at f1
  rw [f1]
  simp only [Option.bind_some, thenC]
  have hself : want = hv → most = 0 → Cand s.1 x most k x ∧ ∀ j y, hv[j]? = some y → Cand s.1 x most j y → j = k := fun e0 em => by
   subst e0
   have hnt : s.1[k]? = some false := by
    have hkt : s.1[k]? = some (s.1[k]'(by omega)) := List.getElem?_eq_getElem (by omega)
    cases hb : s.1[k]'(by omega) with
    | false => rw [hkt, hb]
    | true =>
     rw [hb] at hkt
     obtain ⟨m, hm', e⟩ := (hI.tkn k).1 hkt
     obtain ⟨i, hi, rfl⟩ := List.getElem_of_mem hm'
     have := hI.self rfl em i _ (List.getElem?_eq_getElem hi)
     omega
   refine ⟨⟨hnt, rfl, rfl, by unfold dist; omega⟩, fun j y hj ⟨_, c2, _, c4⟩ => ?_⟩
   have hat : y.At = x.At := by unfold dist at c4; omega
   rcases Nat.lt_trichotomy j k with q | q | q
   ·have := pair_prev hw.rise hj hx q
    rcases this with h | h
    ·rw [c2] at h; exact absurd h (lt_irr _)
    ·omega
   ·exact q
   ·have := pair_prev hw.rise hx hj q
    rcases this with h | h
    ·rw [c2] at h; exact absurd h (lt_irr _)
    ·omega
  rcases f2 with ⟨rfl, f2⟩ | ⟨j, y, rfl, hj, hc⟩
  ·rw [decide_eq_false (by decide), cond_false]
   simp only [Option.bind_some]
   rw [appL_ok _ _ (by simp; omega)]
   refine ⟨_, rfl, mi_none hI (fun e0 e1 => ?_)⟩
   have := (hself e0 e1).1
   exact f2 k x (by rw [← e0]; exact hx) this
  ·rw [decide_eq_true (show (j : Int) ≥ 0 by omega), cond_true]
   have hjl : j < s.1.length := (List.getElem?_eq_some_iff.1 hc.1).1
   simp only [inR_ok (xs := s.1) (i := (j : Int)) (by omega) (by omega), Option.bind_some, Int.toNat_natCast, Nat.zero_add, hc.1]
   rw [appL_ok _ _ (by simp; omega)]
   exact ⟨_, rfl, mi_some hI hx hj hc (fun e0 e1 => (hself e0 e1).2 j y hj hc)⟩)
  ⟨by simp, rfl, fun i m hm => by simp at hm, fun j => by
   constructor
   ·intro h
    have := List.mem_of_getElem? h
    simp at this
   ·rintro ⟨m, hm, _⟩; exact absurd hm List.not_mem_nil, .nil, by simp, fun _ _ i m hm => by simp at hm⟩
 rw [e2]
 simp only [Option.bind_some, thenC]
 have htl := hI.tl
 simp only [] at htl hI
 obtain ⟨left, g1, g2, g3⟩ := left_ok tk (by omega)
 rw [g1]
 exact ⟨out, left, tk, rfl, hI, g2, g3⟩
theorem notIn1 (l : List Int) (v : Int) (hl : l.length ≤ 1000) (h : ∀ x ∈ l, v ≠ x) : slices_Contains_int_int l v = some false := by
 unfold slices_Contains_int_int slices_Index_int_int
 obtain ⟨u, e, _⟩ := forL_at (body := fun k x s => slices_Index_int_int_L1 v k x s) (fun _ _ => True) (xs := l) (s := ()) (by omega) (fun k x s hx _ => by
  refine ⟨(), ?_, trivial⟩
  unfold slices_Index_int_int_L1
  rw [show (v == x) = false from beq_eq_false_iff_ne.2 (h x (List.mem_of_getElem? hx))]; rfl) trivial
 rw [e]; rfl
theorem notIn2 (l : List Int) (v : Int) (hl : l.length ≤ 1000) (h : ∀ x ∈ l, v ≠ x) : slices_Contains_int_int_v1 l v = some false := by
 unfold slices_Contains_int_int_v1 slices_Index_int_int_v1
 obtain ⟨u, e, _⟩ := forL_at (body := fun k x s => slices_Index_int_int_v1_L1 l v k x s) (fun _ _ => True) (xs := List.range ((l.length : Int)).toNat) (s := ()) (by simp; omega) (fun k x s hx _ => by
  refine ⟨(), ?_, trivial⟩
  have hk : k < l.length := by have := (List.getElem?_eq_some_iff.1 hx).1; simpa using this
  unfold slices_Index_int_int_v1_L1
  rw [inR_ok (by omega) (by omega), Option.bind_some, Int.toNat_natCast, Nat.zero_add, List.getElem?_eq_getElem hk, Option.bind_some]
  rw [show (v == l[k]) = false from beq_eq_false_iff_ne.2 (h _ (List.getElem_mem hk))]; rfl) trivial
 rw [e]; rfl
theorem matchesAreOnce (l : List Int) : keep_MatchesAreOnce l = some true := by
 unfold keep_MatchesAreOnce
 have h0 : Ok (⟨l, 0⟩ : Stream) 0 := ⟨Int.le_refl _, Int.le_refl _⟩
 obtain ⟨a, s1, a1, a2, a3⟩ := rightPlays 6 (by decide) _ h0 (by decide)
 obtain ⟨b, s2, b1, b2, b3⟩ := rightPlays 5 (by decide) _ a3 (by decide)
 obtain ⟨most, s3, c1, c2, c3, c4⟩ := range_ok s2 0 40 b3 (by decide) (by decide) (by decide) (by decide)
 obtain ⟨out, left, tk, d1, hI, d3, d4⟩ := compare_ok a2 b2 (most := most) ⟨c2, c3⟩
 obtain ⟨out2, left2, tk2, f1, hJ, f3, f4⟩ := compare_ok a2 a2 (most := 0) ⟨by decide, by decide⟩
 have hal := a2.len
 have hbl := b2.len
 have hol := hI.ol
 have hol2 := hJ.ol
 have hcnt := hI.cnt
 have hcnt2 := hJ.cnt
 simp only [a1, b1, c1, d1, Option.bind_some, bne_self_eq_false, cond_false, hol]
 have hleft : left.length ≤ 20 := by omega
 have hu : forL out ([] : List Int) (fun k x s => keep_MatchesAreOnce_L1 (b, s2) (a, s1) (out, left, 0) (most, s3) k x s) = some (.go ((out.filter fun (m : Match) => decide (0 ≤ m.Have)).map (·.Have))) := by
  obtain ⟨u, e, hu⟩ := forL_at (body := fun k x s => keep_MatchesAreOnce_L1 (b, s2) (a, s1) (out, left, 0) (most, s3) k x s) (fun k s => s = ((out.take k).filter fun (m : Match) => decide (0 ≤ m.Have)).map (·.Have)) (xs := out) (s := ([] : List Int)) (by omega) (fun k x s hx hs => by
   subst hs
   have hk : k < out.length := (List.getElem?_eq_some_iff.1 hx).1
   have et : out.take (k + 1) = out.take k ++ [x] := by rw [List.take_add_one, hx]; rfl
   obtain ⟨hw, hh⟩ := hI.ok k x hx
   have hlen : (((out.take k).filter fun (m : Match) => decide (0 ≤ m.Have)).map (·.Have)).length ≤ 20 := by
    rw [List.length_map]
    refine Nat.le_trans (List.length_filter_le _ _) ?_
    rw [List.length_take]; omega
   unfold keep_MatchesAreOnce_L1
   rw [hw]
   simp only [bne_self_eq_false, cond_false, Option.bind_some]
   rcases hh with hh | ⟨j, w, h, hj, q1, q2, q3, q4, q5⟩
   ·rw [hh, decide_eq_false (show ¬ (-1 : Int) ≥ b.length by omega), cond_false, decide_eq_true (by decide), cond_true]
    refine ⟨_, rfl, ?_⟩
    rw [et, List.filter_append]
    simp [hh]
   ·have hjb : j < b.length := (List.getElem?_eq_some_iff.1 q2).1
    rw [hj, decide_eq_false (show ¬ (j : Int) ≥ b.length by omega), cond_false, decide_eq_false (show ¬ (j : Int) < 0 by omega), cond_false]
    simp only [idx_nat, q1, q2, Option.bind_some]
    have n1 : slices_Contains_int_int_v1 (((out.take k).filter fun (m : Match) => decide (0 ≤ m.Have)).map (·.Have)) (j : Int) = some false := notIn2 _ _ (by omega) (fun y hy e => by
     obtain ⟨m, hm, rfl⟩ := List.mem_map.1 hy
     obtain ⟨hm1, hm2⟩ := List.mem_filter.1 hm
     obtain ⟨i, hi, rfl⟩ := List.getElem_of_mem hm1
     have hi' : i < k ∧ i < out.length := by rw [List.length_take] at hi; omega
     rw [List.getElem_take] at e hm2
     have := pair_prev hI.dis (List.getElem?_eq_getElem hi'.2) hx hi'.1 (by simpa using hm2)
     rw [hj] at this
     exact this e.symm)
    have n2 : slices_Contains_int_int left (j : Int) = some false := notIn1 _ _ (by omega) (fun y hy e => by
     obtain ⟨i, rfl, hi⟩ := d4 y hy
     have e' : i = j := by omega
     subst e'
     have := (hI.tkn i).2 ⟨x, List.mem_of_getElem? hx, hj⟩
     rw [hi] at this; cases this)
    have r1 := a2.right w (List.mem_of_getElem? q1)
    have r2 := b2.right h (List.mem_of_getElem? q2)
    have p1 := r1.at_
    have p2 := r2.at_
    rw [n1]
    simp only [Option.bind_some, cond_false]
    rw [n2]
    simp only [Option.bind_some, cond_false]
    rw [sNe_dec, sNe_dec, q3, q4, maxI_eq', w64_id (n := w.At - h.At) (by omega), w64_id (n := h.At - w.At) (by omega)]
    have q6 : ¬ max (w.At - h.At) (h.At - w.At) > most := by unfold dist at q5; omega
    rw [decide_eq_false q6]
    simp only [decide_true, Bool.not_true, cond_false, Option.bind_some]
    rw [appL_ok _ _ (by simp only [List.length_cons, List.length_nil]; omega)]
    refine ⟨_, rfl, ?_⟩
    rw [et, List.filter_append, List.map_append]
    have : decide (0 ≤ x.Have) = true := decide_eq_true (by omega)
    rw [List.filter_cons, this]
    simp [hj]) rfl
  rw [e, hu, List.take_length]
 rw [hu]
 simp only [Option.bind_some, thenC, f1]
 obtain ⟨u, g1, _⟩ := forL_at (body := fun k x s => keep_MatchesAreOnce_L2 k x s) (fun _ _ => True) (xs := out2) (s := ()) (by omega) (fun k x s hx _ => by
  refine ⟨(), ?_, trivial⟩
  unfold keep_MatchesAreOnce_L2
  rw [hJ.self rfl rfl k x hx]
  simp only [bne_self_eq_false, cond_false]) trivial
 rw [g1]
 simp only [Option.bind_some, thenC]
 have hall : (out2.filter fun (m : Match) => decide (0 ≤ m.Have)).length = out2.length := by
  rw [List.filter_eq_self.2 (fun m hm => by
   obtain ⟨i, hi, rfl⟩ := List.getElem_of_mem hm
   have := hJ.self rfl rfl i _ (List.getElem?_eq_getElem hi)
   exact decide_eq_true (by omega))]
 have hl2 : left2.length = 0 := by omega
 rw [hol2, hl2, List.length_map, w64_id (by omega)]
 have hsum : (((out.filter fun (m : Match) => decide (0 ≤ m.Have)).length : Int) + (left.length : Int) == (b.length : Int)) = true := by
  rw [beq_iff_eq]; omega
 rw [hsum]
 simp only [beq_self_eq_true, cond_true, ready_ok, Option.bind_some]
 rfl
end Go.Proofs.YtpojeclokolkaaaGreatDoor.Law

