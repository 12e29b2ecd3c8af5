/-
  THE PLAIN LAW (part 4).
-/
import Derived.Test.YtpojeclokolkaaaGreatDoorPl3
import Derived.Test.YtpojeclokolkaaaGreatDoorDefs
open Go Go.Eng
namespace Go.Proofs.YtpojeclokolkaaaGreatDoor.Law
set_option linter.unusedVariables false
set_option linter.unusedSimpArgs false
instance (a b : Alert) : Decidable (lt a.Id b.Id) := by unfold lt; exact inferInstance
instance (a b : Alert) : Decidable (befA a b) := by unfold befA; exact inferInstance
instance (v : ByteArray) (l : List ByteArray) : Decidable (v ∈ l) := decidable_of_iff (l.any (fun x => decide (v = x)) = true) (by simp)
def refB (a o : Alert) (r : ByteArray) : Bool := decide (o.Id = r) && (decide (o.Sender = a.Sender) && decide (befA o a))
def cutB (a z : Alert) : Bool := decide (z.Id ∈ a.Refs) && (decide (z.Sender = a.Sender) && decide (befA z a))
def endV (l : List Alert) (z : Alert) : Int := l.foldl (fun m a => bif cutB a z then min m a.At else m) z.Until
def onB (l : List Alert) (t : Int) (z : Alert) : Bool := decide (z.Kind ≠ 3) && (decide (z.At ≤ t) && decide (t < endV l z))
def befR (a b : Alert) : Bool := decide (b.Weight < a.Weight) || (decide (a.Weight = b.Weight) && (decide (b.At < a.At) || (decide (a.At = b.At) && decide (lt a.Id b.Id))))
theorem befR_irr (a : Alert) : befR a a = false := by
 unfold befR
 rw [← Bool.not_eq_true]
 simp only [Bool.or_eq_true, Bool.and_eq_true, decide_eq_true_eq, not_or, not_and]
 exact ⟨Int.lt_irrefl _, fun _ => ⟨Int.lt_irrefl _, fun _ => lt_irr _⟩⟩
theorem befR_iff {a b : Alert} : befR a b = true ↔ b.Weight < a.Weight ∨ a.Weight = b.Weight ∧ (b.At < a.At ∨ a.At = b.At ∧ lt a.Id b.Id) := by
 unfold befR
 simp only [Bool.or_eq_true, Bool.and_eq_true, decide_eq_true_eq]
theorem befR_trans (a b c : Alert) (h : befR a b = true) (k : befR b c = true) : befR a c = true := by
 rw [befR_iff] at *
 rcases h with h | ⟨h, h2⟩ <;> rcases k with k | ⟨k, k2⟩
 ·exact .inl (by omega)
 ·exact .inl (by omega)
 ·exact .inl (by omega)
 ·refine .inr ⟨by omega, ?_⟩
  rcases h2 with h2 | ⟨h2, h3⟩ <;> rcases k2 with k2 | ⟨k2, k3⟩
  ·exact .inl (by omega)
  ·exact .inl (by omega)
  ·exact .inl (by omega)
  ·exact .inr ⟨by omega, lt_trans h3 k3⟩
theorem befR_tot {a b : Alert} (h : a.Id ≠ b.Id) : befR a b = true ∨ befR b a = true := by
 rw [befR_iff, befR_iff]
 rcases Int.lt_trichotomy a.Weight b.Weight with q | q | q
 ·exact .inr (.inl q)
 ·rcases Int.lt_trichotomy a.At b.At with w | w | w
  ·exact .inr (.inr ⟨q.symm, .inl w⟩)
  ·rcases lt_tri a.Id b.Id with e | e | e
   ·exact .inl (.inr ⟨q, .inr ⟨w, e⟩⟩)
   ·exact absurd e h
   ·exact .inr (.inr ⟨q.symm, .inr ⟨w.symm, e⟩⟩)
  ·exact .inl (.inr ⟨q, .inl w⟩)
 ·exact .inl (.inl q)
theorem nodup_tot {l : List Alert} (h : (l.map (·.Id)).Nodup) : l.Pairwise (fun a b => befR a b = true ∨ befR b a = true) := by
 have h2 : l.Pairwise (fun a b => a.Id ≠ b.Id) := by
  have := h
  unfold List.Nodup at this
  rwa [List.pairwise_map] at this
 exact h2.imp befR_tot
def rankL (l : List Alert) (px py t : Int) : List Alert := l.filter fun z => onB l t z && hasB z.Areas px py
def rankS (l : List Alert) (px py t : Int) : List Alert := srtG befR (rankL l px py t)
def shownL (l : List Alert) (px py t : Int) : ByteArray := match rankS l px py t with | [] => ⟨#[]⟩ | z :: _ => z.Id
theorem rankL_nodup {l : List Alert} (h : (l.map (·.Id)).Nodup) (px py t : Int) : ((rankL l px py t).map (·.Id)).Nodup := h.sublist ((List.filter_sublist (l := l)).map _)
theorem rank_is {l : List Alert} (h : (l.map (·.Id)).Nodup) (px py t : Int) {s : List Alert} (hp : s.Perm (rankL l px py t)) (hs : s.Pairwise (fun a b => befR b a = false)) : s = rankS l px py t :=
 srtG_is befR_irr befR_trans (nodup_tot (rankL_nodup h px py t)) hp hs
end Go.Proofs.YtpojeclokolkaaaGreatDoor.Law

open Go Go.Eng
namespace Go.Proofs.YtpojeclokolkaaaGreatDoor.Law
set_option linter.unusedVariables false
set_option linter.unusedSimpArgs false
structure CA (l : List Alert) : Prop where
 ids : (l.map (·.Id)).Nodup
 len : l.length ≤ 12
 refs : ∀ x ∈ l, x.Refs.length ≤ 1000
 alen : ∀ x ∈ l, x.Areas.length ≤ 1000
 areas : ∀ x ∈ l, ∀ r ∈ x.Areas, Fine r
 at_ : ∀ x ∈ l, 0 ≤ x.At ∧ x.At ≤ 1000000000000
 until_ : ∀ x ∈ l, 0 ≤ x.Until ∧ x.Until ≤ 2000000000000
theorem nodup_id {l : List Alert} (h : (l.map (·.Id)).Nodup) {i j : Nat} {a b : Alert} (ha : l[i]? = some a) (hb : l[j]? = some b) (e : a.Id = b.Id) : i = j := by
 obtain ⟨h1, e1⟩ := List.getElem?_eq_some_iff.1 ha
 obtain ⟨h2, e2⟩ := List.getElem?_eq_some_iff.1 hb
 have hp := List.pairwise_iff_getElem.1 h
 rcases Nat.lt_trichotomy i j with q | q | q
 ·exact absurd (by rw [List.getElem_map, List.getElem_map, e1, e2]; exact e) (hp i j (by simpa using h1) (by simpa using h2) q)
 ·exact q
 ·exact absurd (by rw [List.getElem_map, List.getElem_map, e1, e2]; exact e.symm) (hp j i (by simpa using h2) (by simpa using h1) q)
theorem endV_snoc (l : List Alert) (a z : Alert) : endV (l ++ [a]) z = bif cutB a z then min (endV l z) a.At else endV l z := by
 unfold endV
 rw [List.foldl_append]; rfl
def cutJ (a : Alert) (j : Nat) (z : Alert) : Bool := decide (z.Id ∈ a.Refs.take j) && (decide (z.Sender = a.Sender) && decide (befA z a))
def endJ (l : List Alert) (k : Nat) (a : Alert) (j : Nat) (z : Alert) : Int := bif cutJ a j z then min (endV (l.take k) z) a.At else endV (l.take k) z
theorem endJ_0 (l : List Alert) (k : Nat) (a z : Alert) : endJ l k a 0 z = endV (l.take k) z := by
 unfold endJ cutJ
 rw [decide_eq_false (by simp)]; rfl
theorem endJ_all {l : List Alert} {k : Nat} {a : Alert} (h : l[k]? = some a) (z : Alert) : endJ l k a a.Refs.length z = endV (l.take (k + 1)) z := by
 have et : l.take (k + 1) = l.take k ++ [a] := by rw [List.take_add_one, h]; rfl
 rw [et, endV_snoc]
 unfold endJ cutJ cutB
 rw [List.take_length]
theorem refB_iff {a o : Alert} {r : ByteArray} : refB a o r = true ↔ o.Id = r ∧ o.Sender = a.Sender ∧ befA o a := by
 unfold refB
 simp only [Bool.and_eq_true, decide_eq_true_eq]
theorem cutJ_iff {a z : Alert} {j : Nat} : cutJ a j z = true ↔ z.Id ∈ a.Refs.take j ∧ z.Sender = a.Sender ∧ befA z a := by
 unfold cutJ
 simp only [Bool.and_eq_true, decide_eq_true_eq]
theorem cutJ_next {a z : Alert} {j : Nat} {r : ByteArray} (hr : a.Refs[j]? = some r) : cutJ a (j + 1) z = (cutJ a j z || refB a z r) := by
 have et : a.Refs.take (j + 1) = a.Refs.take j ++ [r] := by rw [List.take_add_one, hr]; rfl
 rw [Bool.eq_iff_iff, Bool.or_eq_true, cutJ_iff, cutJ_iff, refB_iff, et, List.mem_append, List.mem_singleton]
 constructor
 ·rintro ⟨h | h, k⟩
  ·exact .inl ⟨h, k⟩
  ·exact .inr ⟨h, k⟩
 ·rintro (⟨h, k⟩ | ⟨h, k⟩)
  ·exact ⟨.inl h, k⟩
  ·exact ⟨.inr h, k⟩
theorem endJ_next {l : List Alert} {k j : Nat} {a z : Alert} {r : ByteArray} (hr : a.Refs[j]? = some r) : endJ l k a (j + 1) z = bif refB a z r then min (endJ l k a j z) a.At else endJ l k a j z := by
 unfold endJ
 rw [cutJ_next hr]
 cases cutJ a j z <;> cases refB a z r <;> simp only [Bool.or_true, Bool.or_false, Bool.false_or, Bool.true_or, cond_true, cond_false]
 omega
theorem map_none {l : List Alert} {k j : Nat} {a : Alert} {r : ByteArray} (hr : a.Refs[j]? = some r) (h : l.any (fun o => refB a o r) = false) : l.map (endJ l k a (j + 1)) = l.map (endJ l k a j) := by
 refine List.map_congr_left (fun z hz => ?_)
 have : refB a z r = false := by
  rw [← Bool.not_eq_true]; intro e
  have : l.any (fun o => refB a o r) = true := List.any_eq_true.2 ⟨z, hz, e⟩
  rw [h] at this; cases this
 rw [endJ_next hr, this, cond_false]
theorem map_one {l : List Alert} (hid : (l.map (·.Id)).Nodup) {k j i : Nat} {a z : Alert} {r : ByteArray} (hr : a.Refs[j]? = some r) (hz : l[i]? = some z) (h : refB a z r = true) : l.map (endJ l k a (j + 1)) = (l.map (endJ l k a j)).set i (min (endJ l k a j z) a.At) := by
 refine List.ext_getElem? (fun n => ?_)
 rw [List.getElem?_map, List.getElem?_set]
 by_cases hin : i = n
 ·subst hin
  obtain ⟨h1, _⟩ := List.getElem?_eq_some_iff.1 hz
  rw [if_pos rfl, if_pos (by simpa using h1), hz, Option.map_some, endJ_next hr, h, cond_true]
 ·rw [if_neg hin, List.getElem?_map]
  cases hn : l[n]? with
  | none => rfl
  | some y =>
   rw [Option.map_some, Option.map_some, endJ_next hr]
   have : refB a y r = false := by
    rw [← Bool.not_eq_true]; intro e
    exact hin (nodup_id hid hz hn ((refB_iff.1 h).1.trans (refB_iff.1 e).1.symm))
   rw [this, cond_false]
theorem first_at {α : Type} {f : α → Option Bool} {p : α → Bool} {B : Nat → α → Unit → Option (Ctl Unit Int)} (hB : ∀ k x, B k x () = (f x).bind fun r => bif r then some (.ret (k : Int)) else some (.go ())) : ∀ (xs : List α) (k : Nat), (∀ x ∈ xs, f x = some (p x)) →
  (xs.any p = false ∧ forR B xs k () = some (.go ())) ∨ ∃ (j : Nat) (x : α), xs[j]? = some x ∧ p x = true ∧ (∀ (i : Nat) (y : α), i < j → xs[i]? = some y → p y = false) ∧ forR B xs k () = some (.ret ((k + j : Nat) : Int)) ∧ xs.any p = true
 | [], k, h => .inl ⟨rfl, rfl⟩
 | x :: xs, k, h => by
  have hx := h x (by simp)
  cases hp : p x with
  | true =>
   refine .inr ⟨0, x, rfl, hp, fun i y hi => absurd hi (Nat.not_lt_zero _), ?_, by rw [List.any_cons, hp]; rfl⟩
   rw [forR, hB, hx, hp]; rfl
  | false =>
   have e1 : forR B (x :: xs) k () = forR B xs (k + 1) () := by rw [forR, hB, hx, hp]; rfl
   rw [e1, List.any_cons, hp, Bool.false_or]
   rcases first_at hB xs (k + 1) (fun y hy => h y (by simp [hy])) with ⟨h1, h2⟩ | ⟨j, y, h1, h2, h3, h4, h5⟩
   ·exact .inl ⟨h1, h2⟩
   ·refine .inr ⟨j + 1, y, h1, h2, fun i z hi hz => ?_, by rw [h4]; congr 3; omega, h5⟩
    cases i with
    | zero => rw [List.getElem?_cons_zero, Option.some.injEq] at hz; rw [← hz]; exact hp
    | succ i => exact h3 i z (by omega) (by simpa using hz)
theorem minI_m (a b : Int) : minI a b = min a b := by unfold minI; split <;> omega
theorem compareA_eq (a b : Alert) : ∃ n, alert_compare a b = some n ∧ (n < 0 ↔ befA a b) := by
 refine ⟨_, by simp only [alert_compare, compare_eq, cmpInt_eq, or2_eq, Option.bind_some]; rfl, ?_⟩
 rw [or0_neg, cmpI_neg, cmpI_zero, cmpB_neg]; rfl
theorem find1_eq (a o : Alert) (r : ByteArray) : alert_find_1 o r a = some (refB a o r) := by
 obtain ⟨n, n1, n2⟩ := compareA_eq o a
 unfold alert_find_1 refB
 rw [sEq_dec, sEq_dec, n1]
 have : decide (n < 0) = decide (befA o a) := by rw [decide_eq_decide]; exact n2
 cases decide (o.Id = r) <;> cases decide (o.Sender = a.Sender) <;> simp [this]
theorem find_eq {l : List Alert} (hl : l.length ≤ 1000) (a : Alert) (r : ByteArray) : (alert_find l a r = some (-1) ∧ l.any (fun o => refB a o r) = false) ∨ ∃ (j : Nat) (z : Alert), alert_find l a r = some (j : Int) ∧ l[j]? = some z ∧ refB a z r = true := by
 unfold alert_find slices_IndexFunc_api_Alert_api_Alert
 rw [forL_eq (by omega)]
 rcases first_at (f := fun x0 => alert_find_1 x0 r a) (p := fun o => refB a o r) (B := fun k x s => slices_IndexFunc_api_Alert_api_Alert_L1 (fun x0 => alert_find_1 x0 r a) k x s) (fun k x => rfl) l 0 (fun x _ => find1_eq a x r) with ⟨h1, h2⟩ | ⟨j, x, h1, h2, _, h4, _⟩
 ·rw [h2]; exact .inl ⟨rfl, h1⟩
 ·rw [h4]; exact .inr ⟨j, x, by simp only [Option.bind_some, thenC, Nat.zero_add], h1, h2⟩
theorem ends_step {l : List Alert} (h : CA l) {k j : Nat} {a : Alert} {r : ByteArray} (hr : a.Refs[j]? = some r) : alert_ends_L2 l a j r (l.map (endJ l k a j)) = some (.go (l.map (endJ l k a (j + 1)))) := by
 have hl := h.len
 unfold alert_ends_L2
 rcases find_eq (Nat.le_trans hl (by decide)) a r with ⟨h1, h2⟩ | ⟨i, z, h1, h2, h3⟩
 ·rw [h1, Option.bind_some, decide_eq_false (by decide), cond_false, Option.bind_some, map_none hr h2]
 ·obtain ⟨hi, _⟩ := List.getElem?_eq_some_iff.1 h2
  have e1 : (l.map (endJ l k a j))[(0 + ((i : Int)).toNat)]? = some (endJ l k a j z) := by
   rw [show 0 + ((i : Int)).toNat = i by omega, List.getElem?_map, h2]; rfl
  have hin : inR (i : Int) (l.map (endJ l k a j)) = some () := inR_ok (by omega) (by rw [List.length_map]; omega)
  rw [h1, Option.bind_some, decide_eq_true (by omega), cond_true, hin, e1]
  simp only [Option.bind_some]
  rw [map_one h.ids hr h2 h3, minI_m, show 0 + ((i : Int)).toNat = i by omega]
theorem ends_eq {l : List Alert} (h : CA l) : alert_ends l = some (l.map (endV l)) := by
 have hl := h.len
 unfold alert_ends
 obtain ⟨t, t1, t2⟩ := forL_at (body := fun k x s => alert_ends_L1 k x s) (fun k s => s = (l.take k).map (·.Until)) (xs := l) (s := ([] : List Int)) (by omega) (fun k x s hx hs => by
  have et : l.take (k + 1) = l.take k ++ [x] := by rw [List.take_add_one, hx]; rfl
  have hk : (l.take k).length ≤ l.length := by rw [List.length_take]; exact Nat.min_le_right _ _
  unfold alert_ends_L1
  rw [hs, appL_ok _ _ (by simp only [List.length_map, List.length_cons, List.length_nil]; omega)]
  exact ⟨_, rfl, by rw [et, List.map_append]; rfl⟩) rfl
 rw [t1, t2, List.take_length]
 simp only [Option.bind_some, thenC]
 obtain ⟨u, u1, u2⟩ := forL_at (body := fun k x s => alert_ends_L3 l k x s) (fun k s => s = l.map (endV (l.take k))) (xs := l) (s := l.map (·.Until)) (by omega) (fun k x s hx hs => by
  have hrl := h.refs x (List.mem_of_getElem? hx)
  obtain ⟨v, v1, v2⟩ := forL_at (body := fun j r s => alert_ends_L2 l x j r s) (fun j s => s = l.map (endJ l k x j)) (xs := x.Refs) (s := s) (by omega) (fun j r s hr hs => by
   rw [hs]
   exact ⟨_, ends_step h hr, rfl⟩) (by rw [hs]; exact List.map_congr_left (fun z _ => (endJ_0 l k x z).symm))
  unfold alert_ends_L3
  rw [v1]
  exact ⟨v, rfl, by rw [v2]; exact List.map_congr_left (fun z _ => endJ_all hx z)⟩) rfl
 rw [u1, u2, List.take_length]
 rfl
theorem isOn_eq (l : List Alert) (a : Alert) (t : Int) : alert_isOn a (endV l a) t = some (onB l t a) := by
 unfold alert_isOn onB
 have e : (a.Kind != 3) = decide (a.Kind ≠ 3) := by rw [Bool.eq_iff_iff]; simp
 rw [e]
 cases decide (a.Kind ≠ 3) <;> cases decide (a.At ≤ t) <;> rfl
end Go.Proofs.YtpojeclokolkaaaGreatDoor.Law

open Go Go.Eng
namespace Go.Proofs.YtpojeclokolkaaaGreatDoor.Law
set_option linter.unusedVariables false
set_option linter.unusedSimpArgs false
set_option maxRecDepth 100000
def chA {α : Type} (stp : Option α → α → Int) : Option α → List α → Int
 | _, [] => 0
 | p, x :: l => bif stp p x == 0 then chA stp (some x) l else stp p x
def prevA {α : Type} (l : List α) (k : Nat) : Option α := if k = 0 then none else l[k - 1]?
theorem chA_prev {α : Type} {stp : Option α → α → Int} {body : Nat → α → Unit → Option (Ctl Unit Int)} (l : List α) : ∀ (xs : List α) (k : Nat), l.drop k = xs → (∀ k x, l[k]? = some x → body k x () = some (outC (stp (prevA l k) x))) → forR body xs k () = some (outC (chA stp (prevA l k) xs))
 | [], k, _, _ => rfl
 | x :: xs, k, hd, h => by
  have hx := drop_get hd
  have hp : prevA l (k + 1) = some x := by unfold prevA; rw [if_neg (by omega)]; exact hx
  rw [forR, h k x hx, Option.bind_some, chA]
  cases hs : stp (prevA l k) x == 0 with
  | true =>
   have e : outC (stp (prevA l k) x) = .go () := by unfold outC; rw [hs]; rfl
   rw [e, cond_true, ← hp]
   exact chA_prev l xs (k + 1) (drop_next hd) h
  | false =>
   have e : outC (stp (prevA l k) x) = .ret (stp (prevA l k) x) := by unfold outC; rw [hs]; rfl
   rw [e, cond_false, e]
theorem chA_all {α : Type} {stp : Option α → α → Int} {body : Nat → α → Unit → Option (Ctl Unit Int)} {l : List α} (hl : l.length ≤ 1000000) (h : ∀ k x, l[k]? = some x → body k x () = some (outC (stp (prevA l k) x))) : forL l () body = some (outC (chA stp none l)) := by
 rw [forL_eq (by omega)]
 exact chA_prev l l 0 rfl h
theorem chA_0 {α : Type} {stp : Option α → α → Int} : ∀ {l : List α} {p : Option α}, chA stp p l = 0 → ∀ (i : Nat) (x : α), l[i]? = some x → ∃ q, stp q x = 0 ∧ (i = 0 → q = p) ∧ (0 < i → q = l[i - 1]?)
 | [], p, _, i, x, hx => by simp at hx
 | y :: l, p, h, i, x, hx => by
  rw [chA] at h
  cases hs : stp p y == 0 with
  | false => rw [hs, cond_false] at h; rw [h] at hs; exact absurd hs (by decide)
  | true =>
   rw [hs, cond_true] at h
   cases i with
   | zero =>
    rw [List.getElem?_cons_zero, Option.some.injEq] at hx
    exact ⟨p, by rw [← hx]; exact eq_of_beq hs, fun _ => rfl, fun h => absurd h (Nat.lt_irrefl _)⟩
   | succ i =>
    rw [List.getElem?_cons_succ] at hx
    obtain ⟨q, q1, q2, q3⟩ := chA_0 h i x hx
    refine ⟨q, q1, fun h => absurd h (by omega), fun _ => ?_⟩
    cases i with
    | zero => rw [q2 rfl]; rfl
    | succ i => rw [q3 (by omega)]; simp
theorem outC_cases (e : Int) : (e = 0 ∧ outC e = .go ()) ∨ (e ≠ 0 ∧ outC e = .ret e) := by
 unfold outC
 by_cases h : e = 0
 ·subst h; exact .inl ⟨rfl, rfl⟩
 ·have : (e == 0) = false := by simpa using h
  rw [this]; exact .inr ⟨h, rfl⟩
theorem plain1_eq (n : Nat) : ref_Plain_1 (n : Int) = some (decide ((n : Int) < 32) || ((n : Int) == 127)) := by
 unfold ref_Plain_1
 cases decide ((n : Int) < 32) <;> rfl
def runeB (n : Nat) : Bool := decide ((n : Int) < 32) || ((n : Int) == 127)
theorem refPlain_of (s : ByteArray) {t : ByteArray} {v c k r : Bool} (h1 : unicode_utf8_ValidString s = some v) (h2 : decide (0 ≤ Lib.idxFunc runeB true s) = c) (h3 : strings_TrimF s ⟨#[32]⟩ = some t) (h4 : strings_Contains s ⟨#[32, 32]⟩ = some k) (h5 : (v && (!c && (sEq t s && !k))) = r) : ref_Plain s = some r := by
 subst h5
 unfold ref_Plain strings_ContainsFunc_cf237
 rw [h1, containsFn_eq (p := runeB) (fun n => plain1_eq n), h2, strings_Trim_le _ _ _ h3, h4]
 cases v with
 | false => rfl
 | true =>
  cases c with
  | true => rfl
  | false =>
   simp only [Option.bind_some, cond_true, Bool.not_false]
   cases sEq t s <;> rfl
def plainV (s : ByteArray) : Bool := decide (s = ⟨#[]⟩) || (decide (s = overS) || (decide (s = floodS) || decide (s = mallS)))
theorem plain_txt : ∀ s ∈ txtL, kit_IsPlain s = some (plainV s) ∧ ref_Plain s = some (plainV s) := by
 intro s hs
 unfold txtL at hs
 simp only [List.mem_cons, List.not_mem_nil, or_false] at hs
 rcases hs with rfl | rfl | rfl | rfl | rfl | rfl | rfl | rfl
 ·exact ⟨kit_IsPlain_le _ _ (show kit_IsPlainF ⟨#[]⟩ = some (plainV ⟨#[]⟩) by kernel_rfl), refPlain_of ⟨#[]⟩ (v := true) (c := false) (t := ⟨#[]⟩) (k := false) (by kernel_rfl) (by kernel_rfl) (by kernel_rfl) (by kernel_rfl) (by kernel_rfl)⟩
 ·exact ⟨kit_IsPlain_le _ _ (show kit_IsPlainF overS = some (plainV overS) by kernel_rfl), refPlain_of overS (v := true) (c := false) (t := overS) (k := false) (by kernel_rfl) (by kernel_rfl) (by kernel_rfl) (by kernel_rfl) (by kernel_rfl)⟩
 ·exact ⟨kit_IsPlain_le _ _ (show kit_IsPlainF floodS = some (plainV floodS) by kernel_rfl), refPlain_of floodS (v := true) (c := false) (t := floodS) (k := false) (by kernel_rfl) (by kernel_rfl) (by kernel_rfl) (by kernel_rfl) (by kernel_rfl)⟩
 ·exact ⟨kit_IsPlain_le _ _ (show kit_IsPlainF mallS = some (plainV mallS) by kernel_rfl), refPlain_of mallS (v := true) (c := false) (t := mallS) (k := false) (by kernel_rfl) (by kernel_rfl) (by kernel_rfl) (by kernel_rfl) (by kernel_rfl)⟩
 ·exact ⟨kit_IsPlain_le _ _ (show kit_IsPlainF ⟨#[32, 120]⟩ = some (plainV ⟨#[32, 120]⟩) by kernel_rfl), refPlain_of ⟨#[32, 120]⟩ (v := true) (c := false) (t := ⟨#[120]⟩) (k := false) (by kernel_rfl) (by kernel_rfl) (by kernel_rfl) (by kernel_rfl) (by kernel_rfl)⟩
 ·exact ⟨kit_IsPlain_le _ _ (show kit_IsPlainF ⟨#[97, 32, 32, 98]⟩ = some (plainV ⟨#[97, 32, 32, 98]⟩) by kernel_rfl), refPlain_of ⟨#[97, 32, 32, 98]⟩ (v := true) (c := false) (t := ⟨#[97, 32, 32, 98]⟩) (k := true) (by kernel_rfl) (by kernel_rfl) (by kernel_rfl) (by kernel_rfl) (by kernel_rfl)⟩
 ·exact ⟨kit_IsPlain_le _ _ (show kit_IsPlainF ⟨#[10]⟩ = some (plainV ⟨#[10]⟩) by kernel_rfl), refPlain_of ⟨#[10]⟩ (v := true) (c := true) (t := ⟨#[10]⟩) (k := false) (by kernel_rfl) (by kernel_rfl) (by kernel_rfl) (by kernel_rfl) (by kernel_rfl)⟩
 ·exact ⟨kit_IsPlain_le _ _ (show kit_IsPlainF ⟨#[255]⟩ = some (plainV ⟨#[255]⟩) by kernel_rfl), refPlain_of ⟨#[255]⟩ (v := false) (c := false) (t := ⟨#[255]⟩) (k := false) (by kernel_rfl) (by kernel_rfl) (by kernel_rfl) (by kernel_rfl) (by kernel_rfl)⟩
theorem txt_size : ∀ s ∈ txtL, s.size ≤ 16 := by
 intro s hs
 unfold txtL at hs
 simp only [List.mem_cons, List.not_mem_nil, or_false] at hs
 rcases hs with rfl | rfl | rfl | rfl | rfl | rfl | rfl | rfl <;> decide
def prevF {α : Type} (f : α → Bool) : Option α → Bool
 | some y => f y
 | none => false
def refStp (id : ByteArray) (p : Option ByteArray) (r : ByteArray) : Int := bif !keyB r then 5 else bif prevF (fun q => sLe r q) p then 7 else bif sEq r id then 14 else 0
def areaStp (_ : Option Rect) (r : Rect) : Int := bif badR r then 1 else 0
theorem prev_cond {α β : Type} {l : List α} {k : Nat} {x : α} (h : l[k]? = some x) (hl : l.length ≤ 1000000) (g : α → Option Bool) (f : α → Bool) (hg : ∀ y, g y = some (f y)) : (bif (decide ((k : Int) > 0)) then (idx l (w64 ((k : Int) - 1))).bind g else some false) = some (prevF f (prevA l k)) := by
 rcases Nat.eq_zero_or_pos k with h0 | h0
 ·subst h0
  rw [decide_eq_false (by omega)]; rfl
 ·obtain ⟨y, q1, q2⟩ := idx_prev h h0 (by omega)
  rw [decide_eq_true (by omega), cond_true, q1, Option.bind_some, hg]
  unfold prevA
  rw [if_neg (by omega), q2]; rfl
theorem refsK_body (x : Alert) (h : GA x) : ∀ k r, x.Refs[k]? = some r → alert_refsFault_L1 x k r () = some (outC (refStp x.Id (prevA x.Refs k) r)) := fun k r hr => by
 have hl := h.rlen
 have hs := h.refs r (List.mem_of_getElem? hr)
 unfold ShA at hs
 unfold alert_refsFault_L1
 rw [isKey_eq r (by omega), prev_cond (β := Unit) hr (by omega) (fun y_20 => some (sLe r y_20)) (fun y => sLe r y) (fun _ => rfl), Option.bind_some, Option.bind_some]
 unfold refStp
 cases keyB r with
 | false => rfl
 | true =>
  cases prevF (fun q => sLe r q) (prevA x.Refs k) with
  | true => rfl
  | false => cases sEq r x.Id <;> rfl
theorem refsR_body (x : Alert) (h : GA x) : ∀ k r, x.Refs[k]? = some r → ref_alertFault_L1 x k r () = some (outC (refStp x.Id (prevA x.Refs k) r)) := fun k r hr => by
 have hl := h.rlen
 have hs := h.refs r (List.mem_of_getElem? hr)
 unfold ShA at hs
 unfold ref_alertFault_L1
 rw [refKey_eq r (by omega), prev_cond (β := Unit) hr (by omega) (fun y_20 => some (sLe r y_20)) (fun y => sLe r y) (fun _ => rfl), Option.bind_some, Option.bind_some]
 unfold refStp
 cases keyB r with
 | false => rfl
 | true =>
  cases prevF (fun q => sLe r q) (prevA x.Refs k) with
  | true => rfl
  | false => cases sEq r x.Id <;> rfl
theorem areaK_body (x : Alert) : ∀ k r, x.Areas[k]? = some r → alert_alertFault_L1 k r () = some (outC (areaStp (prevA x.Areas k) r)) := fun k r hr => by
 unfold alert_alertFault_L1 areaStp
 rw [checkRect_eq]
 cases badR r <;> rfl
theorem areaR_body (x : Alert) : ∀ k r, x.Areas[k]? = some r → ref_alertFault_L2 k r () = some (outC (areaStp (prevA x.Areas k) r)) := fun k r hr => by
 unfold ref_alertFault_L2 areaStp
 rw [rectFault_eq]
 cases badR r <;> rfl
def rfV (x : Alert) : Int := chA (refStp x.Id) none x.Refs
def arV (x : Alert) : Int := chA areaStp none x.Areas
def fmV (x : Alert) : Bool := !((x.Kind == 1) == ((x.Refs.length : Int) == 0))
def agV (x : Alert) : Bool := !momB x.At || (outB x.Until (x.At + 1) (x.At + 2592000000) || outB x.Weight 1 9)
def txV (x : Alert) : Bool := !plainV x.Text || (sEq x.Text ⟨#[]⟩ && !(x.Kind == 3))
def cnV (x : Alert) : Bool := !((x.Kind == 3) == ((x.Areas.length : Int) == 0))
def alF (x : Alert) : Int := bif !keyB x.Id || !keyB x.Sender then 5 else bif outB x.Kind 1 3 then 4 else bif rfV x == 0 then (bif fmV x then 3 else bif agV x then 1 else bif arV x == 0 then (bif cnV x then 3 else bif txV x then 3 else 0) else arV x) else rfV x
theorem alF_K {x : Alert} (h : GA x) : alert_alertFault x = some (alF x) := by
 have h1 := h.id
 have h2 := h.sender
 have h3 := h.at_
 have h4 := h.rlen
 have h5 := h.alen
 have h6 := txt_size _ h.text
 unfold ShA at h1 h2
 have hrf : alert_refsFault x = some (bif rfV x == 0 then (bif fmV x then 3 else 0) else rfV x) := by
  unfold alert_refsFault
  rw [decide_eq_false (by omega), cond_false, chA_all (stp := refStp x.Id) (body := fun k r s => alert_refsFault_L1 x k r s) (by omega) (refsK_body x h)]
  unfold rfV fmV
  rcases outC_cases (chA (refStp x.Id) none x.Refs) with ⟨e1, e2⟩ | ⟨e1, e2⟩
  ·rw [e2, e1]
   simp only [Option.bind_some, thenC]
   cases (!((x.Kind == 1) == ((x.Refs.length : Int) == 0))) <;> rfl
  ·have : (chA (refStp x.Id) none x.Refs == 0) = false := by simpa using e1
   rw [e2, this]; rfl
 unfold alert_alertFault alF
 rw [isKey_eq _ (by omega), isKey_eq _ (by omega), hrf, outside_eq, isMoment_eq, w64_id (n := x.At + 1) (by omega), w64_id (n := x.At + 2592000000) (by omega), outside_eq, outside_eq, (plain_txt _ h.text).1, decide_eq_false (show ¬ (x.Areas.length : Int) > 20 by omega), decide_eq_false (show ¬ (x.Text.size : Int) > 500 by omega)]
 rw [chA_all (stp := areaStp) (body := fun k r s => alert_alertFault_L1 k r s) (by omega) (areaK_body x)]
 have ek : (bif !keyB x.Id then some true else some (!keyB x.Sender)) = some (!keyB x.Id || !keyB x.Sender) := by cases keyB x.Id <;> rfl
 have ea : ((some (momB x.At)).bind fun r_19 => bif (!r_19) then some true else (some (outB x.Until (x.At + 1) (x.At + 2592000000))).bind fun r_22 => bif r_22 then some true else (some (outB x.Weight 1 9)).bind fun r_25 => some r_25) = some (agV x) := by
  unfold agV
  cases momB x.At <;> cases outB x.Until (x.At + 1) (x.At + 2592000000) <;> rfl
 have et : ((some (plainV x.Text)).bind fun r_47 => bif (!r_47) then some true else bif (sEq x.Text (⟨#[]⟩ : ByteArray)) then some (!(x.Kind == 3)) else some false) = some (txV x) := by
  unfold txV
  cases plainV x.Text <;> cases sEq x.Text ⟨#[]⟩ <;> rfl
 have ec : (!((x.Kind == 3) == ((x.Areas.length : Int) == 0))) = cnV x := rfl
 rw [ea, et, ec]
 simp only [Option.bind_some]
 rw [ek]
 simp only [Option.bind_some]
 cases (!keyB x.Id || !keyB x.Sender) with
 | true => rfl
 | false =>
 cases outB x.Kind 1 3 with
 | true => rfl
 | false =>
 simp only [cond_false]
 cases hr : rfV x == 0 with
 | false =>
  have : (rfV x != 0) = true := by simp [bne, hr]
  simp only [cond_false, this, cond_true]
 | true =>
  simp only [cond_true]
  cases fmV x with
  | true => rfl
  | false =>
   cases agV x with
   | true => rfl
   | false =>
    simp only [cond_false, bne_self_eq_false]
    unfold arV
    rcases outC_cases (chA areaStp none x.Areas) with ⟨e1, e2⟩ | ⟨e1, e2⟩
    ·rw [e2, e1]
     simp only [thenC]
     cases cnV x with
     | true => rfl
     | false => cases txV x <;> rfl
    ·have : (chA areaStp none x.Areas == 0) = false := by simpa using e1
     rw [e2, this]; rfl
theorem alF_R {x : Alert} (h : GA x) : ref_alertFault x = some (alF x) := by
 have h1 := h.id
 have h2 := h.sender
 have h3 := h.at_
 have h4 := h.rlen
 have h5 := h.alen
 have h6 := txt_size _ h.text
 unfold ShA at h1 h2
 have hm : ref_Moment x.At = some (momB x.At) := by unfold ref_Moment momB; rw [in_eq]; rfl
 unfold ref_alertFault alF
 rw [refKey_eq _ (by omega), refKey_eq _ (by omega), hm, in_eq, w64_id (n := x.At + 1) (by omega), w64_id (n := x.At + 2592000000) (by omega), in_eq, in_eq, (plain_txt _ h.text).2, decide_eq_false (show ¬ (x.Refs.length : Int) > 20 by omega), decide_eq_false (show ¬ (x.Areas.length : Int) > 20 by omega), decide_eq_false (show ¬ (x.Text.size : Int) > 500 by omega)]
 rw [chA_all (stp := areaStp) (body := fun k r s => ref_alertFault_L2 k r s) (by omega) (areaR_body x), chA_all (stp := refStp x.Id) (body := fun k r s => ref_alertFault_L1 x k r s) (by omega) (refsR_body x h)]
 have ek : (bif !keyB x.Id then some true else some (!keyB x.Sender)) = some (!keyB x.Id || !keyB x.Sender) := by cases keyB x.Id <;> rfl
 have ea : ((some (momB x.At)).bind fun r_38 => bif (!r_38) then some true else (some (!outB x.Until (x.At + 1) (x.At + 2592000000))).bind fun r_41 => bif (!r_41) then some true else (some (!outB x.Weight 1 9)).bind fun r_44 => some (!r_44)) = some (agV x) := by
  unfold agV
  cases momB x.At <;> cases outB x.Until (x.At + 1) (x.At + 2592000000) <;> cases outB x.Weight 1 9 <;> rfl
 have et : ((some (plainV x.Text)).bind fun r_66 => bif (!r_66) then some true else bif (sEq x.Text (⟨#[]⟩ : ByteArray)) then some (x.Kind != 3) else some false) = some (txV x) := by
  unfold txV
  cases plainV x.Text <;> cases sEq x.Text ⟨#[]⟩ <;> rfl
 have ec : (!((x.Kind == 3) == ((x.Areas.length : Int) == 0))) = cnV x := rfl
 have ef : (!((x.Kind == 1) == ((x.Refs.length : Int) == 0))) = fmV x := rfl
 rw [ea, et, ec, ef]
 simp only [Option.bind_some]
 rw [ek]
 simp only [Option.bind_some]
 cases (!keyB x.Id || !keyB x.Sender) with
 | true => rfl
 | false =>
 cases outB x.Kind 1 3 with
 | true => rfl
 | false =>
 simp only [cond_false, Bool.not_false]
 unfold rfV arV
 rcases outC_cases (chA (refStp x.Id) none x.Refs) with ⟨e1, e2⟩ | ⟨e1, e2⟩
 ·rw [e2, e1]
  simp only [thenC]
  cases fmV x with
  | true => rfl
  | false =>
   cases agV x with
   | true => rfl
   | false =>
    simp only [cond_false]
    rcases outC_cases (chA areaStp none x.Areas) with ⟨k1, k2⟩ | ⟨k1, k2⟩
    ·rw [k2, k1]
     simp only [thenC]
     cases cnV x with
     | true => rfl
     | false => cases txV x <;> rfl
    ·have : (chA areaStp none x.Areas == 0) = false := by simpa using k1
     rw [k2, this]; rfl
 ·have : (chA (refStp x.Id) none x.Refs == 0) = false := by simpa using e1
  rw [e2, this]; rfl
end Go.Proofs.YtpojeclokolkaaaGreatDoor.Law

open Go Go.Eng
namespace Go.Proofs.YtpojeclokolkaaaGreatDoor.Law
set_option linter.unusedVariables false
set_option linter.unusedSimpArgs false
section
variable {K T : Type} {eq : K → K → Bool}
theorem mGet_nil (k : K) : mGet eq ([] : List (K × T)) k = none := rfl
theorem mGet_cons (e : K × T) (es : List (K × T)) (k : K) : mGet eq (e :: es) k = if eq k e.1 = true then some e.2 else mGet eq es k := by
 unfold mGet
 rw [mIdx]
 by_cases h : eq k e.1 = true
 ·rw [if_pos h, if_pos h]; rfl
 ·rw [if_neg h, if_neg h]
  cases mIdx eq k es with
  | none => rfl
  | some j => rfl
theorem mSet_nil (k : K) (v : T) : mSet eq ([] : List (K × T)) k v = [(k, v)] := rfl
theorem mSet_cons (e : K × T) (es : List (K × T)) (k : K) (v : T) : mSet eq (e :: es) k v = if eq k e.1 = true then (k, v) :: es else e :: mSet eq es k v := by
 unfold mSet
 rw [mIdx]
 by_cases h : eq k e.1 = true
 ·rw [if_pos h, if_pos h]; rfl
 ·rw [if_neg h, if_neg h]
  cases mIdx eq k es with
  | none => rfl
  | some j => rfl
theorem mGet_mSet (he : ∀ a b, eq a b = true ↔ a = b) (k k' : K) (v : T) : ∀ es : List (K × T), mGet eq (mSet eq es k v) k' = if eq k' k = true then some v else mGet eq es k'
 | [] => by rw [mSet_nil, mGet_cons]
 | e :: es => by
  rw [mSet_cons, mGet_cons]
  by_cases h : eq k e.1 = true
  ·rw [if_pos h, mGet_cons]
   have h1 := (he _ _).1 h
   rw [← h1]
   by_cases h2 : eq k' k = true
   ·rw [if_pos h2, if_pos h2]
   ·rw [if_neg h2, if_neg h2, if_neg h2]
  ·rw [if_neg h, mGet_cons, mGet_mSet he k k' v es]
   by_cases h2 : eq k' e.1 = true
   ·have h3 := (he _ _).1 h2
    have : ¬ eq k' k = true := fun q => h (by rw [← (he _ _).1 q]; exact h2)
    rw [if_pos h2, if_neg this, if_pos h2]
   ·rw [if_neg h2, if_neg h2]
theorem mSet_len (k : K) (v : T) : ∀ es : List (K × T), (mSet eq es k v).length = if (mGet eq es k).isSome = true then es.length else es.length + 1
 | [] => rfl
 | e :: es => by
  rw [mSet_cons, mGet_cons]
  by_cases h : eq k e.1 = true
  ·rw [if_pos h, if_pos h]; rfl
  ·rw [if_neg h, if_neg h, List.length_cons, mSet_len k v es, List.length_cons]
   split <;> rfl
end
theorem eqS_iff (a b : ByteArray) : eqS a b = true ↔ a = b := ⟨eqS_eq, fun h => by
 subst h
 obtain ⟨x⟩ := a
 show (x == x) = true
 exact beq_self_eq_true x⟩
def SeenM (s : List (ByteArray × Bool)) (sn : List ByteArray) : Prop := ∀ k, mGet eqS s k = if k ∈ sn then some true else none
theorem SeenM.nil : SeenM [] [] := fun k => by rw [mGet_nil, if_neg (by simp)]
theorem SeenM.set {s : List (ByteArray × Bool)} {sn : List ByteArray} (h : SeenM s sn) (id : ByteArray) : SeenM (mSet eqS s id true) (sn ++ [id]) := fun k => by
 rw [mGet_mSet eqS_iff, h k]
 by_cases h1 : eqS k id = true
 ·rw [if_pos h1, if_pos (by rw [(eqS_iff _ _).1 h1]; simp)]
 ·rw [if_neg h1]
  have : k ∈ sn ++ [id] ↔ k ∈ sn := by
   rw [List.mem_append, List.mem_singleton]
   exact ⟨fun q => q.resolve_right (fun e => h1 ((eqS_iff _ _).2 e)), .inl⟩
  by_cases h2 : k ∈ sn
  ·rw [if_pos h2, if_pos (this.2 h2)]
  ·rw [if_neg h2, if_neg (fun q => h2 (this.1 q))]
def dupB : List ByteArray → List ByteArray → Bool
 | _, [] => false
 | sn, x :: l => if x ∈ sn then true else dupB (sn ++ [x]) l
theorem dup_run : ∀ (xs : List Alert) (k : Nat) (s : List (ByteArray × Bool)) (sn : List ByteArray), SeenM s sn → (dupB sn (xs.map (·.Id)) = false ∧ ∃ s', forR (fun k x s => alert_CheckAlerts_L2 k x s) xs k s = some (.go s')) ∨ (dupB sn (xs.map (·.Id)) = true ∧ forR (fun k x s => alert_CheckAlerts_L2 k x s) xs k s = some (.ret 6))
 | [], k, s, sn, h => .inl ⟨rfl, s, rfl⟩
 | x :: xs, k, s, sn, h => by
  have hg := h x.Id
  rw [List.map_cons]
  by_cases hm : x.Id ∈ sn
  ·rw [if_pos hm] at hg
   have e : alert_CheckAlerts_L2 k x s = some (.ret 6) := by unfold alert_CheckAlerts_L2; rw [hg]; rfl
   exact .inr ⟨by rw [dupB, if_pos hm], by rw [forR, e]; rfl⟩
  ·rw [if_neg hm] at hg
   have e : alert_CheckAlerts_L2 k x s = some (.go (mSet eqS s x.Id true)) := by unfold alert_CheckAlerts_L2; rw [hg]; rfl
   rw [dupB, if_neg hm, forR, e, Option.bind_some]
   exact dup_run xs (k + 1) _ _ (h.set x.Id)
theorem len_run : ∀ (xs : List Alert) (k : Nat) (s : List (ByteArray × Bool)) (sn : List ByteArray), SeenM s sn → ∃ s', forR (fun k x s => ref_AlertsFault_L2 k x s) xs k s = some (.go s') ∧ (if dupB sn (xs.map (·.Id)) = true then s'.length < s.length + xs.length else s'.length = s.length + xs.length) ∧ s'.length ≤ s.length + xs.length
 | [], k, s, sn, h => ⟨s, rfl, by rw [if_neg (by simp [dupB])]; rfl, Nat.le_refl _⟩
 | x :: xs, k, s, sn, h => by
  have hg := h x.Id
  have e : ref_AlertsFault_L2 k x s = some (.go (mSet eqS s x.Id true)) := rfl
  obtain ⟨s', e1, e2, e3⟩ := len_run xs (k + 1) _ _ (h.set x.Id)
  refine ⟨s', by rw [forR, e, Option.bind_some]; exact e1, ?_, ?_⟩
  ·rw [List.map_cons, dupB]
   have hl := mSet_len (eq := eqS) x.Id true s
   by_cases hm : x.Id ∈ sn
   ·rw [if_pos hm] at hg
    rw [if_pos hm, if_pos rfl]
    rw [hg] at hl
    simp only [Option.isSome_some, if_true] at hl
    rw [List.length_cons]; omega
   ·rw [if_neg hm] at hg
    rw [hg] at hl
    rw [if_neg hm]
    have hl2 : (mSet eqS s x.Id true).length = s.length + 1 := by simpa using hl
    rw [hl2] at e2 e3
    rw [List.length_cons]
    by_cases hd : dupB (sn ++ [x.Id]) (xs.map (·.Id)) = true
    ·rw [if_pos hd] at e2; rw [if_pos hd]; omega
    ·rw [if_neg hd] at e2; rw [if_neg hd]; omega
  ·have hl := mSet_len (eq := eqS) x.Id true s
   have : (mSet eqS s x.Id true).length ≤ s.length + 1 := by rw [hl]; split <;> omega
   rw [List.length_cons]; omega
theorem dup_nodup : ∀ (l sn : List ByteArray), dupB sn l = false → l.Nodup ∧ ∀ x ∈ l, x ∉ sn
 | [], sn, _ => ⟨List.nodup_nil, fun x hx => by cases hx⟩
 | y :: l, sn, h => by
  rw [dupB] at h
  by_cases hm : y ∈ sn
  ·rw [if_pos hm] at h; cases h
  ·rw [if_neg hm] at h
   obtain ⟨h1, h2⟩ := dup_nodup l _ h
   refine ⟨List.nodup_cons.2 ⟨fun q => h2 y q (by simp), h1⟩, fun x hx => ?_⟩
   rcases List.mem_cons.1 hx with rfl | hx
   ·exact hm
   ·exact fun q => h2 x hx (List.mem_append_left _ q)
end Go.Proofs.YtpojeclokolkaaaGreatDoor.Law

open Go Go.Eng
namespace Go.Proofs.YtpojeclokolkaaaGreatDoor.Law
set_option linter.unusedVariables false
set_option linter.unusedSimpArgs false
theorem rank_perm (l : List Alert) (px py t : Int) : (rankS l px py t).Perm (rankL l px py t) := srtG_perm _ _
theorem rank_len (l : List Alert) (px py t : Int) : (rankS l px py t).length ≤ l.length := by
 rw [(rank_perm l px py t).length_eq]; exact List.length_filter_le _ _
def rankL' (l m : List Alert) (px py t : Int) : List Alert := m.filter fun z => onB l t z && hasB z.Areas px py
def cR (a b : Alert) : Int := or0 (cmpI b.Weight a.Weight) (or0 (cmpI b.At a.At) (cmpB a.Id b.Id))
theorem before_eq (a b : Alert) : alert_before a b = some (cR a b) := by
 simp only [alert_before, compare_eq, cmpInt_eq, or3_eq, Option.bind_some]; rfl
theorem cR_neg {a b : Alert} : cR a b < 0 ↔ befR a b = true := by
 unfold cR
 rw [or0_neg, or0_neg, cmpI_neg, cmpI_zero, cmpI_neg, cmpI_zero, cmpB_neg, befR_iff]
 constructor
 ·rintro (h | ⟨h, k | ⟨k, q⟩⟩)
  ·exact .inl h
  ·exact .inr ⟨h.symm, .inl k⟩
  ·exact .inr ⟨h.symm, .inr ⟨k.symm, q⟩⟩
 ·rintro (h | ⟨h, k | ⟨k, q⟩⟩)
  ·exact .inl h
  ·exact .inr ⟨h.symm, .inl k⟩
  ·exact .inr ⟨h.symm, .inr ⟨k.symm, q⟩⟩
theorem befR_ntr {a b c : Alert} (h : ¬ befR a b = true) (k : ¬ befR b c = true) : ¬ befR a c = true := by
 rw [befR_iff] at *
 simp only [not_or, not_and] at h k
 rintro (q | ⟨q, q2 | ⟨q2, q3⟩⟩)
 ·omega
 ·have h2 := h.2
  have k2 := k.2
  by_cases e : a.Weight = b.Weight
  ·have := (h2 e).1
   have := (k2 (by omega)).1
   omega
  ·omega
 ·have h2 := h.2
  have k2 := k.2
  by_cases e : a.Weight = b.Weight
  ·have a1 := h2 e
   have a2 := k2 (by omega)
   by_cases e2 : a.At = b.At
   ·exact lt_ntr (a1.2 e2) (a2.2 (by omega)) q3
   ·have := a1.1
    have := a2.1
    omega
  ·omega
theorem reaches_fine {x : Alert} (h : ∀ r ∈ x.Areas, Fine r) (hl : x.Areas.length ≤ 1000) (p : Post) : alert_reaches x p = some (hasB x.Areas p.X p.Y) := by
 unfold alert_reaches
 rw [any_eq (fun x0 => alert_reaches_1 x0 p) (has1 p.X p.Y) (fun r hr => by
  have hs := h r hr
  unfold Fine at hs
  unfold alert_reaches_1 has1
  rw [w64_id (n := r.X + r.W) (by omega), w64_id (n := r.Y + r.H) (by omega)]
  cases decide (r.X ≤ p.X) <;> cases decide (p.X < r.X + r.W) <;> cases decide (r.Y ≤ p.Y) <;> rfl) (by omega)]
 rfl
theorem idx_map {α β : Type} {l : List α} {f : α → β} {k : Nat} {x : α} (hx : l[k]? = some x) : idx (l.map f) (k : Int) = some (f x) := by
 rw [idx_nat, List.getElem?_map, hx]; rfl
theorem take_len {α : Type} (l : List α) (k : Nat) : (l.take k).length ≤ l.length := by rw [List.length_take]; exact Nat.min_le_right _ _
theorem ranked_eq {l : List Alert} (h : CA l) (p : Post) (t : Int) : alert_ranked l (l.map (endV l)) p t = some (rankS l p.X p.Y t) := by
 have hl := h.len
 unfold alert_ranked
 obtain ⟨u, u1, u2⟩ := forL_at (body := fun k x s => alert_ranked_L1 (l.map (endV l)) t p k x s) (fun k s => s = rankL' l (l.take k) p.X p.Y t) (xs := l) (s := ([] : List Alert)) (by omega) (fun k x s hx hs => by
  have et : l.take (k + 1) = l.take k ++ [x] := by rw [List.take_add_one, hx]; rfl
  have hm := List.mem_of_getElem? hx
  have hf : rankL' l (l.take (k + 1)) p.X p.Y t = rankL' l (l.take k) p.X p.Y t ++ (bif onB l t x && hasB x.Areas p.X p.Y then [x] else []) := by
   unfold rankL'
   rw [et, List.filter_append]
   congr 1
  have hsl : s.length ≤ 1000 := by
   rw [hs]
   refine Nat.le_trans (List.length_filter_le _ _) ?_
   have := take_len l k
   omega
  unfold alert_ranked_L1
  rw [idx_map hx, Option.bind_some, isOn_eq, Option.bind_some, reaches_fine (h.areas x hm) (h.alen x hm)]
  rw [hf, ← hs]
  cases onB l t x with
  | false => exact ⟨_, rfl, by simp⟩
  | true =>
   cases hasB x.Areas p.X p.Y with
   | false => exact ⟨_, rfl, by simp⟩
   | true =>
    simp only [Option.bind_some, cond_true, Bool.and_true]
    rw [appL_ok _ _ (by simp only [List.length_cons, List.length_nil]; omega)]
    exact ⟨_, rfl, rfl⟩) rfl
 rw [u1, u2, List.take_length]
 simp only [Option.bind_some, thenC]
 have e0 : rankL' l l p.X p.Y t = rankL l p.X p.Y t := rfl
 rw [e0]
 have hrl : (rankL l p.X p.Y t).length ≤ 12 := by
  have : (rankL l p.X p.Y t).length ≤ l.length := List.length_filter_le _ _
  omega
 obtain ⟨r, r1, r2, r3⟩ := sort12 (cmp := alert_before) (S := slices_SortFunc_api_Alert_api_Alert_v2) cR (fun _ => rfl) (xs := rankL l p.X p.Y t) hrl (fun a _ b _ => before_eq a b)
  (fun a b q1 q2 => by have := befR_trans _ _ _ (cR_neg.1 q1) (cR_neg.1 q2); rw [befR_irr] at this; cases this)
  (fun a b c q1 q2 q3 => befR_ntr (fun e => q1 (cR_neg.2 e)) (fun e => q2 (cR_neg.2 e)) (cR_neg.1 q3))
 have e2 : slices_SortFunc_api_Alert_api_Alert_v2 (rankL l p.X p.Y t) = some r := r1
 have e3 : sameL r (rankL l p.X p.Y t) = some () := by unfold sameL; rw [if_pos r2.length_eq]
 rw [e2, Option.bind_some, e3, Option.bind_some, rank_is h.ids p.X p.Y t r2 (r3.imp (fun {a b} q => by
  cases hb : befR b a with
  | false => rfl
  | true => exact absurd (cR_neg.2 hb) q))]
theorem momF_eq (t : Int) : alert_momentFault t = some (bif momB t then 0 else 1) := by
 unfold alert_momentFault
 rw [isMoment_eq]
 cases momB t <;> rfl
theorem Shown_eq {l : List Alert} (h : CA l) {p : Post} {t : Int} (hs : alert_spotFault l p t = some 0) : alert_Shown l p t = some (shownL l p.X p.Y t, !(rankS l p.X p.Y t).isEmpty, 0) := by
 unfold alert_Shown
 rw [hs, Option.bind_some, bne_self_eq_false, cond_false, ends_eq h, Option.bind_some, ranked_eq h, Option.bind_some]
 unfold shownL
 cases rankS l p.X p.Y t with
 | nil => rfl
 | cons z r =>
  have : (((z :: r).length : Int) == 0) = false := by rw [beq_eq_false_iff_ne]; simp only [List.length_cons]; omega
  rw [this, cond_false]; rfl
theorem Ranked_eq {l : List Alert} (h : CA l) {p : Post} {t : Int} (hs : alert_spotFault l p t = some 0) : alert_Ranked l p t = some ((rankS l p.X p.Y t).map (·.Id), 0) := by
 have hl := h.len
 have hr := rank_len l p.X p.Y t
 unfold alert_Ranked
 rw [hs, Option.bind_some, bne_self_eq_false, cond_false, ends_eq h, Option.bind_some, ranked_eq h, Option.bind_some]
 obtain ⟨u, u1, u2⟩ := forL_at (body := fun k x s => alert_Ranked_L1 k x s) (fun k s => s = ((rankS l p.X p.Y t).take k).map (·.Id)) (xs := rankS l p.X p.Y t) (s := ([] : List ByteArray)) (by omega) (fun k x s hx hs => by
  have et : (rankS l p.X p.Y t).take (k + 1) = (rankS l p.X p.Y t).take k ++ [x] := by rw [List.take_add_one, hx]; rfl
  have := take_len (rankS l p.X p.Y t) k
  unfold alert_Ranked_L1
  rw [hs, appL_ok _ _ (by simp only [List.length_map, List.length_cons, List.length_nil]; omega)]
  exact ⟨_, rfl, by rw [et, List.map_append]; rfl⟩) rfl
 rw [u1, u2, List.take_length]; rfl
end Go.Proofs.YtpojeclokolkaaaGreatDoor.Law

open Go Go.Eng
namespace Go.Proofs.YtpojeclokolkaaaGreatDoor.Law
set_option linter.unusedVariables false
set_option linter.unusedSimpArgs false
set_option maxRecDepth 100000
def alStp (p : Option Alert) (x : Alert) : Int := bif alF x == 0 then (bif prevF (fun y => !decide (befA y x)) p then 7 else 0) else alF x
def alV (l : List Alert) : Int := bif chA alStp none l == 0 then (bif dupB [] (l.map (·.Id)) then 6 else 0) else chA alStp none l
theorem orderR_eq {a b : Alert} (ha : GA a) (hb : GA b) : ∃ n, ref_alertOrder a b = some n ∧ (n < 0 ↔ befA a b) := by
 have h1 := ha.at_
 have h2 := hb.at_
 unfold ref_alertOrder befA
 by_cases h : a.At = b.At
 ·have : (a.At != b.At) = false := by simpa using h
  rw [this, cond_false, compare_eq]
  refine ⟨_, rfl, ?_⟩
  rw [cmpB_neg]
  exact ⟨fun q => .inr ⟨h, q⟩, fun q => by
   rcases q with q | q
   ·omega
   ·exact q.2⟩
 ·have : (a.At != b.At) = true := by simpa using h
  rw [this, cond_true, w64_id (n := a.At - b.At) (by omega)]
  unfold ref_sign
  by_cases hn : a.At - b.At < 0
  ·rw [decide_eq_true hn]
   exact ⟨-1, rfl, ⟨fun _ => .inl (by omega), fun _ => by decide⟩⟩
  ·rw [decide_eq_false hn, decide_eq_true (show a.At - b.At > 0 by omega)]
   exact ⟨1, rfl, ⟨fun q => absurd q (by decide), fun q => by
    rcases q with q | q
    ·omega
    ·exact absurd q.1 h⟩⟩
theorem ge_of {n : Int} {P : Prop} [Decidable P] (h : n < 0 ↔ P) : decide (n ≥ 0) = !decide P := by
 by_cases hp : P
 ·rw [decide_eq_true hp, decide_eq_false (by have := h.2 hp; omega)]; rfl
 ·rw [decide_eq_false hp, decide_eq_true (by
   rcases Int.lt_or_le n 0 with q | q
   ·exact absurd (h.1 q) hp
   ·exact q)]; rfl
theorem prev_condP {α : Type} {l : List α} {k : Nat} {x : α} (h : l[k]? = some x) (hl : l.length ≤ 1000000) (g : α → Option Bool) (f : α → Bool) (hg : ∀ y ∈ l, g y = some (f y)) : (bif (decide ((k : Int) > 0)) then (idx l (w64 ((k : Int) - 1))).bind g else some false) = some (prevF f (prevA l k)) := by
 rcases Nat.eq_zero_or_pos k with h0 | h0
 ·subst h0
  rw [decide_eq_false (by omega)]; rfl
 ·obtain ⟨y, q1, q2⟩ := idx_prev h h0 (by omega)
  rw [decide_eq_true (by omega), cond_true, q1, Option.bind_some, hg y (List.mem_of_getElem? q2)]
  unfold prevA
  rw [if_neg (by omega), q2]; rfl
theorem alK_body {l : List Alert} (h : GAs l) : ∀ k x, l[k]? = some x → alert_CheckAlerts_L1 l k x () = some (outC (alStp (prevA l k) x)) := fun k x hx => by
 have hl := h.2
 unfold alert_CheckAlerts_L1 alStp
 rw [alF_K (h.1 x (List.mem_of_getElem? hx)), prev_condP hx (by omega) (fun y_20 => (alert_compare y_20 x).bind fun r_22 => some (decide (r_22 ≥ 0))) (fun y => !decide (befA y x)) (fun y _ => by
  obtain ⟨n, n1, n2⟩ := compareA_eq y x
  rw [n1, Option.bind_some, ge_of n2])]
 simp only [Option.bind_some]
 by_cases h0 : alF x = 0
 ·rw [h0]
  cases prevF (fun y => !decide (befA y x)) (prevA l k) <;> rfl
 ·have e1 : (alF x == 0) = false := by simpa using h0
  have e2 : (alF x != 0) = true := by simp [bne, e1]
  rw [e1, e2]
  unfold outC
  rw [cond_false, e1]; rfl
theorem alR_body {l : List Alert} (h : GAs l) : ∀ k x, l[k]? = some x → ref_AlertsFault_L1 l k x () = some (outC (alStp (prevA l k) x)) := fun k x hx => by
 have hl := h.2
 have hgx := h.1 x (List.mem_of_getElem? hx)
 unfold ref_AlertsFault_L1 alStp
 rw [alF_R hgx, prev_condP hx (by omega) (fun y_20 => (ref_alertOrder y_20 x).bind fun r_22 => some (decide (r_22 ≥ 0))) (fun y => !decide (befA y x)) (fun y hy => by
  obtain ⟨n, n1, n2⟩ := orderR_eq (h.1 y hy) hgx
  rw [n1, Option.bind_some, ge_of n2])]
 simp only [Option.bind_some]
 by_cases h0 : alF x = 0
 ·rw [h0]
  cases prevF (fun y => !decide (befA y x)) (prevA l k) <;> rfl
 ·have e1 : (alF x == 0) = false := by simpa using h0
  have e2 : (alF x != 0) = true := by simp [bne, e1]
  rw [e1, e2]
  unfold outC
  rw [cond_false, e1]; rfl
theorem alV_K {l : List Alert} (h : GAs l) : alert_CheckAlerts l = some (alV l) := by
 have hl := h.2
 unfold alert_CheckAlerts alV
 rw [decide_eq_false (by omega), cond_false, chA_all (stp := alStp) (body := fun k x s => alert_CheckAlerts_L1 l k x s) (by omega) (alK_body h)]
 rcases outC_cases (chA alStp none l) with ⟨e1, e2⟩ | ⟨e1, e2⟩
 ·rw [e2, e1]
  simp only [Option.bind_some, thenC]
  rw [forL_eq (by omega)]
  rcases dup_run l 0 [] [] SeenM.nil with ⟨d, s', f⟩ | ⟨d, f⟩
  ·rw [f, d]; rfl
  ·rw [f, d]; rfl
 ·have : (chA alStp none l == 0) = false := by simpa using e1
  rw [e2, this]; rfl
theorem alV_R {l : List Alert} (h : GAs l) : ref_AlertsFault l = some (alV l) := by
 have hl := h.2
 unfold ref_AlertsFault alV
 rw [decide_eq_false (by omega), cond_false, chA_all (stp := alStp) (body := fun k x s => ref_AlertsFault_L1 l k x s) (by omega) (alR_body h)]
 rcases outC_cases (chA alStp none l) with ⟨e1, e2⟩ | ⟨e1, e2⟩
 ·rw [e2, e1]
  simp only [Option.bind_some, thenC]
  rw [forL_eq (by omega)]
  obtain ⟨s', f, g, _⟩ := len_run l 0 [] [] SeenM.nil
  rw [f]
  simp only [Option.bind_some, thenC]
  cases hd : dupB [] (l.map (·.Id)) with
  | true =>
   rw [hd, if_pos rfl] at g
   simp only [List.length_nil, Nat.zero_add] at g
   rw [decide_eq_true (by omega)]; rfl
  | false =>
   rw [hd, if_neg (by decide)] at g
   simp only [List.length_nil, Nat.zero_add] at g
   rw [decide_eq_false (by omega)]; rfl
 ·have : (chA alStp none l == 0) = false := by simpa using e1
  rw [e2, this]; rfl
theorem alF_0 {x : Alert} (h : GA x) (h0 : alF x = 0) : (0 ≤ x.At ∧ x.At ≤ 345686399999) ∧ (x.At + 1 ≤ x.Until ∧ x.Until ≤ x.At + 2592000000) ∧ ∀ r ∈ x.Areas, Fine r := by
 unfold alF at h0
 cases e1 : (!keyB x.Id || !keyB x.Sender) with
 | true => rw [e1] at h0; cases h0
 | false =>
 rw [e1, cond_false] at h0
 cases e2 : outB x.Kind 1 3 with
 | true => rw [e2] at h0; cases h0
 | false =>
 rw [e2, cond_false] at h0
 cases e3 : rfV x == 0 with
 | false => rw [e3, cond_false] at h0; rw [h0] at e3; exact absurd e3 (by decide)
 | true =>
 rw [e3, cond_true] at h0
 cases e4 : fmV x with
 | true => rw [e4] at h0; cases h0
 | false =>
 rw [e4, cond_false] at h0
 cases e5 : agV x with
 | true => rw [e5] at h0; cases h0
 | false =>
 rw [e5, cond_false] at h0
 cases e6 : arV x == 0 with
 | false => rw [e6, cond_false] at h0; rw [h0] at e6; exact absurd e6 (by decide)
 | true =>
 unfold agV at e5
 simp only [Bool.or_eq_false_iff] at e5
 obtain ⟨a1, a2, a3⟩ := e5
 have hm : momB x.At = true := by cases hq : momB x.At with | true => rfl | false => rw [hq] at a1; cases a1
 unfold momB at hm
 have hm2 : outB x.At 0 345686399999 = false := by cases hq : outB x.At 0 345686399999 with | false => rfl | true => rw [hq] at hm; cases hm
 have b1 := outB_f hm2
 have b2 := outB_f a2
 refine ⟨b1, b2, fun r hr => ?_⟩
 obtain ⟨i, hi⟩ := List.getElem?_of_mem hr
 obtain ⟨q, q1, _⟩ := chA_0 (eq_of_beq e6) i r hi
 unfold areaStp at q1
 refine badR_fine ?_
 cases hb : badR r with
 | false => rfl
 | true => rw [hb] at q1; cases q1
theorem alStp_0 {p : Option Alert} {x : Alert} (h : alStp p x = 0) : alF x = 0 := by
 unfold alStp at h
 cases e : alF x == 0 with
 | true => exact eq_of_beq e
 | false => rw [e, cond_false] at h; exact h
theorem alV_ca {l : List Alert} (h : GAs l) (h0 : alV l = 0) : CA l := by
 have hl := h.2
 unfold alV at h0
 cases e : chA alStp none l == 0 with
 | false => rw [e, cond_false] at h0; rw [h0] at e; exact absurd e (by decide)
 | true =>
 rw [e, cond_true] at h0
 have hd : dupB [] (l.map (·.Id)) = false := by
  cases hq : dupB [] (l.map (·.Id)) with
  | false => rfl
  | true => rw [hq] at h0; cases h0
 have one : ∀ x ∈ l, alF x = 0 := fun x hx => by
  obtain ⟨i, hi⟩ := List.getElem?_of_mem hx
  obtain ⟨q, q1, _⟩ := chA_0 (eq_of_beq e) i x hi
  exact alStp_0 q1
 refine ⟨(dup_nodup _ _ hd).1, by omega, fun x hx => ?_, fun x hx => ?_, fun x hx => (alF_0 (h.1 x hx) (one x hx)).2.2, fun x hx => ?_, fun x hx => ?_⟩
 ·have := (h.1 x hx).rlen; omega
 ·have := (h.1 x hx).alen; omega
 ·have := (alF_0 (h.1 x hx) (one x hx)).1; omega
 ·have := (alF_0 (h.1 x hx) (one x hx)).1
  have := (alF_0 (h.1 x hx) (one x hx)).2.1
  omega
def poStp (p : Option Post) (x : Post) : Int := bif !keyB x.Player then 5 else bif outB x.X (-100000) 100000 || outB x.Y (-100000) 100000 then 1 else bif prevF (fun y => sLe x.Player y.Player) p then 7 else 0
def poV (l : List Post) : Int := chA poStp none l
theorem poK_body {l : List Post} (h : GPs l) : ∀ k x, l[k]? = some x → alert_CheckPosts_L1 l k x () = some (outC (poStp (prevA l k) x)) := fun k x hx => by
 have hl := h.2
 have hs := (h.1 x (List.mem_of_getElem? hx)).player
 unfold ShA at hs
 unfold alert_CheckPosts_L1 poStp
 rw [isKey_eq _ (by omega), outside_eq, outside_eq, prev_condP hx (by omega) (fun y => some (sLe x.Player y.Player)) (fun y => sLe x.Player y.Player) (fun y _ => rfl)]
 simp only [Option.bind_some]
 cases keyB x.Player with
 | false => rfl
 | true =>
  cases outB x.X (-100000) 100000 <;> cases outB x.Y (-100000) 100000 <;> cases prevF (fun y => sLe x.Player y.Player) (prevA l k) <;> rfl
theorem poV_K {l : List Post} (h : GPs l) : alert_CheckPosts l = some (poV l) := by
 have hl := h.2
 unfold alert_CheckPosts poV
 rw [decide_eq_false (by omega), cond_false, chA_all (stp := poStp) (body := fun k x s => alert_CheckPosts_L1 l k x s) (by omega) (poK_body h), Option.bind_some]
 exact outC_then _
theorem poR_run : ∀ (xs : List Post) (k : Nat) (p : Option Post) (last : ByteArray), (∀ x ∈ xs, GP x) → (last = match p with | some y => y.Player | none => ⟨#[]⟩) → (chA poStp p xs = 0 ∧ ∃ s', forR (fun k x s => ref_PostsFault_L1 k x s) xs k last = some (.go s')) ∨ (chA poStp p xs ≠ 0 ∧ forR (fun k x s => ref_PostsFault_L1 k x s) xs k last = some (.ret (chA poStp p xs)))
 | [], k, p, last, _, _ => .inl ⟨rfl, last, rfl⟩
 | x :: xs, k, p, last, hg, hlast => by
  have hs := (hg x (by simp)).player
  unfold ShA at hs
  have e : ref_PostsFault_L1 k x last = some (bif poStp p x == 0 then .go x.Player else .ret (poStp p x)) := by
   unfold ref_PostsFault_L1 poStp
   rw [refKey_eq _ (by omega), in_eq, in_eq]
   simp only [Option.bind_some]
   cases hk : keyB x.Player with
   | false => rfl
   | true =>
    have hp : sLe x.Player last = prevF (fun y => sLe x.Player y.Player) p := by
     rw [hlast]
     cases p with
     | some y => rfl
     | none =>
      show sLe x.Player ⟨#[]⟩ = false
      rw [sLe_nil]
      exact decide_eq_false (keyB_ne hk)
    rw [hp]
    cases outB x.X (-100000) 100000 <;> cases outB x.Y (-100000) 100000 <;> cases prevF (fun y => sLe x.Player y.Player) p <;> rfl
  rw [forR, e, Option.bind_some, chA]
  cases h0 : poStp p x == 0 with
  | true =>
   rw [cond_true, cond_true]
   exact poR_run xs (k + 1) (some x) x.Player (fun y hy => hg y (by simp [hy])) rfl
  | false =>
   rw [cond_false, cond_false]
   exact .inr ⟨by simpa using h0, rfl⟩
theorem poV_R {l : List Post} (h : GPs l) : ref_PostsFault l = some (poV l) := by
 have hl := h.2
 unfold ref_PostsFault poV
 rw [decide_eq_false (by omega), cond_false, forL_eq (by omega)]
 rcases poR_run l 0 none ⟨#[]⟩ h.1 rfl with ⟨h1, s', h2⟩ | ⟨h1, h2⟩
 ·rw [h2, h1]; rfl
 ·rw [h2]; rfl
end Go.Proofs.YtpojeclokolkaaaGreatDoor.Law

open Go Go.Eng
namespace Go.Proofs.YtpojeclokolkaaaGreatDoor.Law
set_option linter.unusedVariables false
set_option linter.unusedSimpArgs false
set_option maxRecDepth 100000
theorem contS (l : List ByteArray) (v : ByteArray) (hl : l.length ≤ 1000000) : slices_Contains_string_string l v = some (decide (v ∈ l)) := by
 unfold slices_Contains_string_string slices_Index_string_string
 rw [forL_eq (by omega)]
 rcases first_at (f := fun x => some (sEq v x)) (p := fun x => sEq v x) (B := fun k x s => slices_Index_string_string_L1 v k x s) (fun k x => rfl) l 0 (fun x _ => rfl) with ⟨h1, h2⟩ | ⟨j, x, h1, h2, _, h4, _⟩
 ·rw [h2]
  have : v ∉ l := fun hm => by
   have : l.any (fun x => sEq v x) = true := List.any_eq_true.2 ⟨v, hm, (sEq_iff v v).2 rfl⟩
   rw [h1] at this; cases this
  rw [decide_eq_false this]; rfl
 ·rw [h4]
  have : v ∈ l := by rw [(sEq_iff _ _).1 h2]; exact List.mem_of_getElem? h1
  rw [decide_eq_true this]
  simp only [Option.bind_some, thenC]
  rw [decide_eq_true (by omega)]
theorem holds1_eq {a o : Alert} (ha : GA a) (ho : GA o) (r : ByteArray) : ref_holds_1 o r a = some (refB a o r) := by
 obtain ⟨n, n1, n2⟩ := orderR_eq ho ha
 unfold ref_holds_1 refB
 rw [sEq_dec, sEq_dec, n1]
 have : decide (n < 0) = decide (befA o a) := by rw [decide_eq_decide]; exact n2
 cases decide (o.Id = r) <;> cases decide (o.Sender = a.Sender) <;> simp [this]
theorem holds_eq {l : List Alert} (h : GAs l) {a : Alert} (ha : GA a) (r : ByteArray) : ref_holds l a r = some (l.any fun o => refB a o r) := by
 have hl := h.2
 unfold ref_holds slices_ContainsFunc_api_Alert_api_Alert slices_IndexFunc_api_Alert_api_Alert
 rw [forL_eq (by omega)]
 rcases first_at (f := fun x0 => ref_holds_1 x0 r a) (p := fun o => refB a o r) (B := fun k x s => slices_IndexFunc_api_Alert_api_Alert_L1 (fun x0 => ref_holds_1 x0 r a) k x s) (fun k x => rfl) l 0 (fun x hx => holds1_eq ha (h.1 x hx) r) with ⟨h1, h2⟩ | ⟨j, x, h1, h2, _, h4, h5⟩
 ·rw [h2, h1]; rfl
 ·rw [h4, h5]
  simp only [Option.bind_some, thenC]
  rw [decide_eq_true (by omega)]
theorem any_self {l : List Alert} (hid : (l.map (·.Id)).Nodup) {z : Alert} (hz : z ∈ l) (a : Alert) : (l.any fun o => refB a o z.Id) = refB a z z.Id := by
 rw [Bool.eq_iff_iff, List.any_eq_true]
 constructor
 ·rintro ⟨o, ho, h⟩
  obtain ⟨i, hi⟩ := List.getElem?_of_mem ho
  obtain ⟨j, hj⟩ := List.getElem?_of_mem hz
  have := nodup_id hid hi hj (refB_iff.1 h).1
  subst this
  rw [hi] at hj
  rw [← Option.some.inj hj]
  have e := Option.some.inj hj
  rw [← e] at h
  exact h
 ·exact fun h => ⟨z, hz, h⟩
theorem endOf_eq {l : List Alert} (h : GAs l) (hid : (l.map (·.Id)).Nodup) {z : Alert} (hz : z ∈ l) : ref_endOf l z = some (endV l z) := by
 have hl := h.2
 unfold ref_endOf
 obtain ⟨t, t1, t2⟩ := forL_at (body := fun k x s => ref_endOf_L1 z l k x s) (fun k s => s = endV (l.take k) z) (xs := l) (s := z.Until) (by omega) (fun k x s hx hs => by
  have et : l.take (k + 1) = l.take k ++ [x] := by rw [List.take_add_one, hx]; rfl
  have hgx := h.1 x (List.mem_of_getElem? hx)
  have hrl := hgx.rlen
  unfold ref_endOf_L1
  rw [contS _ _ (by omega), holds_eq h hgx, any_self hid hz, hs, et, endV_snoc]
  have ec : cutB x z = (decide (z.Id ∈ x.Refs) && refB x z z.Id) := by
   unfold cutB refB
   rw [decide_eq_true (rfl : z.Id = z.Id), Bool.true_and]
  rw [ec]
  simp only [Option.bind_some]
  cases decide (z.Id ∈ x.Refs) with
  | false => exact ⟨_, rfl, rfl⟩
  | true =>
   cases refB x z z.Id with
   | false => exact ⟨_, rfl, rfl⟩
   | true => exact ⟨_, rfl, by rw [← minI_m]; rfl⟩) rfl
 rw [t1, t2, List.take_length]; rfl
theorem forced_eq {l : List Alert} (h : GAs l) (hid : (l.map (·.Id)).Nodup) {z : Alert} (hz : z ∈ l) (t : Int) : ref_forced l z t = some (onB l t z) := by
 unfold ref_forced onB
 rw [endOf_eq h hid hz]
 have e : (z.Kind != 3) = decide (z.Kind ≠ 3) := by rw [Bool.eq_iff_iff]; simp
 rw [e]
 cases decide (z.Kind ≠ 3) <;> cases decide (z.At ≤ t) <;> rfl
theorem refHas {r : Rect} (h : Fine r) (x y : Int) : ref_has r x y = some (has1 x y r) := by
 unfold Fine at h
 unfold ref_has has1 ref_in
 rw [w64_id (n := r.X + r.W) (by omega), w64_id (n := r.Y + r.H) (by omega), w64_id (n := r.X + r.W - 1) (by omega), w64_id (n := r.Y + r.H - 1) (by omega)]
 have e1 : decide (x ≤ r.X + r.W - 1) = decide (x < r.X + r.W) := by rw [decide_eq_decide]; omega
 have e2 : decide (y ≤ r.Y + r.H - 1) = decide (y < r.Y + r.H) := by rw [decide_eq_decide]; omega
 rw [e1, e2]
 cases decide (r.X ≤ x) <;> cases decide (x < r.X + r.W) <;> cases decide (r.Y ≤ y) <;> rfl
theorem reachesOf_eq {x : Alert} (h : ∀ r ∈ x.Areas, Fine r) (hl : x.Areas.length ≤ 1000) (p : Post) : ref_ReachesOf x p = some (hasB x.Areas p.X p.Y) := by
 unfold ref_ReachesOf ref_some
 rw [any_eq (fun x0 => ref_some_1 x0 p.X p.Y) (has1 p.X p.Y) (fun r hr => by
  unfold ref_some_1
  rw [refHas (h r hr)]; rfl) (by omega)]
 rfl
def cD (a b : Alert) : Int := bif or0 (cmpI b.Weight a.Weight) (cmpI b.At a.At) != 0 then or0 (cmpI b.Weight a.Weight) (cmpI b.At a.At) else cmpB a.Id b.Id
theorem compare2 (a b c d : Int) : slices_Compare_int_int [a, b] [c, d] = some (or0 (cmpI a c) (cmpI b d)) := by
 unfold slices_Compare_int_int or0
 rw [forL_eq (by simp)]
 have f1 : slices_Compare_int_int_L1 [c, d] 0 a () = some (bif cmpI a c != 0 then .ret (cmpI a c) else .go ()) := by
  unfold slices_Compare_int_int_L1
  rw [decide_eq_false (by simp), cond_false]
  show ((some c).bind fun y_14 => _) = _
  rw [Option.bind_some, cmpInt_eq, Option.bind_some]
  cases cmpI a c != 0 <;> rfl
 have f2 : slices_Compare_int_int_L1 [c, d] (0 + 1) b () = some (bif cmpI b d != 0 then .ret (cmpI b d) else .go ()) := by
  unfold slices_Compare_int_int_L1
  rw [decide_eq_false (by simp), cond_false]
  show ((some d).bind fun y_14 => _) = _
  rw [Option.bind_some, cmpInt_eq, Option.bind_some]
  cases cmpI b d != 0 <;> rfl
 simp only [forR, f1, f2, Option.bind_some]
 cases ha : cmpI a c == 0 with
 | false =>
  have : (cmpI a c != 0) = true := by simp [bne, ha]
  rw [this]; rfl
 | true =>
  have : (cmpI a c != 0) = false := by simp [bne, ha]
  rw [this]
  simp only [cond_false, cond_true]
  cases hb : cmpI b d == 0 with
  | false =>
   have : (cmpI b d != 0) = true := by simp [bne, hb]
   rw [this]; rfl
  | true =>
   have : (cmpI b d != 0) = false := by simp [bne, hb]
   rw [this, eq_of_beq hb]; rfl
theorem rankedC_eq (a b : Alert) : ref_RankedOf_1 a b = some (cD a b) := by
 unfold ref_RankedOf_1 cD
 rw [compare2, Option.bind_some, compare_eq]
 cases or0 (cmpI b.Weight a.Weight) (cmpI b.At a.At) != 0 <;> rfl
theorem cD_neg {a b : Alert} : cD a b < 0 ↔ befR a b = true := by
 rw [← cR_neg]
 unfold cD cR
 by_cases h : or0 (cmpI b.Weight a.Weight) (cmpI b.At a.At) = 0
 ·obtain ⟨h1, h2⟩ := or0_zero.1 h
  rw [h, h1, h2]; exact Iff.rfl
 ·have : (or0 (cmpI b.Weight a.Weight) (cmpI b.At a.At) != 0) = true := by simpa using h
  rw [this, cond_true, or0_neg, or0_neg, or0_neg]
  constructor
  ·rintro (q | ⟨q, q2⟩)
   ·exact .inl q
   ·exact .inr ⟨q, .inl q2⟩
  ·rintro (q | ⟨q, q2 | ⟨q2, q3⟩⟩)
   ·exact .inl q
   ·exact .inr ⟨q, q2⟩
   ·exact absurd (or0_zero.2 ⟨q, q2⟩) h
theorem rankedOf_eq {l : List Alert} (h : GAs l) (hc : CA l) (p : Post) (t : Int) : ref_RankedOf l p t = some ((rankS l p.X p.Y t).map (·.Id)) := by
 have hl := hc.len
 unfold ref_RankedOf
 obtain ⟨u, u1, u2⟩ := forL_at (body := fun k x s => ref_RankedOf_L1 l t p k x s) (fun k s => s = rankL' l (l.take k) p.X p.Y t) (xs := l) (s := ([] : List Alert)) (by omega) (fun k x s hx hs => by
  have et : l.take (k + 1) = l.take k ++ [x] := by rw [List.take_add_one, hx]; rfl
  have hm := List.mem_of_getElem? hx
  have hf : rankL' l (l.take (k + 1)) p.X p.Y t = rankL' l (l.take k) p.X p.Y t ++ (bif onB l t x && hasB x.Areas p.X p.Y then [x] else []) := by
   unfold rankL'
   rw [et, List.filter_append]
   congr 1
  have hsl : s.length ≤ 1000 := by
   rw [hs]
   refine Nat.le_trans (List.length_filter_le _ _) ?_
   have := take_len l k
   omega
  unfold ref_RankedOf_L1
  rw [forced_eq h hc.ids hm, reachesOf_eq (hc.areas x hm) (hc.alen x hm)]
  rw [hf, ← hs]
  simp only [Option.bind_some]
  cases onB l t x with
  | false => exact ⟨_, rfl, by simp⟩
  | true =>
   cases hasB x.Areas p.X p.Y with
   | false => exact ⟨_, rfl, by simp⟩
   | true =>
    simp only [Option.bind_some, cond_true, Bool.and_true]
    rw [appL_ok _ _ (by simp only [List.length_cons, List.length_nil]; omega)]
    exact ⟨_, rfl, rfl⟩) rfl
 rw [u1, u2, List.take_length]
 simp only [Option.bind_some, thenC]
 have e0 : rankL' l l p.X p.Y t = rankL l p.X p.Y t := rfl
 rw [e0]
 have hrl : (rankL l p.X p.Y t).length ≤ 12 := by
  have : (rankL l p.X p.Y t).length ≤ l.length := List.length_filter_le _ _
  omega
 obtain ⟨r, r1, r2, r3⟩ := sort12 (cmp := ref_RankedOf_1) (S := slices_SortFunc_api_Alert_api_Alert_v3) cD (fun _ => rfl) (xs := rankL l p.X p.Y t) hrl (fun a _ b _ => rankedC_eq a b)
  (fun a b q1 q2 => by have := befR_trans _ _ _ (cD_neg.1 q1) (cD_neg.1 q2); rw [befR_irr] at this; cases this)
  (fun a b c q1 q2 q3 => befR_ntr (fun e => q1 (cD_neg.2 e)) (fun e => q2 (cD_neg.2 e)) (cD_neg.1 q3))
 have hrr := rank_is hc.ids p.X p.Y t r2 (r3.imp (fun {a b} q => by
  cases hb : befR b a with
  | false => rfl
  | true => exact absurd (cD_neg.2 hb) q))
 have e3 : sameL r (rankL l p.X p.Y t) = some () := by unfold sameL; rw [if_pos r2.length_eq]
 rw [r1, Option.bind_some, e3, Option.bind_some, hrr]
 have hr := rank_len l p.X p.Y t
 obtain ⟨v, v1, v2⟩ := forL_at (body := fun k x s => ref_RankedOf_L2 k x s) (fun k s => s = ((rankS l p.X p.Y t).take k).map (·.Id)) (xs := rankS l p.X p.Y t) (s := ([] : List ByteArray)) (by omega) (fun k x s hx hs => by
  have et : (rankS l p.X p.Y t).take (k + 1) = (rankS l p.X p.Y t).take k ++ [x] := by rw [List.take_add_one, hx]; rfl
  have := take_len (rankS l p.X p.Y t) k
  unfold ref_RankedOf_L2
  rw [hs, appL_ok _ _ (by simp only [List.length_map, List.length_cons, List.length_nil]; omega)]
  exact ⟨_, rfl, by rw [et, List.map_append]; rfl⟩) rfl
 rw [v1, v2, List.take_length]; rfl
theorem shownAlert_eq {l : List Alert} (h : GAs l) (hc : CA l) (p : Post) (t : Int) : ref_ShownAlert l p t = some (shownL l p.X p.Y t, !(rankS l p.X p.Y t).isEmpty) := by
 unfold ref_ShownAlert
 rw [rankedOf_eq h hc, Option.bind_some]
 unfold shownL
 cases rankS l p.X p.Y t with
 | nil => rfl
 | cons z r =>
  have : ((((z :: r).map (·.Id)).length : Int) == 0) = false := by rw [beq_eq_false_iff_ne]; simp only [List.map_cons, List.length_cons]; omega
  rw [this, cond_false]; rfl
def covL (l : List Alert) (t : Int) (ps : List Post) : List Pair := ps.filterMap fun p => bif (rankS l p.X p.Y t).isEmpty then none else some ⟨p.Player, shownL l p.X p.Y t⟩
theorem covL_snoc (l : List Alert) (t : Int) (ps : List Post) (p : Post) : covL l t (ps ++ [p]) = covL l t ps ++ (bif (rankS l p.X p.Y t).isEmpty then [] else [⟨p.Player, shownL l p.X p.Y t⟩]) := by
 unfold covL
 rw [List.filterMap_append]
 congr 1
 rw [List.filterMap_cons]
 cases (rankS l p.X p.Y t).isEmpty <;> rfl
theorem covL_len (l : List Alert) (t : Int) (ps : List Post) : (covL l t ps).length ≤ ps.length := List.length_filterMap_le _ _
theorem coveredPosts_eq {l : List Alert} (h : GAs l) (hc : CA l) {ps : List Post} (hp : ps.length ≤ 1000) (t : Int) : ref_CoveredPosts l ps t = some (covL l t ps) := by
 unfold ref_CoveredPosts
 obtain ⟨u, u1, u2⟩ := forL_at (body := fun k x s => ref_CoveredPosts_L1 l t k x s) (fun k s => s = covL l t (ps.take k)) (xs := ps) (s := ([] : List Pair)) (by omega) (fun k x s hx hs => by
  have et : ps.take (k + 1) = ps.take k ++ [x] := by rw [List.take_add_one, hx]; rfl
  have h1 := covL_len l t (ps.take k)
  have h2 := take_len ps k
  unfold ref_CoveredPosts_L1
  rw [shownAlert_eq h hc, et, covL_snoc, ← hs]
  simp only [Option.bind_some]
  cases (rankS l x.X x.Y t).isEmpty with
  | true => exact ⟨_, rfl, by simp⟩
  | false =>
   simp only [Bool.not_false, cond_true]
   rw [appL_ok _ _ (by rw [hs]; simp only [List.length_cons, List.length_nil]; omega)]
   exact ⟨_, rfl, rfl⟩) rfl
 rw [u1, u2, List.take_length]; rfl
theorem covered_eq {l : List Alert} (hc : CA l) {ps : List Post} (hp : ps.length ≤ 1000) (t : Int) (hb : alert_checkBoth l ps = some 0) (hm : momB t = true) : alert_Covered l ps t = some (covL l t ps, 0) := by
 unfold alert_Covered
 rw [hb, Option.bind_some, bne_self_eq_false, cond_false, momF_eq, hm]
 simp only [cond_true, Option.bind_some, bne_self_eq_false, cond_false]
 rw [ends_eq hc, Option.bind_some]
 obtain ⟨u, u1, u2⟩ := forL_at (body := fun k x s => alert_Covered_L1 l (l.map (endV l)) t k x s) (fun k s => s = covL l t (ps.take k)) (xs := ps) (s := ([] : List Pair)) (by omega) (fun k x s hx hs => by
  have et : ps.take (k + 1) = ps.take k ++ [x] := by rw [List.take_add_one, hx]; rfl
  have h1 := covL_len l t (ps.take k)
  have h2 := take_len ps k
  unfold alert_Covered_L1
  rw [ranked_eq hc, et, covL_snoc, ← hs, Option.bind_some]
  unfold shownL
  cases rankS l x.X x.Y t with
  | nil => exact ⟨_, rfl, by simp⟩
  | cons z r =>
   rw [decide_eq_true (by simp only [List.length_cons]; omega), cond_true]
   show ∃ s', ((some z).bind fun y_32 => _).bind _ = _ ∧ _
   rw [Option.bind_some, appL_ok _ _ (by rw [hs]; simp only [List.length_cons, List.length_nil]; omega)]
   exact ⟨_, rfl, rfl⟩) rfl
 rw [u1, u2, List.take_length]; rfl
end Go.Proofs.YtpojeclokolkaaaGreatDoor.Law

open Go Go.Eng
namespace Go.Proofs.YtpojeclokolkaaaGreatDoor.Law
set_option linter.unusedVariables false
set_option linter.unusedSimpArgs false
set_option maxRecDepth 100000
def kit_IsKeyF (s_1 : ByteArray) : Option (Bool) :=
 (loopF 0 (fun s => kit_IsKey_L1 s_1 s)).bind fun o_10 => thenC o_10 (fun s_7 => (bif (sNe s_1 (⟨#[]⟩ : ByteArray)) then some (decide ((s_1.size : Int) ≤ 40)) else some false).bind fun v_30 => some v_30) (fun r => some r)
theorem kit_IsKey_le (s_1 : ByteArray) : Le (kit_IsKeyF s_1) (kit_IsKey s_1) := by
 unfold kit_IsKeyF kit_IsKey
 repeat' (with_reducible first | exact Le.refl _ | refine Le.loop (fun _ => ?_) | refine Le.forL (fun _ _ _ => ?_) | refine Le.thenC (fun _ => ?_) (fun _ => ?_) | refine Le.cond ?_ ?_ | refine Le.bind ?_ (fun _ => ?_))
def alert_refsFault_L1F (a_1 : Alert) (k_4 : Nat) (x_6 : ByteArray) (s_9 : Unit) : Option (Ctl (Unit) (Int)) :=
 (kit_IsKeyF x_6).bind fun r_14 => bif (!r_14) then some (.ret 5) else (bif (decide ((k_4 : Int) > 0)) then (idx a_1.Refs (w64 ((k_4 : Int) - 1))).bind fun y_20 => some (sLe x_6 y_20) else some false).bind fun v_17 => bif v_17 then some (.ret 7) else bif (sEq x_6 a_1.Id) then some (.ret 14) else some (.go ())
theorem alert_refsFault_L1_le (a_1 : Alert) (k_4 : Nat) (x_6 : ByteArray) (s_9 : Unit) : Le (alert_refsFault_L1F a_1 k_4 x_6 s_9) (alert_refsFault_L1 a_1 k_4 x_6 s_9) := by
 unfold alert_refsFault_L1F alert_refsFault_L1
 repeat' (with_reducible first | exact Le.refl _ | exact kit_IsKey_le _ | refine Le.loop (fun _ => ?_) | refine Le.forL (fun _ _ _ => ?_) | refine Le.thenC (fun _ => ?_) (fun _ => ?_) | refine Le.cond ?_ ?_ | refine Le.bind ?_ (fun _ => ?_))
def alert_refsFaultF (a_1 : Alert) : Option (Int) :=
 bif (decide ((a_1.Refs.length : Int) > 20)) then some 2 else (forL a_1.Refs () (fun k x s => alert_refsFault_L1F a_1 k x s)).bind fun o_12 => thenC o_12 (fun s_9 => bif (!((a_1.Kind == 1) == ((a_1.Refs.length : Int) == 0))) then some 3 else some 0) (fun r => some r)
theorem alert_refsFault_le (a_1 : Alert) : Le (alert_refsFaultF a_1) (alert_refsFault a_1) := by
 unfold alert_refsFaultF alert_refsFault
 repeat' (with_reducible first | exact Le.refl _ | exact alert_refsFault_L1_le _ _ _ _ | refine Le.loop (fun _ => ?_) | refine Le.forL (fun _ _ _ => ?_) | refine Le.thenC (fun _ => ?_) (fun _ => ?_) | refine Le.cond ?_ ?_ | refine Le.bind ?_ (fun _ => ?_))
def alert_alertFaultF (a_1 : Alert) : Option (Int) :=
 ((kit_IsKeyF a_1.Id).bind fun r_5 => bif (!r_5) then some true else (kit_IsKeyF a_1.Sender).bind fun r_8 => some (!r_8)).bind fun v_3 => bif v_3 then some 5 else (kit_Outside a_1.Kind 1 3).bind fun r_11 => bif r_11 then some 4 else (alert_refsFaultF a_1).bind fun r_14 => bif (r_14 != 0) then some r_14 else ((kit_IsMoment a_1.At).bind fun r_19 => bif (!r_19) then some true else (kit_Outside a_1.Until (w64 (a_1.At + 1)) (w64 (a_1.At + 2592000000))).bind fun r_22 => bif r_22 then some true else (kit_Outside a_1.Weight 1 9).bind fun r_25 => some r_25).bind fun v_17 => bif v_17 then some 1 else bif (decide ((a_1.Areas.length : Int) > 20)) then some 2 else (forL a_1.Areas () (fun k x s => alert_alertFault_L1 k x s)).bind fun o_37 => thenC o_37 (fun s_34 => bif (!((a_1.Kind == 3) == ((a_1.Areas.length : Int) == 0))) then some 3 else bif (decide ((a_1.Text.size : Int) > 500)) then some 2 else ((kit_IsPlainF a_1.Text).bind fun r_47 => bif (!r_47) then some true else bif (sEq a_1.Text (⟨#[]⟩ : ByteArray)) then some (!(a_1.Kind == 3)) else some false).bind fun v_45 => bif v_45 then some 3 else some 0) (fun r => some r)
theorem alert_alertFault_le (a_1 : Alert) : Le (alert_alertFaultF a_1) (alert_alertFault a_1) := by
 unfold alert_alertFaultF alert_alertFault
 repeat' (with_reducible first | exact Le.refl _ | exact kit_IsKey_le _ | exact alert_refsFault_le _ | exact kit_IsPlain_le _ | exact kit_IsPlainF_le _ | refine Le.loop (fun _ => ?_) | refine Le.forL (fun _ _ _ => ?_) | refine Le.thenC (fun _ => ?_) (fun _ => ?_) | refine Le.cond ?_ ?_ | refine Le.bind ?_ (fun _ => ?_))
def alert_CheckAlerts_L1F (l_1 : (List Alert)) (k_3 : Nat) (x_5 : Alert) (s_8 : Unit) : Option (Ctl (Unit) (Int)) :=
 (alert_alertFaultF x_5).bind fun r_14 => bif (r_14 != 0) then some (.ret r_14) else (bif (decide ((k_3 : Int) > 0)) then (idx l_1 (w64 ((k_3 : Int) - 1))).bind fun y_20 => (alert_compare y_20 x_5).bind fun r_22 => some (decide (r_22 ≥ 0)) else some false).bind fun v_17 => bif v_17 then some (.ret 7) else some (.go ())
theorem alert_CheckAlerts_L1_le (l_1 : (List Alert)) (k_3 : Nat) (x_5 : Alert) (s_8 : Unit) : Le (alert_CheckAlerts_L1F l_1 k_3 x_5 s_8) (alert_CheckAlerts_L1 l_1 k_3 x_5 s_8) := by
 unfold alert_CheckAlerts_L1F alert_CheckAlerts_L1
 repeat' (with_reducible first | exact Le.refl _ | exact alert_alertFault_le _ | refine Le.loop (fun _ => ?_) | refine Le.forL (fun _ _ _ => ?_) | refine Le.thenC (fun _ => ?_) (fun _ => ?_) | refine Le.cond ?_ ?_ | refine Le.bind ?_ (fun _ => ?_))
def alert_CheckAlertsF (l_1 : (List Alert)) : Option (Int) :=
 bif (decide ((l_1.length : Int) > 300)) then some 2 else (forL l_1 () (fun k x s => alert_CheckAlerts_L1F l_1 k x s)).bind fun o_11 => thenC o_11 (fun s_8 => (forL l_1 ([] : List (ByteArray × Bool)) (fun k x s => alert_CheckAlerts_L2 k x s)).bind fun o_34 => thenC o_34 (fun s_31 => some 0) (fun r => some r)) (fun r => some r)
theorem alert_CheckAlerts_le (l_1 : (List Alert)) : Le (alert_CheckAlertsF l_1) (alert_CheckAlerts l_1) := by
 unfold alert_CheckAlertsF alert_CheckAlerts
 repeat' (with_reducible first | exact Le.refl _ | exact alert_CheckAlerts_L1_le _ _ _ _ | refine Le.loop (fun _ => ?_) | refine Le.forL (fun _ _ _ => ?_) | refine Le.thenC (fun _ => ?_) (fun _ => ?_) | refine Le.cond ?_ ?_ | refine Le.bind ?_ (fun _ => ?_))
def alert_CheckPosts_L1F (l_1 : (List Post)) (k_3 : Nat) (x_5 : Post) (s_8 : Unit) : Option (Ctl (Unit) (Int)) :=
 (kit_IsKeyF x_5.Player).bind fun r_14 => bif (!r_14) then some (.ret 5) else ((kit_Outside x_5.X (-100000) 100000).bind fun r_19 => bif r_19 then some true else (kit_Outside x_5.Y (-100000) 100000).bind fun r_22 => some r_22).bind fun v_17 => bif v_17 then some (.ret 1) else (bif (decide ((k_3 : Int) > 0)) then (idx l_1 (w64 ((k_3 : Int) - 1))).bind fun y_28 => some (sLe x_5.Player y_28.Player) else some false).bind fun v_25 => bif v_25 then some (.ret 7) else some (.go ())
theorem alert_CheckPosts_L1_le (l_1 : (List Post)) (k_3 : Nat) (x_5 : Post) (s_8 : Unit) : Le (alert_CheckPosts_L1F l_1 k_3 x_5 s_8) (alert_CheckPosts_L1 l_1 k_3 x_5 s_8) := by
 unfold alert_CheckPosts_L1F alert_CheckPosts_L1
 repeat' (with_reducible first | exact Le.refl _ | exact kit_IsKey_le _ | refine Le.loop (fun _ => ?_) | refine Le.forL (fun _ _ _ => ?_) | refine Le.thenC (fun _ => ?_) (fun _ => ?_) | refine Le.cond ?_ ?_ | refine Le.bind ?_ (fun _ => ?_))
def alert_CheckPostsF (l_1 : (List Post)) : Option (Int) :=
 bif (decide ((l_1.length : Int) > 500)) then some 2 else (forL l_1 () (fun k x s => alert_CheckPosts_L1F l_1 k x s)).bind fun o_11 => thenC o_11 (fun s_8 => some 0) (fun r => some r)
theorem alert_CheckPosts_le (l_1 : (List Post)) : Le (alert_CheckPostsF l_1) (alert_CheckPosts l_1) := by
 unfold alert_CheckPostsF alert_CheckPosts
 repeat' (with_reducible first | exact Le.refl _ | exact alert_CheckPosts_L1_le _ _ _ _ | refine Le.loop (fun _ => ?_) | refine Le.forL (fun _ _ _ => ?_) | refine Le.thenC (fun _ => ?_) (fun _ => ?_) | refine Le.cond ?_ ?_ | refine Le.bind ?_ (fun _ => ?_))
def alert_checkBothF (l_1 : (List Alert)) (posts_2 : (List Post)) : Option (Int) :=
 (alert_CheckAlertsF l_1).bind fun r_3 => bif (r_3 != 0) then some r_3 else (alert_CheckPostsF posts_2).bind fun r_6 => some r_6
theorem alert_checkBoth_le (l_1 : (List Alert)) (posts_2 : (List Post)) : Le (alert_checkBothF l_1 posts_2) (alert_checkBoth l_1 posts_2) := by
 unfold alert_checkBothF alert_checkBoth
 repeat' (with_reducible first | exact Le.refl _ | exact alert_CheckAlerts_le _ | exact alert_CheckPosts_le _ | refine Le.loop (fun _ => ?_) | refine Le.forL (fun _ _ _ => ?_) | refine Le.thenC (fun _ => ?_) (fun _ => ?_) | refine Le.cond ?_ ?_ | refine Le.bind ?_ (fun _ => ?_))
def alert_ReachesF (a_1 : Alert) (p_2 : Post) : Option (Bool × Int) :=
 (alert_checkBothF ([a_1] : List Alert) ([p_2] : List Post)).bind fun r_5 => bif (r_5 != 0) then some (false, r_5) else (alert_reaches a_1 p_2).bind fun r_8 => some (r_8, 0)
theorem alert_Reaches_le (a_1 : Alert) (p_2 : Post) : Le (alert_ReachesF a_1 p_2) (alert_Reaches a_1 p_2) := by
 unfold alert_ReachesF alert_Reaches
 repeat' (with_reducible first | exact Le.refl _ | exact alert_checkBoth_le _ _ | refine Le.loop (fun _ => ?_) | refine Le.forL (fun _ _ _ => ?_) | refine Le.thenC (fun _ => ?_) (fun _ => ?_) | refine Le.cond ?_ ?_ | refine Le.bind ?_ (fun _ => ?_))
def law_warnedF  : Option (Bool) :=
 (alert_ReachesF (⟨(⟨#[97]⟩ : ByteArray), (⟨#[115]⟩ : ByteArray), 1, ([] : List ByteArray), 0, 5, 1, ([(⟨0, 0, 2, 2⟩ : Rect)] : List Rect), (⟨#[120]⟩ : ByteArray)⟩ : Alert) (⟨(⟨#[112]⟩ : ByteArray), 1, 1⟩ : Post)).bind fun r_2 => (bif (r_2.2 == 0) then some r_2.1 else some false).bind fun v_4 => some v_4
theorem law_warned_le  : Le (law_warnedF) (law_warned) := by
 unfold law_warnedF law_warned
 repeat' (with_reducible first | exact Le.refl _ | exact alert_Reaches_le _ _ | refine Le.loop (fun _ => ?_) | refine Le.forL (fun _ _ _ => ?_) | refine Le.thenC (fun _ => ?_) (fun _ => ?_) | refine Le.cond ?_ ?_ | refine Le.bind ?_ (fun _ => ?_))
end Go.Proofs.YtpojeclokolkaaaGreatDoor.Law

open Go Go.Eng
namespace Go.Proofs.YtpojeclokolkaaaGreatDoor.Law
set_option linter.unusedVariables false
set_option maxRecDepth 100000
theorem warned_F : law_warnedF = some true := by kernel_rfl
theorem warned_ok : law_warned = some true := law_warned_le _ warned_F
end Go.Proofs.YtpojeclokolkaaaGreatDoor.Law

open Go Go.Eng
namespace Go.Proofs.YtpojeclokolkaaaGreatDoor.Law
set_option linter.unusedVariables false
set_option linter.unusedSimpArgs false
set_option maxRecDepth 100000
theorem lerrs2 (a b : Int) : law_errs [a, b] = some (or0 a b) := by
 unfold law_errs or0
 rw [forL_eq (by simp)]
 simp only [forR, law_errs_L1]
 cases ha : a == 0 with
 | false =>
  have : (a != 0) = true := by simp [bne, ha]
  simp only [this, cond_true, cond_false, Option.bind_some, thenC]
 | true =>
  have : (a != 0) = false := by simp [bne, ha]
  simp only [this, cond_true, cond_false, Option.bind_some]
  cases hb : b == 0 with
  | false =>
   have : (b != 0) = true := by simp [bne, hb]
   simp only [this, cond_true, Option.bind_some, thenC]
  | true =>
   have : (b != 0) = false := by simp [bne, hb]
   simp only [this, cond_false, Option.bind_some, thenC]
   rw [eq_of_beq hb]
theorem lerrs3 (a b c : Int) : law_errs [a, b, c] = some (or0 a (or0 b c)) := by
 unfold law_errs or0
 rw [forL_eq (by simp)]
 simp only [forR, law_errs_L1]
 cases ha : a == 0 with
 | false =>
  have : (a != 0) = true := by simp [bne, ha]
  simp only [this, cond_true, cond_false, Option.bind_some, thenC]
 | true =>
  have : (a != 0) = false := by simp [bne, ha]
  simp only [this, cond_true, cond_false, Option.bind_some]
  cases hb : b == 0 with
  | false =>
   have : (b != 0) = true := by simp [bne, hb]
   simp only [this, cond_true, cond_false, Option.bind_some, thenC]
  | true =>
   have : (b != 0) = false := by simp [bne, hb]
   simp only [this, cond_true, cond_false, Option.bind_some]
   cases hc : c == 0 with
   | false =>
    have : (c != 0) = true := by simp [bne, hc]
    simp only [this, cond_true, cond_false, Option.bind_some, thenC]
   | true =>
    have : (c != 0) = false := by simp [bne, hc]
    simp only [this, cond_true, cond_false, Option.bind_some, thenC]
    rw [eq_of_beq hc]
def moV (t : Int) : Int := bif momB t then 0 else 1
theorem lmom (t : Int) : law_momentFault t = some (moV t) := by
 have hm : ref_Moment t = some (momB t) := by unfold ref_Moment momB; rw [in_eq]; rfl
 unfold law_momentFault moV law_when
 rw [hm]
 cases momB t <;> rfl
theorem kmom (t : Int) : alert_momentFault t = some (moV t) := momF_eq t
theorem moV_0 {t : Int} (h : moV t = 0) : momB t = true := by
 unfold moV at h
 cases hm : momB t with
 | true => rfl
 | false => rw [hm] at h; cases h
theorem both_eq {l : List Alert} (h : GAs l) {ps : List Post} (hp : GPs ps) : alert_checkBoth l ps = some (or0 (alV l) (poV ps)) := by
 unfold alert_checkBoth or0
 rw [alV_K h, poV_K hp, Option.bind_some, Option.bind_some]
 by_cases h0 : alV l = 0
 ·rw [h0]; rfl
 ·have e1 : (alV l == 0) = false := by simpa using h0
  have e2 : (alV l != 0) = true := by simp [bne, e1]
  rw [e1, e2]; rfl
theorem spot_eq {l : List Alert} (h : GAs l) {p : Post} (hp : GP p) (t : Int) : alert_spotFault l p t = some (or0 (or0 (alV l) (poV [p])) (moV t)) := by
 unfold alert_spotFault
 rw [both_eq h ⟨fun x hx => by rw [List.mem_singleton.1 hx]; exact hp, by simp⟩, Option.bind_some, kmom]
 by_cases h0 : or0 (alV l) (poV [p]) = 0
 ·rw [h0]; rfl
 ·have e1 : (or0 (alV l) (poV [p]) == 0) = false := by simpa using h0
  have e2 : (or0 (alV l) (poV [p]) != 0) = true := by simp [bne, e1]
  rw [e2, cond_true]
  unfold or0 at *
  rw [e1]; rfl
theorem or0_assoc (a b c : Int) : or0 (or0 a b) c = or0 a (or0 b c) := by
 unfold or0
 by_cases h : a = 0
 ·rw [h]; rfl
 ·have e1 : (a == 0) = false := by simpa using h
  simp only [e1, cond_false]
theorem eqStr (l : List ByteArray) (hl : l.length ≤ 1000000) : slices_Equal_string_string l l = some true := by
 have key : ∀ (xs : List ByteArray) (k : Nat), l.drop k = xs → forR (fun k x s => slices_Equal_string_string_L1 l k x s) xs k () = some (.go ()) := by
  intro xs
  induction xs with
  | nil => exact fun _ _ => rfl
  | cons x xs ih =>
   intro k h
   have hg : idx l (k : Int) = some x := by rw [idx_nat]; exact drop_get h
   rw [forR]
   have : slices_Equal_string_string_L1 l k x () = some (.go ()) := by
    unfold slices_Equal_string_string_L1
    rw [hg]; simp [sNe, sEq]
   rw [this, Option.bind_some]
   exact ih (k + 1) (drop_next h)
 unfold slices_Equal_string_string
 have : ((l.length : Int) != (l.length : Int)) = false := by simp
 rw [this, cond_false, forL_eq (by omega), key l 0 rfl]; rfl
theorem eqPai (l : List Pair) (hl : l.length ≤ 1000000) : slices_Equal_api_Pair_api_Pair l l = some true := by
 have key : ∀ (xs : List Pair) (k : Nat), l.drop k = xs → forR (fun k x s => slices_Equal_api_Pair_api_Pair_L1 l k x s) xs k () = some (.go ()) := by
  intro xs
  induction xs with
  | nil => exact fun _ _ => rfl
  | cons x xs ih =>
   intro k h
   have hg : idx l (k : Int) = some x := by rw [idx_nat]; exact drop_get h
   rw [forR]
   have : slices_Equal_api_Pair_api_Pair_L1 l k x () = some (.go ()) := by
    unfold slices_Equal_api_Pair_api_Pair_L1
    rw [hg]; simp
   rw [this, Option.bind_some]
   exact ih (k + 1) (drop_next h)
 unfold slices_Equal_api_Pair_api_Pair
 have : ((l.length : Int) != (l.length : Int)) = false := by simp
 rw [this, cond_false, forL_eq (by omega), key l 0 rfl]; rfl
theorem oneGA {x : Alert} (h : GA x) : GAs [x] := ⟨fun y hy => by rw [List.mem_singleton.1 hy]; exact h, by simp⟩
theorem oneGP {x : Post} (h : GP x) : GPs [x] := ⟨fun y hy => by rw [List.mem_singleton.1 hy]; exact h, by simp⟩
theorem shown_z {x : Post} (hx : GP x) {z : Alert} (hz : GA z) (k : Nat) : law_AlertsShown_L1 x k z () = some (.go ()) := by
 have hal := hz.alen
 have hR : alert_Reaches z x = some (bif or0 (alV [z]) (poV [x]) == 0 then (hasB z.Areas x.X x.Y, 0) else (false, or0 (alV [z]) (poV [x]))) := by
  unfold alert_Reaches
  rw [both_eq (oneGA hz) (oneGP hx), Option.bind_some]
  by_cases h0 : or0 (alV [z]) (poV [x]) = 0
  ·have hca := alV_ca (oneGA hz) (or0_zero.1 h0).1
   rw [h0, bne_self_eq_false, cond_false, reaches_fine (hca.areas z (by simp)) (by omega)]; rfl
  ·have e1 : (or0 (alV [z]) (poV [x]) == 0) = false := by simpa using h0
   have e2 : (or0 (alV [z]) (poV [x]) != 0) = true := by simp [bne, e1]
   rw [e1, e2]; rfl
 unfold law_AlertsShown_L1
 rw [hR, alV_R (oneGA hz), poV_R (oneGP hx)]
 simp only [Option.bind_some]
 rw [lerrs2]
 simp only [Option.bind_some]
 by_cases h0 : or0 (alV [z]) (poV [x]) = 0
 ·have hca := alV_ca (oneGA hz) (or0_zero.1 h0).1
  rw [h0, reachesOf_eq (hca.areas z (by simp)) (by omega)]
  simp only [beq_self_eq_true, cond_true, bne_self_eq_false, cond_false, Option.bind_some]
  cases hasB z.Areas x.X x.Y <;> rfl
 ·have e1 : (or0 (alV [z]) (poV [x]) == 0) = false := by simpa using h0
  rw [e1]
  simp only [cond_false, bne_self_eq_false, Option.bind_some]; rfl
theorem shown_x {l : List Alert} (hl : GAs l) {x : Post} (hx : GP x) (s1 s2 : Stream) (t : Int) (k : Nat) : law_AlertsShown_L2 (l, s1) (t, s2) k x () = some (.go ()) := by
 have hlen := hl.2
 have hsp := spot_eq hl hx t
 unfold law_AlertsShown_L2
 simp only []
 rw [alV_R hl, poV_R (oneGP hx), lmom]
 obtain ⟨v, v1, _⟩ := forL_at (body := fun k z s => law_AlertsShown_L1 x k z s) (fun _ _ => True) (xs := l) (s := ()) (by omega) (fun k z s hz _ => by
  cases s
  exact ⟨(), shown_z hx (hl.1 z (List.mem_of_getElem? hz)) k, trivial⟩) trivial
 by_cases h0 : or0 (alV l) (or0 (poV [x]) (moV t)) = 0
 ·rw [or0_assoc, h0] at hsp
  have hca := alV_ca hl (or0_zero.1 h0).1
  rw [Ranked_eq hca hsp, Shown_eq hca hsp]
  simp only [Option.bind_some]
  rw [lerrs3, h0]
  simp only [Option.bind_some, beq_self_eq_true, cond_true]
  rw [rankedOf_eq hl hca, shownAlert_eq hl hca]
  simp only [Option.bind_some, bne_self_eq_false, cond_false]
  have hr := rank_len l x.X x.Y t
  rw [eqStr _ (by rw [List.length_map]; omega)]
  simp only [Option.bind_some, Bool.not_true, cond_false]
  rw [sNe_dec, decide_eq_true rfl]
  simp only [Bool.not_true, cond_false, beq_self_eq_true, Option.bind_some]
  rw [v1]; rfl
 ·have e1 : (or0 (alV l) (or0 (poV [x]) (moV t)) == 0) = false := by simpa using h0
  have e2 : (or0 (alV l) (or0 (poV [x]) (moV t)) != 0) = true := by simp [bne, e1]
  rw [or0_assoc] at hsp
  have r1 : alert_Ranked l x t = some ([], or0 (alV l) (or0 (poV [x]) (moV t))) := by unfold alert_Ranked; rw [hsp, Option.bind_some, e2]; rfl
  have r2 : alert_Shown l x t = some (⟨#[]⟩, false, or0 (alV l) (or0 (poV [x]) (moV t))) := by unfold alert_Shown; rw [hsp, Option.bind_some, e2]; rfl
  rw [r1, r2]
  simp only [Option.bind_some]
  rw [lerrs3]
  simp only [Option.bind_some]
  rw [e1]
  simp only [cond_false, bne_self_eq_false, Option.bind_some]
  rw [eqStr [] (by simp)]
  simp only [Option.bind_some, Bool.not_true, cond_false]
  rw [sNe_dec, decide_eq_true rfl]
  simp only [Bool.not_true, cond_false, beq_self_eq_true, Option.bind_some]
  rw [v1]; rfl
theorem alertsShown (l : List Int) : law_AlertsShown l = some true := by
 have h0 : Ok (⟨l, 0⟩ : Stream) 0 := ⟨Int.le_refl _, Int.le_refl _⟩
 obtain ⟨a, s1, a1, a2, a3⟩ := alerts_gen _ h0 (by decide)
 obtain ⟨p, s2, b1, b2, b3⟩ := posts_gen s1 a3 (by decide)
 obtain ⟨t, s3, c1, c2, c3⟩ := pick_ok s2 [0, 5, 10, 15, 20, 25, 30, 60, (-1)] b3 (by decide) (by simp) (by simp)
 have hal := a2.2
 have hpl := b2.2
 obtain ⟨v, v1, _⟩ := forL_at (body := fun k x s => law_AlertsShown_L2 (a, s1) (t, s3) k x s) (fun _ _ => True) (xs := p) (s := ()) (by omega) (fun k x s hx _ => by
  cases s
  exact ⟨(), shown_x a2 (b2.1 x (List.mem_of_getElem? hx)) s1 s3 t k, trivial⟩) trivial
 unfold law_AlertsShown
 rw [a1, Option.bind_some]
 simp only []
 rw [b1, Option.bind_some]
 simp only []
 rw [c1, Option.bind_some]
 simp only []
 rw [alV_R a2, poV_R b2, lmom, poV_K b2]
 by_cases e0 : or0 (alV a) (or0 (poV p) (moV t)) = 0
 ·obtain ⟨k1, k23⟩ := or0_zero.1 e0
  obtain ⟨k2, k3⟩ := or0_zero.1 k23
  have hca := alV_ca a2 k1
  rw [covered_eq hca (by omega) t (by rw [both_eq a2 b2, k1, k2]; rfl) (moV_0 k3)]
  simp only [Option.bind_some]
  rw [lerrs3, e0]
  simp only [Option.bind_some, beq_self_eq_true, cond_true]
  rw [coveredPosts_eq a2 hca (by omega)]
  have hcl := covL_len a t p
  simp only [Option.bind_some, bne_self_eq_false, cond_false]
  rw [eqPai _ (by omega)]
  simp only [Option.bind_some, Bool.not_true, cond_false]
  rw [v1]
  simp only [Option.bind_some, thenC, warned_ok]
 ·have e1 : (or0 (alV a) (or0 (poV p) (moV t)) == 0) = false := by simpa using e0
  have hc : alert_Covered a p t = some ([], or0 (alV a) (or0 (poV p) (moV t))) := by
   unfold alert_Covered
   rw [both_eq a2 b2, Option.bind_some, kmom]
   by_cases e2 : or0 (alV a) (poV p) = 0
   ·have e3 : or0 (alV a) (or0 (poV p) (moV t)) = moV t := by rw [← or0_assoc, e2]; rfl
    have e4 : (moV t != 0) = true := by rw [e3] at e1; simp [bne, e1]
    rw [e3, e2, bne_self_eq_false, cond_false, Option.bind_some, e4]; rfl
   ·have e3 : or0 (alV a) (or0 (poV p) (moV t)) = or0 (alV a) (poV p) := by
     rw [← or0_assoc]
     have : (or0 (alV a) (poV p) == 0) = false := by simpa using e2
     generalize or0 (alV a) (poV p) = q at this
     unfold or0
     rw [this]; rfl
    have e4 : (or0 (alV a) (poV p) != 0) = true := by simpa using e2
    rw [e3, e4]; rfl
  rw [hc]
  simp only [Option.bind_some]
  rw [lerrs3]
  simp only [Option.bind_some]
  rw [e1]
  simp only [cond_false, bne_self_eq_false, Option.bind_some]
  rw [eqPai [] (by simp)]
  simp only [Option.bind_some, Bool.not_true, cond_false]
  rw [v1]
  simp only [Option.bind_some, thenC, warned_ok]
end Go.Proofs.YtpojeclokolkaaaGreatDoor.Law

