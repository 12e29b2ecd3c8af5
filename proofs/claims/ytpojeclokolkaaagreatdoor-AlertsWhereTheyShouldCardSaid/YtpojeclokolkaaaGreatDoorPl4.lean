/-
  THE PLAIN LAW (part 4).
-/
import Derived.Test.YtpojeclokolkaaaGreatDoorPl3
import Derived.Test.YtpojeclokolkaaaGreatDoorDefs
open Go Go.Eng
namespace Go.Proofs.YtpojeclokolkaaaGreatDoor.Law
set_option linter.unusedVariables false
set_option linter.unusedSimpArgs false
theorem rank_perm (l : List Alert) (px py t : Int) : (rankS l px py t).Perm (rankL l px py t) := srtG_perm _ _
theorem rank_len (l : List Alert) (px py t : Int) : (rankS l px py t).length ≤ l.length := by
 rw [(rank_perm l px py t).length_eq]; exact List.length_filter_le _ _
theorem rank_mem {l : List Alert} (h : (l.map (·.Id)).Nodup) {x : Alert} (hx : x ∈ l) (px py t : Int) : x.Id ∈ (rankS l px py t).map (·.Id) ↔ onB l t x = true ∧ hasB x.Areas px py = true := by
 rw [List.mem_map]
 constructor
 ·rintro ⟨y, hy, e⟩
  have hy2 := (rank_perm l px py t).mem_iff.1 hy
  obtain ⟨hyl, hp⟩ := List.mem_filter.1 hy2
  obtain ⟨i, hi⟩ := List.getElem?_of_mem hyl
  obtain ⟨j, hj⟩ := List.getElem?_of_mem hx
  have := nodup_id h hi hj e
  subst this
  rw [hi] at hj
  rw [Option.some.inj hj] at hp
  rw [Bool.and_eq_true] at hp; exact hp
 ·rintro ⟨h1, h2⟩
  refine ⟨x, (rank_perm l px py t).mem_iff.2 (List.mem_filter.2 ⟨hx, by rw [h1, h2]; rfl⟩), rfl⟩
theorem force_mem {l : List Alert} (h : (l.map (·.Id)).Nodup) {x : Alert} (hx : x ∈ l) (t : Int) : x.Id ∈ (l.filter (onB l t)).map (·.Id) ↔ onB l t x = true := by
 rw [List.mem_map]
 constructor
 ·rintro ⟨y, hy, e⟩
  obtain ⟨hyl, hp⟩ := List.mem_filter.1 hy
  obtain ⟨i, hi⟩ := List.getElem?_of_mem hyl
  obtain ⟨j, hj⟩ := List.getElem?_of_mem hx
  have := nodup_id h hi hj e
  subst this
  rw [hi] at hj
  rw [Option.some.inj hj] at hp
  exact hp
 ·intro h1
  exact ⟨x, List.mem_filter.2 ⟨hx, h1⟩, rfl⟩
theorem shown_edge {l : List Alert} {px py F T : Int} {E : List Int} (hE : E.Pairwise (· < ·)) (hin : ∀ x ∈ E, F ≤ x ∧ x ≤ T) (h1 : ∀ z ∈ l, F < z.At → z.At < T → z.At ∈ E) (h2 : ∀ z ∈ l, F < endV l z → endV l z < T → endV l z ∈ E) {i : Nat} {a b : Int} (ha : E[i]? = some a) (hb : E[i + 1]? = some b) {t : Int} (hat : a ≤ t) (htb : t < b) : shownL l px py t = shownL l px py a := by
 have a1 := hin a (List.mem_of_getElem? ha)
 have b1 := hin b (List.mem_of_getElem? hb)
 have key : ∀ v : Int, (F < v → v < T → v ∈ E) → v ≤ a ∨ t < v := fun v hv => by
  by_cases q1 : F < v
  ·by_cases q2 : v < T
   ·rcases tile_gap hE ha hb (hv q1 q2) with h | h
    ·exact .inl h
    ·exact .inr (by omega)
   ·exact .inr (by omega)
  ·exact .inl (by omega)
 exact shown_gap (fun z hz => ⟨key _ (h1 z hz), key _ (h2 z hz)⟩) hat
def rankL' (l m : List Alert) (px py t : Int) : List Alert := m.filter fun z => onB l t z && hasB z.Areas px py
def cR (a b : Alert) : Int := or0 (cmpI b.Weight a.Weight) (or0 (cmpI b.At a.At) (cmpB a.Id b.Id))
theorem before_eq (a b : Alert) : alert_before a b = some (cR a b) := by
 simp only [alert_before, compare_eq, cmpInt_eq, or3_eq, Option.bind_some]; rfl
theorem cR_neg {a b : Alert} : cR a b < 0 ↔ befR a b = true := by
 unfold cR
 rw [or0_neg, or0_neg, cmpI_neg, cmpI_zero, cmpI_neg, cmpI_zero, cmpB_neg, befR_iff]
 constructor
 ·rintro (h | ⟨h, k | ⟨k, q⟩⟩)
  ·exact .inl h
  ·exact .inr ⟨h.symm, .inl k⟩
  ·exact .inr ⟨h.symm, .inr ⟨k.symm, q⟩⟩
 ·rintro (h | ⟨h, k | ⟨k, q⟩⟩)
  ·exact .inl h
  ·exact .inr ⟨h.symm, .inl k⟩
  ·exact .inr ⟨h.symm, .inr ⟨k.symm, q⟩⟩
theorem befR_ntr {a b c : Alert} (h : ¬ befR a b = true) (k : ¬ befR b c = true) : ¬ befR a c = true := by
 rw [befR_iff] at *
 simp only [not_or, not_and] at h k
 rintro (q | ⟨q, q2 | ⟨q2, q3⟩⟩)
 ·omega
 ·have h2 := h.2
  have k2 := k.2
  by_cases e : a.Weight = b.Weight
  ·have := (h2 e).1
   have := (k2 (by omega)).1
   omega
  ·omega
 ·have h2 := h.2
  have k2 := k.2
  by_cases e : a.Weight = b.Weight
  ·have a1 := h2 e
   have a2 := k2 (by omega)
   by_cases e2 : a.At = b.At
   ·exact lt_ntr (a1.2 e2) (a2.2 (by omega)) q3
   ·have := a1.1
    have := a2.1
    omega
  ·omega
theorem reaches_fine {x : Alert} (h : ∀ r ∈ x.Areas, Fine r) (hl : x.Areas.length ≤ 1000) (p : Post) : alert_reaches x p = some (hasB x.Areas p.X p.Y) := by
 unfold alert_reaches
 rw [any_eq (fun x0 => alert_reaches_1 x0 p) (has1 p.X p.Y) (fun r hr => by
  have hs := h r hr
  unfold Fine at hs
  unfold alert_reaches_1 has1
  rw [w64_id (n := r.X + r.W) (by omega), w64_id (n := r.Y + r.H) (by omega)]
  cases decide (r.X ≤ p.X) <;> cases decide (p.X < r.X + r.W) <;> cases decide (r.Y ≤ p.Y) <;> rfl) (by omega)]
 rfl
theorem idx_map {α β : Type} {l : List α} {f : α → β} {k : Nat} {x : α} (hx : l[k]? = some x) : idx (l.map f) (k : Int) = some (f x) := by
 rw [idx_nat, List.getElem?_map, hx]; rfl
theorem take_len {α : Type} (l : List α) (k : Nat) : (l.take k).length ≤ l.length := by rw [List.length_take]; exact Nat.min_le_right _ _
theorem ranked_eq {l : List Alert} (h : CA l) (p : Post) (t : Int) : alert_ranked l (l.map (endV l)) p t = some (rankS l p.X p.Y t) := by
 have hl := h.len
 unfold alert_ranked
 obtain ⟨u, u1, u2⟩ := forL_at (body := fun k x s => alert_ranked_L1 (l.map (endV l)) t p k x s) (fun k s => s = rankL' l (l.take k) p.X p.Y t) (xs := l) (s := ([] : List Alert)) (by omega) (fun k x s hx hs => by
  have et : l.take (k + 1) = l.take k ++ [x] := by rw [List.take_add_one, hx]; rfl
  have hm := List.mem_of_getElem? hx
  have hf : rankL' l (l.take (k + 1)) p.X p.Y t = rankL' l (l.take k) p.X p.Y t ++ (bif onB l t x && hasB x.Areas p.X p.Y then [x] else []) := by
   unfold rankL'
   rw [et, List.filter_append]
   congr 1
  have hsl : s.length ≤ 1000 := by
   rw [hs]
   refine Nat.le_trans (List.length_filter_le _ _) ?_
   have := take_len l k
   omega
  unfold alert_ranked_L1
  rw [idx_map hx, Option.bind_some, isOn_eq, Option.bind_some, reaches_fine (h.areas x hm) (h.alen x hm)]
  rw [hf, ← hs]
  cases onB l t x with
  | false => exact ⟨_, rfl, by simp⟩
  | true =>
   cases hasB x.Areas p.X p.Y with
   | false => exact ⟨_, rfl, by simp⟩
   | true =>
    simp only [Option.bind_some, cond_true, Bool.and_true]
    rw [appL_ok _ _ (by simp only [List.length_cons, List.length_nil]; omega)]
    exact ⟨_, rfl, rfl⟩) rfl
 rw [u1, u2, List.take_length]
 simp only [Option.bind_some, thenC]
 have e0 : rankL' l l p.X p.Y t = rankL l p.X p.Y t := rfl
 rw [e0]
 have hrl : (rankL l p.X p.Y t).length ≤ 12 := by
  have : (rankL l p.X p.Y t).length ≤ l.length := List.length_filter_le _ _
  omega
 obtain ⟨r, r1, r2, r3⟩ := sort12 (cmp := alert_before) (S := slices_SortFunc_api_Alert_api_Alert_v2) cR (fun _ => rfl) (xs := rankL l p.X p.Y t) hrl (fun a _ b _ => before_eq a b)
  (fun a b q1 q2 => by have := befR_trans _ _ _ (cR_neg.1 q1) (cR_neg.1 q2); rw [befR_irr] at this; cases this)
  (fun a b c q1 q2 q3 => befR_ntr (fun e => q1 (cR_neg.2 e)) (fun e => q2 (cR_neg.2 e)) (cR_neg.1 q3))
 have e2 : slices_SortFunc_api_Alert_api_Alert_v2 (rankL l p.X p.Y t) = some r := r1
 have e3 : sameL r (rankL l p.X p.Y t) = some () := by unfold sameL; rw [if_pos r2.length_eq]
 rw [e2, Option.bind_some, e3, Option.bind_some, rank_is h.ids p.X p.Y t r2 (r3.imp (fun {a b} q => by
  cases hb : befR b a with
  | false => rfl
  | true => exact absurd (cR_neg.2 hb) q))]
theorem momF_eq (t : Int) : alert_momentFault t = some (bif momB t then 0 else 1) := by
 unfold alert_momentFault
 rw [isMoment_eq]
 cases momB t <;> rfl
theorem Shown_eq {l : List Alert} (h : CA l) {p : Post} {t : Int} (hs : alert_spotFault l p t = some 0) : alert_Shown l p t = some (shownL l p.X p.Y t, !(rankS l p.X p.Y t).isEmpty, 0) := by
 unfold alert_Shown
 rw [hs, Option.bind_some, bne_self_eq_false, cond_false, ends_eq h, Option.bind_some, ranked_eq h, Option.bind_some]
 unfold shownL
 cases rankS l p.X p.Y t with
 | nil => rfl
 | cons z r =>
  have : (((z :: r).length : Int) == 0) = false := by rw [beq_eq_false_iff_ne]; simp only [List.length_cons]; omega
  rw [this, cond_false]; rfl
theorem Ranked_eq {l : List Alert} (h : CA l) {p : Post} {t : Int} (hs : alert_spotFault l p t = some 0) : alert_Ranked l p t = some ((rankS l p.X p.Y t).map (·.Id), 0) := by
 have hl := h.len
 have hr := rank_len l p.X p.Y t
 unfold alert_Ranked
 rw [hs, Option.bind_some, bne_self_eq_false, cond_false, ends_eq h, Option.bind_some, ranked_eq h, Option.bind_some]
 obtain ⟨u, u1, u2⟩ := forL_at (body := fun k x s => alert_Ranked_L1 k x s) (fun k s => s = ((rankS l p.X p.Y t).take k).map (·.Id)) (xs := rankS l p.X p.Y t) (s := ([] : List ByteArray)) (by omega) (fun k x s hx hs => by
  have et : (rankS l p.X p.Y t).take (k + 1) = (rankS l p.X p.Y t).take k ++ [x] := by rw [List.take_add_one, hx]; rfl
  have := take_len (rankS l p.X p.Y t) k
  unfold alert_Ranked_L1
  rw [hs, appL_ok _ _ (by simp only [List.length_map, List.length_cons, List.length_nil]; omega)]
  exact ⟨_, rfl, by rw [et, List.map_append]; rfl⟩) rfl
 rw [u1, u2, List.take_length]; rfl
theorem InForce_eq {l : List Alert} (h : CA l) (hc : alert_CheckAlerts l = some 0) {t : Int} (ht : momB t = true) : alert_InForce l t = some ((l.filter (onB l t)).map (·.Id), 0) := by
 have hl := h.len
 unfold alert_InForce
 rw [hc, Option.bind_some, bne_self_eq_false, cond_false, momF_eq, ht]
 simp only [cond_true, Option.bind_some, bne_self_eq_false, cond_false]
 rw [ends_eq h, Option.bind_some]
 obtain ⟨u, u1, u2⟩ := forL_at (body := fun k x s => alert_InForce_L1 (l.map (endV l)) t k x s) (fun k s => s = ((l.take k).filter (onB l t)).map (·.Id)) (xs := l) (s := ([] : List ByteArray)) (by omega) (fun k x s hx hs => by
  have et : l.take (k + 1) = l.take k ++ [x] := by rw [List.take_add_one, hx]; rfl
  have h1 := take_len l k
  have h2 := List.length_filter_le (onB l t) (l.take k)
  have hf : (l.take (k + 1)).filter (onB l t) = (l.take k).filter (onB l t) ++ (bif onB l t x then [x] else []) := by
   rw [et, List.filter_append]
   congr 1
  unfold alert_InForce_L1
  rw [idx_map hx, Option.bind_some, isOn_eq, Option.bind_some, hf, List.map_append, ← hs]
  cases onB l t x with
  | false => exact ⟨_, rfl, by simp⟩
  | true =>
   rw [cond_true, appL_ok _ _ (by rw [hs]; simp only [List.length_map, List.length_cons, List.length_nil]; omega)]
   exact ⟨_, rfl, rfl⟩) rfl
 rw [u1, u2, List.take_length]; rfl
end Go.Proofs.YtpojeclokolkaaaGreatDoor.Law

open Go Go.Eng
namespace Go.Proofs.YtpojeclokolkaaaGreatDoor.Law
set_option linter.unusedVariables false
set_option linter.unusedSimpArgs false
structure EI (l m : List Alert) (F T : Int) (E : List Int) : Prop where
 from_ : F ∈ E
 to_ : T ∈ E
 in_ : ∀ x ∈ E, F ≤ x ∧ x ≤ T
 at_ : ∀ z ∈ m, F < z.At → z.At < T → z.At ∈ E
 end_ : ∀ z ∈ m, F < endV l z → endV l z < T → endV l z ∈ E
 len : E.length ≤ 2 + 2 * m.length
theorem edge_one (F T n : Int) (E : List Int) (hl : E.length ≤ 100000) : ∃ E', (bif (decide (F < n)) then some (decide (n < T)) else some false).bind (fun v => (bif v then (appL E [n]).bind fun a => some a else some E).bind fun v => some ((.go v) : Ctl (List Int) Unit)) = some (.go E') ∧ (∀ x ∈ E, x ∈ E') ∧ (∀ x ∈ E', x ∈ E ∨ F < x ∧ x < T) ∧ (F < n → n < T → n ∈ E') ∧ E'.length ≤ E.length + 1 := by
 by_cases h1 : F < n
 ·by_cases h2 : n < T
  ·refine ⟨E ++ [n], ?_, fun x hx => List.mem_append_left _ hx, fun x hx => ?_, fun _ _ => List.mem_append_right _ (List.mem_singleton.2 rfl), by simp⟩
   ·rw [decide_eq_true h1, decide_eq_true h2]
    simp only [cond_true, Option.bind_some]
    rw [appL_ok _ _ (by simp; omega)]; rfl
   ·rcases List.mem_append.1 hx with hx | hx
    ·exact .inl hx
    ·rw [List.mem_singleton.1 hx]; exact .inr ⟨h1, h2⟩
  ·refine ⟨E, ?_, fun x hx => hx, fun x hx => .inl hx, fun _ h => absurd h h2, by omega⟩
   rw [decide_eq_true h1, decide_eq_false h2]; rfl
 ·refine ⟨E, ?_, fun x hx => hx, fun x hx => .inl hx, fun h _ => absurd h h1, by omega⟩
  rw [decide_eq_false h1]; rfl
theorem edges_step {l : List Alert} (h : CA l) {w : Window} {k : Nat} {x : Alert} (hx : l[k]? = some x) {E : List Int} (hE : EI l (l.take k) w.From w.To E) : ∃ E', alert_through_L2 (l.map (endV l)) w k x E = some (.go E') ∧ EI l (l.take (k + 1)) w.From w.To E' := by
 have hl := h.len
 have et : l.take (k + 1) = l.take k ++ [x] := by rw [List.take_add_one, hx]; rfl
 have hel := hE.len
 have htk := take_len l k
 have hlt : (l.take k).length = k := by
  obtain ⟨hk, _⟩ := List.getElem?_eq_some_iff.1 hx
  rw [List.length_take]; omega
 obtain ⟨E1, a1, a2, a3, a4, a5⟩ := edge_one w.From w.To x.At E (by omega)
 obtain ⟨E2, b1, b2, b3, b4, b5⟩ := edge_one w.From w.To (endV l x) E1 (by omega)
 refine ⟨E2, ?_, ?_⟩
 ·unfold alert_through_L2
  rw [idx_map hx, Option.bind_some, forL_eq (by simp)]
  have c1 : alert_through_L1 x (endV l x) w 0 0 E = some (.go E1) := a1
  have c2 : alert_through_L1 x (endV l x) w (0 + 1) 1 E1 = some (.go E2) := b1
  show (forR _ [0, 1] 0 E).bind _ = _
  simp only [forR, c1, c2, Option.bind_some, thenC]
 ·refine ⟨b2 _ (a2 _ hE.from_), b2 _ (a2 _ hE.to_), fun y hy => ?_, fun z hz g1 g2 => ?_, fun z hz g1 g2 => ?_, by rw [et, List.length_append]; simp only [List.length_cons, List.length_nil]; omega⟩
  ·rcases b3 y hy with q | q
   ·rcases a3 y q with q | q
    ·exact hE.in_ y q
    ·omega
   ·omega
  ·rw [et] at hz
   rcases List.mem_append.1 hz with hz | hz
   ·exact b2 _ (a2 _ (hE.at_ z hz g1 g2))
   ·rw [List.mem_singleton.1 hz] at g1 g2 ⊢
    exact b2 _ (a4 g1 g2)
  ·rw [et] at hz
   rcases List.mem_append.1 hz with hz | hz
   ·exact b2 _ (a2 _ (hE.end_ z hz g1 g2))
   ·rw [List.mem_singleton.1 hz] at g1 g2 ⊢
    exact b4 g1 g2
theorem get_last {α : Type} {xs : List α} {n : Nat} (h : xs.length = n + 1) (hn : n ≤ 1000000) : w64 ((xs.length : Int) - 1) = (n : Int) := by
 rw [w64_id (by omega)]; omega
def putS (id : ByteArray) (a b : Int) (out : List Slot_) : Option (List Slot_) :=
 (bif (decide ((w64 ((out.length : Int) - 1)) ≥ 0)) then (inR (w64 ((out.length : Int) - 1)) out).bind fun _ => (out[(0 + ((w64 ((out.length : Int) - 1))).toNat)]?).bind fun e_81 => some (sEq e_81.Entry id) else some false).bind fun v_77 =>
 (bif v_77 then (inR (w64 ((out.length : Int) - 1)) out).bind fun _ => (out[(0 + ((w64 ((out.length : Int) - 1))).toNat)]?).bind fun e_90 => some (out.set (0 + ((w64 ((out.length : Int) - 1))).toNat) (⟨(⟨e_90.Time.From, b⟩ : Window), e_90.Entry⟩ : Slot_))
 else (appL out ([(⟨(⟨a, b⟩ : Window), id⟩ : Slot_)] : List Slot_)).bind fun a_96 => some a_96)
theorem putS_eq (id : ByteArray) (a b : Int) (out : List Slot_) (hl : out.length ≤ 1000000) : putS id a b out = some (addS id a b out) := by
 unfold putS
 cases ho : out.length with
 | zero =>
  have e := List.eq_nil_of_length_eq_zero ho
  subst e
  rw [decide_eq_false (by decide)]; rfl
 | succ n =>
  rw [← ho, get_last ho (by omega), decide_eq_true (by omega), cond_true, inR_ok (by omega) (by omega)]
  have hn : n < out.length := by omega
  have e1 : out[(0 + ((n : Int)).toNat)]? = some out[n] := by rw [show 0 + ((n : Int)).toNat = n by omega]; exact List.getElem?_eq_getElem hn
  rw [e1]
  simp only [Option.bind_some, sEq_dec]
  by_cases he : out[n].Entry = id
  ·rw [decide_eq_true he, cond_true, addS_set id a b out n _ ho (List.getElem?_eq_getElem hn) he, show 0 + ((n : Int)).toNat = n by omega]
  ·rw [decide_eq_false he, cond_false, appL_ok _ _ (by simp; omega), addS_app id a b out (fun m x h1 h2 => by
    obtain rfl : m = n := by omega
    rw [List.getElem?_eq_getElem hn, Option.some.injEq] at h2
    rw [← h2]; exact he)]; rfl
theorem slots_loop {f : Int → ByteArray} {E : List Int} {F T : Int} (hE : E.Pairwise (· < ·)) (hl : E.length ≤ 1000000) (h0 : E[0]? = some F) (hT : E[E.length - 1]? = some T)
  (hf : ∀ (i : Nat) (a b : Int), E[i]? = some a → E[i + 1]? = some b → ∀ t, a ≤ t → t < b → f t = f a)
  {body : (List Slot_ × Int) → Option (Ctl (List Slot_ × Int) Unit)} (hgo : ∀ (i : Nat) (out : List Slot_) (a b : Int), E[i]? = some a → E[i + 1]? = some b → body (out, (i : Int)) = (putS (f a) a b out).bind fun v => some (.go (v, w64 ((i : Int) + 1))))
  (hbrk : ∀ (i : Nat) (out : List Slot_), i + 1 = E.length → body (out, (i : Int)) = some (.brk (out, (i : Int)))) : ∃ out i, loopO (([] : List Slot_), (0 : Int)) body = some (.go (out, i)) ∧ Tiles f T F out ∧ out.length ≤ E.length := by
 have hlen : 0 < E.length := (List.getElem?_eq_some_iff.1 h0).1
 obtain ⟨s, s1, s2⟩ := loopO_inv (body := body) (fun k s => s.2 = (k : Int) ∧ s.1.length ≤ k ∧ ∃ a, E[k]? = some a ∧ Tiles f a F s.1) (E.length - 1) (fun k s hk ⟨i1, i2, a, i3, i4⟩ => by
  obtain ⟨out, n⟩ := s
  simp only at i1 i2 i4
  subst i1
  have hb : E[k + 1]? = some E[k + 1] := List.getElem?_eq_getElem (by omega)
  rw [hgo k out a _ i3 hb, putS_eq _ _ _ _ (by omega)]
  refine ⟨_, rfl, by simp only []; rw [w64_id (by omega)]; omega, ?_, _, hb, ?_⟩
  ·simp only []
   have := addS_len (f a) a E[k + 1] out
   omega
  ·exact Tiles.add (tile_next hE i3 hb) (fun t t1 t2 => hf k a _ i3 hb t t1 t2) out F i4) (fun s ⟨i1, i2, a, i3, i4⟩ => by
  obtain ⟨out, n⟩ := s
  simp only at i1
  subst i1
  exact hbrk _ out (by omega)) (s := (([] : List Slot_), (0 : Int))) ⟨rfl, Nat.le_refl _, F, h0, by unfold Tiles; rfl⟩
 obtain ⟨_, i2, a, i3, i4⟩ := s2
 rw [hT, Option.some.injEq] at i3
 exact ⟨s.1, s.2, s1, by rw [i3]; exact i4, by omega⟩
theorem through_ok {l : List Alert} (h : CA l) (p : Post) {w : Window} (hw : w.From ≤ w.To) (hb : -1000000000000000 ≤ w.From ∧ w.To ≤ 1000000000000000) : ∃ t, alert_through l p w = some t ∧ Tiles (shownL l p.X p.Y) w.To w.From t ∧ t.length ≤ 10000 := by
 have hl := h.len
 unfold alert_through
 rw [ends_eq h, Option.bind_some]
 obtain ⟨E, e1, e2⟩ := forL_at (body := fun k x s => alert_through_L2 (l.map (endV l)) w k x s) (fun k s => EI l (l.take k) w.From w.To s) (xs := l) (s := ([w.From, w.To] : List Int)) (by omega) (fun k x s hx hs => edges_step h hx hs)
  ⟨by simp, by simp, fun x hx => by
   simp only [List.mem_cons, List.not_mem_nil, or_false] at hx
   rcases hx with rfl | rfl <;> omega, fun z hz => (by cases hz), fun z hz => (by cases hz), by simp⟩
 rw [List.take_length] at e2
 have hel := e2.len
 rw [e1]
 simp only [Option.bind_some, thenC]
 have hne : neL E = some () := by
  unfold neL
  have := List.ne_nil_of_mem e2.from_
  first | rw [if_pos this] | (cases E with | nil => exact absurd rfl this | cons a E => rfl)
 obtain ⟨s, C, c1, c2, c3, c4, c5, c6⟩ := sortC E (by omega)
 have c2' : sameL s E = some () := by unfold sameL; rw [if_pos c2]
 rw [hne, Option.bind_some, c1, Option.bind_some, c2', Option.bind_some, c3, Option.bind_some]
 have hin : ∀ x ∈ C, w.From ≤ x ∧ x ≤ w.To := fun x hx => e2.in_ x ((c5 x).1 hx)
 obtain ⟨d1, d2⟩ := tile_ends c4 ((c5 _).2 e2.from_) ((c5 _).2 e2.to_) hin
 obtain ⟨out, i, o1, o2, o3⟩ := slots_loop (f := shownL l p.X p.Y) c4 (by omega) d1 d2 (fun i a b ha hb t t1 t2 => shown_edge c4 hin (fun z hz g1 g2 => (c5 _).2 (e2.at_ z hz g1 g2)) (fun z hz g1 g2 => (c5 _).2 (e2.end_ z hz g1 g2)) ha hb t1 t2)
  (body := fun s => alert_through_L3 C l (l.map (endV l)) p s) (fun i out a b ha hb => by
   have hi : i + 1 < C.length := (List.getElem?_eq_some_iff.1 hb).1
   unfold alert_through_L3
   simp only []
   have w1 : w64 ((i : Int) + 1) = ((i + 1 : Nat) : Int) := by rw [w64_id (by omega)]; omega
   rw [w1, decide_eq_true (by omega), cond_true, idx_nat, ha, Option.bind_some, ranked_eq h, Option.bind_some, idx_nat, hb]
   have e3 : (bif (decide (((rankS l p.X p.Y a).length : Int) > 0)) then (idx (rankS l p.X p.Y a) 0).bind fun y_75 => some y_75.Id else some (⟨#[]⟩ : ByteArray)) = some (shownL l p.X p.Y a) := by
    unfold shownL
    cases rankS l p.X p.Y a with
    | nil => rfl
    | cons z r => rw [decide_eq_true (by simp only [List.length_cons]; omega), cond_true]; rfl
   rw [e3]
   simp only [Option.bind_some]
   unfold putS
   generalize (bif decide (w64 ((out.length : Int) - 1) ≥ 0) then _ else _ : Option Bool) = c
   cases c with
   | none => rfl
   | some c => cases c <;> rfl) (fun i out hi => by
   unfold alert_through_L3
   simp only []
   rw [w64_id (n := (i : Int) + 1) (by omega), decide_eq_false (by omega), cond_false])
 rw [o1]
 exact ⟨out, rfl, o2, by omega⟩
end Go.Proofs.YtpojeclokolkaaaGreatDoor.Law

open Go Go.Eng
namespace Go.Proofs.YtpojeclokolkaaaGreatDoor.Law
set_option linter.unusedVariables false
set_option linter.unusedSimpArgs false
def insI (x : Int) : List Int → List Int
 | [] => [x]
 | y :: l => bif decide (x ≤ y) then x :: y :: l else y :: insI x l
def isortI : List Int → List Int
 | [] => []
 | x :: l => insI x (isortI l)
theorem insI_perm (x : Int) : ∀ l, (insI x l).Perm (x :: l)
 | [] => .refl _
 | y :: l => by
  unfold insI
  cases decide (x ≤ y) with
  | true => exact .refl _
  | false => exact ((insI_perm x l).cons y).trans (List.Perm.swap x y l)
theorem isortI_perm : ∀ l, (isortI l).Perm l
 | [] => .refl _
 | x :: l => (insI_perm x _).trans ((isortI_perm l).cons x)
theorem insI_sorted (x : Int) : ∀ l : List Int, l.Pairwise (· ≤ ·) → (insI x l).Pairwise (· ≤ ·)
 | [], _ => List.pairwise_singleton _ _
 | y :: l, h => by
  obtain ⟨h1, h2⟩ := List.pairwise_cons.1 h
  unfold insI
  by_cases hx : x ≤ y
  ·rw [decide_eq_true hx, cond_true]
   exact List.pairwise_cons.2 ⟨fun z hz => by
    rcases List.mem_cons.1 hz with rfl | hz
    ·exact hx
    ·exact Int.le_trans hx (h1 z hz), h⟩
  ·rw [decide_eq_false hx, cond_false]
   exact List.pairwise_cons.2 ⟨fun z hz => by
    rcases List.mem_cons.1 ((insI_perm x l).mem_iff.1 hz) with rfl | hz
    ·omega
    ·exact h1 z hz, insI_sorted x l h2⟩
theorem isortI_sorted : ∀ l, (isortI l).Pairwise (· ≤ ·)
 | [] => .nil
 | x :: l => insI_sorted x _ (isortI_sorted l)
theorem isortI_eq (l : List Int) : l.mergeSort (fun x y => decide (x ≤ y)) = isortI l := by
 refine List.Perm.eq_of_pairwise (le := (· ≤ ·)) (fun a b _ _ h1 h2 => Int.le_antisymm h1 h2) ?_ (isortI_sorted l) ((List.mergeSort_perm l _).trans (isortI_perm l).symm)
 have := List.pairwise_mergeSort (le := fun (x y : Int) => decide (x ≤ y)) (fun a b c => by simp; omega) (fun a b => by simp; omega) l
 exact this.imp (by simp)
def sortF (l : List Int) : Option (List Int) := bif Nat.ble l.length 1000 then some (isortI l) else none
theorem sortF_le (l : List Int) : Le (sortF l) (slices_Sort_int_int_v1 l) := fun r h => by
 unfold sortF at h
 cases hb : Nat.ble l.length 1000 with
 | false => rw [hb] at h; cases h
 | true =>
  rw [hb, cond_true] at h
  have := Nat.le_of_ble_eq_true hb
  unfold slices_Sort_int_int_v1 sortI
  rw [if_pos (by omega), isortI_eq]; exact h
end Go.Proofs.YtpojeclokolkaaaGreatDoor.Law

open Go Go.Eng
namespace Go.Proofs.YtpojeclokolkaaaGreatDoor.Law
set_option linter.unusedVariables false
set_option linter.unusedSimpArgs false
set_option maxRecDepth 100000
def kit_IsKeyF (s_1 : ByteArray) : Option (Bool) :=
 (loopF 0 (fun s => kit_IsKey_L1 s_1 s)).bind fun o_10 => thenC o_10 (fun s_7 => (bif (sNe s_1 (⟨#[]⟩ : ByteArray)) then some (decide ((s_1.size : Int) ≤ 40)) else some false).bind fun v_30 => some v_30) (fun r => some r)
theorem kit_IsKey_le (s_1 : ByteArray) : Le (kit_IsKeyF s_1) (kit_IsKey s_1) := by
 unfold kit_IsKeyF kit_IsKey
 repeat' (with_reducible first | exact Le.refl _ | refine Le.loop (fun _ => ?_) | refine Le.forL (fun _ _ _ => ?_) | refine Le.thenC (fun _ => ?_) (fun _ => ?_) | refine Le.cond ?_ ?_ | refine Le.bind ?_ (fun _ => ?_))
def slices_Compact_int_int_v1_L2F (s_1 : (List Int)) (s_8 : Int) : Option (Ctl (Int) ((List Int))) :=
 bif (decide (s_8 < (s_1.length : Int))) then (inR s_8 s_1).bind fun _ => (s_1[(0 + (s_8).toNat)]?).bind fun e_15 => (inR (w64 (s_8 - 1)) s_1).bind fun _ => (s_1[(0 + ((w64 (s_8 - 1))).toNat)]?).bind fun e_18 => bif (e_15 == e_18) then (neL s_1).bind fun _ => (subR s_1 s_8 (s_1.length : Int)).bind fun _ => (loopF (s_1, s_8, 1) (fun s => slices_Compact_int_int_v1_L1 s_1 s_8 s)).bind fun o_31 => thenC o_31 (fun s_28 => (subR s_28.1 s_28.2.1 (s_28.1.length : Int)).bind fun _ => (subR (s_28.1.take ((s_28.2.1).toNat) ++ List.replicate (((s_28.1.length : Int)).toNat - (s_28.2.1).toNat) 0 ++ s_28.1.drop (((s_28.2.1).toNat) + (((s_28.1.length : Int)).toNat - (s_28.2.1).toNat))) 0 s_28.2.1).bind fun _ => some (.ret (cutL (s_28.1.take ((s_28.2.1).toNat) ++ List.replicate (((s_28.1.length : Int)).toNat - (s_28.2.1).toNat) 0 ++ s_28.1.drop (((s_28.2.1).toNat) + (((s_28.1.length : Int)).toNat - (s_28.2.1).toNat))) 0 ((s_28.2.1).toNat)))) (fun _ => none) else some (.go (w64 (s_8 + 1))) else some (.brk s_8)
theorem slices_Compact_int_int_v1_L2_le (s_1 : (List Int)) (s_8 : Int) : Le (slices_Compact_int_int_v1_L2F s_1 s_8) (slices_Compact_int_int_v1_L2 s_1 s_8) := by
 unfold slices_Compact_int_int_v1_L2F slices_Compact_int_int_v1_L2
 repeat' (with_reducible first | exact Le.refl _ | refine Le.loop (fun _ => ?_) | refine Le.forL (fun _ _ _ => ?_) | refine Le.thenC (fun _ => ?_) (fun _ => ?_) | refine Le.cond ?_ ?_ | refine Le.bind ?_ (fun _ => ?_))
def slices_Compact_int_int_v1F (s_1 : (List Int)) : Option ((List Int)) :=
 bif (decide ((s_1.length : Int) < 2)) then some s_1 else (loopF 1 (fun s => slices_Compact_int_int_v1_L2F s_1 s)).bind fun o_11 => thenC o_11 (fun s_8 => some s_1) (fun r => some r)
theorem slices_Compact_int_int_v1_le (s_1 : (List Int)) : Le (slices_Compact_int_int_v1F s_1) (slices_Compact_int_int_v1 s_1) := by
 unfold slices_Compact_int_int_v1F slices_Compact_int_int_v1
 repeat' (with_reducible first | exact Le.refl _ | exact slices_Compact_int_int_v1_L2_le _ _ | refine Le.loop (fun _ => ?_) | refine Le.forL (fun _ _ _ => ?_) | refine Le.thenC (fun _ => ?_) (fun _ => ?_) | refine Le.cond ?_ ?_ | refine Le.bind ?_ (fun _ => ?_))
def slices_insertionSortCmpFunc_screen_run_v1_L2F (b_3 : Int) (a_2 : Int) (s_10 : (List Run) × Int) : Option (Ctl ((List Run) × Int) (Unit)) :=
 bif (decide (s_10.2 < b_3)) then (loopF (s_10.1, s_10.2) (fun s => slices_insertionSortCmpFunc_screen_run_v1_L1 a_2 s)).bind fun o_24 => thenC o_24 (fun s_21 => some (.go (s_21.1, (w64 (s_10.2 + 1))))) (fun _ => none) else some (.brk (s_10.1, s_10.2))
theorem slices_insertionSortCmpFunc_screen_run_v1_L2_le (b_3 : Int) (a_2 : Int) (s_10 : (List Run) × Int) : Le (slices_insertionSortCmpFunc_screen_run_v1_L2F b_3 a_2 s_10) (slices_insertionSortCmpFunc_screen_run_v1_L2 b_3 a_2 s_10) := by
 unfold slices_insertionSortCmpFunc_screen_run_v1_L2F slices_insertionSortCmpFunc_screen_run_v1_L2
 repeat' (with_reducible first | exact Le.refl _ | refine Le.loop (fun _ => ?_) | refine Le.forL (fun _ _ _ => ?_) | refine Le.thenC (fun _ => ?_) (fun _ => ?_) | refine Le.cond ?_ ?_ | refine Le.bind ?_ (fun _ => ?_))
def slices_insertionSortCmpFunc_screen_run_v1F (data_1 : (List Run)) (a_2 : Int) (b_3 : Int) : Option ((List Run)) :=
 (loopF (data_1, (w64 (a_2 + 1))) (fun s => slices_insertionSortCmpFunc_screen_run_v1_L2F b_3 a_2 s)).bind fun o_13 => thenC o_13 (fun s_10 => some s_10.1) (fun _ => none)
theorem slices_insertionSortCmpFunc_screen_run_v1_le (data_1 : (List Run)) (a_2 : Int) (b_3 : Int) : Le (slices_insertionSortCmpFunc_screen_run_v1F data_1 a_2 b_3) (slices_insertionSortCmpFunc_screen_run_v1 data_1 a_2 b_3) := by
 unfold slices_insertionSortCmpFunc_screen_run_v1F slices_insertionSortCmpFunc_screen_run_v1
 repeat' (with_reducible first | exact Le.refl _ | exact slices_insertionSortCmpFunc_screen_run_v1_L2_le _ _ _ | refine Le.loop (fun _ => ?_) | refine Le.forL (fun _ _ _ => ?_) | refine Le.thenC (fun _ => ?_) (fun _ => ?_) | refine Le.cond ?_ ?_ | refine Le.bind ?_ (fun _ => ?_))
def slices_pdqsortCmpFunc_screen_run_v1_L1F (b_3 : Int) (a_2 : Int) (data_1 : (List Run)) (limit_4 : Int) (s_11 : Unit) : Option (Ctl (Unit) ((List Run))) :=
 bif (decide ((w64 (b_3 - a_2)) ≤ 12)) then (slices_insertionSortCmpFunc_screen_run_v1F data_1 a_2 b_3).bind fun r_17 => (sameL r_17 data_1).bind fun _ => some (.ret r_17) else bif (limit_4 == 0) then none else none
theorem slices_pdqsortCmpFunc_screen_run_v1_L1_le (b_3 : Int) (a_2 : Int) (data_1 : (List Run)) (limit_4 : Int) (s_11 : Unit) : Le (slices_pdqsortCmpFunc_screen_run_v1_L1F b_3 a_2 data_1 limit_4 s_11) (slices_pdqsortCmpFunc_screen_run_v1_L1 b_3 a_2 data_1 limit_4 s_11) := by
 unfold slices_pdqsortCmpFunc_screen_run_v1_L1F slices_pdqsortCmpFunc_screen_run_v1_L1
 repeat' (with_reducible first | exact Le.refl _ | exact slices_insertionSortCmpFunc_screen_run_v1_le _ _ _ | refine Le.loop (fun _ => ?_) | refine Le.forL (fun _ _ _ => ?_) | refine Le.thenC (fun _ => ?_) (fun _ => ?_) | refine Le.cond ?_ ?_ | refine Le.bind ?_ (fun _ => ?_))
def slices_pdqsortCmpFunc_screen_run_v1F (data_1 : (List Run)) (a_2 : Int) (b_3 : Int) (limit_4 : Int) : Option ((List Run)) :=
 (loopF () (fun s => slices_pdqsortCmpFunc_screen_run_v1_L1F b_3 a_2 data_1 limit_4 s)).bind fun o_14 => thenC o_14 (fun s_11 => some data_1) (fun r => some r)
theorem slices_pdqsortCmpFunc_screen_run_v1_le (data_1 : (List Run)) (a_2 : Int) (b_3 : Int) (limit_4 : Int) : Le (slices_pdqsortCmpFunc_screen_run_v1F data_1 a_2 b_3 limit_4) (slices_pdqsortCmpFunc_screen_run_v1 data_1 a_2 b_3 limit_4) := by
 unfold slices_pdqsortCmpFunc_screen_run_v1F slices_pdqsortCmpFunc_screen_run_v1
 repeat' (with_reducible first | exact Le.refl _ | exact slices_pdqsortCmpFunc_screen_run_v1_L1_le _ _ _ _ _ | refine Le.loop (fun _ => ?_) | refine Le.forL (fun _ _ _ => ?_) | refine Le.thenC (fun _ => ?_) (fun _ => ?_) | refine Le.cond ?_ ?_ | refine Le.bind ?_ (fun _ => ?_))
def slices_SortFunc_screen_run_screen_run_v1F (x_1 : (List Run)) : Option ((List Run)) :=
 (math_bits_Len (IntKind.u64.wrap (x_1.length : Int))).bind fun r_3 => (slices_pdqsortCmpFunc_screen_run_v1F x_1 0 (x_1.length : Int) r_3).bind fun r_5 => (sameL r_5 x_1).bind fun _ => some r_5
theorem slices_SortFunc_screen_run_screen_run_v1_le (x_1 : (List Run)) : Le (slices_SortFunc_screen_run_screen_run_v1F x_1) (slices_SortFunc_screen_run_screen_run_v1 x_1) := by
 unfold slices_SortFunc_screen_run_screen_run_v1F slices_SortFunc_screen_run_screen_run_v1
 repeat' (with_reducible first | exact Le.refl _ | exact slices_pdqsortCmpFunc_screen_run_v1_le _ _ _ _ | refine Le.loop (fun _ => ?_) | refine Le.forL (fun _ _ _ => ?_) | refine Le.thenC (fun _ => ?_) (fun _ => ?_) | refine Le.cond ?_ ?_ | refine Le.bind ?_ (fun _ => ?_))
def screen_runsF (l_1 : (List Rect)) (y_2 : Int) : Option ((List Run)) :=
 (forL l_1 ([] : List Run) (fun k x s => screen_runs_L1 y_2 k x s)).bind fun o_14 => thenC o_14 (fun s_8 => (slices_SortFunc_screen_run_screen_run_v1F s_8).bind fun r_27 => (sameL r_27 s_8).bind fun _ => (forL r_27 ([] : List Run) (fun k x s => screen_runs_L2 k x s)).bind fun o_41 => thenC o_41 (fun s_35 => some s_35) (fun _ => none)) (fun _ => none)
theorem screen_runs_le (l_1 : (List Rect)) (y_2 : Int) : Le (screen_runsF l_1 y_2) (screen_runs l_1 y_2) := by
 unfold screen_runsF screen_runs
 repeat' (with_reducible first | exact Le.refl _ | exact slices_SortFunc_screen_run_screen_run_v1_le _ | refine Le.loop (fun _ => ?_) | refine Le.forL (fun _ _ _ => ?_) | refine Le.thenC (fun _ => ?_) (fun _ => ?_) | refine Le.cond ?_ ?_ | refine Le.bind ?_ (fun _ => ?_))
def screen_less_L3F (m_2 : (List Run)) (k_3 : Nat) (x_5 : Run) (s_8 : (List Run) × Int) : Option (Ctl ((List Run) × Int) (Unit)) :=
 (loopF s_8.2 (fun s => screen_less_L1 m_2 x_5 s)).bind fun o_25 => thenC o_25 (fun s_22 => (loopF (s_8.1, s_22, x_5.f_from) (fun s => screen_less_L2 m_2 x_5 s)).bind fun o_43 => thenC o_43 (fun s_38 => (bif (decide (s_38.2.2 < x_5.f_to)) then (appL s_38.1 ([(⟨s_38.2.2, x_5.f_to⟩ : Run)] : List Run)).bind fun a_68 => some a_68 else some s_38.1).bind fun v_64 => some (.go (v_64, s_22))) (fun _ => none)) (fun _ => none)
theorem screen_less_L3_le (m_2 : (List Run)) (k_3 : Nat) (x_5 : Run) (s_8 : (List Run) × Int) : Le (screen_less_L3F m_2 k_3 x_5 s_8) (screen_less_L3 m_2 k_3 x_5 s_8) := by
 unfold screen_less_L3F screen_less_L3
 repeat' (with_reducible first | exact Le.refl _ | refine Le.loop (fun _ => ?_) | refine Le.forL (fun _ _ _ => ?_) | refine Le.thenC (fun _ => ?_) (fun _ => ?_) | refine Le.cond ?_ ?_ | refine Le.bind ?_ (fun _ => ?_))
def screen_lessF (l_1 : (List Run)) (m_2 : (List Run)) : Option ((List Run)) :=
 (forL l_1 (([] : List Run), 0) (fun k x s => screen_less_L3F m_2 k x s)).bind fun o_14 => thenC o_14 (fun s_8 => some s_8.1) (fun _ => none)
theorem screen_less_le (l_1 : (List Run)) (m_2 : (List Run)) : Le (screen_lessF l_1 m_2) (screen_less l_1 m_2) := by
 unfold screen_lessF screen_less
 repeat' (with_reducible first | exact Le.refl _ | exact screen_less_L3_le _ _ _ _ | refine Le.loop (fun _ => ?_) | refine Le.forL (fun _ _ _ => ?_) | refine Le.thenC (fun _ => ?_) (fun _ => ?_) | refine Le.cond ?_ ?_ | refine Le.bind ?_ (fun _ => ?_))
def screen_region_L3F (r_25 : (List Int)) (l_1 : (List Rect)) (m_2 : (List Rect)) (k_27 : Nat) (x_29 : Int) (s_32 : (List Rect) × (List Run) × Int) : Option (Ctl ((List Rect) × (List Run) × Int) (Unit)) :=
 (bif (decide ((w64 ((k_27 : Int) + 1)) < (r_25.length : Int))) then (screen_runsF l_1 x_29).bind fun r_45 => (screen_runsF m_2 x_29).bind fun r_47 => (screen_lessF r_45 r_47).bind fun r_49 => some r_49 else some ([] : List Run)).bind fun v_42 => (slices_Equal_screen_run_screen_run s_32.2.1 v_42).bind fun r_51 => bif r_51 then some (.go (s_32.1, s_32.2.1, s_32.2.2)) else (forL s_32.2.1 s_32.1 (fun k x s => screen_region_L2 s_32 x_29 k x s)).bind fun o_64 => thenC o_64 (fun s_59 => some (.go (s_59, v_42, x_29))) (fun _ => none)
theorem screen_region_L3_le (r_25 : (List Int)) (l_1 : (List Rect)) (m_2 : (List Rect)) (k_27 : Nat) (x_29 : Int) (s_32 : (List Rect) × (List Run) × Int) : Le (screen_region_L3F r_25 l_1 m_2 k_27 x_29 s_32) (screen_region_L3 r_25 l_1 m_2 k_27 x_29 s_32) := by
 unfold screen_region_L3F screen_region_L3
 repeat' (with_reducible first | exact Le.refl _ | exact screen_runs_le _ _ | exact screen_less_le _ _ | refine Le.loop (fun _ => ?_) | refine Le.forL (fun _ _ _ => ?_) | refine Le.thenC (fun _ => ?_) (fun _ => ?_) | refine Le.cond ?_ ?_ | refine Le.bind ?_ (fun _ => ?_))
def screen_regionF (l_1 : (List Rect)) (m_2 : (List Rect)) : Option ((List Rect)) :=
 (slices_Concat_api_Rect_api_Rect ([l_1, m_2] : List (List Rect))).bind fun r_3 => (forL r_3 ([] : List Int) (fun k x s => screen_region_L1 k x s)).bind fun o_16 => thenC o_16 (fun s_10 => (sortF s_10).bind fun r_22 => (sameL r_22 s_10).bind fun _ => (slices_Compact_int_int_v1F r_22).bind fun r_25 => (forL r_25 (([] : List Rect), ([] : List Run), 0) (fun k x s => screen_region_L3F r_25 l_1 m_2 k x s)).bind fun o_38 => thenC o_38 (fun s_32 => some s_32.1) (fun _ => none)) (fun _ => none)
theorem screen_region_le (l_1 : (List Rect)) (m_2 : (List Rect)) : Le (screen_regionF l_1 m_2) (screen_region l_1 m_2) := by
 unfold screen_regionF screen_region
 repeat' (with_reducible first | exact Le.refl _ | exact slices_Compact_int_int_v1_le _ | exact screen_region_L3_le _ _ _ _ _ _ | exact sortF_le _ | refine Le.loop (fun _ => ?_) | refine Le.forL (fun _ _ _ => ?_) | refine Le.thenC (fun _ => ?_) (fun _ => ?_) | refine Le.cond ?_ ?_ | refine Le.bind ?_ (fun _ => ?_))
def screen_AreaF (l_1 : (List Rect)) : Option (Int × Int) :=
 (screen_rectsFault l_1).bind fun r_2 => bif (r_2 != 0) then some (0, r_2) else (screen_regionF l_1 ([] : List Rect)).bind fun r_5 => (screen_area r_5).bind fun r_7 => some (r_7, 0)
theorem screen_Area_le (l_1 : (List Rect)) : Le (screen_AreaF l_1) (screen_Area l_1) := by
 unfold screen_AreaF screen_Area
 repeat' (with_reducible first | exact Le.refl _ | exact screen_region_le _ _ | refine Le.loop (fun _ => ?_) | refine Le.forL (fun _ _ _ => ?_) | refine Le.thenC (fun _ => ?_) (fun _ => ?_) | refine Le.cond ?_ ?_ | refine Le.bind ?_ (fun _ => ?_))
def kit_RisingFault_L1F (l_1 : (List ByteArray)) (k_2 : Nat) (x_4 : ByteArray) (s_7 : Unit) : Option (Ctl (Unit) (Int)) :=
 (kit_IsKeyF x_4).bind fun r_12 => bif (!r_12) then some (.ret 5) else (bif (decide ((k_2 : Int) > 0)) then (idx l_1 (w64 ((k_2 : Int) - 1))).bind fun y_18 => some (sLe x_4 y_18) else some false).bind fun v_15 => bif v_15 then some (.ret 7) else some (.go ())
theorem kit_RisingFault_L1_le (l_1 : (List ByteArray)) (k_2 : Nat) (x_4 : ByteArray) (s_7 : Unit) : Le (kit_RisingFault_L1F l_1 k_2 x_4 s_7) (kit_RisingFault_L1 l_1 k_2 x_4 s_7) := by
 unfold kit_RisingFault_L1F kit_RisingFault_L1
 repeat' (with_reducible first | exact Le.refl _ | exact kit_IsKey_le _ | refine Le.loop (fun _ => ?_) | refine Le.forL (fun _ _ _ => ?_) | refine Le.thenC (fun _ => ?_) (fun _ => ?_) | refine Le.cond ?_ ?_ | refine Le.bind ?_ (fun _ => ?_))
def kit_RisingFaultF (l_1 : (List ByteArray)) : Option (Int) :=
 (forL l_1 () (fun k x s => kit_RisingFault_L1F l_1 k x s)).bind fun o_10 => thenC o_10 (fun s_7 => some 0) (fun r => some r)
theorem kit_RisingFault_le (l_1 : (List ByteArray)) : Le (kit_RisingFaultF l_1) (kit_RisingFault l_1) := by
 unfold kit_RisingFaultF kit_RisingFault
 repeat' (with_reducible first | exact Le.refl _ | exact kit_RisingFault_L1_le _ _ _ _ | refine Le.loop (fun _ => ?_) | refine Le.forL (fun _ _ _ => ?_) | refine Le.thenC (fun _ => ?_) (fun _ => ?_) | refine Le.cond ?_ ?_ | refine Le.bind ?_ (fun _ => ?_))
def schedule_tagsFaultF (l_1 : (List ByteArray)) : Option (Int) :=
 bif (decide ((l_1.length : Int) > 20)) then some 2 else (kit_RisingFaultF l_1).bind fun r_3 => some r_3
theorem schedule_tagsFault_le (l_1 : (List ByteArray)) : Le (schedule_tagsFaultF l_1) (schedule_tagsFault l_1) := by
 unfold schedule_tagsFaultF schedule_tagsFault
 repeat' (with_reducible first | exact Le.refl _ | exact kit_RisingFault_le _ | refine Le.loop (fun _ => ?_) | refine Le.forL (fun _ _ _ => ?_) | refine Le.thenC (fun _ => ?_) (fun _ => ?_) | refine Le.cond ?_ ?_ | refine Le.bind ?_ (fun _ => ?_))
def schedule_entryFaultF (e_1 : Entry) : Option (Int) :=
 ((kit_IsKeyF e_1.Key).bind fun r_5 => bif (!r_5) then some true else (kit_IsKeyF e_1.Item).bind fun r_8 => some (!r_8)).bind fun v_3 => bif v_3 then some 5 else ((kit_Outside e_1.Version 0 1000000).bind fun r_13 => bif r_13 then some true else (kit_Outside e_1.First 0 e_1.Last).bind fun r_16 => bif r_16 then some true else bif (decide (e_1.Last > 4000)) then some true else (kit_Outside e_1.Every 1 400).bind fun r_20 => bif r_20 then some true else (kit_Outside e_1.Days 1 127).bind fun r_23 => some r_23).bind fun v_11 => bif v_11 then some 1 else (schedule_exceptFault e_1.Except).bind fun r_26 => bif (r_26 != 0) then some r_26 else ((kit_Outside e_1.From 0 1439).bind fun r_31 => bif r_31 then some true else (kit_Outside e_1.To 0 1439).bind fun r_34 => bif r_34 then some true else (kit_Outside e_1.Prio 0 9).bind fun r_37 => some r_37).bind fun v_29 => bif v_29 then some 1 else (schedule_tagsFaultF e_1.Tags).bind fun r_40 => some r_40
theorem schedule_entryFault_le (e_1 : Entry) : Le (schedule_entryFaultF e_1) (schedule_entryFault e_1) := by
 unfold schedule_entryFaultF schedule_entryFault
 repeat' (with_reducible first | exact Le.refl _ | exact kit_IsKey_le _ | exact schedule_tagsFault_le _ | refine Le.loop (fun _ => ?_) | refine Le.forL (fun _ _ _ => ?_) | refine Le.thenC (fun _ => ?_) (fun _ => ?_) | refine Le.cond ?_ ?_ | refine Le.bind ?_ (fun _ => ?_))
def schedule_CheckEntries_L1F (l_1 : (List Entry)) (k_3 : Nat) (x_5 : Entry) (s_8 : Unit) : Option (Ctl (Unit) (Int)) :=
 (schedule_entryFaultF x_5).bind fun r_14 => bif (r_14 != 0) then some (.ret r_14) else (bif (decide ((k_3 : Int) > 0)) then (idx l_1 (w64 ((k_3 : Int) - 1))).bind fun y_20 => some (sLe x_5.Key y_20.Key) else some false).bind fun v_17 => bif v_17 then some (.ret 7) else some (.go ())
theorem schedule_CheckEntries_L1_le (l_1 : (List Entry)) (k_3 : Nat) (x_5 : Entry) (s_8 : Unit) : Le (schedule_CheckEntries_L1F l_1 k_3 x_5 s_8) (schedule_CheckEntries_L1 l_1 k_3 x_5 s_8) := by
 unfold schedule_CheckEntries_L1F schedule_CheckEntries_L1
 repeat' (with_reducible first | exact Le.refl _ | exact schedule_entryFault_le _ | refine Le.loop (fun _ => ?_) | refine Le.forL (fun _ _ _ => ?_) | refine Le.thenC (fun _ => ?_) (fun _ => ?_) | refine Le.cond ?_ ?_ | refine Le.bind ?_ (fun _ => ?_))
def schedule_CheckEntriesF (l_1 : (List Entry)) : Option (Int) :=
 bif (decide ((l_1.length : Int) > 200)) then some 2 else (forL l_1 () (fun k x s => schedule_CheckEntries_L1F l_1 k x s)).bind fun o_11 => thenC o_11 (fun s_8 => some 0) (fun r => some r)
theorem schedule_CheckEntries_le (l_1 : (List Entry)) : Le (schedule_CheckEntriesF l_1) (schedule_CheckEntries l_1) := by
 unfold schedule_CheckEntriesF schedule_CheckEntries
 repeat' (with_reducible first | exact Le.refl _ | exact schedule_CheckEntries_L1_le _ _ _ _ | refine Le.loop (fun _ => ?_) | refine Le.forL (fun _ _ _ => ?_) | refine Le.thenC (fun _ => ?_) (fun _ => ?_) | refine Le.cond ?_ ?_ | refine Le.bind ?_ (fun _ => ?_))
def slices_BinarySearch_int_intF (x_1 : (List Int)) (target_2 : Int) : Option (Int × Bool) :=
 (loopF (0, (x_1.length : Int)) (fun s => slices_BinarySearch_int_int_L1 x_1 target_2 s)).bind fun o_11 => thenC o_11 (fun s_8 => (bif (decide (s_8.1 < (x_1.length : Int))) then (idx x_1 s_8.1).bind fun y_24 => bif (y_24 == target_2) then some true else (idx x_1 s_8.1).bind fun y_27 => (slices_isNaN_int y_27).bind fun r_29 => bif r_29 then (slices_isNaN_int target_2).bind fun r_32 => some r_32 else some false else some false).bind fun v_21 => some (s_8.1, v_21)) (fun _ => none)
theorem slices_BinarySearch_int_int_le (x_1 : (List Int)) (target_2 : Int) : Le (slices_BinarySearch_int_intF x_1 target_2) (slices_BinarySearch_int_int x_1 target_2) := by
 unfold slices_BinarySearch_int_intF slices_BinarySearch_int_int
 repeat' (with_reducible first | exact Le.refl _ | refine Le.loop (fun _ => ?_) | refine Le.forL (fun _ _ _ => ?_) | refine Le.thenC (fun _ => ?_) (fun _ => ?_) | refine Le.cond ?_ ?_ | refine Le.bind ?_ (fun _ => ?_))
def schedule_isDayF (e_1 : Entry) (d_2 : Int) : Option (Bool) :=
 ((kit_Outside d_2 e_1.First e_1.Last).bind fun r_6 => bif r_6 then some true else (remO .i64 (w64 (d_2 - e_1.First)) e_1.Every).bind fun q_9 => bif (q_9 != 0) then some true else (shlO .i64 1 (d_2.tmod 7)).bind fun q_12 => some ((andI .i64 e_1.Days q_12) == 0)).bind fun v_4 => bif v_4 then some false else (slices_BinarySearch_int_intF e_1.Except d_2).bind fun r_15 => some (!r_15.2)
theorem schedule_isDay_le (e_1 : Entry) (d_2 : Int) : Le (schedule_isDayF e_1 d_2) (schedule_isDay e_1 d_2) := by
 unfold schedule_isDayF schedule_isDay
 repeat' (with_reducible first | exact Le.refl _ | exact slices_BinarySearch_int_int_le _ _ | refine Le.loop (fun _ => ?_) | refine Le.forL (fun _ _ _ => ?_) | refine Le.thenC (fun _ => ?_) (fun _ => ?_) | refine Le.cond ?_ ?_ | refine Le.bind ?_ (fun _ => ?_))
def schedule_times_L1F (wv_3 : Window) (zone_2 : Int) (e_1 : Entry) (s_15 : (List Window) × Int) : Option (Ctl ((List Window) × Int) (Unit)) :=
 bif (decide (s_15.2 ≤ (minI (w64 ((w64 ((w64 (wv_3.To + (w64 (zone_2 * 60000)))).tdiv 86400000)) + 1)) e_1.Last))) then (schedule_isDayF e_1 s_15.2).bind fun r_24 => bif (!r_24) then some (.go (s_15.1, (w64 (s_15.2 + 1)))) else (schedule_timeOf e_1 zone_2 s_15.2).bind fun r_27 => (bif (decide (r_27.From < wv_3.To)) then some (decide (r_27.To > wv_3.From)) else some false).bind fun v_30 => (bif v_30 then (appL s_15.1 ([r_27] : List Window)).bind fun a_37 => some a_37 else some s_15.1).bind fun v_33 => some (.go (v_33, (w64 (s_15.2 + 1)))) else some (.brk (s_15.1, s_15.2))
theorem schedule_times_L1_le (wv_3 : Window) (zone_2 : Int) (e_1 : Entry) (s_15 : (List Window) × Int) : Le (schedule_times_L1F wv_3 zone_2 e_1 s_15) (schedule_times_L1 wv_3 zone_2 e_1 s_15) := by
 unfold schedule_times_L1F schedule_times_L1
 repeat' (with_reducible first | exact Le.refl _ | exact schedule_isDay_le _ _ | refine Le.loop (fun _ => ?_) | refine Le.forL (fun _ _ _ => ?_) | refine Le.thenC (fun _ => ?_) (fun _ => ?_) | refine Le.cond ?_ ?_ | refine Le.bind ?_ (fun _ => ?_))
def schedule_timesF (e_1 : Entry) (zone_2 : Int) (wv_3 : Window) : Option ((List Window)) :=
 (bif e_1.Gone then some true else some (decide (wv_3.From ≥ wv_3.To))).bind fun v_6 => bif v_6 then some ([] : (List Window)) else (loopF (([] : List Window), (maxI (w64 ((w64 ((w64 (wv_3.From + (w64 (zone_2 * 60000)))).tdiv 86400000)) - 2)) e_1.First)) (fun s => schedule_times_L1F wv_3 zone_2 e_1 s)).bind fun o_21 => thenC o_21 (fun s_15 => some s_15.1) (fun _ => none)
theorem schedule_times_le (e_1 : Entry) (zone_2 : Int) (wv_3 : Window) : Le (schedule_timesF e_1 zone_2 wv_3) (schedule_times e_1 zone_2 wv_3) := by
 unfold schedule_timesF schedule_times
 repeat' (with_reducible first | exact Le.refl _ | exact schedule_times_L1_le _ _ _ _ | refine Le.loop (fun _ => ?_) | refine Le.forL (fun _ _ _ => ?_) | refine Le.thenC (fun _ => ?_) (fun _ => ?_) | refine Le.cond ?_ ?_ | refine Le.bind ?_ (fun _ => ?_))
def schedule_TimesF (e_1 : Entry) (zone_2 : Int) (wv_3 : Window) : Option ((List Window) × Int) :=
 (schedule_CheckEntriesF ([e_1] : List Entry)).bind fun r_6 => bif (r_6 != 0) then some (([] : (List Window)), r_6) else (kit_Outside zone_2 (-1440) 1440).bind fun r_9 => bif r_9 then some (([] : (List Window)), 1) else (schedule_windowFault wv_3).bind fun r_12 => bif (r_12 != 0) then some (([] : (List Window)), r_12) else (schedule_timesF e_1 zone_2 wv_3).bind fun r_15 => (forL (List.range ((r_15.length : Int)).toNat) r_15 (fun k x s => schedule_Times_L1 wv_3 k x s)).bind fun o_27 => thenC o_27 (fun s_24 => some (s_24, 0)) (fun _ => none)
theorem schedule_Times_le (e_1 : Entry) (zone_2 : Int) (wv_3 : Window) : Le (schedule_TimesF e_1 zone_2 wv_3) (schedule_Times e_1 zone_2 wv_3) := by
 unfold schedule_TimesF schedule_Times
 repeat' (with_reducible first | exact Le.refl _ | exact schedule_CheckEntries_le _ | exact schedule_times_le _ _ _ | refine Le.loop (fun _ => ?_) | refine Le.forL (fun _ _ _ => ?_) | refine Le.thenC (fun _ => ?_) (fun _ => ?_) | refine Le.cond ?_ ?_ | refine Le.bind ?_ (fun _ => ?_))
def booking_tagsFaultF (l_1 : (List ByteArray)) : Option (Int) :=
 bif (decide ((l_1.length : Int) > 20)) then some 2 else (kit_RisingFaultF l_1).bind fun r_3 => some r_3
theorem booking_tagsFault_le (l_1 : (List ByteArray)) : Le (booking_tagsFaultF l_1) (booking_tagsFault l_1) := by
 unfold booking_tagsFaultF booking_tagsFault
 repeat' (with_reducible first | exact Le.refl _ | exact kit_RisingFault_le _ | refine Le.loop (fun _ => ?_) | refine Le.forL (fun _ _ _ => ?_) | refine Le.thenC (fun _ => ?_) (fun _ => ?_) | refine Le.cond ?_ ?_ | refine Le.bind ?_ (fun _ => ?_))
def booking_CheckCampaigns_L1F (l_1 : (List Campaign)) (k_3 : Nat) (x_5 : Campaign) (s_8 : Unit) : Option (Ctl (Unit) (Int)) :=
 ((kit_IsKeyF x_5.Key).bind fun r_16 => bif (!r_16) then some true else bif (sNe x_5.Class (⟨#[]⟩ : ByteArray)) then (kit_IsKeyF x_5.Class).bind fun r_20 => some (!r_20) else some false).bind fun v_14 => bif v_14 then some (.ret 5) else (bif (decide ((k_3 : Int) > 0)) then (idx l_1 (w64 ((k_3 : Int) - 1))).bind fun y_26 => some (sLe x_5.Key y_26.Key) else some false).bind fun v_23 => bif v_23 then some (.ret 7) else ((booking_isTime x_5.Time).bind fun r_31 => bif (!r_31) then some true else (kit_Outside x_5.Goal 0 1000000).bind fun r_34 => bif r_34 then some true else (kit_Outside x_5.Most 0 1000000).bind fun r_37 => bif r_37 then some true else (kit_Outside x_5.Cents 0 1000000000).bind fun r_40 => some r_40).bind fun v_29 => bif v_29 then some (.ret 1) else (booking_tagsFaultF x_5.Tags).bind fun r_43 => bif (r_43 != 0) then some (.ret r_43) else some (.go ())
theorem booking_CheckCampaigns_L1_le (l_1 : (List Campaign)) (k_3 : Nat) (x_5 : Campaign) (s_8 : Unit) : Le (booking_CheckCampaigns_L1F l_1 k_3 x_5 s_8) (booking_CheckCampaigns_L1 l_1 k_3 x_5 s_8) := by
 unfold booking_CheckCampaigns_L1F booking_CheckCampaigns_L1
 repeat' (with_reducible first | exact Le.refl _ | exact kit_IsKey_le _ | exact booking_tagsFault_le _ | refine Le.loop (fun _ => ?_) | refine Le.forL (fun _ _ _ => ?_) | refine Le.thenC (fun _ => ?_) (fun _ => ?_) | refine Le.cond ?_ ?_ | refine Le.bind ?_ (fun _ => ?_))
def booking_CheckCampaignsF (l_1 : (List Campaign)) : Option (Int) :=
 bif (decide ((l_1.length : Int) > 30)) then some 2 else (forL l_1 () (fun k x s => booking_CheckCampaigns_L1F l_1 k x s)).bind fun o_11 => thenC o_11 (fun s_8 => some 0) (fun r => some r)
theorem booking_CheckCampaigns_le (l_1 : (List Campaign)) : Le (booking_CheckCampaignsF l_1) (booking_CheckCampaigns l_1) := by
 unfold booking_CheckCampaignsF booking_CheckCampaigns
 repeat' (with_reducible first | exact Le.refl _ | exact booking_CheckCampaigns_L1_le _ _ _ _ | refine Le.loop (fun _ => ?_) | refine Le.forL (fun _ _ _ => ?_) | refine Le.thenC (fun _ => ?_) (fun _ => ?_) | refine Le.cond ?_ ?_ | refine Le.bind ?_ (fun _ => ?_))
def booking_DueF (c_1 : Campaign) (atv_2 : Int) : Option (Int × Int) :=
 (booking_CheckCampaignsF ([c_1] : List Campaign)).bind fun r_4 => bif (r_4 != 0) then some (0, r_4) else (kit_IsMoment atv_2).bind fun r_7 => bif (!r_7) then some (0, 1) else (booking_due c_1 atv_2).bind fun r_10 => some (r_10, 0)
theorem booking_Due_le (c_1 : Campaign) (atv_2 : Int) : Le (booking_DueF c_1 atv_2) (booking_Due c_1 atv_2) := by
 unfold booking_DueF booking_Due
 repeat' (with_reducible first | exact Le.refl _ | exact booking_CheckCampaigns_le _ | refine Le.loop (fun _ => ?_) | refine Le.forL (fun _ _ _ => ?_) | refine Le.thenC (fun _ => ?_) (fun _ => ?_) | refine Le.cond ?_ ?_ | refine Le.bind ?_ (fun _ => ?_))
def proof_CheckBeats_L1F (l_1 : (List Beat)) (k_3 : Nat) (x_5 : Beat) (s_8 : Unit) : Option (Ctl (Unit) (Int)) :=
 (kit_IsKeyF x_5.Player).bind fun r_14 => bif (!r_14) then some (.ret 5) else ((kit_IsMoment x_5.At).bind fun r_19 => bif (!r_19) then some true else (kit_Outside x_5.Clock 0 345686399999).bind fun r_22 => some r_22).bind fun v_17 => bif v_17 then some (.ret 1) else (bif (decide ((k_3 : Int) > 0)) then (idx l_1 (w64 ((k_3 : Int) - 1))).bind fun y_28 => (proof_compareBeats y_28 x_5).bind fun r_30 => some (decide (r_30 ≥ 0)) else some false).bind fun v_25 => bif v_25 then some (.ret 7) else (bif (decide ((k_3 : Int) > 0)) then (idx l_1 (w64 ((k_3 : Int) - 1))).bind fun y_36 => bif (sEq x_5.Player y_36.Player) then (idx l_1 (w64 ((k_3 : Int) - 1))).bind fun y_39 => some (decide (x_5.Clock ≤ y_39.Clock)) else some false else some false).bind fun v_33 => bif v_33 then some (.ret 16) else some (.go ())
theorem proof_CheckBeats_L1_le (l_1 : (List Beat)) (k_3 : Nat) (x_5 : Beat) (s_8 : Unit) : Le (proof_CheckBeats_L1F l_1 k_3 x_5 s_8) (proof_CheckBeats_L1 l_1 k_3 x_5 s_8) := by
 unfold proof_CheckBeats_L1F proof_CheckBeats_L1
 repeat' (with_reducible first | exact Le.refl _ | exact kit_IsKey_le _ | refine Le.loop (fun _ => ?_) | refine Le.forL (fun _ _ _ => ?_) | refine Le.thenC (fun _ => ?_) (fun _ => ?_) | refine Le.cond ?_ ?_ | refine Le.bind ?_ (fun _ => ?_))
def proof_CheckBeatsF (l_1 : (List Beat)) : Option (Int) :=
 bif (decide ((l_1.length : Int) > 500)) then some 2 else (forL l_1 () (fun k x s => proof_CheckBeats_L1F l_1 k x s)).bind fun o_11 => thenC o_11 (fun s_8 => some 0) (fun r => some r)
theorem proof_CheckBeats_le (l_1 : (List Beat)) : Le (proof_CheckBeatsF l_1) (proof_CheckBeats l_1) := by
 unfold proof_CheckBeatsF proof_CheckBeats
 repeat' (with_reducible first | exact Le.refl _ | exact proof_CheckBeats_L1_le _ _ _ _ | refine Le.loop (fun _ => ?_) | refine Le.forL (fun _ _ _ => ?_) | refine Le.thenC (fun _ => ?_) (fun _ => ?_) | refine Le.cond ?_ ?_ | refine Le.bind ?_ (fun _ => ?_))
def proof_mappedF (l_1 : (List Beat_)) (n_2 : Int) : Option (Int × Int) :=
 bif ((l_1.length : Int) == 0) then some (0, 8) else (loopF 0 (fun s => proof_mapped_L1 l_1 n_2 s)).bind fun o_12 => thenC o_12 (fun s_9 => bif (s_9 == 0) then (idx l_1 0).bind fun y_21 => (idx l_1 0).bind fun y_23 => (kit_IsMoment (w64 (y_21.f_to - (w64 (y_23.f_from - n_2))))).bind fun r_25 => bif (!r_25) then some (0, 11) else some ((w64 (y_21.f_to - (w64 (y_23.f_from - n_2)))), 0) else bif (s_9 == (l_1.length : Int)) then (idx l_1 (w64 (s_9 - 1))).bind fun y_29 => (idx l_1 (w64 (s_9 - 1))).bind fun y_31 => (kit_IsMoment (w64 ((w64 (y_29.f_to + n_2)) - y_31.f_from))).bind fun r_33 => bif (!r_33) then some (0, 11) else some ((w64 ((w64 (y_29.f_to + n_2)) - y_31.f_from)), 0) else (idx l_1 (w64 (s_9 - 1))).bind fun y_36 => (idx l_1 s_9).bind fun y_38 => (bif (decide ((w64 (y_38.f_from - y_36.f_from)) > 2592000000)) then some true else some (decide ((w64 (y_38.f_to - y_36.f_to)) > 2592000000))).bind fun v_42 => bif v_42 then some (0, 2) else (quoO .i64 (w64 ((w64 (n_2 - y_36.f_from)) * (w64 (y_38.f_to - y_36.f_to)))) (w64 (y_38.f_from - y_36.f_from))).bind fun q_46 => (kit_IsMoment (w64 (y_36.f_to + q_46))).bind fun r_48 => bif (!r_48) then some (0, 11) else some ((w64 (y_36.f_to + q_46)), 0)) (fun _ => none)
theorem proof_mapped_le (l_1 : (List Beat_)) (n_2 : Int) : Le (proof_mappedF l_1 n_2) (proof_mapped l_1 n_2) := by
 unfold proof_mappedF proof_mapped
 repeat' (with_reducible first | exact Le.refl _ | refine Le.loop (fun _ => ?_) | refine Le.forL (fun _ _ _ => ?_) | refine Le.thenC (fun _ => ?_) (fun _ => ?_) | refine Le.cond ?_ ?_ | refine Le.bind ?_ (fun _ => ?_))
def proof_askedF (l_1 : (List Beat)) (player_2 : ByteArray) (n_3 : Int) (back_4 : Bool) : Option (Int × Int) :=
 (proof_CheckBeatsF l_1).bind fun r_5 => bif (r_5 != 0) then some (0, r_5) else (kit_IsKeyF player_2).bind fun r_8 => bif (!r_8) then some (0, 5) else (kit_IsMoment n_3).bind fun r_11 => bif (!r_11) then some (0, 1) else (proof_beatsOf l_1 player_2 back_4).bind fun r_14 => (proof_mappedF r_14 n_3).bind fun r_16 => some (r_16.1, r_16.2)
theorem proof_asked_le (l_1 : (List Beat)) (player_2 : ByteArray) (n_3 : Int) (back_4 : Bool) : Le (proof_askedF l_1 player_2 n_3 back_4) (proof_asked l_1 player_2 n_3 back_4) := by
 unfold proof_askedF proof_asked
 repeat' (with_reducible first | exact Le.refl _ | exact kit_IsKey_le _ | exact proof_CheckBeats_le _ | exact proof_mapped_le _ _ | refine Le.loop (fun _ => ?_) | refine Le.forL (fun _ _ _ => ?_) | refine Le.thenC (fun _ => ?_) (fun _ => ?_) | refine Le.cond ?_ ?_ | refine Le.bind ?_ (fun _ => ?_))
def proof_RightF (l_1 : (List Beat)) (player_2 : ByteArray) (clock_3 : Int) : Option (Int × Int) :=
 (proof_askedF l_1 player_2 clock_3 false).bind fun r_4 => some (r_4.1, r_4.2)
theorem proof_Right_le (l_1 : (List Beat)) (player_2 : ByteArray) (clock_3 : Int) : Le (proof_RightF l_1 player_2 clock_3) (proof_Right l_1 player_2 clock_3) := by
 unfold proof_RightF proof_Right
 repeat' (with_reducible first | exact Le.refl _ | exact proof_asked_le _ _ _ _ | refine Le.loop (fun _ => ?_) | refine Le.forL (fun _ _ _ => ?_) | refine Le.thenC (fun _ => ?_) (fun _ => ?_) | refine Le.cond ?_ ?_ | refine Le.bind ?_ (fun _ => ?_))
def alert_refsFault_L1F (a_1 : Alert) (k_4 : Nat) (x_6 : ByteArray) (s_9 : Unit) : Option (Ctl (Unit) (Int)) :=
 (kit_IsKeyF x_6).bind fun r_14 => bif (!r_14) then some (.ret 5) else (bif (decide ((k_4 : Int) > 0)) then (idx a_1.Refs (w64 ((k_4 : Int) - 1))).bind fun y_20 => some (sLe x_6 y_20) else some false).bind fun v_17 => bif v_17 then some (.ret 7) else bif (sEq x_6 a_1.Id) then some (.ret 14) else some (.go ())
theorem alert_refsFault_L1_le (a_1 : Alert) (k_4 : Nat) (x_6 : ByteArray) (s_9 : Unit) : Le (alert_refsFault_L1F a_1 k_4 x_6 s_9) (alert_refsFault_L1 a_1 k_4 x_6 s_9) := by
 unfold alert_refsFault_L1F alert_refsFault_L1
 repeat' (with_reducible first | exact Le.refl _ | exact kit_IsKey_le _ | refine Le.loop (fun _ => ?_) | refine Le.forL (fun _ _ _ => ?_) | refine Le.thenC (fun _ => ?_) (fun _ => ?_) | refine Le.cond ?_ ?_ | refine Le.bind ?_ (fun _ => ?_))
def alert_refsFaultF (a_1 : Alert) : Option (Int) :=
 bif (decide ((a_1.Refs.length : Int) > 20)) then some 2 else (forL a_1.Refs () (fun k x s => alert_refsFault_L1F a_1 k x s)).bind fun o_12 => thenC o_12 (fun s_9 => bif (!((a_1.Kind == 1) == ((a_1.Refs.length : Int) == 0))) then some 3 else some 0) (fun r => some r)
theorem alert_refsFault_le (a_1 : Alert) : Le (alert_refsFaultF a_1) (alert_refsFault a_1) := by
 unfold alert_refsFaultF alert_refsFault
 repeat' (with_reducible first | exact Le.refl _ | exact alert_refsFault_L1_le _ _ _ _ | refine Le.loop (fun _ => ?_) | refine Le.forL (fun _ _ _ => ?_) | refine Le.thenC (fun _ => ?_) (fun _ => ?_) | refine Le.cond ?_ ?_ | refine Le.bind ?_ (fun _ => ?_))
def alert_alertFaultF (a_1 : Alert) : Option (Int) :=
 ((kit_IsKeyF a_1.Id).bind fun r_5 => bif (!r_5) then some true else (kit_IsKeyF a_1.Sender).bind fun r_8 => some (!r_8)).bind fun v_3 => bif v_3 then some 5 else (kit_Outside a_1.Kind 1 3).bind fun r_11 => bif r_11 then some 4 else (alert_refsFaultF a_1).bind fun r_14 => bif (r_14 != 0) then some r_14 else ((kit_IsMoment a_1.At).bind fun r_19 => bif (!r_19) then some true else (kit_Outside a_1.Until (w64 (a_1.At + 1)) (w64 (a_1.At + 2592000000))).bind fun r_22 => bif r_22 then some true else (kit_Outside a_1.Weight 1 9).bind fun r_25 => some r_25).bind fun v_17 => bif v_17 then some 1 else bif (decide ((a_1.Areas.length : Int) > 20)) then some 2 else (forL a_1.Areas () (fun k x s => alert_alertFault_L1 k x s)).bind fun o_37 => thenC o_37 (fun s_34 => bif (!((a_1.Kind == 3) == ((a_1.Areas.length : Int) == 0))) then some 3 else bif (decide ((a_1.Text.size : Int) > 500)) then some 2 else ((kit_IsPlainF a_1.Text).bind fun r_47 => bif (!r_47) then some true else bif (sEq a_1.Text (⟨#[]⟩ : ByteArray)) then some (!(a_1.Kind == 3)) else some false).bind fun v_45 => bif v_45 then some 3 else some 0) (fun r => some r)
theorem alert_alertFault_le (a_1 : Alert) : Le (alert_alertFaultF a_1) (alert_alertFault a_1) := by
 unfold alert_alertFaultF alert_alertFault
 repeat' (with_reducible first | exact Le.refl _ | exact kit_IsKey_le _ | exact alert_refsFault_le _ | exact kit_IsPlain_le _ | exact kit_IsPlainF_le _ | refine Le.loop (fun _ => ?_) | refine Le.forL (fun _ _ _ => ?_) | refine Le.thenC (fun _ => ?_) (fun _ => ?_) | refine Le.cond ?_ ?_ | refine Le.bind ?_ (fun _ => ?_))
def alert_CheckAlerts_L1F (l_1 : (List Alert)) (k_3 : Nat) (x_5 : Alert) (s_8 : Unit) : Option (Ctl (Unit) (Int)) :=
 (alert_alertFaultF x_5).bind fun r_14 => bif (r_14 != 0) then some (.ret r_14) else (bif (decide ((k_3 : Int) > 0)) then (idx l_1 (w64 ((k_3 : Int) - 1))).bind fun y_20 => (alert_compare y_20 x_5).bind fun r_22 => some (decide (r_22 ≥ 0)) else some false).bind fun v_17 => bif v_17 then some (.ret 7) else some (.go ())
theorem alert_CheckAlerts_L1_le (l_1 : (List Alert)) (k_3 : Nat) (x_5 : Alert) (s_8 : Unit) : Le (alert_CheckAlerts_L1F l_1 k_3 x_5 s_8) (alert_CheckAlerts_L1 l_1 k_3 x_5 s_8) := by
 unfold alert_CheckAlerts_L1F alert_CheckAlerts_L1
 repeat' (with_reducible first | exact Le.refl _ | exact alert_alertFault_le _ | refine Le.loop (fun _ => ?_) | refine Le.forL (fun _ _ _ => ?_) | refine Le.thenC (fun _ => ?_) (fun _ => ?_) | refine Le.cond ?_ ?_ | refine Le.bind ?_ (fun _ => ?_))
def alert_CheckAlertsF (l_1 : (List Alert)) : Option (Int) :=
 bif (decide ((l_1.length : Int) > 300)) then some 2 else (forL l_1 () (fun k x s => alert_CheckAlerts_L1F l_1 k x s)).bind fun o_11 => thenC o_11 (fun s_8 => (forL l_1 ([] : List (ByteArray × Bool)) (fun k x s => alert_CheckAlerts_L2 k x s)).bind fun o_34 => thenC o_34 (fun s_31 => some 0) (fun r => some r)) (fun r => some r)
theorem alert_CheckAlerts_le (l_1 : (List Alert)) : Le (alert_CheckAlertsF l_1) (alert_CheckAlerts l_1) := by
 unfold alert_CheckAlertsF alert_CheckAlerts
 repeat' (with_reducible first | exact Le.refl _ | exact alert_CheckAlerts_L1_le _ _ _ _ | refine Le.loop (fun _ => ?_) | refine Le.forL (fun _ _ _ => ?_) | refine Le.thenC (fun _ => ?_) (fun _ => ?_) | refine Le.cond ?_ ?_ | refine Le.bind ?_ (fun _ => ?_))
def alert_CheckPosts_L1F (l_1 : (List Post)) (k_3 : Nat) (x_5 : Post) (s_8 : Unit) : Option (Ctl (Unit) (Int)) :=
 (kit_IsKeyF x_5.Player).bind fun r_14 => bif (!r_14) then some (.ret 5) else ((kit_Outside x_5.X (-100000) 100000).bind fun r_19 => bif r_19 then some true else (kit_Outside x_5.Y (-100000) 100000).bind fun r_22 => some r_22).bind fun v_17 => bif v_17 then some (.ret 1) else (bif (decide ((k_3 : Int) > 0)) then (idx l_1 (w64 ((k_3 : Int) - 1))).bind fun y_28 => some (sLe x_5.Player y_28.Player) else some false).bind fun v_25 => bif v_25 then some (.ret 7) else some (.go ())
theorem alert_CheckPosts_L1_le (l_1 : (List Post)) (k_3 : Nat) (x_5 : Post) (s_8 : Unit) : Le (alert_CheckPosts_L1F l_1 k_3 x_5 s_8) (alert_CheckPosts_L1 l_1 k_3 x_5 s_8) := by
 unfold alert_CheckPosts_L1F alert_CheckPosts_L1
 repeat' (with_reducible first | exact Le.refl _ | exact kit_IsKey_le _ | refine Le.loop (fun _ => ?_) | refine Le.forL (fun _ _ _ => ?_) | refine Le.thenC (fun _ => ?_) (fun _ => ?_) | refine Le.cond ?_ ?_ | refine Le.bind ?_ (fun _ => ?_))
def alert_CheckPostsF (l_1 : (List Post)) : Option (Int) :=
 bif (decide ((l_1.length : Int) > 500)) then some 2 else (forL l_1 () (fun k x s => alert_CheckPosts_L1F l_1 k x s)).bind fun o_11 => thenC o_11 (fun s_8 => some 0) (fun r => some r)
theorem alert_CheckPosts_le (l_1 : (List Post)) : Le (alert_CheckPostsF l_1) (alert_CheckPosts l_1) := by
 unfold alert_CheckPostsF alert_CheckPosts
 repeat' (with_reducible first | exact Le.refl _ | exact alert_CheckPosts_L1_le _ _ _ _ | refine Le.loop (fun _ => ?_) | refine Le.forL (fun _ _ _ => ?_) | refine Le.thenC (fun _ => ?_) (fun _ => ?_) | refine Le.cond ?_ ?_ | refine Le.bind ?_ (fun _ => ?_))
def alert_checkBothF (l_1 : (List Alert)) (posts_2 : (List Post)) : Option (Int) :=
 (alert_CheckAlertsF l_1).bind fun r_3 => bif (r_3 != 0) then some r_3 else (alert_CheckPostsF posts_2).bind fun r_6 => some r_6
theorem alert_checkBoth_le (l_1 : (List Alert)) (posts_2 : (List Post)) : Le (alert_checkBothF l_1 posts_2) (alert_checkBoth l_1 posts_2) := by
 unfold alert_checkBothF alert_checkBoth
 repeat' (with_reducible first | exact Le.refl _ | exact alert_CheckAlerts_le _ | exact alert_CheckPosts_le _ | refine Le.loop (fun _ => ?_) | refine Le.forL (fun _ _ _ => ?_) | refine Le.thenC (fun _ => ?_) (fun _ => ?_) | refine Le.cond ?_ ?_ | refine Le.bind ?_ (fun _ => ?_))
def alert_ReachesF (a_1 : Alert) (p_2 : Post) : Option (Bool × Int) :=
 (alert_checkBothF ([a_1] : List Alert) ([p_2] : List Post)).bind fun r_5 => bif (r_5 != 0) then some (false, r_5) else (alert_reaches a_1 p_2).bind fun r_8 => some (r_8, 0)
theorem alert_Reaches_le (a_1 : Alert) (p_2 : Post) : Le (alert_ReachesF a_1 p_2) (alert_Reaches a_1 p_2) := by
 unfold alert_ReachesF alert_Reaches
 repeat' (with_reducible first | exact Le.refl _ | exact alert_checkBoth_le _ _ | refine Le.loop (fun _ => ?_) | refine Le.forL (fun _ _ _ => ?_) | refine Le.thenC (fun _ => ?_) (fun _ => ?_) | refine Le.cond ?_ ?_ | refine Le.bind ?_ (fun _ => ?_))
def keep_readyF  : Option (Bool) :=
 (screen_AreaF ([(⟨0, 0, 2, 2⟩ : Rect), (⟨1, 1, 2, 2⟩ : Rect)] : List Rect)).bind fun r_1 => (schedule_TimesF (⟨(⟨#[97]⟩ : ByteArray), (⟨#[98]⟩ : ByteArray), 0, 0, 0, 1, 127, ([] : List Int), 1, 2, 0, ([] : List ByteArray), false⟩ : Entry) 0 (⟨0, 86400000⟩ : Window)).bind fun r_3 => (booking_DueF (⟨(⟨#[97]⟩ : ByteArray), (⟨#[]⟩ : ByteArray), (⟨0, 100⟩ : Window), ([] : List ByteArray), 10, 0, 0⟩ : Campaign) 50).bind fun r_5 => (proof_RightF ([(⟨(⟨#[112]⟩ : ByteArray), 0, 100⟩ : Beat), (⟨(⟨#[112]⟩ : ByteArray), 1000, 1300⟩ : Beat)] : List Beat) (⟨#[112]⟩ : ByteArray) 700).bind fun r_7 => (alert_ReachesF (⟨(⟨#[97]⟩ : ByteArray), (⟨#[115]⟩ : ByteArray), 1, ([] : List ByteArray), 0, 5, 1, ([(⟨0, 0, 2, 2⟩ : Rect)] : List Rect), (⟨#[120]⟩ : ByteArray)⟩ : Alert) (⟨(⟨#[112]⟩ : ByteArray), 1, 1⟩ : Post)).bind fun r_10 => ((keep_errs ([r_1.2, r_3.2, r_5.2, r_7.2, r_10.2] : List Int)).bind fun r_14 => bif (r_14 == 0) then bif (r_1.1 == 7) then bif ((r_3.1.length : Int) == 1) then bif (r_5.1 == 5) then bif (r_7.1 == 500) then some r_10.1 else some false else some false else some false else some false else some false).bind fun v_12 => some v_12
theorem keep_ready_le  : Le (keep_readyF) (keep_ready) := by
 unfold keep_readyF keep_ready
 repeat' (with_reducible first | exact Le.refl _ | exact screen_Area_le _ | exact schedule_Times_le _ _ _ | exact booking_Due_le _ _ | exact proof_Right_le _ _ _ | exact alert_Reaches_le _ _ | refine Le.loop (fun _ => ?_) | refine Le.forL (fun _ _ _ => ?_) | refine Le.thenC (fun _ => ?_) (fun _ => ?_) | refine Le.cond ?_ ?_ | refine Le.bind ?_ (fun _ => ?_))
end Go.Proofs.YtpojeclokolkaaaGreatDoor.Law

open Go Go.Eng
namespace Go.Proofs.YtpojeclokolkaaaGreatDoor.Law
set_option linter.unusedVariables false
set_option maxRecDepth 100000
theorem ready_F : keep_readyF = some true := by kernel_rfl
theorem ready_ok : keep_ready = some true := keep_ready_le _ ready_F
end Go.Proofs.YtpojeclokolkaaaGreatDoor.Law

open Go Go.Eng
namespace Go.Proofs.YtpojeclokolkaaaGreatDoor.Law
set_option linter.unusedVariables false
set_option linter.unusedSimpArgs false
theorem idxS_run (l : List ByteArray) (v : ByteArray) (hl : l.length ≤ 1000000) : slices_Contains_string_string l v = some (decide (v ∈ l)) := by
 unfold slices_Contains_string_string slices_Index_string_string
 rw [forL_eq (by omega)]
 rcases first_at (f := fun x => some (sEq v x)) (p := fun x => sEq v x) (B := fun k x s => slices_Index_string_string_L1 v k x s) (fun k x => rfl) l 0 (fun x _ => rfl) with ⟨h1, h2⟩ | ⟨j, x, h1, h2, _, h4, _⟩
 ·rw [h2]
  have : v ∉ l := fun hm => by
   have : l.any (fun x => sEq v x) = true := List.any_eq_true.2 ⟨v, hm, (sEq_iff v v).2 rfl⟩
   rw [h1] at this; cases this
  rw [decide_eq_false this]; rfl
 ·rw [h4]
  have : v ∈ l := by rw [(sEq_iff _ _).1 h2]; exact List.mem_of_getElem? h1
  rw [decide_eq_true this]
  simp only [Option.bind_some, thenC]
  rw [decide_eq_true (by omega)]
theorem spot_0 {l : List Alert} {n : Nat} (h : RAlerts l n) (hn : n ≤ 12) {p : Post} (hp : RightPo p) {t : Int} (ht : momB t = true) : alert_spotFault l p t = some 0 := by
 unfold alert_spotFault
 rw [checkBoth_0 h (by omega) hp, Option.bind_some, bne_self_eq_false, cond_false, momF_eq, ht]; rfl
theorem errs3_0 : keep_errs [0, 0, 0] = some 0 := by rfl
theorem where_one {l : List Alert} {n : Nat} (h : RAlerts l n) (hn : n ≤ 12) {px py : Int} (hp : RightPo ⟨⟨#[112, 97]⟩, px, py⟩) (s1 s2 : Stream) (t : Int) {k : Nat} {x : Alert} (hx : x ∈ l) : keep_AlertsWhereTheyShould_L1 (px, s1) (py, s2) ((rankS l px py t).map (·.Id), 0) ((l.filter (onB l t)).map (·.Id), 0) k x () = some (.go ()) := by
 have hl := h.len
 have h1 := rank_len l px py t
 have h2 := List.length_filter_le (onB l t) l
 unfold keep_AlertsWhereTheyShould_L1
 simp only []
 rw [Reaches_ok (h.right x hx) hp, Option.bind_some]
 simp only [bne_self_eq_false, cond_false]
 rw [idxS_run _ _ (by rw [List.length_map]; omega), idxS_run _ _ (by rw [List.length_map]; omega)]
 have e1 : decide (x.Id ∈ (rankS l px py t).map (·.Id)) = (onB l t x && hasB x.Areas px py) := by
  rw [Bool.eq_iff_iff, decide_eq_true_eq, rank_mem h.ids hx, Bool.and_eq_true]
 have e2 : decide (x.Id ∈ (l.filter (onB l t)).map (·.Id)) = onB l t x := by
  rw [Bool.eq_iff_iff, decide_eq_true_eq, force_mem h.ids hx]
 rw [e1, e2]
 cases onB l t x <;> cases hasB x.Areas px py <;> rfl
theorem slot_find {f : Int → ByteArray} {F T : Int} {sl : List Slot_} (hT : Tiles f T F sl) (hl : sl.length ≤ 1000000) (t : Int) : (slices_IndexFunc_api_Slot_api_Slot sl (fun x0 => keep_AlertsWhereTheyShould_1 x0 t) = some (-1) ∧ ¬ (F ≤ t ∧ t < T)) ∨ ∃ (j : Nat) (x : Slot_), slices_IndexFunc_api_Slot_api_Slot sl (fun x0 => keep_AlertsWhereTheyShould_1 x0 t) = some (j : Int) ∧ sl[j]? = some x ∧ (F ≤ t ∧ t < T) ∧ x.Entry = f t := by
 obtain ⟨a1, a2⟩ := hT.at
 unfold slices_IndexFunc_api_Slot_api_Slot
 rw [forL_eq (by omega)]
 rcases first_at (f := fun x0 => keep_AlertsWhereTheyShould_1 x0 t) (p := fun (x : Slot_) => decide (x.Time.From ≤ t) && decide (t < x.Time.To)) (B := fun k x s => slices_IndexFunc_api_Slot_api_Slot_L1 (fun x0 => keep_AlertsWhereTheyShould_1 x0 t) k x s) (fun k x => rfl) sl 0 (fun x _ => by
  unfold keep_AlertsWhereTheyShould_1
  cases decide (x.Time.From ≤ t) <;> rfl) with ⟨h1, h2⟩ | ⟨j, x, h1, h2, _, h4, _⟩
 ·rw [h2]
  refine .inl ⟨rfl, fun ⟨q1, q2⟩ => ?_⟩
  obtain ⟨x, hx, q3, q4⟩ := a2 t q1 q2
  have : sl.any (fun (x : Slot_) => decide (x.Time.From ≤ t) && decide (t < x.Time.To)) = true := List.any_eq_true.2 ⟨x, hx, by rw [decide_eq_true q3, decide_eq_true q4]; rfl⟩
  rw [h1] at this; cases this
 ·rw [h4]
  have hm := List.mem_of_getElem? h1
  simp only [Bool.and_eq_true, decide_eq_true_eq] at h2
  obtain ⟨b1, b2, b3, b4⟩ := a1 x hm
  exact .inr ⟨j, x, by simp only [Option.bind_some, thenC, Nat.zero_add], h1, ⟨by omega, by omega⟩, (b4 t h2.1 h2.2).symm⟩
theorem first_0 (l : List Alert) (px py a : Int) : (bif (!((!(rankS l px py a).isEmpty) == (decide ((((rankS l px py a).map (·.Id)).length : Int) > 0)))) then some true else bif (!(rankS l px py a).isEmpty) then (idx ((rankS l px py a).map (·.Id)) 0).bind fun y_50 => some (sNe y_50 (shownL l px py a)) else some false) = some false := by
 unfold shownL
 cases rankS l px py a with
 | nil => rfl
 | cons z r =>
  have h1 : decide ((((z :: r).map (·.Id)).length : Int) > 0) = true := decide_eq_true (by simp only [List.map_cons, List.length_cons]; omega)
  have h2 : idx ((z :: r).map (·.Id)) 0 = some z.Id := rfl
  rw [h1, h2]
  simp only [Option.bind_some]
  rw [sNe_dec, decide_eq_true rfl]; rfl
theorem where_round {al : List Alert} {n : Nat} (c2 : RAlerts al n) (hn : n ≤ 12) {px py F T : Int} (hp : RightPo ⟨⟨#[112, 97]⟩, px, py⟩) {t : List Slot_} (t2 : Tiles (shownL al px py) T F t) (htl : t.length ≤ 1000000) (s1 s2 s3 s4 s5 : Stream) (k x : Nat) (s : List Int × Int) {b : Int} (hs : Ok ⟨s.1, s.2⟩ b) (hb : b ≤ 900000) :
  ∃ s', keep_AlertsWhereTheyShould_L2 (al, s1) (px, s2) (py, s3) (t, 0) (F, s4) (T, s5) k x s = some (.go s') ∧ Ok ⟨s'.1, s'.2⟩ (b + 1) := by
 have hal := c2.len
 have hca := c2.ca hn
 obtain ⟨a, s6, d1, d2, d3, d4⟩ := range_ok ⟨s.1, s.2⟩ 0 80 hs (by omega) (by decide) (by decide) (by decide)
 have hm : momB a = true := by unfold momB; rw [outB_in (by omega)]; rfl
 have hsp := spot_0 c2 hn hp hm
 refine ⟨(s6.L, s6.f_at), ?_, d4⟩
 unfold keep_AlertsWhereTheyShould_L2
 rw [d1, Option.bind_some]
 simp only []
 rw [Shown_eq hca hsp, Option.bind_some, Ranked_eq hca hsp, Option.bind_some, InForce_eq hca (checkAlerts_0 c2 (by omega)) hm, Option.bind_some]
 simp only [errs3_0, Option.bind_some, bne_self_eq_false, cond_false]
 rw [first_0]
 simp only [Option.bind_some, cond_false]
 obtain ⟨v, v1, _⟩ := forL_at (body := fun k x s => keep_AlertsWhereTheyShould_L1 (px, s2) (py, s3) ((rankS al px py a).map (·.Id), 0) ((al.filter (onB al a)).map (·.Id), 0) k x s) (fun _ _ => True) (xs := al) (s := ()) (by omega) (fun k x s hx _ => by
  cases s
  exact ⟨(), where_one c2 hn hp s2 s3 a (k := k) (List.mem_of_getElem? hx), trivial⟩) trivial
 rw [v1]
 simp only [Option.bind_some, thenC]
 rcases slot_find t2 htl a with ⟨q1, q2⟩ | ⟨j, x, q1, q2, q3, q4⟩
 ·rw [q1]
  simp only [Option.bind_some]
  have : decide ((-1 : Int) ≥ 0) = false := by decide
  rw [this]
  by_cases w1 : F ≤ a
  ·rw [decide_eq_true w1, decide_eq_false (show ¬ a < T by omega)]; rfl
  ·rw [decide_eq_false w1]; rfl
 ·rw [q1]
  simp only [Option.bind_some]
  have : decide ((j : Int) ≥ 0) = true := by simp
  rw [this, decide_eq_true q3.1, decide_eq_true q3.2, idx_nat, q2]
  simp only [Option.bind_some, cond_true]
  rw [q4, sNe_dec, decide_eq_true rfl]; rfl
theorem alertsWhereTheyShould (l : List Int) : keep_AlertsWhereTheyShould l = some true := by
 have h0 : Ok (⟨l, 0⟩ : Stream) 0 := ⟨Int.le_refl _, Int.le_refl _⟩
 obtain ⟨al, s1, c1, c2, c3⟩ := rightAlerts 6 (by decide) _ h0 (by decide)
 obtain ⟨px, s2, a1, a2, a3, a4⟩ := range_ok s1 (-2) 8 c3 (by decide) (by decide) (by decide) (by decide)
 obtain ⟨py, s3, b1, b2, b3, b4⟩ := range_ok s2 (-2) 8 a4 (by decide) (by decide) (by decide) (by decide)
 obtain ⟨F, s4, f1, f2, f3, f4⟩ := range_ok s3 0 20 b4 (by decide) (by decide) (by decide) (by decide)
 obtain ⟨T, s5, g1, g2, g3, g4⟩ := range_ok s4 20 80 f4 (by decide) (by decide) (by decide) (by decide)
 have hn : (6 : Int).toNat ≤ 12 := by decide
 have hal := c2.len
 have hca := c2.ca hn
 have hp : RightPo ⟨⟨#[112, 97]⟩, px, py⟩ := paP_right (by omega) (by omega)
 obtain ⟨t, t1, t2, t3⟩ := through_ok hca ⟨⟨#[112, 97]⟩, px, py⟩ (w := ⟨F, T⟩) (by simp only []; omega) (by simp only []; omega)
 have hth : alert_Through al ⟨⟨#[112, 97]⟩, px, py⟩ ⟨F, T⟩ = some (t, 0) := by
  unfold alert_Through
  rw [checkBoth_0 c2 (by decide) hp, Option.bind_some, bne_self_eq_false, cond_false, outside_eq, outB_in (by simp only []; omega)]
  simp only [Option.bind_some, cond_false]
  rw [decide_eq_false (by omega), cond_false, t1]; rfl
 have htl : t.length ≤ 1000000 := by omega
 obtain ⟨u, e, _⟩ := forL_at (body := fun k x s => keep_AlertsWhereTheyShould_L2 (al, s1) (px, s2) (py, s3) (t, 0) (F, s4) (T, s5) k x s) (fun k s => Ok ⟨s.1, s.2⟩ (800 + k)) (xs := List.range 5) (s := (s5.L, s5.f_at)) (by simp) (fun k x s hx hs => by
  have hk : k < 5 := by
   have := (List.getElem?_eq_some_iff.1 hx).1
   simpa using this
  obtain ⟨s', r1, r2⟩ := where_round c2 hn hp t2 htl s1 s2 s3 s4 s5 k x s hs (by omega)
  exact ⟨s', r1, r2.mono (by omega)⟩) (g4.mono (by omega))
 unfold keep_AlertsWhereTheyShould
 rw [c1, Option.bind_some]
 simp only []
 rw [a1, Option.bind_some]
 simp only []
 rw [b1, Option.bind_some]
 simp only []
 rw [f1, Option.bind_some]
 simp only []
 rw [g1, Option.bind_some]
 simp only []
 rw [hth, Option.bind_some]
 simp only [bne_self_eq_false, cond_false]
 rw [show ((5 : Int)).toNat = 5 from rfl, e]
 simp only [Option.bind_some, thenC, ready_ok]
end Go.Proofs.YtpojeclokolkaaaGreatDoor.Law

