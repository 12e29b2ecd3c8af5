import Derived.Test.YtpojeclokolkaaaGreatDoorCkBase
import Derived.Test.YtpojeclokolkaaaGreatDoorEpStream
import Derived.Test.YtpojeclokolkaaaGreatDoorKpAt
/-
  PLAIN LEMMAS: right plays: their generator, and that they pass the check.
-/
open Go Go.Eng
namespace Go.Proofs.YtpojeclokolkaaaGreatDoor.Law
set_option linter.unusedVariables false
set_option linter.unusedSimpArgs false
def paS : ByteArray := ⟨#[112, 97]⟩
def pbS : ByteArray := ⟨#[112, 98]⟩
def iaS : ByteArray := ⟨#[105, 97]⟩
def ibS : ByteArray := ⟨#[105, 98]⟩
def befP (a b : Play) : Prop := lt a.Player b.Player ∨ a.Player = b.Player ∧ a.At < b.At
structure RightP (x : Play) : Prop where
 pl : x.Player = paS ∨ x.Player = pbS
 it : x.Item = iaS ∨ x.Item = ibS
 at_ : 0 ≤ x.At ∧ x.At ≤ 86400290
 lo : 1 ≤ x.Long ∧ x.Long ≤ 20
theorem lt_pa_pb : lt paS pbS := lt_lit (by kernel_rfl)
theorem inner_gen (P : ByteArray) (hP : P = paS ∨ P = pbS) (n : Int) (hn : 0 ≤ n ∧ n ≤ 10) (l0 : List Play) (a0 : Int) (ha : 0 ≤ a0 ∧ a0 ≤ 86399990) (s : Stream) {b : Int} (hs : Ok s b) (hb : b ≤ 800000)
  (hr : ∀ x ∈ l0, RightP x) (hpw : l0.Pairwise befP) (hlt : ∀ y ∈ l0, lt y.Player P) (hl : l0.length ≤ 100) :
  ∃ l a s', forL (List.range n.toNat) (l0, a0, s.L, s.f_at) (fun k x s => mk_Stream_RightPlays_L1 P k x s) = some (.go (l, a, s'.L, s'.f_at)) ∧ (∀ x ∈ l, RightP x) ∧ l.Pairwise befP ∧ (∀ y ∈ l, y.Player = P ∨ lt y.Player P) ∧ l.length ≤ l0.length + 10 ∧ Ok s' (b + 30) := by
 obtain ⟨t, t1, t2, t3, t4, t5, t6, t7, t8⟩ := forL_inv (body := fun k x s => mk_Stream_RightPlays_L1 P k x s) (s := (l0, a0, s.L, s.f_at)) (xs := List.range n.toNat)
  (fun j t => t.1.length = l0.length + j ∧ (∀ x ∈ t.1, RightP x) ∧ t.1.Pairwise befP ∧ (∀ y ∈ t.1, y.Player = P ∨ lt y.Player P) ∧ (∀ y ∈ t.1, y.Player = P → y.At < t.2.1) ∧ (0 ≤ t.2.1 ∧ t.2.1 ≤ 86399990 + 30 * j) ∧ Ok ⟨t.2.2.1, t.2.2.2⟩ (b + 3 * j)) (by simp; omega) (fun j x t hx hj ⟨i1, i2, i3, i4, i5, i6, i7⟩ => by
  simp only [List.length_range] at hj
  obtain ⟨it, s1, c1, c2, c3⟩ := some_ok ⟨t.2.2.1, t.2.2.2⟩ [(⟨#[105, 97]⟩ : ByteArray), (⟨#[105, 98]⟩ : ByteArray)] i7 (by omega) (by simp) (by simp)
  obtain ⟨lg, s2, d1, d2, d3⟩ := pick_ok s1 [1, 5, 10, 20] c3 (by omega) (by simp) (by simp)
  obtain ⟨st, s3, e1, e2, e3⟩ := pick_ok s2 [1, 5, 10, 30] d3 (by omega) (by simp) (by simp)
  have hlg : 1 ≤ lg ∧ lg ≤ 20 := by
   simp only [List.mem_cons, List.not_mem_nil, or_false] at d2; omega
  have hst : 1 ≤ st ∧ st ≤ 30 := by
   simp only [List.mem_cons, List.not_mem_nil, or_false] at e2; omega
  have hit : it = iaS ∨ it = ibS := by
   simp only [List.mem_cons, List.not_mem_nil, or_false] at c2; exact c2
  unfold mk_Stream_RightPlays_L1
  simp only [c1, d1, e1, Option.bind_some]
  rw [appL_ok _ _ (by simp; omega), Option.bind_some, w64_id (n := t.2.1 + st) (by omega)]
  refine ⟨_, rfl, by simp; omega, fun y hy => ?_, ?_, fun y hy => ?_, fun y hy hp => ?_, by simp only []; omega, e3.mono (by omega)⟩
  ·rcases List.mem_append.1 hy with hy | hy
   ·exact i2 y hy
   ·rw [List.mem_singleton.1 hy]
    exact ⟨hP, hit, by show 0 ≤ t.2.1 ∧ t.2.1 ≤ 86400290; omega, hlg⟩
  ·refine List.pairwise_append.2 ⟨i3, List.pairwise_singleton _ _, fun y hy z hz => ?_⟩
   rw [List.mem_singleton.1 hz]
   rcases i4 y hy with h | h
   ·exact .inr ⟨h, i5 y hy h⟩
   ·exact .inl h
  ·rcases List.mem_append.1 hy with hy | hy
   ·exact i4 y hy
   ·rw [List.mem_singleton.1 hy]; exact .inl rfl
  ·show y.At < t.2.1 + st
   rcases List.mem_append.1 hy with hy | hy
   ·have := i5 y hy hp; omega
   ·rw [List.mem_singleton.1 hy]; show t.2.1 < t.2.1 + st; omega)
  ⟨rfl, hr, hpw, fun y hy => .inr (hlt y hy), fun y hy e => absurd (hlt y hy) (by rw [e]; exact lt_irr P), (by show 0 ≤ a0 ∧ a0 ≤ 86399990 + 30 * ((0 : Nat) : Int); omega), hs.mono (by omega)⟩
 rw [List.length_range] at t2 t7 t8
 exact ⟨t.1, t.2.1, ⟨t.2.2.1, t.2.2.2⟩, t1, t3, t4, t5, by omega, t8.mono (by omega)⟩
theorem one_gen (P : ByteArray) (hP : P = paS ∨ P = pbS) (most : Int) (hm : 0 ≤ most ∧ most ≤ 10) (l0 : List Play) (s : Stream) {b : Int} (hs : Ok s b) (hb : b ≤ 700000)
  (hr : ∀ x ∈ l0, RightP x) (hpw : l0.Pairwise befP) (hlt : ∀ y ∈ l0, lt y.Player P) (hl : l0.length ≤ 100) (k : Nat) :
  ∃ l s', mk_Stream_RightPlays_L2 most k P (l0, s.L, s.f_at) = some (.go (l, s'.L, s'.f_at)) ∧ (∀ x ∈ l, RightP x) ∧ l.Pairwise befP ∧ (∀ y ∈ l, y.Player = P ∨ lt y.Player P) ∧ l.length ≤ l0.length + 10 ∧ Ok s' (b + 40) := by
 obtain ⟨a0, s1, c1, c2, c3⟩ := pick_ok s [0, 5, 86399990] hs (by omega) (by simp) (by simp)
 obtain ⟨n, s2, d1, d2, d3, d4⟩ := range_ok s1 0 most c3 (by omega) (by omega) (by decide) (by omega)
 have ha : 0 ≤ a0 ∧ a0 ≤ 86399990 := by
  simp only [List.mem_cons, List.not_mem_nil, or_false] at c2; omega
 obtain ⟨l, a, s3, e1, e2, e3, e4, e5, e6⟩ := inner_gen P hP n (by omega) l0 a0 ha s2 d4 (by omega) hr hpw hlt hl
 refine ⟨l, s3, ?_, e2, e3, e4, e5, e6.mono (by omega)⟩
 unfold mk_Stream_RightPlays_L2
 have e0 : (⟨s.L, s.f_at⟩ : Stream) = s := rfl
 simp only [e0, c1, d1, e1, Option.bind_some, thenC]
structure RPlays (l : List Play) : Prop where
 right : ∀ x ∈ l, RightP x
 rise : l.Pairwise befP
 len : l.length ≤ 20
theorem rightPlays (most : Int) (hm : 0 ≤ most ∧ most ≤ 10) (s : Stream) {b : Int} (hs : Ok s b) (hb : b ≤ 600000) : ∃ l s', mk_Stream_RightPlays s most = some (l, s') ∧ RPlays l ∧ Ok s' (b + 80) := by
 obtain ⟨l1, s1, c1, c2, c3, c4, c5, c6⟩ := one_gen paS (.inl rfl) most hm [] s hs (by omega) (fun x hx => by cases hx) .nil (fun y hy => by cases hy) (by simp) 0
 obtain ⟨l2, s2, d1, d2, d3, d4, d5, d6⟩ := one_gen pbS (.inr rfl) most hm l1 s1 c6 (by omega) c2 c3 (fun y hy => by
  rcases c4 y hy with h | h
  ·rw [h]; exact lt_pa_pb
  ·exact lt_trans h lt_pa_pb) (by simp at c5; omega) 1
 refine ⟨l2, s2, ?_, ⟨d2, d3, by simp at c5; omega⟩, d6.mono (by omega)⟩
 unfold mk_Stream_RightPlays
 rw [forL_eq (by simp)]
 have e1 : mk_Stream_RightPlays_L2 most 0 (⟨#[112, 97]⟩ : ByteArray) (([] : List Play), s.L, s.f_at) = some (.go (l1, s1.L, s1.f_at)) := c1
 have e2 : mk_Stream_RightPlays_L2 most (0 + 1) (⟨#[112, 98]⟩ : ByteArray) (l1, s1.L, s1.f_at) = some (.go (l2, s2.L, s2.f_at)) := d1
 simp only [forR, e1, e2, Option.bind_some, thenC]
theorem pair_prev {α : Type} {R : α → α → Prop} {l : List α} (h : l.Pairwise R) {i j : Nat} {x y : α} (hi : l[i]? = some x) (hj : l[j]? = some y) (hij : i < j) : R x y := by
 obtain ⟨l1, rfl⟩ := List.getElem?_eq_some_iff.1 hi
 obtain ⟨l2, rfl⟩ := List.getElem?_eq_some_iff.1 hj
 exact List.pairwise_iff_getElem.1 h i j l1 l2 hij
theorem comparePlays_lt {a b : Play} (h : befP a b) : ∃ n, proof_comparePlays a b = some n ∧ n < 0 := by
 refine ⟨_, by simp only [proof_comparePlays, compare_eq, cmpInt_eq, or2_eq, Option.bind_some]; rfl, ?_⟩
 unfold or0 cmpI
 rcases h with h | ⟨h, k⟩
 ·rcases cmpB_spec a.Player b.Player with ⟨_, e⟩ | ⟨e, _⟩ | ⟨e, _⟩
  ·rw [e]; simp
  ·rw [e] at h; exact absurd h (lt_irr _)
  ·exact absurd (lt_trans h e) (lt_irr _)
 ·rcases cmpB_spec a.Player b.Player with ⟨e, _⟩ | ⟨_, e⟩ | ⟨e, _⟩
  ·rw [h] at e; exact absurd e (lt_irr _)
  ·rw [e]; simp [k]
  ·rw [h] at e; exact absurd e (lt_irr _)
theorem checkPlays_0 {l : List Play} (h : RPlays l) : proof_CheckPlays l = some 0 := by
 unfold proof_CheckPlays
 have h1 := h.len
 rw [decide_eq_false (show ¬ (l.length : Int) > 3000 by omega), cond_false]
 obtain ⟨u, e, _⟩ := forL_at (body := fun k x s => proof_CheckPlays_L1 l k x s) (fun _ _ => True) (xs := l) (s := ()) (by omega) (fun k x s hx _ => by
  refine ⟨(), ?_, trivial⟩
  have hm : x ∈ l := List.mem_of_getElem? hx
  obtain ⟨hp, hi, ha, hl⟩ := h.right x hm
  have k1 : kit_IsKey x.Player = some true := by
   rcases hp with e | e <;> rw [e, isKey_eq _ (by decide)] <;> exact congrArg some (by kernel_rfl)
  have k2 : kit_IsKey x.Item = some true := by
   rcases hi with e | e <;> rw [e, isKey_eq _ (by decide)] <;> exact congrArg some (by kernel_rfl)
  have k3 : momB x.At = true := by unfold momB; rw [outB_in (by omega)]; rfl
  unfold proof_CheckPlays_L1
  simp only [k1, k2, Option.bind_some, Bool.not_true, cond_false, isMoment_eq, k3, outside_eq, outB_in (show (1 : Int) ≤ x.Long ∧ x.Long ≤ 86400000 by omega)]
  rcases Nat.eq_zero_or_pos k with h0 | h0
  ·rw [decide_eq_false (by omega)]; rfl
  ·rw [decide_eq_true (by omega), cond_true]
   obtain ⟨y, q1, q2⟩ := idx_prev hx h0 (by omega)
   obtain ⟨n, n1, n2⟩ := comparePlays_lt (pair_prev h.rise q2 hx (by omega))
   rw [q1, Option.bind_some, n1, Option.bind_some, decide_eq_false (by omega)]; rfl) trivial
 rw [e]; rfl
end Go.Proofs.YtpojeclokolkaaaGreatDoor.Law

