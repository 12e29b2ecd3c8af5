import Derived.Test.YtjmpbmnakfipdaaDoorPlStream
/-
  PLAIN LEMMAS: campaigns that are made.
-/
open Go Go.Eng
namespace Go.Proofs.YtjmpbmnakfipdaaDoor.Law
set_option linter.unusedVariables false
set_option linter.unusedSimpArgs false

def Short (s : ByteArray) : Prop := s.size ≤ 1000
def GoodC (c : Campaign) : Prop := Short c.Key ∧ Short c.Class ∧ c.Tags.length ≤ 20 ∧ ∀ t ∈ c.Tags, Short t

theorem appL_ok {α : Type} (xs ys : List α) (h : xs.length + ys.length ≤ 1000000000) : appL xs ys = some (xs ++ ys) := by unfold appL; rw [if_pos h]

theorem tags_ok {L : Nat → ByteArray → (List ByteArray × List Int × Int) → Option (Ctl (List ByteArray × List Int × Int) Unit)} {n : Int} (hn : 1 ≤ n) (hn2 : n ≤ 1000)
  (hL : ∀ k x s, L k x s = (mk_Stream_Flip (⟨s.2.1, s.2.2⟩ : Stream) n).bind fun r => (bif r.1 then (appL s.1 ([x] : List ByteArray)).bind fun a => some a else some s.1).bind fun v => some (.go (v, r.2.L, r.2.f_at)))
  {xs : List ByteArray} (hx : ∀ x ∈ xs, Short x) (hl : xs.length ≤ 10) (s : Stream) {b : Int} (hs : Ok s b) (hb : b ≤ 900000) :
  ∃ t s', forL xs (([] : List ByteArray), s.L, s.f_at) (fun k x s => L k x s) = some (.go (t, s'.L, s'.f_at)) ∧ Ok s' (b + 10) ∧ t.length ≤ 10 ∧ ∀ x ∈ t, Short x := by
 obtain ⟨s', h1, h2, h3, h4⟩ := forL_inv (body := fun k x s => L k x s) (fun k s => Ok ⟨s.2.1, s.2.2⟩ (b + k) ∧ s.1.length ≤ k ∧ ∀ x ∈ s.1, Short x) (xs := xs) (s := (([] : List ByteArray), s.L, s.f_at)) (by omega) (fun k x s hxm hk ⟨i1, i2, i3⟩ => by
   obtain ⟨c, s1, k1, k2⟩ := flip_ok _ n i1 (by omega) hn hn2
   simp only [hL, k1, Option.bind_some]
   cases c with
   | true =>
    simp only [cond_true, appL_ok s.1 [x] (by simp; omega), Option.bind_some]
    refine ⟨_, rfl, k2.mono (by omega), by simp; omega, fun y hy => ?_⟩
    rcases List.mem_append.1 hy with hy | hy
    ·exact i3 y hy
    ·rw [List.mem_singleton.1 hy]; exact hx x hxm
   | false =>
    simp only [cond_false, Option.bind_some]
    exact ⟨_, rfl, k2.mono (by omega), by show s.1.length ≤ _; omega, i3⟩) ⟨by simpa using hs, by simp, by simp⟩
 exact ⟨s'.1, ⟨s'.2.1, s'.2.2⟩, h1, h2.mono (by omega), by omega, h4⟩

theorem short_lit {s : ByteArray} (h : Nat.ble s.size 1000 = true) : Short s := Nat.le_of_ble_eq_true h

theorem set_at {α : Type} {xs : List α} {i : Nat} {a : α} (h : i < xs.length) : (xs.set i a)[i]? = some a := by simp [h]
theorem get_at {α : Type} {xs : List α} {i : Nat} (h : i < xs.length) : xs[i]? = some xs[i] := List.getElem?_eq_getElem h
theorem all_set {α : Type} {p : α → Prop} {xs : List α} {i : Nat} {a : α} (h : ∀ x ∈ xs, p x) (ha : p a) : ∀ x ∈ xs.set i a, p x := fun x hx => by
 rcases List.mem_or_eq_of_mem_set hx with h1 | h1
 ·exact h x h1
 ·rw [h1]; exact ha
theorem inR_ok {α : Type} {i : Int} {xs : List α} (h0 : 0 ≤ i) (h1 : i < xs.length) : inR i xs = some () := by unfold inR; rw [if_pos ⟨h0, by omega⟩]

theorem rightCampaigns_ok (s : Stream) (most : Int) (hm : 0 ≤ most ∧ most ≤ 4) {b : Int} (hs : Ok s b) (hb : b ≤ 800000) : ∃ xs s', mk_Stream_RightCampaigns s most = some (xs, s') ∧ Ok s' (b + 100) ∧ xs.length ≤ 4 ∧ ∀ x ∈ xs, GoodC x := by
 unfold mk_Stream_RightCampaigns
 obtain ⟨ks, hk1, hk2, hk3⟩ : ∃ ks, subL ([(⟨#[99, 97]⟩ : ByteArray), (⟨#[99, 98]⟩ : ByteArray), (⟨#[99, 99]⟩ : ByteArray), (⟨#[99, 100]⟩ : ByteArray)] : List ByteArray) 0 most = some ks ∧ ks.length ≤ 4 ∧ ∀ x ∈ ks, Short x := by
  refine ⟨_, by unfold subL; rw [if_pos ⟨by omega, by omega, by omega, by simp; omega⟩], by simp; omega, fun x hx => ?_⟩
  have hx := List.mem_of_mem_take (List.mem_of_mem_drop hx)
  simp only [List.mem_cons, List.not_mem_nil, or_false] at hx
  rcases hx with rfl | rfl | rfl | rfl <;> exact short_lit rfl
 simp only [hk1, Option.bind_some]
 obtain ⟨s', h1, h2, h3, h4⟩ := forL_inv (body := fun k x s => mk_Stream_RightCampaigns_L2 k x s) (fun k s => Ok ⟨s.2.1, s.2.2⟩ (b + 20 * k) ∧ s.1.length ≤ k ∧ ∀ x ∈ s.1, GoodC x)
  (xs := ks) (s := (([] : List Campaign), s.L, s.f_at)) (by omega) (fun k x t hxm hk ⟨i1, i2, i3⟩ => by
   have hk5 : k < 4 := by omega
   obtain ⟨c, s1, k1, k2⟩ := flip_ok _ 5 i1 (by omega) (by decide) (by decide)
   simp only [mk_Stream_RightCampaigns_L2, k1, Option.bind_some]
   cases c with
   | true => exact ⟨_, rfl, k2.mono (by omega), by show t.1.length ≤ _; omega, i3⟩
   | false =>
    obtain ⟨cl, s2, k3, kc, k4⟩ := some_ok s1 [(⟨#[]⟩ : ByteArray), (⟨#[]⟩ : ByteArray), (⟨#[99, 97, 114, 115]⟩ : ByteArray), (⟨#[102, 111, 111, 100]⟩ : ByteArray)] k2 (by omega) (by simp) (by simp)
    obtain ⟨p1, s3, m1, _, n1⟩ := pick_ok s2 [0, 0, 10, 20] k4 (by omega) (by simp) (by simp)
    obtain ⟨p2, s4, m2, _, n2⟩ := pick_ok s3 [30, 50, 60, 100] n1 (by omega) (by simp) (by simp)
    obtain ⟨p3, s5, m3, _, n3⟩ := pick_ok s4 [0, 1, 2, 3, 4, 6] n2 (by omega) (by simp) (by simp)
    obtain ⟨p4, s6, m4, _, n4⟩ := pick_ok s5 [0, 1, 2, 3, 9] n3 (by omega) (by simp) (by simp)
    obtain ⟨p5, s7, m5, _, n5⟩ := pick_ok s6 [0, 500, 1000, 1500] n4 (by omega) (by simp) (by simp)
    obtain ⟨tg, s8, k7, k8, k9, k10⟩ := tags_ok (L := mk_Stream_RightCampaigns_L1) (n := 4) (by decide) (by decide) (fun _ _ _ => rfl) (xs := [(⟨#[99, 105, 116, 121]⟩ : ByteArray), (⟨#[109, 97, 108, 108]⟩ : ByteArray)])
     (by intro x hx; simp only [List.mem_cons, List.not_mem_nil, or_false] at hx; rcases hx with rfl | rfl <;> exact short_lit rfl) (by simp) s7 n5 (by omega)
    simp only [cond_false, k3, m1, m2, m3, m4, m5, k7, Option.bind_some, thenC_go, appL_ok t.1 _ (show t.1.length + [_].length ≤ _ by simp; omega)]
    refine ⟨_, rfl, k8.mono (by omega), by simp; omega, fun y hy => ?_⟩
    rcases List.mem_append.1 hy with hy | hy
    ·exact i3 y hy
    ·rw [List.mem_singleton.1 hy]
     refine ⟨hk3 x hxm, ?_, by show tg.length ≤ 20; omega, k10⟩
     simp only [List.mem_cons, List.not_mem_nil, or_false] at kc
     rcases kc with rfl | rfl | rfl | rfl <;> exact short_lit rfl) ⟨by simpa using hs, by simp, by simp⟩
 rw [h1]
 exact ⟨s'.1, ⟨s'.2.1, s'.2.2⟩, rfl, h2.mono (by omega), by omega, h4⟩

theorem campaigns_ok (s : Stream) (most : Int) (hm : 0 ≤ most ∧ most ≤ 4) {b : Int} (hs : Ok s b) (hb : b ≤ 700000) : ∃ xs s', mk_Stream_Campaigns s most = some (xs, s') ∧ Ok s' (b + 200) ∧ xs.length ≤ 4 ∧ ∀ x ∈ xs, GoodC x := by
 obtain ⟨xs, s1, h1, h2, h3, h4⟩ := rightCampaigns_ok s most hm hs (by omega)
 simp only [mk_Stream_Campaigns, h1, Option.bind_some]
 obtain ⟨v, s2, h5, h6, h7⟩ : ∃ (v : Bool) (s2 : Stream), (bif decide ((xs.length : Int) > 0) then (mk_Stream_Flip s1 12).bind fun r_9 => some (r_9.1, r_9.2.L, r_9.2.f_at) else some (false, s1.L, s1.f_at)) = some (v, s2.L, s2.f_at) ∧ Ok s2 (b + 101) ∧ (v = true → 0 < xs.length) := by
  cases hd : decide ((xs.length : Int) > 0) with
  | true =>
   obtain ⟨c, s2, k1, k2⟩ := flip_ok s1 12 h2 (by omega) (by decide) (by decide)
   simp only [decide_eq_true_eq] at hd
   exact ⟨c, s2, by simp only [cond_true, k1, Option.bind_some], k2.mono (by omega), fun _ => by omega⟩
  | false => exact ⟨false, s1, rfl, h2.mono (by omega), fun h => by cases h⟩
 simp only [h5, Option.bind_some]
 cases v with
 | false => exact ⟨xs, _, rfl, h6.mono (by omega), h3, h4⟩
 | true =>
  have hpos := h7 rfl
  obtain ⟨i, s3, k1, k2, k3, k4⟩ := next_ok s2 xs.length h6 (by omega) (by omega) (by omega)
  have hi : 0 + i.toNat < xs.length := by omega
  have ho := (h4 _ (List.getElem_mem hi))
  obtain ⟨w, s4, m1, _, _, m2⟩ := next_ok s3 4 k4 (by omega) (by decide) (by decide)
  have hset : ∀ a, 0 + i.toNat < (xs.set (0 + i.toNat) a).length := fun a => by simpa using hi
  simp only [cond_true, k1, Option.bind_some, inR_ok k2 k3, m1]
  cases hw0 : (w == 0) with
  | true =>
   obtain ⟨key, s5, n1, n2, n3⟩ := some_ok s4 [xs[0 + i.toNat].Key, (⟨#[]⟩ : ByteArray), (⟨#[99, 97]⟩ : ByteArray)] m2 (by omega) (by simp) (by simp)
   obtain ⟨cl, s6, n4, n5, n6⟩ := some_ok s5 [(⟨#[]⟩ : ByteArray), (⟨#[65]⟩ : ByteArray)] n3 (by omega) (by simp) (by simp)
   simp only [cond_true, get_at hi, n1, n4, Option.bind_some, set_at hi, List.set_set]
   refine ⟨_, _, rfl, n6.mono (by omega), by simpa using h3, all_set h4 ⟨?_, ?_, ho.2.2⟩⟩
   ·simp only [List.mem_cons, List.not_mem_nil, or_false] at n2
    rcases n2 with rfl | rfl | rfl
    ·exact ho.1
    ·exact short_lit rfl
    ·exact short_lit rfl
   ·simp only [List.mem_cons, List.not_mem_nil, or_false] at n5
    rcases n5 with rfl | rfl <;> exact short_lit rfl
  | false =>
  simp only [cond_false]
  cases hw1 : (w == 1) with
  | true =>
   obtain ⟨to, s5, n1, n2⟩ := odd_ok s4 0 60 m2 (by omega) (by decide) (by decide) (by decide)
   simp only [cond_true, get_at hi, n1, Option.bind_some]
   exact ⟨_, _, rfl, n2.mono (by omega), by simpa using h3, all_set h4 ho⟩
  | false =>
  simp only [cond_false]
  cases hw2 : (w == 2) with
  | true =>
   obtain ⟨a, s5, n1, n2⟩ := odd_ok s4 0 6 m2 (by omega) (by decide) (by decide) (by decide)
   obtain ⟨a2, s6, n3, n4⟩ := odd_ok s5 0 6 n2 (by omega) (by decide) (by decide) (by decide)
   obtain ⟨a3, s7, n5, n6⟩ := odd_ok s6 0 1000 n4 (by omega) (by decide) (by decide) (by decide)
   simp only [cond_true, get_at hi, n1, n3, n5, Option.bind_some, set_at hi, set_at (hset _), List.set_set]
   exact ⟨_, _, rfl, n6.mono (by omega), by simpa using h3, all_set h4 ho⟩
  | false =>
   obtain ⟨j, s5, n1, n2, n3, n4⟩ := next_ok s4 3 m2 (by omega) (by decide) (by decide)
   obtain ⟨tg, n5, n6⟩ := idx_mem (l := [([(⟨#[98]⟩ : ByteArray), (⟨#[97]⟩ : ByteArray)] : List ByteArray), ([(⟨#[65]⟩ : ByteArray)] : List ByteArray), ([(⟨#[97]⟩ : ByteArray), (⟨#[97]⟩ : ByteArray)] : List ByteArray)]) n2 (by simpa using n3)
   simp only [cond_false, get_at hi, n1, n5, Option.bind_some]
   refine ⟨_, _, rfl, n4.mono (by omega), by simpa using h3, all_set h4 ⟨ho.1, ho.2.1, ?_⟩⟩
   simp only [List.mem_cons, List.not_mem_nil, or_false] at n6
   rcases n6 with rfl | rfl | rfl
   ·exact ⟨by simp, by intro t ht; simp only [List.mem_cons, List.not_mem_nil, or_false] at ht; rcases ht with rfl | rfl <;> exact short_lit rfl⟩
   ·exact ⟨by simp, by intro t ht; simp only [List.mem_cons, List.not_mem_nil, or_false] at ht; rw [ht]; exact short_lit rfl⟩
   ·exact ⟨by simp, by intro t ht; simp only [List.mem_cons, List.not_mem_nil, or_false, or_self] at ht; rw [ht]; exact short_lit rfl⟩

end Go.Proofs.YtjmpbmnakfipdaaDoor.Law

