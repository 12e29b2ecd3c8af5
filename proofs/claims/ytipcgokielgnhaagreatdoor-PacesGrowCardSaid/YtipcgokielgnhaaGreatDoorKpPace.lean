import Derived.Test.YtipcgokielgnhaaGreatDoorKpPaceM
import Derived.Test.YtipcgokielgnhaaGreatDoorKpLit
/-
  THE PLAIN LAW: what is due never falls, is the Goal at the end, and who is chosen is on and not done.
-/
open Go Go.Eng
namespace Go.Proofs.YtipcgokielgnhaaGreatDoor.Law
set_option linter.unusedVariables false
set_option linter.unusedSimpArgs false

theorem due_round {c : Campaign} (hg : GoodC c) (hs : campStp nilS c = 0) (ht : c.Time.To ≤ 100) {a : Int} (q : Stream) (ha : 0 ≤ a ∧ a ≤ 100) (k : Nat) (s : List Int × Int) {b : Int} (hb : b ≤ 900000) (hk : Ok ⟨s.1, s.2⟩ b) :
  ∃ s' : Stream, keep_PacesGrow_L1 (a, q) k c s = some (.go (s'.L, s'.f_at)) ∧ Ok s' (b + 1) := by
 obtain ⟨r, s1, d1, d2, d3, d4⟩ := range_ok _ 0 50 hk (by omega) (by decide) (by decide) (by decide)
 have hr := campsF_right (campsF_0 (xs := [c]) (by simp) (by simpa using hs) (by simp)) c (by simp)
 have hr' := hr
 unfold RightC at hr'
 obtain ⟨f1, f2, f3⟩ := due_facts hr (by omega) (a := a) (b := a + r) (by omega) (by omega) (by omega)
 refine ⟨s1, ?_, d4⟩
 have herr : keep_errs [0, 0, 0] = some 0 := rfl
 unfold keep_PacesGrow_L1
 simp only
 rw [Due_eq hg hs (by omega) (a := a) (by omega), Option.bind_some, d1, Option.bind_some, w64_id (n := a + r) (by omega), Due_eq hg hs (by omega) (a := a + r) (by omega), Option.bind_some, Due_eq hg hs (by omega) (a := c.Time.To) (by omega), Option.bind_some]
 simp only [herr, Option.bind_some, bne_self_eq_false, cond_false]
 rw [decide_eq_false (show ¬ dueF c a > dueF c (a + r) by omega), f3, bne_self_eq_false, decide_eq_false (show ¬ dueF c a < 0 by omega)]
 rfl
theorem due_all {a : Int} (q : Stream) (ha : 0 ≤ a ∧ a ≤ 100) : ∀ (l : List Campaign) (k : Nat) (s : List Int × Int) (b : Int), (∀ c ∈ l, GoodC c ∧ campStp nilS c = 0 ∧ c.Time.To ≤ 100) → b + l.length ≤ 900000 → Ok ⟨s.1, s.2⟩ b → ∃ s' : Stream, forR (fun k x s => keep_PacesGrow_L1 (a, q) k x s) l k s = some (.go (s'.L, s'.f_at)) ∧ Ok s' (b + l.length)
 | [], k, s, b, _, _, hs => ⟨⟨s.1, s.2⟩, rfl, by simpa using hs⟩
 | c :: l, k, s, b, h, hb, hs => by
  simp only [List.length_cons] at hb ⊢
  obtain ⟨h1, h2, h3⟩ := h c (by simp)
  obtain ⟨s1, e1, e2⟩ := due_round h1 h2 h3 q ha k s (by omega) hs
  obtain ⟨s2, g1, g2⟩ := due_all q ha l (k + 1) (s1.L, s1.f_at) (b + 1) (fun c hc => h c (by simp [hc])) (by omega) e2
  exact ⟨s2, by rw [forR, e1]; exact g1, g2.mono (by omega)⟩
theorem plays_gen (n : Int) (s : Stream) {b : Int} (hs : Ok s b) (hb : b ≤ 800000) (hn : 0 ≤ n ∧ n ≤ 9) : ∃ p s', forL (List.range n.toNat) (([] : List Play), s.L, s.f_at) (fun k x s => keep_PacesGrow_L2 k x s) = some (.go (p, s'.L, s'.f_at)) ∧ p.length ≤ 9 ∧ (∀ x ∈ p, GoodP x) ∧ (∀ x ∈ p, playE x = 0) ∧ Ok s' (b + 20) := by
 obtain ⟨t, t1, t2, t3, t4, t5⟩ := forL_inv (body := fun k x s => keep_PacesGrow_L2 k x s) (s := (([] : List Play), s.L, s.f_at)) (xs := List.range n.toNat) (fun j t => t.1.length ≤ j ∧ (∀ x ∈ t.1, GoodP x) ∧ (∀ x ∈ t.1, playE x = 0) ∧ Ok ⟨t.2.1, t.2.2⟩ (b + 2 * j)) (by simp; omega) (fun j x t hx hj ⟨i1, i2, i3, i4⟩ => by
  simp only [List.length_range] at hj
  obtain ⟨it, s1, k1, k2, k3⟩ := some_ok _ [(⟨#[99, 97]⟩ : ByteArray), (⟨#[99, 98]⟩ : ByteArray), (⟨#[99, 99]⟩ : ByteArray)] i4 (by omega) (by simp) (by simp)
  obtain ⟨at_, s2, d1, d2, d3, d4⟩ := range_ok s1 0 60 k3 (by omega) (by decide) (by decide) (by decide)
  unfold keep_PacesGrow_L2
  rw [k1, Option.bind_some]
  simp only [d1, Option.bind_some]
  rw [appL_ok _ _ (by simp; omega)]
  have hit : Short it ∧ keyB it = true := by
   simp only [List.mem_cons, List.not_mem_nil, or_false] at k2
   rcases k2 with rfl | rfl | rfl <;> exact ⟨short_lit rfl, by kernel_rfl⟩
  refine ⟨_, rfl, by simp; omega, fun y hy => ?_, fun y hy => ?_, d4.mono (by omega)⟩
  ·rcases List.mem_append.1 hy with hy | hy
   ·exact i2 y hy
   ·rw [List.mem_singleton.1 hy]
    exact ⟨short_lit rfl, hit.1⟩
  ·rcases List.mem_append.1 hy with hy | hy
   ·exact i3 y hy
   ·rw [List.mem_singleton.1 hy]
    unfold playE badM badL out
    simp only
    rw [hit.2, show keyB ⟨#[112]⟩ = true by kernel_rfl, decide_eq_false (show ¬ at_ < 0 by omega), decide_eq_false (show ¬ at_ > 345686399999 by omega)]
    rfl) ⟨Nat.zero_le _, fun x hx => (by cases hx), fun x hx => (by cases hx), hs.mono (by omega)⟩
 rw [List.length_range] at t2 t5
 exact ⟨t.1, ⟨t.2.1, t.2.2⟩, t1, by omega, t3, t4, t5.mono (by omega)⟩
theorem playsE_0 : ∀ l : List Play, (∀ x ∈ l, playE x = 0) → playsE l = 0
 | [], _ => rfl
 | p :: l, h => by
  have h1 := h p (by simp)
  have h2 := playsE_0 l (fun x hx => h x (by simp [hx]))
  unfold playsE
  rw [h1, h2]
  rfl
theorem open_loop (c : List Campaign) (p : List Play) (at_ : Int) (q : Stream) (e1 e2 : Int) (key : ByteArray) (ok : Bool) (hk : c.length ≤ 1000)
  (h : (ok = false ∧ key = nilS ∧ ∀ (i : Nat) (x : Campaign), c[i]? = some x → openB x at_ p = false ∧ x.Key ≠ nilS) ∨ ok = true ∧ ∀ (i : Nat) (x : Campaign), c[i]? = some x → x.Key = key → openB x at_ p = true) :
  ∀ (l : List Campaign) (k : Nat), c.drop k = l → forR (fun k x s => keep_PacesGrow_L3 (at_, q) (c.map (paceF at_ p), e1) (key, ok, e2) k x s) l k () = some (.go ())
 | [], _, _ => rfl
 | x :: l, k, hd => by
  have hg := drop_get hd
  have hpk : idx (c.map (paceF at_ p)) (k : Int) = some (paceF at_ p x) := by rw [idx_nat, List.getElem?_map, hg]; rfl
  have ho : (bif decide (x.Time.From ≤ at_) then bif decide (at_ < x.Time.To) then some (decide ((paceF at_ p x).Done < x.Goal)) else some false else some false) = some (openB x at_ p) := by
   unfold openB
   have ed : (paceF at_ p x).Done = doneF x at_ p := rfl
   rw [ed]
   cases decide (x.Time.From ≤ at_) <;> cases decide (at_ < x.Time.To) <;> cases decide (doneF x at_ p < x.Goal) <;> rfl
  have hB : keep_PacesGrow_L3 (at_, q) (c.map (paceF at_ p), e1) (key, ok, e2) k x () = some (.go ()) := by
   unfold keep_PacesGrow_L3
   simp only
   rw [hpk]
   simp only [Option.bind_some]
   rw [ho]
   simp only [Option.bind_some]
   rw [sEq_dec]
   rcases h with ⟨rfl, rfl, h⟩ | ⟨rfl, h⟩
   ·obtain ⟨h1, h2⟩ := h k x hg
    rw [decide_eq_false h2, h1]; rfl
   ·by_cases hkx : x.Key = key
    ·rw [decide_eq_true hkx, h k x hg hkx]; rfl
    ·rw [decide_eq_false hkx]
     cases openB x at_ p <;> rfl
  rw [forR, hB, Option.bind_some]
  exact open_loop c p at_ q e1 e2 key ok hk h l (k + 1) (drop_next hd)
theorem pacesGrow (l : List Int) : keep_PacesGrow l = some true := by
 unfold keep_PacesGrow
 have h0 : Ok (⟨l, 0⟩ : Stream) 0 := ⟨Int.le_refl _, Int.le_refl _⟩
 obtain ⟨c, s1, a1, a2, a3, a4, a5, a6, a7⟩ := rightCamps _ h0 (by decide)
 obtain ⟨at_, s2, b1, b2, b3, b4⟩ := range_ok s1 0 100 a2 (by decide) (by decide) (by decide) (by decide)
 obtain ⟨s3, c1, c2⟩ := due_all (a := at_) s2 ⟨b2, b3⟩ c 0 (s2.L, s2.f_at) _ (fun x hx => ⟨a4 x hx, a5 x hx, a7 x hx⟩) (by omega) b4
 obtain ⟨n, s4, d1, d2, d3, d4⟩ := range_ok s3 0 9 c2 (by omega) (by decide) (by decide) (by decide)
 obtain ⟨p, s5, e1, e2, e3, e4, e5⟩ := plays_gen n s4 d4 (by omega) ⟨d2, d3⟩
 have hcf := campsF_0 a3 a5 a6
 have hr := campsF_right hcf
 have hF : faultOf c p at_ = 0 := by
  unfold faultOf
  rw [hcf, playsE_0 p e4]
  have hm : badM at_ = false := by
   unfold badM out
   rw [decide_eq_false (by omega), decide_eq_false (by omega)]; rfl
  rw [hm]; rfl
 have hpf := paceFault_eq c p at_ a4 e3 (by omega) (by omega)
 rw [hF] at hpf
 have hP : booking_Paces c p at_ = some (c.map (paceF at_ p), 0) := by
  unfold booking_Paces
  rw [hpf, Option.bind_some, bne_self_eq_false, cond_false, pacesK c p at_ (by omega) (by omega) hr (by omega)]; rfl
 have hkey : ∀ x ∈ c, x.Key ≠ nilS := fun x hx e => by
  have := a5 x hx
  unfold campStp at this
  rw [e, show keyB nilS = false by kernel_rfl] at this
  cases this
 obtain ⟨s', f1, f2⟩ := choose_open c p at_ (by omega) (by omega) c 0 (-1) rfl (.inl ⟨rfl, fun i x hi => absurd hi (Nat.not_lt_zero i)⟩)
 have hChoose : ∃ key ok, booking_Choose c p at_ = some (key, ok, 0) ∧ ((ok = false ∧ key = nilS ∧ ∀ (i : Nat) (x : Campaign), c[i]? = some x → openB x at_ p = false ∧ x.Key ≠ nilS) ∨ ok = true ∧ ∀ (i : Nat) (x : Campaign), c[i]? = some x → x.Key = key → openB x at_ p = true) := by
  unfold booking_Choose
  rw [hpf, Option.bind_some, bne_self_eq_false, cond_false, pacesK c p at_ (by omega) (by omega) hr (by omega), Option.bind_some, forL_eq (by omega), f1]
  simp only [Option.bind_some, thenC]
  rcases f2 with ⟨rfl, g⟩ | ⟨j, x, rfl, g1, g2⟩
  ·exact ⟨_, _, rfl, .inl ⟨rfl, rfl, fun i x hx => ⟨g i x hx, hkey x (List.mem_of_getElem? hx)⟩⟩⟩
  ·have hd : decide ((j : Int) < 0) = false := by simp
   simp only [hd, cond_false, idx_nat, g1, Option.bind_some]
   refine ⟨_, _, rfl, .inr ⟨rfl, fun i y hy he => ?_⟩⟩
   obtain rfl : i = j := by
    obtain ⟨l1, m1⟩ := List.getElem?_eq_some_iff.1 hy
    obtain ⟨l2, m2⟩ := List.getElem?_eq_some_iff.1 g1
    have hpw := List.pairwise_iff_getElem.1 a6
    rcases Nat.lt_trichotomy i j with q | q | q
    ·have := hpw i j (by simpa using l1) (by simpa using l2) q
     rw [List.getElem_map, List.getElem_map, m1, m2, he] at this
     exact absurd this (lt_irr _)
    ·exact q
    ·have := hpw j i (by simpa using l2) (by simpa using l1) q
     rw [List.getElem_map, List.getElem_map, m1, m2, he] at this
     exact absurd this (lt_irr _)
   rw [g1] at hy
   rw [← Option.some.inj hy]; exact g2
 obtain ⟨key, ok, k1, k2⟩ := hChoose
 have hol := open_loop c p at_ s2 0 0 key ok (by omega) k2 c 0 rfl
 have e0 : (⟨s3.L, s3.f_at⟩ : Stream) = s3 := rfl
 simp only [a1, b1, Option.bind_some]
 rw [forL_eq (by omega), c1]
 simp only [Option.bind_some, thenC, e0, d1, e1, k1, hP, bne_self_eq_false, cond_false, List.length_map]
 rw [forL_eq (by omega), hol]
 simp only [Option.bind_some, thenC, ready_ok]
end Go.Proofs.YtipcgokielgnhaaGreatDoor.Law

