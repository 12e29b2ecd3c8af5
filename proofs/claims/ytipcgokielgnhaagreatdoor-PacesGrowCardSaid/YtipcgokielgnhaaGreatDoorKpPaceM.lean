import Derived.Test.YtipcgokielgnhaaGreatDoorCpLaw
/-
  PLAIN LEMMAS: right campaigns; what is due, done and chosen of them.
-/
open Go Go.Eng
namespace Go.Proofs.YtipcgokielgnhaaGreatDoor.Law
set_option linter.unusedVariables false
set_option linter.unusedSimpArgs false

theorem forR_at {α σ ρ : Type} {body : Nat → α → σ → Option (Ctl σ ρ)} (I : Nat → σ → Prop) (xs : List α) : ∀ (l : List α) (k : Nat) (s : σ), xs.drop k = l → k ≤ xs.length → (∀ k x s, xs[k]? = some x → I k s → ∃ s', body k x s = some (.go s') ∧ I (k + 1) s') → I k s → ∃ s', forR body l k s = some (.go s') ∧ I xs.length s'
 | [], k, s, hd, hk, h, hi => by
  have := List.drop_eq_nil_iff.1 hd
  obtain rfl : k = xs.length := by omega
  exact ⟨s, rfl, hi⟩
 | x :: l, k, s, hd, hk, h, hi => by
  obtain ⟨s1, h1, h2⟩ := h k x s (drop_get hd) hi
  obtain ⟨s2, h3, h4⟩ := forR_at I xs l (k + 1) s1 (drop_next hd) (by have := drop_lt hd; omega) h h2
  exact ⟨s2, by rw [forR, h1, Option.bind_some]; exact h3, h4⟩
theorem forL_at {α σ ρ : Type} {body : Nat → α → σ → Option (Ctl σ ρ)} (I : Nat → σ → Prop) {xs : List α} {s : σ} (hl : xs.length ≤ 1000000000000) (h : ∀ k x s, xs[k]? = some x → I k s → ∃ s', body k x s = some (.go s') ∧ I (k + 1) s') (h0 : I 0 s) : ∃ s', forL xs s body = some (.go s') ∧ I xs.length s' := by
 rw [forL_eq hl]
 exact forR_at I xs xs 0 s rfl (Nat.zero_le _) h h0
theorem sub_next {α β : Type} {f : α → β} {ks : List β} {k : Nat} {x : β} {l : List α} (hx : ks[k]? = some x) (h : (l.map f).Sublist (ks.take k)) : (l.map f).Sublist (ks.take (k + 1)) ∧ ∀ c, f c = x → ((l ++ [c]).map f).Sublist (ks.take (k + 1)) := by
 have e : ks.take (k + 1) = ks.take k ++ [x] := by
  rw [List.take_add_one, hx]; rfl
 rw [e]
 refine ⟨h.trans (List.sublist_append_left _ _), fun c hc => ?_⟩
 rw [List.map_append]
 refine h.append ?_
 rw [List.map_cons, hc]
 exact List.Sublist.refl _
theorem lt_lit {a b : ByteArray} (h : sLt a b = true) : lt a b := (sLt_iff a b).1 h
theorem two_tags (s : Stream) {b : Int} (hs : Ok s b) (hb : b ≤ 900000) : ∃ t s', forL ([(⟨#[99, 105, 116, 121]⟩ : ByteArray), (⟨#[109, 97, 108, 108]⟩ : ByteArray)] : List ByteArray) (([] : List ByteArray), s.L, s.f_at) (fun k x s => mk_Stream_RightCampaigns_L1 k x s) = some (.go (t, s'.L, s'.f_at)) ∧ tagsF t = 0 ∧ t.length ≤ 20 ∧ (∀ x ∈ t, Short x) ∧ Ok s' (b + 2) := by
 obtain ⟨c, s1, h1, h2⟩ := flip_ok s 4 hs (by omega) (by decide) (by decide)
 obtain ⟨d, s2, k1, k2⟩ := flip_ok s1 4 h2 (by omega) (by decide) (by decide)
 have e1 : (⟨s.L, s.f_at⟩ : Stream) = s := rfl
 have e2 : (⟨s1.L, s1.f_at⟩ : Stream) = s1 := rfl
 rw [forL_eq (by simp)]
 cases c <;> cases d <;> simp only [forR, mk_Stream_RightCampaigns_L1, e1, h1, Option.bind_some, cond_true, cond_false, appL_ok [] [(⟨#[99, 105, 116, 121]⟩ : ByteArray)] (by simp), appL_ok [] [(⟨#[109, 97, 108, 108]⟩ : ByteArray)] (by simp), List.nil_append, e2, k1, appL_ok [(⟨#[99, 105, 116, 121]⟩ : ByteArray)] [(⟨#[109, 97, 108, 108]⟩ : ByteArray)] (by simp)]
 ·exact ⟨[], s2, rfl, by kernel_rfl, by decide, fun x hx => (by cases hx), k2.mono (by omega)⟩
 ·exact ⟨[⟨#[109, 97, 108, 108]⟩], s2, rfl, by kernel_rfl, by decide, fun x hx => (by rw [List.mem_singleton.1 hx]; exact short_lit rfl), k2.mono (by omega)⟩
 ·exact ⟨[⟨#[99, 105, 116, 121]⟩], s2, rfl, by kernel_rfl, by decide, fun x hx => (by rw [List.mem_singleton.1 hx]; exact short_lit rfl), k2.mono (by omega)⟩
 ·exact ⟨[⟨#[99, 105, 116, 121]⟩, ⟨#[109, 97, 108, 108]⟩], s2, rfl, by kernel_rfl, by decide, fun x hx => by
   simp only [List.mem_cons, List.not_mem_nil, or_false] at hx
   rcases hx with rfl | rfl <;> exact short_lit rfl, k2.mono (by omega)⟩
def keys4 : List ByteArray := [(⟨#[99, 97]⟩ : ByteArray), (⟨#[99, 98]⟩ : ByteArray), (⟨#[99, 99]⟩ : ByteArray), (⟨#[99, 100]⟩ : ByteArray)]
theorem keys4_rise : keys4.Pairwise lt := by
 unfold keys4
 simp only [List.pairwise_cons, List.mem_cons, List.not_mem_nil, or_false, forall_eq_or_imp, forall_eq]
 refine ⟨⟨lt_lit (by kernel_rfl), lt_lit (by kernel_rfl), lt_lit (by kernel_rfl)⟩, ⟨lt_lit (by kernel_rfl), lt_lit (by kernel_rfl)⟩, lt_lit (by kernel_rfl), fun a h => (by cases h), List.Pairwise.nil⟩
theorem keys4_key : ∀ k ∈ keys4, keyB k = true ∧ Short k ∧ sLe k nilS = false := by
 intro k hk
 simp only [keys4, List.mem_cons, List.not_mem_nil, or_false] at hk
 rcases hk with rfl | rfl | rfl | rfl <;> exact ⟨by kernel_rfl, short_lit rfl, by kernel_rfl⟩
theorem campStp_next {c : Campaign} {last : ByteArray} (h : campStp nilS c = 0) (hl : sLe c.Key last = false) : campStp last c = 0 := by
 unfold campStp at *
 rw [hl]
 cases h1 : (!keyB c.Key || (decide (c.Class.size ≠ 0) && !keyB c.Class)) with
 | true => rw [h1] at h; cases h
 | false =>
  rw [h1, cond_false] at h
  cases h2 : sLe c.Key nilS with
  | true => rw [h2] at h; cases h
  | false => rw [h2] at h; exact h
theorem chk_camps : ∀ (l : List Campaign) (last : ByteArray), (∀ c ∈ l, campStp nilS c = 0) → (l.map Campaign.Key).Pairwise lt → (∀ c ∈ l, sLe c.Key last = false) → chk Campaign.Key campStp last l = 0
 | [], _, _, _, _ => rfl
 | c :: l, last, h, hp, hl => by
  have h0 := campStp_next (h c (by simp)) (hl c (by simp))
  rw [List.map_cons, List.pairwise_cons] at hp
  rw [chk, h0]
  show (bif (0 : Int) == 0 then _ else _) = _
  rw [beq_self_eq_true, cond_true]
  refine chk_camps l c.Key (fun x hx => h x (by simp [hx])) hp.2 (fun x hx => ?_)
  rw [Bool.eq_false_iff]
  intro he
  exact (sLe_iff _ _).1 he (hp.1 x.Key (List.mem_map.2 ⟨x, hx, rfl⟩))
theorem rightCamps (s : Stream) {b : Int} (hs : Ok s b) (hb : b ≤ 800000) : ∃ xs s', mk_Stream_RightCampaigns s 4 = some (xs, s') ∧ Ok s' (b + 100) ∧ xs.length ≤ 4 ∧ (∀ x ∈ xs, GoodC x) ∧ (∀ x ∈ xs, campStp nilS x = 0) ∧ (xs.map Campaign.Key).Pairwise lt ∧ ∀ x ∈ xs, x.Time.To ≤ 100 := by
 unfold mk_Stream_RightCampaigns
 have hk1 : subL ([(⟨#[99, 97]⟩ : ByteArray), (⟨#[99, 98]⟩ : ByteArray), (⟨#[99, 99]⟩ : ByteArray), (⟨#[99, 100]⟩ : ByteArray)] : List ByteArray) 0 4 = some keys4 := rfl
 simp only [hk1, Option.bind_some]
 obtain ⟨s', h1, h2, h3, h4, h5, h6⟩ := forL_at (body := fun k x s => mk_Stream_RightCampaigns_L2 k x s) (fun k s => Ok ⟨s.2.1, s.2.2⟩ (b + 20 * k) ∧ (s.1.map Campaign.Key).Sublist (keys4.take k) ∧ (∀ x ∈ s.1, GoodC x) ∧ (∀ x ∈ s.1, campStp nilS x = 0) ∧ ∀ x ∈ s.1, x.Time.To ≤ 100)
  (xs := keys4) (s := (([] : List Campaign), s.L, s.f_at)) (by decide) (fun k x t hx ⟨i1, i2, i3, i4, i5⟩ => by
   have hkl : k < 4 := by
    rcases Nat.lt_or_ge k 4 with g | g
    ·exact g
    ·rw [List.getElem?_eq_none (by exact g)] at hx; cases hx
   obtain ⟨n1, n2, n3⟩ := keys4_key x (List.mem_of_getElem? hx)
   obtain ⟨g1, g2⟩ := sub_next hx i2
   have hlen : t.1.length ≤ 4 := by
    have := i2.length_le
    rw [List.length_map, List.length_take] at this
    omega
   obtain ⟨c, s1, k1, k2⟩ := flip_ok _ 5 i1 (by omega) (by decide) (by decide)
   simp only [mk_Stream_RightCampaigns_L2, k1, Option.bind_some]
   cases c with
   | true => exact ⟨_, rfl, k2.mono (by omega), g1, i3, i4, i5⟩
   | false =>
    obtain ⟨cl, s2, k3, kc, k4⟩ := some_ok s1 [(⟨#[]⟩ : ByteArray), (⟨#[]⟩ : ByteArray), (⟨#[99, 97, 114, 115]⟩ : ByteArray), (⟨#[102, 111, 111, 100]⟩ : ByteArray)] k2 (by omega) (by simp) (by simp)
    obtain ⟨p1, s3, m1, q1, n1'⟩ := pick_ok s2 [0, 0, 10, 20] k4 (by omega) (by simp) (by simp)
    obtain ⟨p2, s4, m2, q2, n2'⟩ := pick_ok s3 [30, 50, 60, 100] n1' (by omega) (by simp) (by simp)
    obtain ⟨p3, s5, m3, q3, n3'⟩ := pick_ok s4 [0, 1, 2, 3, 4, 6] n2' (by omega) (by simp) (by simp)
    obtain ⟨p4, s6, m4, q4, n4'⟩ := pick_ok s5 [0, 1, 2, 3, 9] n3' (by omega) (by simp) (by simp)
    obtain ⟨p5, s7, m5, q5, n5'⟩ := pick_ok s6 [0, 500, 1000, 1500] n4' (by omega) (by simp) (by simp)
    obtain ⟨tg, s8, k7, k8, k9, k10, k11⟩ := two_tags s7 n5' (by omega)
    simp only [List.mem_cons, List.not_mem_nil, or_false] at q1 q2 q3 q4 q5
    simp only [cond_false, k3, m1, m2, m3, m4, m5, k7, Option.bind_some, thenC_go, appL_ok t.1 _ (show t.1.length + [_].length ≤ _ by simp; omega)]
    have hcl : Short cl ∧ (decide (cl.size ≠ 0) && !keyB cl) = false := by
     simp only [List.mem_cons, List.not_mem_nil, or_false] at kc
     rcases kc with rfl | rfl | rfl | rfl <;> exact ⟨short_lit rfl, by kernel_rfl⟩
    refine ⟨_, rfl, k11.mono (by omega), g2 _ rfl, fun y hy => ?_, fun y hy => ?_, fun y hy => ?_⟩
    ·rcases List.mem_append.1 hy with hy | hy
     ·exact i3 y hy
     ·rw [List.mem_singleton.1 hy]
      exact ⟨n2, hcl.1, k9, k10⟩
    ·rcases List.mem_append.1 hy with hy | hy
     ·exact i4 y hy
     ·rw [List.mem_singleton.1 hy]
      unfold campStp badT out
      simp only [n1, hcl.2, n3, k8, Bool.not_true, Bool.or_false, cond_false]
      rw [decide_eq_false (show ¬ p1 < 0 by omega), decide_eq_false (show ¬ p1 ≥ p2 by omega), decide_eq_false (show ¬ p2 > 345686400000 by omega), decide_eq_false (show ¬ p3 < 0 by omega), decide_eq_false (show ¬ p3 > 1000000 by omega), decide_eq_false (show ¬ p4 < 0 by omega), decide_eq_false (show ¬ p4 > 1000000 by omega), decide_eq_false (show ¬ p5 < 0 by omega), decide_eq_false (show ¬ p5 > 1000000000 by omega)]
      rfl
    ·rcases List.mem_append.1 hy with hy | hy
     ·exact i5 y hy
     ·rw [List.mem_singleton.1 hy]
      show p2 ≤ 100
      omega) ⟨by simpa using hs, by simp, by simp, by simp, by simp⟩
 rw [h1]
 have hl : s'.1.length ≤ 4 := by
  have := h3.length_le
  rw [List.length_map, List.length_take] at this
  have e : keys4.length = 4 := rfl
  omega
 refine ⟨s'.1, ⟨s'.2.1, s'.2.2⟩, rfl, h2.mono (by show b + 20 * ((4 : Nat) : Int) ≤ b + 100; omega), hl, h4, h5, ?_, h6⟩
 rw [show keys4.take keys4.length = keys4 from rfl] at h3
 exact keys4_rise.sublist h3
theorem campsF_0 {xs : List Campaign} (hl : xs.length ≤ 4) (h : ∀ x ∈ xs, campStp nilS x = 0) (hp : (xs.map Campaign.Key).Pairwise lt) : campsF xs = 0 := by
 unfold campsF
 rw [decide_eq_false (by omega), cond_false]
 refine chk_camps xs nilS h hp (fun c hc => ?_)
 have := h c hc
 unfold campStp at this
 cases h1 : (!keyB c.Key || (decide (c.Class.size ≠ 0) && !keyB c.Class)) with
 | true => rw [h1] at this; cases this
 | false =>
  rw [h1, cond_false] at this
  cases h2 : sLe c.Key nilS with
  | true => rw [h2] at this; cases this
  | false => rfl
theorem due_facts {c : Campaign} (hc : RightC c) (ht : c.Time.To ≤ 1000) {a b : Int} (ha : 0 ≤ a ∧ a ≤ 1000) (hab : a ≤ b) (hb : b ≤ 1000) : 0 ≤ dueF c a ∧ dueF c a ≤ dueF c b ∧ dueF c c.Time.To = c.Goal := by
 obtain ⟨h1, h2, h3, ⟨h4, h5⟩, h6, h7⟩ := hc
 have nn : ∀ x : Int, c.Time.From ≤ x → 0 ≤ c.Goal * (x - c.Time.From) := fun x hx => Int.mul_nonneg h4 (by omega)
 refine ⟨?_, ?_, ?_⟩
 ·unfold dueF
  by_cases k1 : a < c.Time.From
  ·rw [if_pos k1]; exact Int.le_refl _
  ·rw [if_neg k1]
   by_cases k2 : a ≥ c.Time.To
   ·rw [if_pos k2]; exact h4
   ·rw [if_neg k2, Int.tdiv_eq_ediv_of_nonneg (nn a (by omega))]
    exact Int.ediv_nonneg (nn a (by omega)) (by omega)
 ·unfold dueF
  by_cases k1 : a < c.Time.From
  ·rw [if_pos k1]
   by_cases k2 : b < c.Time.From
   ·rw [if_pos k2]; exact Int.le_refl _
   ·rw [if_neg k2]
    by_cases k3 : b ≥ c.Time.To
    ·rw [if_pos k3]; exact h4
    ·rw [if_neg k3, Int.tdiv_eq_ediv_of_nonneg (nn b (by omega))]
     exact Int.ediv_nonneg (nn b (by omega)) (by omega)
  ·rw [if_neg k1, if_neg (show ¬ b < c.Time.From by omega)]
   by_cases k2 : a ≥ c.Time.To
   ·rw [if_pos k2, if_pos (by omega)]; exact Int.le_refl _
   ·rw [if_neg k2, Int.tdiv_eq_ediv_of_nonneg (nn a (by omega))]
    by_cases k3 : b ≥ c.Time.To
    ·rw [if_pos k3]
     refine Int.ediv_le_of_le_mul (by omega) ?_
     exact Int.mul_le_mul_of_nonneg_left (by omega) h4
    ·rw [if_neg k3, Int.tdiv_eq_ediv_of_nonneg (nn b (by omega))]
     exact Int.ediv_le_ediv (by omega) (Int.mul_le_mul_of_nonneg_left (by omega) h4)
 ·unfold dueF
  rw [if_neg (by omega), if_pos (Int.le_refl _)]
theorem Due_eq {c : Campaign} (hg : GoodC c) (hs : campStp nilS c = 0) (ht : c.Time.To ≤ 1000) {a : Int} (ha : 0 ≤ a ∧ a ≤ 1000) : booking_Due c a = some (dueF c a, 0) := by
 have hf : campsF [c] = 0 := campsF_0 (by simp) (by simpa using hs) (by simp)
 have hr := campsF_right hf c (by simp)
 have hm : badM a = false := by
  unfold badM out
  rw [decide_eq_false (by omega), decide_eq_false (by omega)]; rfl
 unfold booking_Due
 rw [campsK [c] (by simpa using hg) (by simp), hf, isMoment_eq, hm, due_eqK c a hr (by omega)]
 rfl
def openB (c : Campaign) (at_ : Int) (p : List Play) : Bool := decide (c.Time.From ≤ at_) && (decide (at_ < c.Time.To) && decide (doneF c at_ p < c.Goal))
theorem choose_open (l0 : List Campaign) (p : List Play) (at_ : Int) (hp : p.length ≤ 1000) (hl0 : l0.length ≤ 1000) : ∀ (l : List Campaign) (k : Nat) (s : Int), l0.drop k = l → ((s = -1 ∧ ∀ (i : Nat) (c : Campaign), i < k → l0[i]? = some c → openB c at_ p = false) ∨ ∃ (j : Nat) (c : Campaign), s = (j : Int) ∧ l0[j]? = some c ∧ openB c at_ p = true) →
  ∃ s', forR (fun k x s => booking_Choose_L1 at_ (l0.map (paceF at_ p)) l0 k x s) l k s = some (.go s') ∧ ((s' = -1 ∧ ∀ (i : Nat) (c : Campaign), l0[i]? = some c → openB c at_ p = false) ∨ ∃ (j : Nat) (c : Campaign), s' = (j : Int) ∧ l0[j]? = some c ∧ openB c at_ p = true)
 | [], k, s, h, hs => by
  have hk := List.drop_eq_nil_iff.1 h
  refine ⟨s, rfl, hs.imp (fun ⟨h1, h2⟩ => ⟨h1, fun i c hi => h2 i c ?_ hi⟩) id⟩
  rcases Nat.lt_or_ge i l0.length with g | g
  ·omega
  ·rw [List.getElem?_eq_none g] at hi; cases hi
 | x :: l, k, s, h, hs => by
  have hg := drop_get h
  have hpk : idx (l0.map (paceF at_ p)) (k : Int) = some (paceF at_ p x) := by rw [idx_nat, List.getElem?_map, hg]; rfl
  obtain ⟨s', b1, b2⟩ : ∃ s', booking_Choose_L1 at_ (l0.map (paceF at_ p)) l0 k x s = some (.go s') ∧ ((openB x at_ p = false ∧ s' = s) ∨ (openB x at_ p = true ∧ (s' = (k : Int) ∨ (s' = s ∧ s ≠ -1)))) := by
   have ed : (paceF at_ p x).Done = doneF x at_ p := rfl
   unfold booking_Choose_L1 openB
   rw [hpk]
   by_cases k1 : at_ < x.Time.From
   ·rw [decide_eq_true k1, decide_eq_false (show ¬ x.Time.From ≤ at_ by omega)]
    exact ⟨s, rfl, .inl ⟨by first | rfl | trivial, rfl⟩⟩
   ·rw [decide_eq_false k1, decide_eq_true (show x.Time.From ≤ at_ by omega)]
    by_cases k2 : at_ ≥ x.Time.To
    ·rw [decide_eq_true k2, decide_eq_false (show ¬ at_ < x.Time.To by omega)]
     exact ⟨s, rfl, .inl ⟨by first | rfl | trivial, rfl⟩⟩
    ·rw [decide_eq_false k2, decide_eq_true (show at_ < x.Time.To by omega)]
     simp only [cond_false, Option.bind_some, ed, Bool.true_and]
     by_cases k3 : doneF x at_ p ≥ x.Goal
     ·rw [decide_eq_true k3, decide_eq_false (show ¬ doneF x at_ p < x.Goal by omega)]
      exact ⟨s, rfl, .inl ⟨by first | rfl | trivial, rfl⟩⟩
     ·rw [decide_eq_false k3, decide_eq_true (show doneF x at_ p < x.Goal by omega)]
      simp only [cond_false]
      rcases hs with ⟨rfl, _⟩ | ⟨j, c, rfl, hj, _⟩
      ·exact ⟨(k : Int), rfl, .inr ⟨by first | rfl | trivial, .inl rfl⟩⟩
      ·have hd : decide ((j : Int) < 0) = false := by simp
       have hpj : idx (l0.map (paceF at_ p)) (j : Int) = some (paceF at_ p c) := by rw [idx_nat, List.getElem?_map, hj]; rfl
       have hlj : idx l0 (j : Int) = some c := by rw [idx_nat]; exact hj
       rw [hd, cond_false, hpj, hlj]
       simp only [Option.bind_some]
       cases decide (w64 (w64 ((paceF at_ p x).Due - doneF x at_ p) * c.Goal) > w64 (w64 ((paceF at_ p c).Due - (paceF at_ p c).Done) * x.Goal)) with
       | true => exact ⟨(k : Int), rfl, .inr ⟨by first | rfl | trivial, .inl rfl⟩⟩
       | false => exact ⟨(j : Int), rfl, .inr ⟨by first | rfl | trivial, .inr ⟨rfl, by omega⟩⟩⟩
  rw [forR, b1]
  refine choose_open l0 p at_ hp hl0 l (k + 1) s' (drop_next h) ?_
  rcases b2 with ⟨e1, rfl⟩ | ⟨e1, rfl | ⟨rfl, e2⟩⟩
  ·refine hs.imp (fun ⟨h1, h2⟩ => ⟨h1, fun i c hi hc => ?_⟩) id
   rcases Nat.lt_or_ge i k with g | g
   ·exact h2 i c g hc
   ·obtain rfl : i = k := by omega
    rw [hg] at hc
    rw [← Option.some.inj hc]; exact e1
  ·exact .inr ⟨k, x, rfl, hg, e1⟩
  ·rcases hs with ⟨h1, _⟩ | h2
   ·exact absurd h1 e2
   ·exact .inr h2
end Go.Proofs.YtipcgokielgnhaaGreatDoor.Law

