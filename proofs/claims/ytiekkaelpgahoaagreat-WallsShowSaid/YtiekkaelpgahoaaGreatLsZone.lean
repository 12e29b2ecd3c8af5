import Derived.Test.YtiekkaelpgahoaaGreatLsCheck
import Derived.Test.YtiekkaelpgahoaaGreatRmReg2
/-
  PLAIN LEMMAS: the zone of which a pixel is seen.
-/
open Go Go.Eng
namespace Go.Proofs.YtiekkaelpgahoaaGreat.Law
set_option linter.unusedVariables false
set_option linter.unusedSimpArgs false

theorem shas_eq {r : Rect} (h : Fine r) (x y : Int) : screen_has r x y = some (has1 x y r) := by
 obtain ⟨h1, h2, h3, h4⟩ := h
 unfold screen_has has1
 rw [w64_id (n := r.X + r.W) (by omega), w64_id (n := r.Y + r.H) (by omega)]
 cases decide (r.X ≤ x) <;> cases decide (x < r.X + r.W) <;> cases decide (r.Y ≤ y) <;> rfl
theorem rhas_eq {r : Rect} (h : Fine r) (x y : Int) : ref_has r x y = some (has1 x y r) := by
 obtain ⟨h1, h2, h3, h4⟩ := h
 unfold ref_has
 rw [in_eq, in_eq, w64_id (n := r.X + r.W) (by omega), w64_id (n := r.Y + r.H) (by omega), w64_id (n := r.X + r.W - 1) (by omega), w64_id (n := r.Y + r.H - 1) (by omega)]
 have e1 : (!outB x r.X (r.X + r.W - 1)) = (decide (r.X ≤ x) && decide (x < r.X + r.W)) := by
  rw [Bool.eq_iff_iff]; simp [outB]; omega
 have e2 : (!outB y r.Y (r.Y + r.H - 1)) = (decide (r.Y ≤ y) && decide (y < r.Y + r.H)) := by
  rw [Bool.eq_iff_iff]; simp [outB]; omega
 rw [e1, e2]
 unfold has1
 cases (decide (r.X ≤ x) && decide (x < r.X + r.W)) <;> rfl
def hasZ (zs : List Zone) (x y : Int) (i : Nat) : Prop := ∃ z, zs[i]? = some z ∧ has1 x y z.On = true
def cov (zs : List Zone) (i k : Nat) : Prop := ∃ a b, zs[i]? = some a ∧ zs[k]? = some b ∧ (b.Order < a.Order ∨ a.Order = b.Order ∧ k < i)
def covB (a b : Zone) (i k : Nat) : Bool := decide (b.Order < a.Order) || ((a.Order == b.Order) && decide (k < i))
theorem cov_iff {zs : List Zone} {i k : Nat} {a b : Zone} (ha : zs[i]? = some a) (hb : zs[k]? = some b) : cov zs i k ↔ covB a b i k = true := by
 unfold cov covB
 simp only [Bool.or_eq_true, Bool.and_eq_true, decide_eq_true_eq, beq_iff_eq]
 constructor
 ·rintro ⟨a', b', h1, h2, h3⟩
  rw [ha] at h1; rw [hb] at h2
  simp only [Option.some.injEq] at h1 h2
  subst h1; subst h2
  exact h3
 ·exact fun h => ⟨a, b, ha, hb, h⟩
theorem covers_eq {zs : List Zone} {i k : Nat} {a b : Zone} (ha : zs[i]? = some a) (hb : zs[k]? = some b) : screen_covers zs (i : Int) (k : Int) = some (covB a b i k) := by
 unfold screen_covers covB
 simp only [idx_nat, ha, hb, Option.bind_some]
 have e : decide ((i : Int) > (k : Int)) = decide (k < i) := decide_eq_decide.2 (by omega)
 have e2 : decide (a.Order > b.Order) = decide (b.Order < a.Order) := rfl
 rw [e, e2]
 cases decide (b.Order < a.Order) <;> cases a.Order == b.Order <;> rfl
theorem cov_irr {zs : List Zone} (i : Nat) : ¬ cov zs i i := by
 rintro ⟨a, b, h1, h2, h3⟩
 rw [h1] at h2
 simp only [Option.some.injEq] at h2
 subst h2
 omega
theorem cov_tot {zs : List Zone} {i k : Nat} {a b : Zone} (ha : zs[i]? = some a) (hb : zs[k]? = some b) (h : i ≠ k) : cov zs i k ∨ cov zs k i := by
 by_cases h1 : b.Order < a.Order
 ·exact .inl ⟨a, b, ha, hb, .inl h1⟩
 ·by_cases h2 : a.Order < b.Order
  ·exact .inr ⟨b, a, hb, ha, .inl h2⟩
  ·have h3 : a.Order = b.Order := by omega
   by_cases h4 : k < i
   ·exact .inl ⟨a, b, ha, hb, .inr ⟨h3, h4⟩⟩
   ·exact .inr ⟨b, a, hb, ha, .inr ⟨h3.symm, by omega⟩⟩
def Win (zs : List Zone) (x y : Int) (j : Nat) (s : Int) : Prop := (s = -1 ∧ ∀ i, i < j → ¬ hasZ zs x y i) ∨ ∃ b : Nat, s = (b : Int) ∧ b < j ∧ hasZ zs x y b ∧ ∀ i, i < j → hasZ zs x y i → ¬ cov zs i b
theorem best_loop (L : Layout) (hz : ∀ z ∈ L.Zones, Fine z.On) (x y : Int) : ∀ (l : List Zone) (k : Nat) (s : Int), L.Zones.drop k = l → Win L.Zones x y k s →
  ∃ s', forR (fun k z s => screen_ZoneAt_L1 x y L k z s) l k s = some (.go s') ∧ forR (fun k z s => ref_ZoneOf_L1 x y L k z s) l k s = some (.go s') ∧ Win L.Zones x y (k + l.length) s'
 | [], k, s, _, hw => ⟨s, rfl, rfl, hw⟩
 | z :: l, k, s, h, hw => by
  have hg := drop_get h
  have hf := hz z (List.mem_of_getElem? hg)
  obtain ⟨s', b1, b2, b3⟩ : ∃ s', screen_ZoneAt_L1 x y L k z s = some (.go s') ∧ ref_ZoneOf_L1 x y L k z s = some (.go s') ∧ Win L.Zones x y (k + 1) s' := by
   unfold screen_ZoneAt_L1 ref_ZoneOf_L1
   rw [shas_eq hf, rhas_eq hf]
   cases hh : has1 x y z.On with
   | false =>
    have hno : ¬ hasZ L.Zones x y k := by
     rintro ⟨z', h1, h2⟩
     rw [hg] at h1
     simp only [Option.some.injEq] at h1
     subst h1; rw [hh] at h2; cases h2
    refine ⟨s, rfl, rfl, ?_⟩
    rcases hw with ⟨h1, h2⟩ | ⟨b, h1, h2, h3, h4⟩
    ·refine .inl ⟨h1, fun i hi => ?_⟩
     rcases Nat.lt_or_ge i k with g | g
     ·exact h2 i g
     ·have : i = k := by omega
      subst this; exact hno
    ·refine .inr ⟨b, h1, by omega, h3, fun i hi hh' => ?_⟩
     rcases Nat.lt_or_ge i k with g | g
     ·exact h4 i g hh'
     ·have : i = k := by omega
      subst this; exact absurd hh' hno
   | true =>
    have hyes : hasZ L.Zones x y k := ⟨z, hg, hh⟩
    rcases hw with ⟨h1, h2⟩ | ⟨b, h1, h2, h3, h4⟩
    ·subst h1
     refine ⟨(k : Int), rfl, rfl, .inr ⟨k, rfl, by omega, hyes, fun i hi hh' => ?_⟩⟩
     rcases Nat.lt_or_ge i k with g | g
     ·exact absurd hh' (h2 i g)
     ·have : i = k := by omega
      subst this; exact cov_irr _
    ·subst h1
     obtain ⟨zb, q1, q2⟩ := id h3
     have hd : decide ((b : Int) < 0) = false := by simp
     have hc := covers_eq hg q1
     have hcb : covB z zb k b = decide (z.Order ≥ zb.Order) := by
      unfold covB
      rw [decide_eq_true h2, Bool.and_true, Bool.eq_iff_iff]
      simp only [Bool.or_eq_true, decide_eq_true_eq, beq_iff_eq]; omega
     simp only [hd, cond_true, cond_false, Option.bind_some, hc, idx_nat, q1, ← hcb]
     cases hcv : covB z zb k b with
     | true =>
      refine ⟨(k : Int), rfl, rfl, .inr ⟨k, rfl, by omega, hyes, fun i hi hh' => ?_⟩⟩
      rcases Nat.lt_or_ge i k with g | g
      ·rintro ⟨a, c, p1, p2, p3⟩
       rw [hg] at p2
       simp only [Option.some.injEq] at p2
       subst p2
       rw [hcb] at hcv
       simp only [ge_iff_le, decide_eq_true_eq] at hcv
       exact h4 i g hh' ⟨a, zb, p1, q1, .inl (by omega)⟩
      ·have : i = k := by omega
       subst this; exact cov_irr _
     | false =>
      refine ⟨(b : Int), rfl, rfl, .inr ⟨b, rfl, by omega, h3, fun i hi hh' => ?_⟩⟩
      rcases Nat.lt_or_ge i k with g | g
      ·exact h4 i g hh'
      ·have : i = k := by omega
       subst this
       rw [cov_iff hg q1, hcv]; simp
  rw [forR, forR, b1, b2]
  obtain ⟨s2, c1, c2, c3⟩ := best_loop L hz x y l (k + 1) s' (drop_next h) b3
  exact ⟨s2, c1, c2, by rw [List.length_cons, show k + (l.length + 1) = k + 1 + l.length by omega]; exact c3⟩
theorem zoneOf_ok (L : Layout) (hz : ∀ z ∈ L.Zones, Fine z.On) (hl : L.Zones.length ≤ 1000) (x y : Int) : ∃ (key : ByteArray) (ok : Bool), ref_ZoneOf L x y = some (key, ok) ∧
  ((forL L.Zones (-1) (fun k x' s => screen_ZoneAt_L1 x y L k x' s)).bind fun o_19 => thenC o_19 (fun s_16 => bif (decide (s_16 < 0)) then some ((⟨#[]⟩ : ByteArray), false, (0 : Int)) else (idx L.Zones s_16).bind fun y_34 => some (y_34.Key, true, 0)) (fun _ => none)) = some (key, ok, 0) ∧
  ((key = ⟨#[]⟩ ∧ ∀ i, i < L.Zones.length → ¬ hasZ L.Zones x y i) ∨ ∃ (b : Nat) (z : Zone), L.Zones[b]? = some z ∧ key = z.Key ∧ hasZ L.Zones x y b ∧ ∀ i, i < L.Zones.length → hasZ L.Zones x y i → ¬ cov L.Zones i b) := by
 obtain ⟨s, h1, h2, h3⟩ := best_loop L hz x y L.Zones 0 (-1) rfl (.inl ⟨rfl, fun i hi => absurd hi (Nat.not_lt_zero i)⟩)
 rw [Nat.zero_add] at h3
 unfold ref_ZoneOf
 rw [forL_eq (by omega), forL_eq (by omega), h1, h2]
 rcases h3 with ⟨k1, k2⟩ | ⟨b, k1, k2, k3, k4⟩
 ·subst k1
  exact ⟨_, _, rfl, rfl, .inl ⟨rfl, k2⟩⟩
 ·subst k1
  obtain ⟨z, q1, q2⟩ := id k3
  have hd : decide ((b : Int) < 0) = false := by simp
  simp only [Option.bind_some, thenC, hd, cond_false, idx_nat, q1]
  exact ⟨_, _, rfl, rfl, .inr ⟨b, z, q1, rfl, k3, k4⟩⟩
theorem above_loop (L : Layout) (kk : Nat) (zk : Zone) (hk : L.Zones[kk]? = some zk) (hl : L.Zones.length ≤ 1000) : ∀ (l : List Zone) (k : Nat) (s : List Rect), L.Zones.drop k = l → s.length ≤ k → (∀ r, r ∈ s ↔ ∃ (i : Nat) (z : Zone), i < k ∧ L.Zones[i]? = some z ∧ cov L.Zones i kk ∧ r = z.On) →
  ∃ s', forR (fun k z s => screen_seenOf_L1 L kk k z s) l k s = some (.go s') ∧ s'.length ≤ k + l.length ∧ ∀ r, r ∈ s' ↔ ∃ (i : Nat) (z : Zone), i < k + l.length ∧ L.Zones[i]? = some z ∧ cov L.Zones i kk ∧ r = z.On
 | [], k, s, _, hs, hm => ⟨s, rfl, hs, hm⟩
 | z :: l, k, s, h, hs, hm => by
  have hg := drop_get h
  have hlt := drop_lt h
  have hB : screen_seenOf_L1 L kk k z s = some (.go (s ++ bif covB z zk k kk then [z.On] else [])) := by
   unfold screen_seenOf_L1
   rw [covers_eq hg hk, Option.bind_some]
   cases covB z zk k kk with
   | true => rw [cond_true, appL_ok _ _ (by simp; omega)]; rfl
   | false => simp
  rw [forR, hB]
  obtain ⟨s', c1, c2, c3⟩ := above_loop L kk zk hk hl l (k + 1) (s ++ bif covB z zk k kk then [z.On] else []) (drop_next h) (by cases covB z zk k kk <;> simp <;> omega) (fun r => by
   rw [List.mem_append, hm]
   constructor
   ·rintro (⟨i, z', a, b, c, d⟩ | hr)
    ·exact ⟨i, z', by omega, b, c, d⟩
    ·cases hc : covB z zk k kk with
     | false => rw [hc] at hr; cases hr
     | true =>
      rw [hc] at hr
      simp only [cond_true, List.mem_singleton] at hr
      exact ⟨k, z, by omega, hg, (cov_iff hg hk).2 hc, hr⟩
   ·rintro ⟨i, z', a, b, c, d⟩
    rcases Nat.lt_or_ge i k with g | g
    ·exact .inl ⟨i, z', g, b, c, d⟩
    ·have : i = k := by omega
     subst this
     rw [hg] at b
     simp only [Option.some.injEq] at b
     subst b
     right
     rw [(cov_iff hg hk).1 c]
     simp [d])
  rw [List.length_cons, show k + (l.length + 1) = k + 1 + l.length by omega]
  exact ⟨s', c1, c2, c3⟩
theorem reg_v1 (xs ys : List Int) (L : Layout) (z : Zone) : (fun s => ref_regionOf_v1_L3 ys xs L z s) = fun s => regL3 (fun x y => ref_SeenOf_1 x y L z) ys xs s := rfl
theorem hasB_one (r : Rect) (x y : Int) : hasB [r] x y = has1 x y r := by simp [hasB]
def SeenP (zs : List Zone) (k : Nat) (x y : Int) : Prop := hasZ zs x y k ∧ ∀ i, i < zs.length → hasZ zs x y i → ¬ cov zs i k
theorem seenOf_ok (L : Layout) (hz : ∀ z ∈ L.Zones, Fine z.On ∧ keyB z.Key = true) (hp : L.Zones.Pairwise (fun a b => lt a.Key b.Key)) (hl : L.Zones.length ≤ 5) (kk : Nat) (zk : Zone) (hk : L.Zones[kk]? = some zk) :
  ∃ R : List Rect, screen_seenOf L kk = some R ∧ ref_regionOf_v1 (L.Zones.map (·.On)) L zk = some R ∧ R.length ≤ 78 ∧
   ∃ bs : List Band, R = flatB bs ∧ CanonB (-200000) bs ∧ (∀ y, CanonFrom (-200000) (rowAt bs y) ∧ (∀ r ∈ rowAt bs y, Okr r) ∧ ∀ x, mem x (rowAt bs y) ↔ SeenP L.Zones kk x y) ∧ ∃ above : List Rect, (∀ r ∈ above, Fine r) ∧ Fine zk.On ∧ ∀ x y, SeenP L.Zones kk x y ↔ hasP [zk.On] x y ∧ ¬ hasP above x y := by
 have hf : ∀ z ∈ L.Zones, Fine z.On := fun z h => (hz z h).1
 obtain ⟨above, a1, a2, a3⟩ := above_loop L kk zk hk (by omega) L.Zones 0 [] rfl (Nat.le_refl _) (fun r => by
  constructor
  ·intro h; cases h
  ·rintro ⟨i, z, h, _⟩; exact absurd h (Nat.not_lt_zero i))
 rw [Nat.zero_add] at a2
 have hset : ∀ x y, SeenP L.Zones kk x y ↔ hasP [zk.On] x y ∧ ¬ hasP above x y := fun x y => by
  rw [← hasB_iff, ← hasB_iff, hasB_one]
  unfold SeenP
  have e1 : hasZ L.Zones x y kk ↔ has1 x y zk.On = true := by
   constructor
   ·rintro ⟨z, h1, h2⟩
    rw [hk] at h1
    simp only [Option.some.injEq] at h1
    subst h1; exact h2
   ·exact fun h => ⟨zk, hk, h⟩
  refine and_congr e1 ?_
  unfold hasB
  rw [List.any_eq_true]
  constructor
  ·rintro h ⟨r, hr, k⟩
   obtain ⟨i, z, b1, b2, b3, b4⟩ := (a3 r).1 hr
   subst b4
   exact h i (by omega) ⟨z, b2, k⟩ b3
  ·rintro h i hi ⟨z, b2, k⟩ b3
   exact h ⟨z.On, (a3 _).2 ⟨i, z, by omega, b2, b3, rfl⟩, k⟩
 have hkey : ∀ (i : Nat) (z : Zone), L.Zones[i]? = some z → z.Key = zk.Key → i = kk := fun i z hi e => by
  obtain ⟨l1, e1⟩ := List.getElem?_eq_some_iff.1 hi
  obtain ⟨l2, e2⟩ := List.getElem?_eq_some_iff.1 hk
  rcases Nat.lt_trichotomy i kk with g | g | g
  ·exfalso
   have := (List.pairwise_iff_getElem.1 hp) i kk l1 l2 g
   rw [e1, e2, e] at this
   exact lt_irr _ this
  ·exact g
  ·exfalso
   have := (List.pairwise_iff_getElem.1 hp) kk i l2 l1 g
   rw [e1, e2, e] at this
   exact lt_irr _ this
 have hkne : zk.Key ≠ ⟨#[]⟩ := fun e => by
  have := keyB_ne (hz zk (List.mem_of_getElem? hk)).2
  rw [e] at this; exact this rfl
 have hfa : ∀ r ∈ above, ∃ z ∈ L.Zones, r = z.On := fun r hr => by
  obtain ⟨i, z, b1, b2, b3, b4⟩ := (a3 r).1 hr
  exact ⟨z, List.mem_of_getElem? b2, b4⟩
 obtain ⟨xs, ys, res, c1, c2, c3, c4, c5, bs, d1, d2, d3⟩ := region_gen (fun x y => ref_SeenOf_1 x y L zk) [zk.On] above (L.Zones.map (·.On)) (fun r hr => by
   obtain ⟨z, h1, rfl⟩ := List.mem_map.1 hr
   exact hf z h1) (fun r hr => by
   rw [List.mem_singleton] at hr; subst hr
   exact List.mem_map.2 ⟨zk, List.mem_of_getElem? hk, rfl⟩) (fun r hr => by
   obtain ⟨z, h1, rfl⟩ := hfa r hr
   exact List.mem_map.2 ⟨z, h1, rfl⟩) (by simp) (by omega) (by simp; omega) (fun x y => by
  obtain ⟨key, ok, z1, z2, z3⟩ := zoneOf_ok L hf (by omega) x y
  unfold ref_SeenOf_1
  rw [z1, Option.bind_some]
  congr 1
  rw [Bool.eq_iff_iff, sEq_iff, Bool.and_eq_true, hasB_iff, Bool.not_eq_true', ← Bool.not_eq_true, hasB_iff, ← hset]
  rcases z3 with ⟨k1, k2⟩ | ⟨b, z, k1, k2, k3, k4⟩
  ·subst k1
   constructor
   ·exact fun e => absurd e.symm hkne
   ·rintro ⟨g1, g2⟩
    exact absurd g1 (k2 kk (List.getElem?_eq_some_iff.1 hk).1)
  ·subst k2
   constructor
   ·intro e
    have := hkey b z k1 e
    subst this
    exact ⟨k3, k4⟩
   ·rintro ⟨g1, g2⟩
    by_cases hb : b = kk
    ·subst hb
     rw [k1] at hk
     simp only [Option.some.injEq] at hk
     rw [hk]
    ·rcases cov_tot k1 hk hb with h | h
     ·exact absurd h (g2 b (List.getElem?_eq_some_iff.1 k1).1 k3)
     ·exact absurd h (k4 kk (List.getElem?_eq_some_iff.1 hk).1 g1))
 refine ⟨res, ?_, ?_, ?_, bs, d1, d2, fun y => ⟨(d3 y).1, (d3 y).2.1, fun x => by rw [(d3 y).2.2, hset]⟩, above, fun r hr => ?_, hf zk (List.mem_of_getElem? hk), hset⟩
 ·unfold screen_seenOf
  rw [forL_eq (by omega), a1]
  simp only [Option.bind_some, thenC, idx_nat, hk]
  rw [c3, Option.bind_some]
 ·unfold ref_regionOf_v1
  rw [c1, Option.bind_some, c2, Option.bind_some, reg_v1]
  exact c4
 ·refine Nat.le_trans c5 ?_
  simp only [List.length_cons, List.length_nil]
  have h13 := Nat.mul_le_mul (show 2 * (0 + 1 + above.length) + 1 ≤ 13 by omega) (show (0 + 1) * (above.length + 1) ≤ 6 by omega)
  exact h13
 ·obtain ⟨z, h1, rfl⟩ := hfa r hr
  exact hf z h1
end Go.Proofs.YtiekkaelpgahoaaGreat.Law

