/-
  THE PLAIN LAW (part 3).
-/
import Derived.Test.YtipcgokielgnhaaGreatDoorPl2
import Derived.Test.YtipcgokielgnhaaGreatDoorDefs
/-
  PLAIN LEMMAS: lists checked one by one.
-/
open Go Go.Eng
namespace Go.Proofs.YtipcgokielgnhaaGreatDoor.Law
set_option linter.unusedVariables false
set_option linter.unusedSimpArgs false

def nilS : ByteArray := ⟨#[]⟩
def prevK {α : Type} (key : α → ByteArray) (l : List α) (k : Nat) : ByteArray := if k = 0 then nilS else match l[k - 1]? with | some y => key y | none => nilS
def chk {α : Type} (key : α → ByteArray) (stp : ByteArray → α → Int) : ByteArray → List α → Int
 | _, [] => 0
 | last, x :: xs => bif stp last x == 0 then chk key stp (key x) xs else stp last x
def outC (e : Int) : Ctl Unit Int := bif e == 0 then .go () else .ret e

theorem chk_prev {α : Type} {key : α → ByteArray} {stp : ByteArray → α → Int} {body : Nat → α → Unit → Option (Ctl Unit Int)} (l : List α) : ∀ (xs : List α) (k : Nat), l.drop k = xs → (∀ k x, l[k]? = some x → body k x () = some (outC (stp (prevK key l k) x))) →
  forR body xs k () = some (outC (chk key stp (prevK key l k) xs))
 | [], k, h, hb => rfl
 | x :: xs, k, h, hb => by
  have hg := drop_get h
  rw [forR, hb k x hg, Option.bind_some, chk]
  cases he : stp (prevK key l k) x == 0 with
  | true =>
   simp only [outC, he, cond_true]
   rw [chk_prev l xs (k + 1) (drop_next h) hb]
   have : prevK key l (k + 1) = key x := by simp [prevK, hg]
   rw [this]; rfl
  | false => simp only [outC, he, cond_false]
theorem idx_prev {α : Type} {l : List α} {k : Nat} {x : α} (h : l[k]? = some x) (hk : 0 < k) (hl : l.length ≤ 1000000000) : ∃ y, idx l (w64 ((k : Int) - 1)) = some y ∧ l[k - 1]? = some y := by
 have hlt : k < l.length := (List.getElem?_eq_some_iff.1 h).1
 rw [w64_id (by omega), show (k : Int) - 1 = ((k - 1 : Nat) : Int) by omega, idx_nat]
 exact ⟨l[k - 1], List.getElem?_eq_getElem (by omega), List.getElem?_eq_getElem (by omega)⟩

theorem prev_test {α : Type} {key : α → ByteArray} {l : List α} {k : Nat} {x : α} {s : ByteArray} (h : l[k]? = some x) (hl : l.length ≤ 1000000000) (hs : s.size ≠ 0) :
  (bif decide ((k : Int) > 0) then (idx l (w64 ((k : Int) - 1))).bind fun y => some (sLe s (key y)) else some false) = some (sLe s (prevK key l k)) := by
 by_cases hk : 0 < k
 ·obtain ⟨y, h1, h2⟩ := idx_prev h hk hl
  have hd : decide ((k : Int) > 0) = true := by simp; omega
  simp only [hd, cond_true, h1, Option.bind_some, prevK, if_neg (show ¬ k = 0 by omega), h2]
 ·have hk0 : k = 0 := by omega
  subst hk0
  simp only [prevK, if_pos, nilS, sLe_nil, decide_eq_false hs]
  rfl


def badS (n : Int) : Bool := outB n 1 20000
theorem isSide_eq (n : Int) : screen_isSide n = some (!badS n) := by unfold screen_isSide; rw [outside_eq]; rfl
theorem sides2 (a b : Int) : screen_sidesFault [a, b] = some (bif badS a || badS b then 1 else 0) := by
 unfold screen_sidesFault
 rw [forL_eq (by simp)]
 simp only [forR, screen_sidesFault_L1, isSide_eq, Option.bind_some, Bool.not_not]
 cases badS a <;> cases badS b <;> rfl
def insB (r : Rect) (w h : Int) : Bool := decide (r.X ≥ 0) && (decide (r.Y ≥ 0) && (decide (w64 (r.X + r.W) ≤ w) && decide (w64 (r.Y + r.H) ≤ h)))
theorem inside_eq (r : Rect) (w h : Int) : screen_inside r w h = some (insB r w h) := by
 unfold screen_inside insB
 cases decide (r.X ≥ 0) <;> cases decide (r.Y ≥ 0) <;> cases decide (w64 (r.X + r.W) ≤ w) <;> rfl
end Go.Proofs.YtipcgokielgnhaaGreatDoor.Law

/-
  PLAIN LEMMAS: the checks of layouts.
-/
open Go Go.Eng
namespace Go.Proofs.YtipcgokielgnhaaGreatDoor.Law
set_option linter.unusedVariables false
set_option linter.unusedSimpArgs false

def stpZ (l : Layout) (last : ByteArray) (z : Zone) : Int := bif !keyB z.Key then 5 else bif badR z.On then 1 else bif !insB z.On l.W l.H then 3 else bif outB z.Order 0 1000 then 1 else bif sLe z.Key last then 7 else 0
theorem zones_ok {l : Layout} : ∀ (zs : List Zone) (last : ByteArray), chk (fun z : Zone => z.Key) (stpZ l) last zs = 0 → (∀ z ∈ zs, Fine z.On ∧ insB z.On l.W l.H = true ∧ keyB z.Key = true ∧ lt last z.Key) ∧ zs.Pairwise (fun a b => lt a.Key b.Key)
 | [], _, _ => ⟨fun z hz => (by cases hz), List.Pairwise.nil⟩
 | x :: zs, last, h => by
  rw [chk] at h
  cases he : stpZ l last x == 0 with
  | false => rw [he, cond_false] at h; rw [h] at he; cases he
  | true =>
   rw [he, cond_true] at h
   obtain ⟨i1, i2⟩ := zones_ok zs _ h
   have he := eq_of_beq he
   have hx : Fine x.On ∧ insB x.On l.W l.H = true ∧ keyB x.Key = true ∧ lt last x.Key := by
    unfold stpZ at he
    cases hk : keyB x.Key with
    | false => rw [hk] at he; cases he
    | true =>
     cases hb : badR x.On with
     | true => rw [hk, hb] at he; cases he
     | false =>
      cases hi : insB x.On l.W l.H with
      | false => rw [hk, hb, hi] at he; cases he
      | true =>
       cases ho : outB x.Order 0 1000 with
       | true => rw [hk, hb, hi, ho] at he; cases he
       | false =>
        cases hl : sLe x.Key last with
        | true => rw [hk, hb, hi, ho, hl] at he; cases he
        | false =>
         refine ⟨badR_fine hb, rfl, rfl, ?_⟩
         have := sLe_iff x.Key last
         rw [hl] at this
         simp only [Bool.false_eq_true, false_iff, Classical.not_not] at this
         exact this
   refine ⟨fun z hz => ?_, List.pairwise_cons.2 ⟨fun z hz => (i1 z hz).2.2.2, i2⟩⟩
   rcases List.mem_cons.1 hz with rfl | hz
   ·exact hx
   ·obtain ⟨a, b, c, d⟩ := i1 z hz
    exact ⟨a, b, c, lt_trans hx.2.2.2 d⟩
end Go.Proofs.YtipcgokielgnhaaGreatDoor.Law

/-
  PLAIN LEMMAS: the zone of which a pixel is seen.
-/
open Go Go.Eng
namespace Go.Proofs.YtipcgokielgnhaaGreatDoor.Law
set_option linter.unusedVariables false
set_option linter.unusedSimpArgs false

theorem shas_eq {r : Rect} (h : Fine r) (x y : Int) : screen_has r x y = some (has1 x y r) := by
 obtain ⟨h1, h2, h3, h4⟩ := h
 unfold screen_has has1
 rw [w64_id (n := r.X + r.W) (by omega), w64_id (n := r.Y + r.H) (by omega)]
 cases decide (r.X ≤ x) <;> cases decide (x < r.X + r.W) <;> cases decide (r.Y ≤ y) <;> rfl
def hasZ (zs : List Zone) (x y : Int) (i : Nat) : Prop := ∃ z, zs[i]? = some z ∧ has1 x y z.On = true
def cov (zs : List Zone) (i k : Nat) : Prop := ∃ a b, zs[i]? = some a ∧ zs[k]? = some b ∧ (b.Order < a.Order ∨ a.Order = b.Order ∧ k < i)
def covB (a b : Zone) (i k : Nat) : Bool := decide (b.Order < a.Order) || ((a.Order == b.Order) && decide (k < i))
theorem cov_iff {zs : List Zone} {i k : Nat} {a b : Zone} (ha : zs[i]? = some a) (hb : zs[k]? = some b) : cov zs i k ↔ covB a b i k = true := by
 unfold cov covB
 simp only [Bool.or_eq_true, Bool.and_eq_true, decide_eq_true_eq, beq_iff_eq]
 constructor
 ·rintro ⟨a', b', h1, h2, h3⟩
  rw [ha] at h1; rw [hb] at h2
  simp only [Option.some.injEq] at h1 h2
  subst h1; subst h2
  exact h3
 ·exact fun h => ⟨a, b, ha, hb, h⟩
theorem covers_eq {zs : List Zone} {i k : Nat} {a b : Zone} (ha : zs[i]? = some a) (hb : zs[k]? = some b) : screen_covers zs (i : Int) (k : Int) = some (covB a b i k) := by
 unfold screen_covers covB
 simp only [idx_nat, ha, hb, Option.bind_some]
 have e : decide ((i : Int) > (k : Int)) = decide (k < i) := decide_eq_decide.2 (by omega)
 have e2 : decide (a.Order > b.Order) = decide (b.Order < a.Order) := rfl
 rw [e, e2]
 cases decide (b.Order < a.Order) <;> cases a.Order == b.Order <;> rfl
theorem cov_irr {zs : List Zone} (i : Nat) : ¬ cov zs i i := by
 rintro ⟨a, b, h1, h2, h3⟩
 rw [h1] at h2
 simp only [Option.some.injEq] at h2
 subst h2
 omega
theorem cov_tot {zs : List Zone} {i k : Nat} {a b : Zone} (ha : zs[i]? = some a) (hb : zs[k]? = some b) (h : i ≠ k) : cov zs i k ∨ cov zs k i := by
 by_cases h1 : b.Order < a.Order
 ·exact .inl ⟨a, b, ha, hb, .inl h1⟩
 ·by_cases h2 : a.Order < b.Order
  ·exact .inr ⟨b, a, hb, ha, .inl h2⟩
  ·have h3 : a.Order = b.Order := by omega
   by_cases h4 : k < i
   ·exact .inl ⟨a, b, ha, hb, .inr ⟨h3, h4⟩⟩
   ·exact .inr ⟨b, a, hb, ha, .inr ⟨h3.symm, by omega⟩⟩
def Win (zs : List Zone) (x y : Int) (j : Nat) (s : Int) : Prop := (s = -1 ∧ ∀ i, i < j → ¬ hasZ zs x y i) ∨ ∃ b : Nat, s = (b : Int) ∧ b < j ∧ hasZ zs x y b ∧ ∀ i, i < j → hasZ zs x y i → ¬ cov zs i b
theorem above_loop (L : Layout) (kk : Nat) (zk : Zone) (hk : L.Zones[kk]? = some zk) (hl : L.Zones.length ≤ 1000) : ∀ (l : List Zone) (k : Nat) (s : List Rect), L.Zones.drop k = l → s.length ≤ k → (∀ r, r ∈ s ↔ ∃ (i : Nat) (z : Zone), i < k ∧ L.Zones[i]? = some z ∧ cov L.Zones i kk ∧ r = z.On) →
  ∃ s', forR (fun k z s => screen_seenOf_L1 L kk k z s) l k s = some (.go s') ∧ s'.length ≤ k + l.length ∧ ∀ r, r ∈ s' ↔ ∃ (i : Nat) (z : Zone), i < k + l.length ∧ L.Zones[i]? = some z ∧ cov L.Zones i kk ∧ r = z.On
 | [], k, s, _, hs, hm => ⟨s, rfl, hs, hm⟩
 | z :: l, k, s, h, hs, hm => by
  have hg := drop_get h
  have hlt := drop_lt h
  have hB : screen_seenOf_L1 L kk k z s = some (.go (s ++ bif covB z zk k kk then [z.On] else [])) := by
   unfold screen_seenOf_L1
   rw [covers_eq hg hk, Option.bind_some]
   cases covB z zk k kk with
   | true => rw [cond_true, appL_ok _ _ (by simp; omega)]; rfl
   | false => simp
  rw [forR, hB]
  obtain ⟨s', c1, c2, c3⟩ := above_loop L kk zk hk hl l (k + 1) (s ++ bif covB z zk k kk then [z.On] else []) (drop_next h) (by cases covB z zk k kk <;> simp <;> omega) (fun r => by
   rw [List.mem_append, hm]
   constructor
   ·rintro (⟨i, z', a, b, c, d⟩ | hr)
    ·exact ⟨i, z', by omega, b, c, d⟩
    ·cases hc : covB z zk k kk with
     | false => rw [hc] at hr; cases hr
     | true =>
      rw [hc] at hr
      simp only [cond_true, List.mem_singleton] at hr
      exact ⟨k, z, by omega, hg, (cov_iff hg hk).2 hc, hr⟩
   ·rintro ⟨i, z', a, b, c, d⟩
    rcases Nat.lt_or_ge i k with g | g
    ·exact .inl ⟨i, z', g, b, c, d⟩
    ·have : i = k := by omega
     subst this
     rw [hg] at b
     simp only [Option.some.injEq] at b
     subst b
     right
     rw [(cov_iff hg hk).1 c]
     simp [d])
  rw [List.length_cons, show k + (l.length + 1) = k + 1 + l.length by omega]
  exact ⟨s', c1, c2, c3⟩
theorem hasB_one (r : Rect) (x y : Int) : hasB [r] x y = has1 x y r := by simp [hasB]
def SeenP (zs : List Zone) (k : Nat) (x y : Int) : Prop := hasZ zs x y k ∧ ∀ i, i < zs.length → hasZ zs x y i → ¬ cov zs i k
end Go.Proofs.YtipcgokielgnhaaGreatDoor.Law

/-
  PLAIN LEMMAS: the pieces of a layout.
-/
open Go Go.Eng
namespace Go.Proofs.YtipcgokielgnhaaGreatDoor.Law
set_option linter.unusedVariables false
set_option linter.unusedSimpArgs false

def piecesFrom (Rf : Nat → List Rect) : List Zone → Nat → List Piece
 | [], _ => []
 | z :: l, k => (Rf k).map (fun r => (⟨z.Key, r⟩ : Piece)) ++ piecesFrom Rf l (k + 1)
def coveredFrom (Rf : Nat → List Rect) : List Zone → Nat → List ByteArray
 | [], _ => []
 | z :: l, k => (bif (Rf k).length == 0 then [z.Key] else []) ++ coveredFrom Rf l (k + 1)
theorem pieces_len (Rf : Nat → List Rect) (B : Nat) : ∀ (l : List Zone) (k : Nat), (∀ j, k ≤ j → j < k + l.length → (Rf j).length ≤ B) → (piecesFrom Rf l k).length ≤ B * l.length
 | [], _, _ => Nat.zero_le _
 | z :: l, k, h => by
  have h1 := h k (Nat.le_refl _) (by simp)
  have h2 := pieces_len Rf B l (k + 1) (fun j a b => h j (by omega) (by simp; omega))
  rw [piecesFrom, List.length_append, List.length_map, List.length_cons, Nat.mul_succ]; omega
theorem covered_len (Rf : Nat → List Rect) : ∀ (l : List Zone) (k : Nat), (coveredFrom Rf l k).length ≤ l.length
 | [], _ => Nat.le_refl _
 | z :: l, k => by
  have := covered_len Rf l (k + 1)
  rw [coveredFrom, List.length_append, List.length_cons]
  cases (Rf k).length == 0 <;> simp <;> omega
theorem push_loop (z : Zone) {body : Nat → Rect → List Piece → Option (Ctl (List Piece) Unit)} : ∀ (l : List Rect) (k : Nat) (s : List Piece), (∀ k r s, s.length ≤ 1000000 → body k r s = some (.go (s ++ [(⟨z.Key, r⟩ : Piece)]))) → s.length + l.length ≤ 1000000 → forR body l k s = some (.go (s ++ l.map (fun r => (⟨z.Key, r⟩ : Piece))))
 | [], k, s, _, _ => by simp [forR]
 | r :: l, k, s, h, hl => by
  simp only [List.length_cons] at hl
  rw [forR, h k r s (by omega), Option.bind_some]
  simp only
  rw [push_loop z l (k + 1) _ h (by simp; omega)]
  simp
theorem key_inj {zs : List Zone} (hp : zs.Pairwise (fun a b => lt a.Key b.Key)) {i k : Nat} {a b : Zone} (ha : zs[i]? = some a) (hb : zs[k]? = some b) (e : a.Key = b.Key) : i = k := by
 obtain ⟨l1, e1⟩ := List.getElem?_eq_some_iff.1 ha
 obtain ⟨l2, e2⟩ := List.getElem?_eq_some_iff.1 hb
 rcases Nat.lt_trichotomy i k with g | g | g
 ·exfalso
  have := (List.pairwise_iff_getElem.1 hp) i k l1 l2 g
  rw [e1, e2, e] at this
  exact lt_irr _ this
 ·exact g
 ·exfalso
  have := (List.pairwise_iff_getElem.1 hp) k i l2 l1 g
  rw [e1, e2, e] at this
  exact lt_irr _ this
end Go.Proofs.YtipcgokielgnhaaGreatDoor.Law

/-
  PLAIN LEMMAS: what is seen of the zones of a layout, by the program.
-/
open Go Go.Eng
namespace Go.Proofs.YtipcgokielgnhaaGreatDoor.Law
set_option linter.unusedVariables false
set_option linter.unusedSimpArgs false

theorem best_loopP (L : Layout) (hz : ∀ z ∈ L.Zones, Fine z.On) (x y : Int) : ∀ (l : List Zone) (k : Nat) (s : Int), L.Zones.drop k = l → Win L.Zones x y k s →
  ∃ s', forR (fun k z s => screen_ZoneAt_L1 x y L k z s) l k s = some (.go s') ∧ Win L.Zones x y (k + l.length) s'
 | [], k, s, _, hw => ⟨s, rfl, hw⟩
 | z :: l, k, s, h, hw => by
  have hg := drop_get h
  have hf := hz z (List.mem_of_getElem? hg)
  obtain ⟨s', b1, b3⟩ : ∃ s', screen_ZoneAt_L1 x y L k z s = some (.go s') ∧ Win L.Zones x y (k + 1) s' := by
   unfold screen_ZoneAt_L1
   rw [shas_eq hf]
   cases hh : has1 x y z.On with
   | false =>
    have hno : ¬ hasZ L.Zones x y k := by
     rintro ⟨z', h1, h2⟩
     rw [hg] at h1
     simp only [Option.some.injEq] at h1
     subst h1; rw [hh] at h2; cases h2
    refine ⟨s, rfl, ?_⟩
    rcases hw with ⟨h1, h2⟩ | ⟨b, h1, h2, h3, h4⟩
    ·refine .inl ⟨h1, fun i hi => ?_⟩
     rcases Nat.lt_or_ge i k with g | g
     ·exact h2 i g
     ·have : i = k := by omega
      subst this; exact hno
    ·refine .inr ⟨b, h1, by omega, h3, fun i hi hh' => ?_⟩
     rcases Nat.lt_or_ge i k with g | g
     ·exact h4 i g hh'
     ·have : i = k := by omega
      subst this; exact absurd hh' hno
   | true =>
    have hyes : hasZ L.Zones x y k := ⟨z, hg, hh⟩
    rcases hw with ⟨h1, h2⟩ | ⟨b, h1, h2, h3, h4⟩
    ·subst h1
     refine ⟨(k : Int), rfl, .inr ⟨k, rfl, by omega, hyes, fun i hi hh' => ?_⟩⟩
     rcases Nat.lt_or_ge i k with g | g
     ·exact absurd hh' (h2 i g)
     ·have : i = k := by omega
      subst this; exact cov_irr _
    ·subst h1
     obtain ⟨zb, q1, q2⟩ := id h3
     have hd : decide ((b : Int) < 0) = false := by simp
     have hc := covers_eq hg q1
     have hcb : covB z zb k b = decide (z.Order ≥ zb.Order) := by
      unfold covB
      rw [decide_eq_true h2, Bool.and_true, Bool.eq_iff_iff]
      simp only [Bool.or_eq_true, decide_eq_true_eq, beq_iff_eq]; omega
     simp only [hd, cond_true, cond_false, Option.bind_some, hc, idx_nat, q1]
     cases hcv : covB z zb k b with
     | true =>
      refine ⟨(k : Int), rfl, .inr ⟨k, rfl, by omega, hyes, fun i hi hh' => ?_⟩⟩
      rcases Nat.lt_or_ge i k with g | g
      ·rintro ⟨a, c, p1, p2, p3⟩
       rw [hg] at p2
       simp only [Option.some.injEq] at p2
       subst p2
       rw [hcb] at hcv
       simp only [ge_iff_le, decide_eq_true_eq] at hcv
       exact h4 i g hh' ⟨a, zb, p1, q1, .inl (by omega)⟩
      ·have : i = k := by omega
       subst this; exact cov_irr _
     | false =>
      refine ⟨(b : Int), rfl, .inr ⟨b, rfl, by omega, h3, fun i hi hh' => ?_⟩⟩
      rcases Nat.lt_or_ge i k with g | g
      ·exact h4 i g hh'
      ·have : i = k := by omega
       subst this
       rw [cov_iff hg q1, hcv]; simp
  rw [forR, b1]
  obtain ⟨s2, c1, c3⟩ := best_loopP L hz x y l (k + 1) s' (drop_next h) b3
  exact ⟨s2, c1, by rw [List.length_cons, show k + (l.length + 1) = k + 1 + l.length by omega]; exact c3⟩
theorem seenOfP (L : Layout) (hz : ∀ z ∈ L.Zones, Fine z.On ∧ keyB z.Key = true) (hp : L.Zones.Pairwise (fun a b => lt a.Key b.Key)) (hl : L.Zones.length ≤ 5) (kk : Nat) (zk : Zone) (hk : L.Zones[kk]? = some zk) :
  ∃ R : List Rect, screen_seenOf L kk = some R ∧ R.length ≤ 78 ∧
   ∃ bs : List Band, R = flatB bs ∧ CanonB (-200000) bs ∧ (∀ y, CanonFrom (-200000) (rowAt bs y) ∧ (∀ r ∈ rowAt bs y, Okr r) ∧ ∀ x, mem x (rowAt bs y) ↔ SeenP L.Zones kk x y) ∧ ∃ above : List Rect, (∀ r ∈ above, Fine r) ∧ Fine zk.On ∧ ∀ x y, SeenP L.Zones kk x y ↔ hasP [zk.On] x y ∧ ¬ hasP above x y := by
 have hf : ∀ z ∈ L.Zones, Fine z.On := fun z h => (hz z h).1
 obtain ⟨above, a1, a2, a3⟩ := above_loop L kk zk hk (by omega) L.Zones 0 [] rfl (Nat.le_refl _) (fun r => by
  constructor
  ·intro h; cases h
  ·rintro ⟨i, z, h, _⟩; exact absurd h (Nat.not_lt_zero i))
 rw [Nat.zero_add] at a2
 have hset : ∀ x y, SeenP L.Zones kk x y ↔ hasP [zk.On] x y ∧ ¬ hasP above x y := fun x y => by
  rw [← hasB_iff, ← hasB_iff, hasB_one]
  unfold SeenP
  have e1 : hasZ L.Zones x y kk ↔ has1 x y zk.On = true := by
   constructor
   ·rintro ⟨z, h1, h2⟩
    rw [hk] at h1
    simp only [Option.some.injEq] at h1
    subst h1; exact h2
   ·exact fun h => ⟨zk, hk, h⟩
  refine and_congr e1 ?_
  unfold hasB
  rw [List.any_eq_true]
  constructor
  ·rintro h ⟨r, hr, k⟩
   obtain ⟨i, z, b1, b2, b3, b4⟩ := (a3 r).1 hr
   subst b4
   exact h i (by omega) ⟨z, b2, k⟩ b3
  ·rintro h i hi ⟨z, b2, k⟩ b3
   exact h ⟨z.On, (a3 _).2 ⟨i, z, by omega, b2, b3, rfl⟩, k⟩
 have hfz : Fine zk.On := hf zk (List.mem_of_getElem? hk)
 have hfa : ∀ r ∈ above, Fine r := fun r hr => by
  obtain ⟨i, z, b1, b2, b3, b4⟩ := (a3 r).1 hr
  rw [b4]; exact hf z (List.mem_of_getElem? b2)
 obtain ⟨R, r1, r2, bs, d0, d1, d2⟩ := region_reg [zk.On] above 1 5 (by decide) (by decide) (fun r hr => by rw [List.mem_singleton] at hr; subst hr; exact hfz) hfa (fun y => rowB_le _ y) (by omega) (by simp)
 refine ⟨R, ?_, ?_, bs, d0, d1, fun y => ⟨(d2 y).1, (d2 y).2.1, fun x => by rw [(d2 y).2.2, hset]⟩, above, hfa, hfz, hset⟩
 ·unfold screen_seenOf
  rw [forL_eq (by omega), a1]
  simp only [Option.bind_some, thenC, idx_nat, hk, r1]
 ·have : (2 * ([zk.On].length + above.length) + 1) * (1 * (5 + 1)) ≤ 13 * 6 := Nat.mul_le_mul (by simp; omega) (by omega)
  omega
section
variable (L : Layout) (Rf : Nat → List Rect)
  (hR : ∀ (k : Nat) (z : Zone), L.Zones[k]? = some z → screen_seenOf L k = some (Rf k) ∧ (Rf k).length ≤ 78)
include hR
theorem seen_loopP : ∀ (l : List Zone) (k : Nat) (s : List Piece), L.Zones.drop k = l → s.length + 78 * l.length ≤ 100000 →
  forR (fun k x s => screen_seen_L2 L k x s) l k s = some (.go (s ++ piecesFrom Rf l k))
 | [], k, s, _, _ => by simp [forR, piecesFrom]
 | z :: l, k, s, h, hs => by
  have hg := drop_get h
  obtain ⟨h1, h3⟩ := hR k z hg
  simp only [List.length_cons] at hs
  have b1 : screen_seen_L2 L k z s = some (.go (s ++ (Rf k).map (fun r => (⟨z.Key, r⟩ : Piece)))) := by
   unfold screen_seen_L2
   rw [h1, Option.bind_some, forL_eq (by omega), push_loop z (Rf k) 0 s (fun k r s hs => by unfold screen_seen_L1; rw [appL_ok _ _ (by simp; omega)]; rfl) (by omega)]; rfl
  have c1 := seen_loopP l (k + 1) (s ++ (Rf k).map (fun r => (⟨z.Key, r⟩ : Piece))) (drop_next h) (by rw [List.length_append, List.length_map]; omega)
  rw [forR, b1, piecesFrom, ← List.append_assoc]
  exact c1
theorem covered_loopP : ∀ (l : List Zone) (k : Nat) (s : List ByteArray), L.Zones.drop k = l → s.length + l.length ≤ 100000 →
  forR (fun k x s => screen_Covered_L1 L k x s) l k s = some (.go (s ++ coveredFrom Rf l k))
 | [], k, s, _, _ => by simp [forR, coveredFrom]
 | z :: l, k, s, h, hs => by
  have hg := drop_get h
  obtain ⟨h1, h3⟩ := hR k z hg
  simp only [List.length_cons] at hs
  have e : (((Rf k).length : Int) == 0) = ((Rf k).length == 0) := by rw [Bool.eq_iff_iff]; simp
  have b1 : screen_Covered_L1 L k z s = some (.go (s ++ bif (Rf k).length == 0 then [z.Key] else [])) := by
   unfold screen_Covered_L1
   rw [h1, Option.bind_some, e]
   cases (Rf k).length == 0 with
   | true => rw [cond_true, appL_ok _ _ (by simp; omega)]; rfl
   | false => simp
  have c1 := covered_loopP l (k + 1) (s ++ bif (Rf k).length == 0 then [z.Key] else []) (drop_next h) (by cases (Rf k).length == 0 <;> simp <;> omega)
  rw [forR, b1, coveredFrom, ← List.append_assoc]
  exact c1
end
theorem seenAllP (L : Layout) (hz : ∀ z ∈ L.Zones, Fine z.On ∧ keyB z.Key = true) (hp : L.Zones.Pairwise (fun a b => lt a.Key b.Key)) (hl : L.Zones.length ≤ 5) :
  ∃ Rf : Nat → List Rect, (∀ (k : Nat) (z : Zone), L.Zones[k]? = some z → screen_seenOf L k = some (Rf k) ∧ (Rf k).length ≤ 78 ∧
   ∃ bs : List Band, Rf k = flatB bs ∧ CanonB (-200000) bs ∧ (∀ y, CanonFrom (-200000) (rowAt bs y) ∧ (∀ r ∈ rowAt bs y, Okr r) ∧ ∀ x, mem x (rowAt bs y) ↔ SeenP L.Zones k x y) ∧ ∃ above : List Rect, (∀ r ∈ above, Fine r) ∧ Fine z.On ∧ ∀ x y, SeenP L.Zones k x y ↔ hasP [z.On] x y ∧ ¬ hasP above x y) ∧
   screen_seen L = some (piecesFrom Rf L.Zones 0, 0) ∧ (piecesFrom Rf L.Zones 0).length ≤ 390 := by
 have ex : ∀ k : Nat, ∃ R : List Rect, ∀ z : Zone, L.Zones[k]? = some z → screen_seenOf L k = some R ∧ R.length ≤ 78 ∧
   ∃ bs : List Band, R = flatB bs ∧ CanonB (-200000) bs ∧ (∀ y, CanonFrom (-200000) (rowAt bs y) ∧ (∀ r ∈ rowAt bs y, Okr r) ∧ ∀ x, mem x (rowAt bs y) ↔ SeenP L.Zones k x y) ∧ ∃ above : List Rect, (∀ r ∈ above, Fine r) ∧ Fine z.On ∧ ∀ x y, SeenP L.Zones k x y ↔ hasP [z.On] x y ∧ ¬ hasP above x y := fun k => by
  cases hk : L.Zones[k]? with
  | none => exact ⟨[], fun z h => by cases h⟩
  | some zk =>
   obtain ⟨R, h⟩ := seenOfP L hz hp hl k zk hk
   refine ⟨R, fun z h' => ?_⟩
   simp only [Option.some.injEq] at h'
   subst h'; exact h
 obtain ⟨Rf, hRf⟩ := Classical.axiomOfChoice ex
 have hR3 : ∀ (k : Nat) (z : Zone), L.Zones[k]? = some z → screen_seenOf L k = some (Rf k) ∧ (Rf k).length ≤ 78 := fun k z h => ⟨(hRf k z h).1, (hRf k z h).2.1⟩
 have s1 := seen_loopP L Rf hR3 L.Zones 0 [] rfl (by simp; omega)
 have hlen : (piecesFrom Rf L.Zones 0).length ≤ 78 * L.Zones.length := pieces_len Rf 78 L.Zones 0 (fun j _ hj => (hR3 j _ (List.getElem?_eq_getElem (by omega))).2)
 have hlen' : (piecesFrom Rf L.Zones 0).length ≤ 390 := by omega
 refine ⟨Rf, fun k z h => hRf k z h, ?_, hlen'⟩
 unfold screen_seen
 rw [forL_eq (by omega), s1]
 have : decide (((piecesFrom Rf L.Zones 0).length : Int) > 2000) = false := by simp; omega
 simp only [Option.bind_some, thenC, List.nil_append, this, cond_false]
end Go.Proofs.YtipcgokielgnhaaGreatDoor.Law

/-
  PLAIN LEMMAS: loops whose rounds know their place.
-/
open Go Go.Eng
namespace Go.Proofs.YtipcgokielgnhaaGreatDoor.Law
set_option linter.unusedVariables false
set_option linter.unusedSimpArgs false

theorem forR_at {α σ ρ : Type} {body : Nat → α → σ → Option (Ctl σ ρ)} (I : Nat → σ → Prop) (xs : List α) : ∀ (l : List α) (k : Nat) (s : σ), xs.drop k = l → k ≤ xs.length → (∀ k x s, xs[k]? = some x → I k s → ∃ s', body k x s = some (.go s') ∧ I (k + 1) s') → I k s → ∃ s', forR body l k s = some (.go s') ∧ I xs.length s'
 | [], k, s, hd, hk, h, hi => by
  have := List.drop_eq_nil_iff.1 hd
  obtain rfl : k = xs.length := by omega
  exact ⟨s, rfl, hi⟩
 | x :: l, k, s, hd, hk, h, hi => by
  obtain ⟨s1, h1, h2⟩ := h k x s (drop_get hd) hi
  obtain ⟨s2, h3, h4⟩ := forR_at I xs l (k + 1) s1 (drop_next hd) (by have := drop_lt hd; omega) h h2
  exact ⟨s2, by rw [forR, h1, Option.bind_some]; exact h3, h4⟩
theorem forL_at {α σ ρ : Type} {body : Nat → α → σ → Option (Ctl σ ρ)} (I : Nat → σ → Prop) {xs : List α} {s : σ} (hl : xs.length ≤ 1000000000000) (h : ∀ k x s, xs[k]? = some x → I k s → ∃ s', body k x s = some (.go s') ∧ I (k + 1) s') (h0 : I 0 s) : ∃ s', forL xs s body = some (.go s') ∧ I xs.length s' := by
 rw [forL_eq hl]
 exact forR_at I xs xs 0 s rfl (Nat.zero_le _) h h0
theorem sub_next {α β : Type} {f : α → β} {ks : List β} {k : Nat} {x : β} {l : List α} (hx : ks[k]? = some x) (h : (l.map f).Sublist (ks.take k)) : (l.map f).Sublist (ks.take (k + 1)) ∧ ∀ c, f c = x → ((l ++ [c]).map f).Sublist (ks.take (k + 1)) := by
 have e : ks.take (k + 1) = ks.take k ++ [x] := by
  rw [List.take_add_one, hx]; rfl
 rw [e]
 refine ⟨h.trans (List.sublist_append_left _ _), fun c hc => ?_⟩
 rw [List.map_append]
 refine h.append ?_
 rw [List.map_cons, hc]
 exact List.Sublist.refl _
theorem lt_lit {a b : ByteArray} (h : sLt a b = true) : lt a b := (sLt_iff a b).1 h
end Go.Proofs.YtipcgokielgnhaaGreatDoor.Law

/-
  PLAIN LEMMAS: the generators of rectangles.
-/
open Go Go.Eng
namespace Go.Proofs.YtipcgokielgnhaaGreatDoor.Law
set_option linter.unusedVariables false
set_option linter.unusedSimpArgs false

end Go.Proofs.YtipcgokielgnhaaGreatDoor.Law

/-
  PLAIN LEMMAS: the checks of walls.
-/
open Go Go.Eng
namespace Go.Proofs.YtipcgokielgnhaaGreatDoor.Law
set_option linter.unusedVariables false
set_option linter.unusedSimpArgs false

end Go.Proofs.YtipcgokielgnhaaGreatDoor.Law

/-
  PLAIN LEMMAS: the generators of rectangles and walls.
-/
open Go Go.Eng
namespace Go.Proofs.YtipcgokielgnhaaGreatDoor.Law
set_option linter.unusedVariables false
set_option linter.unusedSimpArgs false

end Go.Proofs.YtipcgokielgnhaaGreatDoor.Law

/-
  PLAIN LEMMAS: right layouts and walls.
-/
open Go Go.Eng
namespace Go.Proofs.YtipcgokielgnhaaGreatDoor.Law
set_option linter.unusedVariables false
set_option linter.unusedSimpArgs false

theorem layout_right (l : Layout) (hk : l.Key.size ≤ 1000) (hs : ∀ z ∈ l.Zones, z.Key.size ≤ 1000) (hl : l.Zones.length ≤ 30) (k1 : keyB l.Key = true) (hW : badS l.W = false) (hH : badS l.H = false) (hc : chk (fun z => z.Key) (stpZ l) nilS l.Zones = 0) : screen_CheckLayout l = some 0 := by
 unfold screen_CheckLayout
 rw [isKey_eq l.Key (by omega), sides2, k1, hW, hH]
 have hd : decide ((l.Zones.length : Int) > 30) = false := by simp; omega
 simp only [Bool.not_true, cond_false, cond_true, Bool.or_self, bne_self_eq_false, hd, Option.bind_some]
 have h1 := chk_prev (key := fun z : Zone => z.Key) (stp := stpZ l) (body := fun k x s => screen_CheckLayout_L1 l k x s) l.Zones l.Zones 0 rfl (fun k x hx => by
  have hxm := List.mem_of_getElem? hx
  unfold screen_CheckLayout_L1 stpZ
  rw [isKey_eq _ (by have := hs x hxm; omega), checkRect_eq, inside_eq, outside_eq]
  simp only [Option.bind_some]
  cases hkey : keyB x.Key with
  | false => rfl
  | true =>
   have hne : x.Key.size ≠ 0 := keyB_ne hkey
   rw [prev_test (key := fun z : Zone => z.Key) hx (by omega) hne]
   cases badR x.On with
   | true => rfl
   | false =>
    cases insB x.On l.W l.H with
    | false => rfl
    | true =>
     cases outB x.Order 0 1000 with
     | true => rfl
     | false => cases sLe x.Key (prevK (fun z : Zone => z.Key) l.Zones k) <;> rfl)
 have h0 : prevK (fun z : Zone => z.Key) l.Zones 0 = nilS := rfl
 rw [h0, hc] at h1
 rw [forL_eq (by omega), h1]
 rfl
theorem chk_zones (l : Layout) : ∀ (zs : List Zone) (last : ByteArray), (∀ z ∈ zs, keyB z.Key = true ∧ badR z.On = false ∧ insB z.On l.W l.H = true ∧ outB z.Order 0 1000 = false) → (zs.map (·.Key)).Pairwise lt → (∀ z ∈ zs, sLe z.Key last = false) → chk (fun z : Zone => z.Key) (stpZ l) last zs = 0
 | [], _, _, _, _ => rfl
 | z :: zs, last, h, hp, hl => by
  obtain ⟨h1, h2, h3, h4⟩ := h z (by simp)
  rw [List.map_cons, List.pairwise_cons] at hp
  have h0 : stpZ l last z = 0 := by
   unfold stpZ
   rw [h1, h2, h3, h4, hl z (by simp)]; rfl
  rw [chk, h0]
  show (bif (0 : Int) == 0 then _ else _) = _
  rw [beq_self_eq_true, cond_true]
  refine chk_zones l zs z.Key (fun x hx => h x (by simp [hx])) hp.2 (fun x hx => ?_)
  rw [Bool.eq_false_iff]
  intro he
  exact (sLe_iff _ _).1 he (hp.1 x.Key (List.mem_map.2 ⟨x, hx, rfl⟩))
def zkeys : List ByteArray := [(⟨#[122, 97]⟩ : ByteArray), (⟨#[122, 98]⟩ : ByteArray), (⟨#[122, 99]⟩ : ByteArray), (⟨#[122, 100]⟩ : ByteArray)]
theorem zkeys_rise : zkeys.Pairwise lt := by
 unfold zkeys
 simp only [List.pairwise_cons, List.mem_cons, List.not_mem_nil, or_false, forall_eq_or_imp, forall_eq]
 refine ⟨⟨lt_lit (by kernel_rfl), lt_lit (by kernel_rfl), lt_lit (by kernel_rfl)⟩, ⟨lt_lit (by kernel_rfl), lt_lit (by kernel_rfl)⟩, lt_lit (by kernel_rfl), fun a h => (by cases h), List.Pairwise.nil⟩
theorem zkeys_key : ∀ k ∈ zkeys, keyB k = true ∧ k.size ≤ 1000 ∧ sLe k nilS = false := by
 intro k hk
 simp only [zkeys, List.mem_cons, List.not_mem_nil, or_false] at hk
 rcases hk with rfl | rfl | rfl | rfl <;> exact ⟨by kernel_rfl, Nat.le_of_ble_eq_true rfl, by kernel_rfl⟩
theorem rightLayoutR (s : Stream) {b : Int} (hs : Ok s b) (hb : b ≤ 700000) : ∃ w s', mk_Stream_RightLayout s = some (w, s') ∧ screen_CheckLayout w = some 0 ∧ (∀ z ∈ w.Zones, z.Key.size ≤ 1000) ∧ w.Zones.length ≤ 4 ∧ (1 ≤ w.W ∧ w.W ≤ 100) ∧ (1 ≤ w.H ∧ w.H ≤ 100) ∧ chk (fun z => z.Key) (stpZ w) nilS w.Zones = 0 ∧ Ok s' (b + 50) := by
 unfold mk_Stream_RightLayout
 obtain ⟨W, s1, a1, a0, a2⟩ := pick_ok s [5, 8, 10, 16] hs (by omega) (by simp) (by simp)
 obtain ⟨H, s2, b1, b0, b2⟩ := pick_ok s1 [4, 6, 9] a2 (by omega) (by simp) (by simp)
 have hW : 1 ≤ W ∧ W ≤ 100 := by simp only [List.mem_cons, List.not_mem_nil, or_false] at a0; omega
 have hH : 1 ≤ H ∧ H ≤ 100 := by simp only [List.mem_cons, List.not_mem_nil, or_false] at b0; omega
 simp only [a1, b1, Option.bind_some]
 rw [show ([(⟨#[122, 97]⟩ : ByteArray), (⟨#[122, 98]⟩ : ByteArray), (⟨#[122, 99]⟩ : ByteArray), (⟨#[122, 100]⟩ : ByteArray)] : List ByteArray) = zkeys from rfl]
 obtain ⟨t, t1, t2, t3, t4⟩ := forL_at (body := fun k x s => mk_Stream_RightLayout_L1 (W, s1) (H, s2) k x s) (s := (([] : List Zone), s2.L, s2.f_at)) (fun j t => (t.1.map (fun z : Zone => z.Key)).Sublist (zkeys.take j) ∧ (∀ z ∈ t.1, z.Key.size ≤ 1000 ∧ sLe z.Key nilS = false ∧ keyB z.Key = true ∧ badR z.On = false ∧ insB z.On W H = true ∧ outB z.Order 0 1000 = false) ∧ Ok ⟨t.2.1, t.2.2⟩ (b + 2 + 10 * j)) (xs := zkeys) (by decide) (fun j x t hx ⟨i1, i2, i3⟩ => by
  have hj : j < 4 := by
   rcases Nat.lt_or_ge j 4 with g | g
   ·exact g
   ·rw [List.getElem?_eq_none (by exact g)] at hx; cases hx
  obtain ⟨n1, n2, n3⟩ := zkeys_key x (List.mem_of_getElem? hx)
  obtain ⟨g1', g2'⟩ := sub_next (f := fun z : Zone => z.Key) hx i1
  have hlen : t.1.length ≤ 4 := by
   have := i1.length_le
   rw [List.length_map, List.length_take] at this
   omega
  unfold mk_Stream_RightLayout_L1
  simp only
  obtain ⟨g, q0, g1, g2⟩ := flip_ok _ 5 i3 (by omega) (by decide) (by decide)
  simp only [g1, Option.bind_some]
  cases g with
  | true => exact ⟨_, rfl, g1', i2, g2.mono (by omega)⟩
  | false =>
   rw [cond_false, w64_id (n := W - 1) (by omega), w64_id (n := H - 1) (by omega)]
   obtain ⟨X, q1, c1, c2, c3, c4⟩ := range_ok q0 0 (W - 1) g2 (by omega) (by omega) (by omega) (by omega)
   obtain ⟨Y, q2, d1, d2, d3, d4⟩ := range_ok q1 0 (H - 1) c4 (by omega) (by omega) (by omega) (by omega)
   obtain ⟨O, q3, o1, o2, o3⟩ := pick_ok q2 [0, 0, 1, 2] d4 (by omega) (by simp) (by simp)
   obtain ⟨U, q4, e1, e2, e3, e4⟩ := range_ok q3 1 (W - X) o3 (by omega) (by omega) (by omega) (by omega)
   obtain ⟨V, q5, f1, f2, f3, f4⟩ := range_ok q4 1 (H - Y) e4 (by omega) (by omega) (by omega) (by omega)
   simp only [c1, d1, o1, Option.bind_some]
   rw [w64_id (n := W - X) (by omega), w64_id (n := H - Y) (by omega)]
   simp only [e1, f1, Option.bind_some]
   rw [appL_ok _ _ (by simp; omega)]
   refine ⟨_, rfl, g2' _ rfl, fun z hz => ?_, f4.mono (by omega)⟩
   rcases List.mem_append.1 hz with hz | hz
   ·exact i2 z hz
   ·rw [List.mem_singleton] at hz
    subst hz
    simp only [List.mem_cons, List.not_mem_nil, or_false] at o2
    refine ⟨n2, n3, n1, ?_, ?_, outB_in (by show 0 ≤ O ∧ O ≤ 1000; omega)⟩
    ·unfold badR
     simp only
     rw [w64_id (n := 100000 - X) (by omega), w64_id (n := 100000 - Y) (by omega), outB_in (by omega), outB_in (by omega), outB_in (by omega), outB_in (by omega)]; rfl
    ·unfold insB
     simp only
     rw [w64_id (n := X + U) (by omega), w64_id (n := Y + V) (by omega), decide_eq_true (by omega), decide_eq_true (by omega), decide_eq_true (by omega), decide_eq_true (by omega)]; rfl) ⟨by simp, fun s hs => (by cases hs), b2.mono (by omega)⟩
 rw [t1]
 have hl : t.1.length ≤ 4 := by
  have := t2.length_le
  rw [List.length_map, List.length_take] at this
  have e : zkeys.length = 4 := rfl
  omega
 have hc : chk (fun z : Zone => z.Key) (stpZ ⟨⟨#[108]⟩, W, H, t.1⟩) nilS t.1 = 0 := chk_zones _ t.1 nilS (fun z hz => (t3 z hz).2.2) (zkeys_rise.sublist (by rw [show zkeys.take zkeys.length = zkeys from rfl] at t2; exact t2)) (fun z hz => (t3 z hz).2.1)
 refine ⟨⟨⟨#[108]⟩, W, H, t.1⟩, ⟨t.2.1, t.2.2⟩, rfl, ?_, fun z hz => (t3 z hz).1, hl, hW, hH, hc, t4.mono (by show b + 2 + 10 * ((4 : Nat) : Int) ≤ b + 50; omega)⟩
 exact layout_right _ (Nat.le_of_ble_eq_true rfl) (fun z hz => (t3 z hz).1) (by show t.1.length ≤ 30; omega) (by kernel_rfl) (outB_in (by show 1 ≤ W ∧ W ≤ 20000; omega)) (outB_in (by show 1 ≤ H ∧ H ≤ 20000; omega)) hc
end Go.Proofs.YtipcgokielgnhaaGreatDoor.Law

/-
  PLAIN LEMMAS: copies of functions whose loops go round 300 times at most.
-/
open Go Go.Eng
namespace Go.Proofs.YtipcgokielgnhaaGreatDoor.Law
set_option linter.unusedVariables false
set_option linter.unusedSimpArgs false
def loopF {σ ρ : Type} (s : σ) (body : σ → Option (Ctl σ ρ)) : Option (Ctl σ ρ) := iterN body 300 s
def Le {α : Type} (a b : Option α) : Prop := ∀ r, a = some r → b = some r
theorem Le.refl {α : Type} (a : Option α) : Le a a := fun _ h => h
theorem Le.bind {α β : Type} {a b : Option α} {f g : α → Option β} (h : Le a b) (k : ∀ x, Le (f x) (g x)) : Le (a.bind f) (b.bind g) := fun r e => by
 obtain ⟨x, h1, h2⟩ := Option.bind_eq_some_iff.1 e
 rw [h x h1]; exact k x r h2
theorem Le.cond {α : Type} {a b c d : Option α} {t : Bool} (h : Le a c) (k : Le b d) : Le (bif t then a else b) (bif t then c else d) := by
 cases t
 ·exact k
 ·exact h
theorem Le.thenC {σ ρ τ : Type} {o : Ctl σ ρ} {f f' : σ → Option τ} {g g' : ρ → Option τ} (h : ∀ x, Le (f x) (f' x)) (k : ∀ x, Le (g x) (g' x)) : Le (Go.Eng.thenC o f g) (Go.Eng.thenC o f' g') := by
 cases o
 ·exact h _
 ·exact Le.refl _
 ·exact k _
theorem Le.forR {α σ ρ : Type} {b b' : Nat → α → σ → Option (Ctl σ ρ)} (h : ∀ k x s, Le (b k x s) (b' k x s)) : ∀ (xs : List α) (k : Nat) (s : σ), Le (Go.Eng.forR b xs k s) (Go.Eng.forR b' xs k s)
 | [], k, s => Le.refl _
 | x :: xs, k, s => Le.bind (h k x s) (fun c => by
   cases c with
   | go s' => exact Le.forR h xs _ _
   | brk s' => exact Le.refl _
   | ret r => exact Le.refl _)
theorem Le.forL {α σ ρ : Type} {xs : List α} {s : σ} {b b' : Nat → α → σ → Option (Ctl σ ρ)} (h : ∀ k x s, Le (b k x s) (b' k x s)) : Le (Go.Eng.forL xs s b) (Go.Eng.forL xs s b') := by
 unfold Go.Eng.forL
 split
 ·exact Le.forR h xs 0 s
 ·exact Le.refl _
theorem Le.iterN {σ ρ : Type} {b b' : σ → Option (Ctl σ ρ)} (h : ∀ s, Le (b s) (b' s)) : ∀ (n : Nat) (s : σ), Le (Go.Eng.iterN b n s) (Go.Eng.iterN b' n s)
 | 0, s => Le.refl _
 | n + 1, s => Le.bind (h s) (fun c => by
   cases c with
   | go s' => exact Le.iterN h n s'
   | brk s' => exact Le.refl _
   | ret r => exact Le.refl _)
theorem Le.loop {σ ρ : Type} {s : σ} {b b' : σ → Option (Ctl σ ρ)} (h : ∀ s, Le (b s) (b' s)) : Le (loopF s b) (loopO s b') := fun r e => iter_loopO (Le.iterN h _ _ r e)
end Go.Proofs.YtipcgokielgnhaaGreatDoor.Law

/-
  PLAIN LEMMAS: sorting that can be carried out.
-/
open Go Go.Eng
namespace Go.Proofs.YtipcgokielgnhaaGreatDoor.Law
set_option linter.unusedVariables false
set_option linter.unusedSimpArgs false

def insI (x : Int) : List Int → List Int
 | [] => [x]
 | y :: l => bif decide (x ≤ y) then x :: y :: l else y :: insI x l
def isortI : List Int → List Int
 | [] => []
 | x :: l => insI x (isortI l)
theorem insI_perm (x : Int) : ∀ l, (insI x l).Perm (x :: l)
 | [] => .refl _
 | y :: l => by
  unfold insI
  cases decide (x ≤ y) with
  | true => exact .refl _
  | false => exact ((insI_perm x l).cons y).trans (List.Perm.swap x y l)
theorem isortI_perm : ∀ l, (isortI l).Perm l
 | [] => .refl _
 | x :: l => (insI_perm x _).trans ((isortI_perm l).cons x)
theorem insI_sorted (x : Int) : ∀ l : List Int, l.Pairwise (· ≤ ·) → (insI x l).Pairwise (· ≤ ·)
 | [], _ => List.pairwise_singleton _ _
 | y :: l, h => by
  obtain ⟨h1, h2⟩ := List.pairwise_cons.1 h
  unfold insI
  by_cases hx : x ≤ y
  ·rw [decide_eq_true hx, cond_true]
   exact List.pairwise_cons.2 ⟨fun z hz => by
    rcases List.mem_cons.1 hz with rfl | hz
    ·exact hx
    ·exact Int.le_trans hx (h1 z hz), h⟩
  ·rw [decide_eq_false hx, cond_false]
   exact List.pairwise_cons.2 ⟨fun z hz => by
    rcases List.mem_cons.1 ((insI_perm x l).mem_iff.1 hz) with rfl | hz
    ·omega
    ·exact h1 z hz, insI_sorted x l h2⟩
theorem isortI_sorted : ∀ l, (isortI l).Pairwise (· ≤ ·)
 | [] => .nil
 | x :: l => insI_sorted x _ (isortI_sorted l)
theorem isortI_eq (l : List Int) : l.mergeSort (fun x y => decide (x ≤ y)) = isortI l := by
 refine List.Perm.eq_of_pairwise (le := (· ≤ ·)) (fun a b _ _ h1 h2 => Int.le_antisymm h1 h2) ?_ (isortI_sorted l) ((List.mergeSort_perm l _).trans (isortI_perm l).symm)
 have := List.pairwise_mergeSort (le := fun (x y : Int) => decide (x ≤ y)) (fun a b c => by simp; omega) (fun a b => by simp; omega) l
 exact this.imp (by simp)
def sortF (l : List Int) : Option (List Int) := bif Nat.ble l.length 1000 then some (isortI l) else none
theorem sortF_le (l : List Int) : Le (sortF l) (slices_Sort_int_int_v1 l) := fun r h => by
 unfold sortF at h
 cases hb : Nat.ble l.length 1000 with
 | false => rw [hb] at h; cases h
 | true =>
  rw [hb, cond_true] at h
  have := Nat.le_of_ble_eq_true hb
  unfold slices_Sort_int_int_v1 sortI
  rw [if_pos (by omega), isortI_eq]; exact h
end Go.Proofs.YtipcgokielgnhaaGreatDoor.Law

