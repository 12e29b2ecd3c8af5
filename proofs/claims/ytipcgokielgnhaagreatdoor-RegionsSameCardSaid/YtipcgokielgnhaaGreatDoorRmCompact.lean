import Derived.Test.YtipcgokielgnhaaGreatDoorDefs
import Derived.Test.YtipcgokielgnhaaGreatDoorEpLib
/-
  PLAIN LEMMAS: Compact; a sorted list that is compacted rises.
-/
open Go Go.Eng
namespace Go.Proofs.YtipcgokielgnhaaGreatDoor.Law
set_option linter.unusedVariables false
set_option linter.unusedSimpArgs false

def dd : List Int → List Int
 | [] => []
 | [x] => [x]
 | x :: y :: l => bif x == y then dd (y :: l) else x :: dd (y :: l)
theorem dd_snoc (x : Int) : ∀ (l : List Int) (b : Int), l.getLast? = some b → dd (l ++ [x]) = bif b == x then dd l else dd l ++ [x]
 | [], b, h => by cases h
 | [a], b, h => by
  simp only [List.getLast?_singleton, Option.some.injEq] at h
  subst h
  simp only [List.cons_append, List.nil_append, dd]
  cases hx : a == x with
  | true => rw [eq_of_beq hx]
  | false => rfl
 | a :: c :: l, b, h => by
  have ih := dd_snoc x (c :: l) b (by rw [← h]; simp [List.getLast?_cons_cons])
  simp only [List.cons_append] at ih ⊢
  rw [dd, ih, dd]
  cases a == c <;> cases b == x <;> rfl
theorem dd_take (s : List Int) (p : Nat) (a b : Int) (hp : 1 ≤ p) (ha : s[p]? = some a) (hb : s[p - 1]? = some b) : dd (s.take (p + 1)) = bif b == a then dd (s.take p) else dd (s.take p) ++ [a] := by
 have hlt := (List.getElem?_eq_some_iff.1 ha).1
 have e : s.take (p + 1) = s.take p ++ [a] := by rw [List.take_add_one, ha]; rfl
 rw [e]
 refine dd_snoc a _ b ?_
 rw [List.getLast?_eq_getElem?, List.length_take, List.getElem?_take, if_pos (by omega), ← hb]
 congr 1; omega
theorem dd_mem (x : Int) : ∀ l : List Int, x ∈ dd l ↔ x ∈ l
 | [] => Iff.rfl
 | [a] => Iff.rfl
 | a :: b :: l => by
  rw [dd]
  cases h : a == b with
  | true =>
   rw [cond_true, dd_mem x (b :: l), eq_of_beq h]; simp
  | false => rw [cond_false, List.mem_cons, dd_mem x (b :: l), List.mem_cons (a := x) (b := a)]
theorem dd_rise : ∀ l : List Int, l.Pairwise (· ≤ ·) → (dd l).Pairwise (· < ·)
 | [], _ => .nil
 | [a], _ => List.pairwise_singleton _ _
 | a :: b :: l, h => by
  rw [dd]
  obtain ⟨h1, h2⟩ := List.pairwise_cons.1 h
  cases hx : a == b with
  | true => exact dd_rise (b :: l) h2
  | false =>
   refine List.pairwise_cons.2 ⟨fun c hc => ?_, dd_rise (b :: l) h2⟩
   have hc := (dd_mem c (b :: l)).1 hc
   have hab : a < b := by
    have := h1 b (by simp)
    have hne : a ≠ b := by simpa using hx
    omega
   rcases List.mem_cons.1 hc with rfl | hc
   ·exact hab
   ·have := (List.pairwise_cons.1 h2).1 c hc; omega
theorem dd_len : ∀ l : List Int, (dd l).length ≤ l.length
 | [] => Nat.le_refl _
 | [a] => Nat.le_refl _
 | a :: b :: l => by
  have := dd_len (b :: l)
  rw [dd]
  cases a == b with
  | true => rw [cond_true]; simp only [List.length_cons] at *; omega
  | false => rw [cond_false]; simp only [List.length_cons] at *; omega
theorem inN_ok {i : Int} {n : Nat} (h0 : 0 ≤ i) (h1 : i < n) : inN i n = some () := by unfold inN; rw [if_pos ⟨h0, by omega⟩]
theorem inR_nat {α : Type} {xs : List α} {i : Nat} (h : i < xs.length) : inR (i : Int) xs = some () := by
 unfold inR; rw [if_pos ⟨by omega, by simpa using h⟩]

theorem comp_L1 (s data : List Int) (k0 i2 k : Nat) (a b : Int) (hn : s.length ≤ 1000000000) (hd : data.length = s.length) (h1 : 1 ≤ i2) (hp : k0 + i2 < s.length) (hk : k < s.length) (ha : data[k0 + i2]? = some a) (hb : data[k0 + i2 - 1]? = some b) :
  slices_Compact_int_int_v1_L1 s (k0 : Int) (data, (k : Int), (i2 : Int)) = some (.go (bif b == a then (data, (k : Int), ((i2 + 1 : Nat) : Int)) else (data.set k a, ((k + 1 : Nat) : Int), ((i2 + 1 : Nat) : Int)))) := by
 unfold slices_Compact_int_int_v1_L1
 have e0 : ((s.length : Int).toNat - (k0 : Int).toNat) = s.length - k0 := by omega
 have hc : decide ((i2 : Int) < ((s.length - k0 : Nat) : Int)) = true := by simp; omega
 have hw : w64 ((i2 : Int) - 1) = ((i2 - 1 : Nat) : Int) := by rw [w64_id (by omega)]; omega
 have hw2 : w64 ((i2 : Int) + 1) = ((i2 + 1 : Nat) : Int) := by rw [w64_id (by omega)]; omega
 have hw3 : w64 ((k : Int) + 1) = ((k + 1 : Nat) : Int) := by rw [w64_id (by omega)]; omega
 have i1 : inN (i2 : Int) (s.length - k0) = some () := inN_ok (by omega) (by omega)
 have i3 : inN ((i2 - 1 : Nat) : Int) (s.length - k0) = some () := inN_ok (by omega) (by omega)
 have i4 : inR (k : Int) data = some () := inR_nat (by omega)
 have g1 : (k0 : Int).toNat + (i2 : Int).toNat = k0 + i2 := by omega
 have g2 : (k0 : Int).toNat + ((i2 - 1 : Nat) : Int).toNat = k0 + i2 - 1 := by omega
 have g3 : 0 + (k : Int).toNat = k := by omega
 have hkd : data[k]? = some data[k] := List.getElem?_eq_getElem (by omega)
 simp only [e0, hc, cond_true, hw, hw2, hw3, i1, i3, i4, g1, g2, g3, Option.bind_some, ha, hb, hkd]
 have hne : (a != b) = !(b == a) := by rw [bne_comm]; rfl
 rw [hne]
 cases b == a <;> rfl
theorem comp_inner (s : List Int) (k0 : Nat) (hn : s.length ≤ 1000000000) : ∀ (m i2 k : Nat) (data : List Int), k0 + i2 + m = s.length → 1 ≤ i2 → data.length = s.length → k ≤ k0 + i2 - 1 → data.take k = dd (s.take (k0 + i2)) → data.drop (k0 + i2 - 1) = s.drop (k0 + i2 - 1) →
  ∃ (data' : List Int) (k' : Nat), iterN (fun t => slices_Compact_int_int_v1_L1 s (k0 : Int) t) (m + 1) (data, (k : Int), (i2 : Int)) = some (.go (data', (k' : Int), ((s.length - k0 : Nat) : Int))) ∧ data'.length = s.length ∧ k' ≤ s.length ∧ data'.take k' = dd s
 | 0, i2, k, data, hm, h1, hd, hk, ht, hr => by
  refine ⟨data, k, ?_, hd, by omega, ?_⟩
  ·have e0 : ((s.length : Int).toNat - (k0 : Int).toNat) = s.length - k0 := by omega
   have hc : decide ((i2 : Int) < ((s.length - k0 : Nat) : Int)) = false := by simp; omega
   simp only [iterN, slices_Compact_int_int_v1_L1, e0, hc, cond_false, Option.bind_some]
   rw [show s.length - k0 = i2 by omega]
  ·rw [ht, show k0 + i2 = s.length by omega, List.take_length]
 | m + 1, i2, k, data, hm, h1, hd, hk, ht, hr => by
  have hp : k0 + i2 < s.length := by omega
  have hga : data[k0 + i2]? = some s[k0 + i2] := by
   have := congrArg (fun l => l[1]?) hr
   simp only [List.getElem?_drop] at this
   rw [show k0 + i2 - 1 + 1 = k0 + i2 by omega] at this
   rw [this, List.getElem?_eq_getElem hp]
  have hgb : data[k0 + i2 - 1]? = some (s[k0 + i2 - 1]'(by omega)) := by
   have := congrArg (fun l => l[0]?) hr
   simp only [List.getElem?_drop, Nat.add_zero] at this
   rw [this, List.getElem?_eq_getElem (by omega)]
  have hdt := dd_take s (k0 + i2) s[k0 + i2] (s[k0 + i2 - 1]'(by omega)) (by omega) (List.getElem?_eq_getElem hp) (List.getElem?_eq_getElem (by omega))
  rw [iterN, comp_L1 s data k0 i2 k _ _ hn hd h1 hp (by omega) hga hgb, Option.bind_some]
  cases hx : s[k0 + i2 - 1]'(by omega) == s[k0 + i2] with
  | true =>
   rw [hx, cond_true] at hdt
   simp only [cond_true]
   refine comp_inner s k0 hn m (i2 + 1) k data (by omega) (by omega) hd (by omega) (by rw [ht, ← hdt]; rfl) ?_
   have := congrArg (List.drop 1) hr
   simp only [List.drop_drop] at this
   rw [show k0 + i2 - 1 + 1 = k0 + (i2 + 1) - 1 by omega] at this
   exact this
  | false =>
   rw [hx, cond_false] at hdt
   simp only [cond_false]
   have hkl : k < data.length := by omega
   refine comp_inner s k0 hn m (i2 + 1) (k + 1) (data.set k s[k0 + i2]) (by omega) (by omega) (by simpa using hd) (by omega) ?_ ?_
   ·rw [List.take_add_one, List.getElem?_set_self hkl, List.take_set_of_le (Nat.le_refl _), ht]
    show _ = dd (s.take (k0 + i2 + 1))
    rw [hdt]; rfl
   ·rw [List.drop_set_of_lt (by omega)]
    have := congrArg (List.drop 1) hr
    simp only [List.drop_drop] at this
    rw [show k0 + i2 - 1 + 1 = k0 + (i2 + 1) - 1 by omega] at this
    exact this
theorem comp_outer (s : List Int) (hn : s.length ≤ 1000000000) : ∀ (m i : Nat), i + m = s.length → 1 ≤ i → dd (s.take i) = s.take i →
  (iterN (fun t => slices_Compact_int_int_v1_L2 s t) (m + 1) (i : Int) = some (.go (s.length : Int)) ∧ dd s = s) ∨ iterN (fun t => slices_Compact_int_int_v1_L2 s t) (m + 1) (i : Int) = some (.ret (dd s))
 | 0, i, hm, h1, hd => by
  refine .inl ⟨?_, ?_⟩
  ·have hc : decide ((i : Int) < (s.length : Int)) = false := by simp; omega
   simp only [iterN, slices_Compact_int_int_v1_L2, hc, cond_false, Option.bind_some]
   rw [show i = s.length by omega]
  ·rw [show i = s.length by omega, List.take_length] at hd; exact hd
 | m + 1, i, hm, h1, hd => by
  have hi : i < s.length := by omega
  have hc : decide ((i : Int) < (s.length : Int)) = true := by simp; omega
  have hw : w64 ((i : Int) - 1) = ((i - 1 : Nat) : Int) := by rw [w64_id (by omega)]; omega
  have hw2 : w64 ((i : Int) + 1) = ((i + 1 : Nat) : Int) := by rw [w64_id (by omega)]; omega
  have e1 : 0 + (i : Int).toNat = i := by omega
  have e2 : 0 + ((i - 1 : Nat) : Int).toNat = i - 1 := by omega
  have hga : s[i]? = some s[i] := List.getElem?_eq_getElem hi
  have hgb : s[i - 1]? = some (s[i - 1]'(by omega)) := List.getElem?_eq_getElem (by omega)
  have hdt := dd_take s i s[i] (s[i - 1]'(by omega)) h1 hga hgb
  have i1 : inR (i : Int) s = some () := inR_nat hi
  have i2 : inR ((i - 1 : Nat) : Int) s = some () := inR_nat (by omega)
  rw [iterN]
  have hswap : (s[i] == s[i - 1]'(by omega)) = (s[i - 1]'(by omega) == s[i]) := by rw [BEq.comm]
  cases hx : s[i - 1]'(by omega) == s[i] with
  | false =>
   have : slices_Compact_int_int_v1_L2 s (i : Int) = some (.go ((i + 1 : Nat) : Int)) := by
    unfold slices_Compact_int_int_v1_L2
    simp only [hc, cond_true, hw, hw2, e1, e2, i1, i2, hga, hgb, Option.bind_some, hswap, hx, cond_false]
   rw [this, Option.bind_some]
   rw [hx, cond_false, hd] at hdt
   refine comp_outer s hn m (i + 1) (by omega) (by omega) ?_
   rw [hdt, List.take_add_one, hga]; rfl
  | true =>
   right
   rw [hx, cond_true, hd] at hdt
   obtain ⟨data', k', q1, q2, q3, q4⟩ := comp_inner s i hn (s.length - (i + 1)) 1 i s (by omega) (by omega) rfl (by omega) hdt.symm rfl
   have hlo := iter_loopO q1
   have hne : neL s = some () := by
    cases s with
    | nil => simp at hi
    | cons a l => rfl
   have hsr : subR s (i : Int) (s.length : Int) = some () := by unfold subR; rw [if_pos ⟨by omega, by omega, by omega, by omega⟩]
   have hsr2 : subR data' (k' : Int) (data'.length : Int) = some () := by unfold subR; rw [if_pos ⟨by omega, by omega, by omega, by omega⟩]
   have hlen : (data'.take k' ++ List.replicate (data'.length - k') (0 : Int) ++ data'.drop (k' + (data'.length - k'))).length = data'.length := by simp; omega
   have hsr3 : subR (data'.take k' ++ List.replicate (data'.length - k') (0 : Int) ++ data'.drop (k' + (data'.length - k'))) 0 (k' : Int) = some () := by unfold subR; rw [if_pos ⟨by omega, by omega, by omega, by rw [hlen]; omega⟩]
   have n1 : ((data'.length : Int)).toNat = data'.length := by omega
   have n2 : (k' : Int).toNat = k' := by omega
   have : slices_Compact_int_int_v1_L2 s (i : Int) = some (.ret (dd s)) := by
    unfold slices_Compact_int_int_v1_L2
    have one : ((1 : Nat) : Int) = 1 := rfl
    rw [one] at hlo
    simp only [hc, cond_true, hw, e1, e2, i1, i2, hga, hgb, Option.bind_some, hswap, hx, hne, hsr, hlo, thenC, hsr2, n1, n2, hsr3]
    congr 2
    show List.take k' (List.drop 0 _) = dd s
    rw [List.drop_zero, List.append_assoc, List.take_append_of_le_length (by rw [List.length_take]; omega), List.take_take, Nat.min_self, q4]
   rw [this]; rfl
theorem compact_eq (s : List Int) (hn : s.length ≤ 1000000000) : slices_Compact_int_int_v1 s = some (dd s) := by
 unfold slices_Compact_int_int_v1
 by_cases h : (s.length : Int) < 2
 ·rw [decide_eq_true h, cond_true]
  match s, h with
  | [], _ => rfl
  | [a], _ => rfl
  | a :: b :: l, h => simp at h; omega
 ·rw [decide_eq_false h, cond_false]
  have h1 : dd (s.take 1) = s.take 1 := by
   match s with
   | [] => rfl
   | a :: l => rfl
  rcases comp_outer s hn (s.length - 1) 1 (by omega) (Nat.le_refl _) h1 with ⟨h2, h3⟩ | h2
  ·have := iter_loopO h2
   show (loopO 1 _).bind _ = _
   rw [show ((1 : Nat) : Int) = 1 from rfl] at this
   rw [this, h3]; rfl
  ·have := iter_loopO h2
   show (loopO 1 _).bind _ = _
   rw [show ((1 : Nat) : Int) = 1 from rfl] at this
   rw [this]; rfl
theorem sortC (e : List Int) (hn : e.length ≤ 1000000000) : ∃ s c, slices_Sort_int_int_v1 e = some s ∧ s.length = e.length ∧ slices_Compact_int_int_v1 s = some c ∧ c.Pairwise (· < ·) ∧ (∀ x, x ∈ c ↔ x ∈ e) ∧ c.length ≤ e.length := by
 have hs : slices_Sort_int_int_v1 e = some (e.mergeSort fun x y => decide (x ≤ y)) := by
  unfold slices_Sort_int_int_v1 sortI; rw [if_pos (by omega)]
 have hl : (e.mergeSort fun x y => decide (x ≤ y)).length = e.length := List.length_mergeSort e
 refine ⟨_, _, hs, hl, compact_eq _ (by rw [hl]; exact hn), dd_rise _ ?_, fun x => ?_, by rw [← hl]; exact dd_len _⟩
 ·have := List.pairwise_mergeSort (le := fun (x y : Int) => decide (x ≤ y)) (fun a b c => by simp; omega) (fun a b => by simp; omega) e
  exact this.imp (by simp)
 ·rw [dd_mem]; exact List.mem_mergeSort
end Go.Proofs.YtipcgokielgnhaaGreatDoor.Law

