import Derived.Test.YtodfcleaapnklaaEpBs
/-
  PLAIN LEMMAS: the times of an entry.
-/
open Go Go.Eng
namespace Go.Proofs.Ytodfcleaapnklaa.Law
set_option linter.unusedVariables false
set_option linter.unusedSimpArgs false

/-! ### loops over days -/
def collect (p : Int → Bool) (f : Int → Window) : Nat → Int → List Window
  | 0, _ => []
  | n + 1, d => (bif p d then [f d] else []) ++ collect p f n (d + 1)
theorem collect_len (p : Int → Bool) (f : Int → Window) : ∀ (n : Nat) (d : Int), (collect p f n d).length ≤ n
  | 0, _ => Nat.le_refl 0
  | n + 1, d => by
    have := collect_len p f n (d + 1)
    simp only [collect, List.length_append]
    cases p d <;> simp <;> omega
theorem collect_nil {p : Int → Bool} {f : Int → Window} : ∀ (n : Nat) (d : Int), (∀ x, d ≤ x → x < d + n → p x = false) → collect p f n d = []
  | 0, _, _ => rfl
  | n + 1, d, h => by
    simp only [collect, h d (by omega) (by omega), cond_false, List.nil_append]
    exact collect_nil n (d + 1) (fun x h1 h2 => h x (by omega) (by omega))
theorem collect_congr {p p' : Int → Bool} {f f' : Int → Window} : ∀ (n : Nat) (d : Int), (∀ x, d ≤ x → x < d + n → p x = p' x ∧ f x = f' x) → collect p f n d = collect p' f' n d
  | 0, _, _ => rfl
  | n + 1, d, h => by
    obtain ⟨h1, h2⟩ := h d (by omega) (by omega)
    simp only [collect, h1, h2]
    rw [collect_congr n (d + 1) (fun x h1 h2 => h x (by omega) (by omega))]
theorem collect_split (p : Int → Bool) (f : Int → Window) : ∀ (n m : Nat) (d : Int), collect p f (n + m) d = collect p f n d ++ collect p f m (d + n)
  | 0, m, d => by simp [collect]
  | n + 1, m, d => by
    rw [show n + 1 + m = (n + m) + 1 by omega]
    simp only [collect, List.append_assoc]
    rw [collect_split p f n m (d + 1), show d + 1 + (n : Int) = d + ((n + 1 : Nat) : Int) by omega]
theorem collect_map (p : Int → Bool) (f : Int → Window) (g : Window → Window) : ∀ (n : Nat) (d : Int), (collect p f n d).map g = collect p (fun x => g (f x)) n d
  | 0, _ => rfl
  | n + 1, d => by
    simp only [collect, List.map_append, collect_map p f g n (d + 1)]
    cases p d <;> rfl
/-- Days out of which nothing comes may be left out. -/
theorem collect_cut (p : Int → Bool) (f : Int → Window) (a b lo hi : Int) (h1 : a ≤ lo) (h2 : hi ≤ b) (h : ∀ x, a ≤ x → x ≤ b → p x = true → lo ≤ x ∧ x ≤ hi) :
    collect p f (b + 1 - a).toNat a = collect p f (hi + 1 - lo).toNat lo := by
  by_cases hh : lo ≤ hi
  · have e : (b + 1 - a).toNat = (lo - a).toNat + ((hi + 1 - lo).toNat + (b - hi).toNat) := by omega
    rw [e, collect_split, collect_split, show a + ((lo - a).toNat : Int) = lo by omega, collect_nil (lo - a).toNat a (fun x x1 x2 => ?_), collect_nil (b - hi).toNat _ (fun x x1 x2 => ?_), List.nil_append, List.append_nil]
    · cases hp : p x with
      | false => rfl
      | true => have := h x (by omega) (by omega) hp; omega
    · cases hp : p x with
      | false => rfl
      | true => have := h x (by omega) (by omega) hp; omega
  · rw [show (hi + 1 - lo).toNat = 0 by omega, collect_nil (b + 1 - a).toNat a (fun x x1 x2 => ?_)]
    · rfl
    · cases hp : p x with
      | false => rfl
      | true => have := h x (by omega) (by omega) hp; omega
theorem days_iter {ρ : Type} {body : List Window × Int → Option (Ctl (List Window × Int) ρ)} {p : Int → Bool} {f : Int → Window} (lo hi : Int)
    (hb : ∀ (acc : List Window) d, lo ≤ d → d ≤ hi → acc.length ≤ 1000000 → body (acc, d) = some (.go (acc ++ (bif p d then [f d] else []), d + 1))) (he : ∀ acc d, hi < d → body (acc, d) = some (.brk (acc, d))) :
    ∀ (n : Nat) (acc : List Window) (d : Int), lo ≤ d → (hi + 1 - d).toNat = n → acc.length + n ≤ 1000000 → ∃ d', iterN body (n + 1) (acc, d) = some (.go (acc ++ collect p f n d, d'))
  | 0, acc, d, hlo, hn, hl => by
    rw [iterN, he acc d (by omega), Option.bind_some]
    exact ⟨d, by simp [collect]⟩
  | n + 1, acc, d, hlo, hn, hl => by
    rw [iterN, hb acc d hlo (by omega) (by omega), Option.bind_some]
    have hle : (bif p d then [f d] else []).length ≤ 1 := by cases p d <;> simp
    obtain ⟨d', h⟩ := days_iter lo hi hb he n (acc ++ (bif p d then [f d] else [])) (d + 1) (by omega) (by omega) (by rw [List.length_append]; omega)
    refine ⟨d', ?_⟩
    simp only [h, collect, List.append_assoc]
theorem days_loop {ρ : Type} {body : List Window × Int → Option (Ctl (List Window × Int) ρ)} {p : Int → Bool} {f : Int → Window} (lo hi : Int) (hl : hi - lo ≤ 100000)
    (hb : ∀ (acc : List Window) d, lo ≤ d → d ≤ hi → acc.length ≤ 1000000 → body (acc, d) = some (.go (acc ++ (bif p d then [f d] else []), d + 1))) (he : ∀ acc d, hi < d → body (acc, d) = some (.brk (acc, d))) :
    ∃ d', loopO ([], lo) body = some (.go (collect p f (hi + 1 - lo).toNat lo, d')) := by
  obtain ⟨d', h⟩ := days_iter lo hi hb he (hi + 1 - lo).toNat [] lo (Int.le_refl _) rfl (by simp; omega)
  exact ⟨d', by have := iter_loopO h; simpa using this⟩

/-! ### which days -/
def bitB (a r : Int) : Bool := match shrO .i64 a r with
  | some y => andI .i64 y 1 == 1
  | none => false
def bitsOk (a r : Nat) : Bool := match shlO .i64 1 (r : Int), shrO .i64 (a : Int) (r : Int) with
  | some x, some y => (andI .i64 (a : Int) x == 0) == !(andI .i64 y 1 == 1)
  | _, _ => false
theorem bits_all : ∀ a : Fin 128, ∀ r : Fin 7, bitsOk a.val r.val = true := by decide +kernel
theorem bits (a r : Int) (ha : 0 ≤ a ∧ a ≤ 127) (hr : 0 ≤ r ∧ r < 7) : ∃ x y, shlO .i64 1 r = some x ∧ shrO .i64 a r = some y ∧ (andI .i64 a x == 0) = !(andI .i64 y 1 == 1) ∧ bitB a r = (andI .i64 y 1 == 1) := by
  have h := bits_all ⟨a.toNat, by omega⟩ ⟨r.toNat, by omega⟩
  simp only [bitsOk, show ((a.toNat : Nat) : Int) = a by omega, show ((r.toNat : Nat) : Int) = r by omega] at h
  unfold bitB
  cases h1 : shlO .i64 1 r with
  | none => rw [h1] at h; cases h
  | some x =>
    cases h2 : shrO .i64 a r with
    | none => rw [h1, h2] at h; cases h
    | some y =>
      rw [h1, h2] at h
      exact ⟨x, y, rfl, rfl, eq_of_beq h, rfl⟩
def dayB (e : Entry) (d : Int) : Bool := ((d - e.First).tmod e.Every == 0) && (bitB e.Days (d.tmod 7) && !I.memB d e.Except)
/-- An entry whose numbers are in their bounds. -/
structure Right (e : Entry) : Prop where
  first : 0 ≤ e.First ∧ e.First ≤ e.Last
  last : e.Last ≤ 4000
  every : 1 ≤ e.Every
  days : 1 ≤ e.Days ∧ e.Days ≤ 127
  ex : exF e.Except = 0
  from_ : 0 ≤ e.From ∧ e.From ≤ 1439
  to_ : 0 ≤ e.To ∧ e.To ≤ 1439
theorem outB_f {n lo hi : Int} (h : outB n lo hi = false) : lo ≤ n ∧ n ≤ hi := by
  simp only [outB, Bool.or_eq_false_iff, decide_eq_false_iff_not] at h; omega
theorem outB_in {n lo hi : Int} (h : lo ≤ n ∧ n ≤ hi) : outB n lo hi = false := by
  simp only [outB, Bool.or_eq_false_iff, decide_eq_false_iff_not]; omega
theorem entF_0 {e : Entry} (h : entF e = 0) : Right e := by
  unfold entF at h
  cases hk : (!keyB e.Key || !keyB e.Item) with
  | true => rw [hk] at h; cases h
  | false =>
  rw [hk, cond_false] at h
  cases hb : (outB e.Version 0 1000000 || (outB e.First 0 e.Last || (decide (e.Last > 4000) || (outB e.Every 1 400 || outB e.Days 1 127)))) with
  | true => rw [hb] at h; cases h
  | false =>
  rw [hb, cond_false] at h
  simp only [Bool.or_eq_false_iff, decide_eq_false_iff_not] at hb
  cases hx : exF e.Except == 0 with
  | false => rw [hx, cond_false] at h; rw [h] at hx; cases hx
  | true =>
  rw [hx, cond_true] at h
  cases hc : (outB e.From 0 1439 || (outB e.To 0 1439 || outB e.Prio 0 9)) with
  | true => rw [hc] at h; cases h
  | false =>
  simp only [Bool.or_eq_false_iff] at hc
  exact ⟨outB_f hb.2.1, by omega, (outB_f hb.2.2.2.1).1, outB_f hb.2.2.2.2, eq_of_beq hx, outB_f hc.1, outB_f hc.2.1⟩
theorem dayK (e : Entry) (h : Right e) (d : Int) (h1 : e.First ≤ d) (h2 : d ≤ e.Last) : schedule_isDay e d = some (dayB e d) := by
  have hl := h.last
  have hf := h.first
  have hd := h.days
  obtain ⟨x, y, b1, b2, b3, b4⟩ := bits e.Days (d.tmod 7) (by omega) ⟨Int.tmod_nonneg _ (by omega), Int.tmod_lt_of_pos _ (by decide)⟩
  obtain ⟨hx1, hx2⟩ := I.exF_0 h.ex
  obtain ⟨i, hi⟩ := I.bs_eq e.Except d hx2 (by omega)
  have he0 : e.Every ≠ 0 := by have := h.every; omega
  unfold schedule_isDay dayB
  simp only [outside_eq, outB_in ⟨h1, h2⟩, Option.bind_some, cond_false, w64_id (show -9223372036854775808 ≤ d - e.First ∧ d - e.First ≤ 9223372036854775807 by omega), remO, if_neg he0, b1, b3, b4, hi]
  cases hq : (d - e.First).tmod e.Every == 0 with
  | false =>
    have : ((d - e.First).tmod e.Every != 0) = true := by simp [bne, hq]
    simp only [this, cond_true, Option.bind_some, Bool.false_and]
  | true =>
    have : ((d - e.First).tmod e.Every != 0) = false := by simp [bne, hq]
    simp only [this, cond_false, Option.bind_some, Bool.true_and]
    cases (andI .i64 y 1 == 1) <;> simp
theorem dayR (e : Entry) (h : Right e) (d : Int) (h1 : e.First ≤ d) (h2 : d ≤ e.Last) : ref_dayOf e d = some (dayB e d) := by
  have hl := h.last
  have hf := h.first
  have hd := h.days
  obtain ⟨x, y, b1, b2, b3, b4⟩ := bits e.Days (d.tmod 7) (by omega) ⟨Int.tmod_nonneg _ (by omega), Int.tmod_lt_of_pos _ (by decide)⟩
  obtain ⟨hx1, hx2⟩ := I.exF_0 h.ex
  have he0 : e.Every ≠ 0 := by have := h.every; omega
  unfold ref_dayOf dayB
  simp only [in_eq, outB_in ⟨h1, h2⟩, Option.bind_some, Bool.not_false, cond_true, w64_id (show -9223372036854775808 ≤ d - e.First ∧ d - e.First ≤ 9223372036854775807 by omega), remO, if_neg he0, b2, b4, I.contains_eq e.Except d (by omega)]
  cases hq : (d - e.First).tmod e.Every == 0 with
  | false => simp only [cond_false, Option.bind_some, Bool.false_and]
  | true =>
    simp only [cond_true, Option.bind_some, Bool.true_and]
    cases (andI .i64 y 1 == 1) <;> simp
end Go.Proofs.Ytodfcleaapnklaa.Law
