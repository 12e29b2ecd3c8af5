import Derived.Test.YtodfcleaapnklaaCkMap
/-
  PLAIN LAW: ClocksPutRight is true of every stream.
-/
open Go Go.Eng
namespace Go.Proofs.Ytodfcleaapnklaa.Law
set_option linter.unusedVariables false
set_option linter.unusedSimpArgs false

/-! ### the beats of a player -/
def ofB (p : ByteArray) (b : Beat) : Bool := decide (b.Player = p)
def gK (b : Beat) : Beat_ := ⟨b.At, b.Clock⟩
def sw (b : Beat) : Beat := ⟨b.Player, b.Clock, b.At⟩
theorem refBeats_eq (l : List Beat) (p : ByteArray) (hl : l.length ≤ 1000000) : ref_beatsOf l p = some (l.filter (ofB p)) := by
  have h1 : slices_Clone_api_Beat_api_Beat l = some l := by
    unfold slices_Clone_api_Beat_api_Beat; rw [appL_ok [] l (by simp; omega)]; rfl
  have h2 : slices_DeleteFunc_api_Beat_api_Beat_v1 l p = delF (⟨(⟨#[]⟩ : ByteArray), 0, 0⟩ : Beat) (fun e => ref_beatsOf_1 e p) l := rfl
  unfold ref_beatsOf
  rw [h1, Option.bind_some, h2, delF_eq (f := fun e => ref_beatsOf_1 e p) (q := fun e => sNe e.Player p) (fun x _ => rfl) (by omega), Option.bind_some]
  congr 1
  apply List.filter_congr
  intro x _
  show (!sNe x.Player p) = ofB p x
  rw [sNe_dec, Bool.not_not]; rfl
theorem beatsOf_eq (l : List Beat) (p : ByteArray) (back : Bool) (hl : l.length ≤ 1000000) : proof_beatsOf l p back = some ((l.filter (ofB p)).map (bif back then gK else gB)) := by
  have run : ∀ (xs : List Beat) (k : Nat) (acc : List Beat_), acc.length + xs.length ≤ 1000000 → forR (fun k x s => proof_beatsOf_L1 p back k x s) xs k acc = some (.go (acc ++ (xs.filter (ofB p)).map (bif back then gK else gB))) := by
    intro xs
    induction xs with
    | nil => intro k acc _; simp [forR]
    | cons x xs ih =>
      intro k acc hlen
      simp only [List.length_cons] at hlen
      have hst : proof_beatsOf_L1 p back k x acc = some (.go (acc ++ (bif ofB p x then [(bif back then gK else gB) x] else []))) := by
        have hsn : sNe x.Player p = !ofB p x := sNe_dec _ _
        unfold proof_beatsOf_L1
        rw [hsn]
        cases ofB p x with
        | false => simp
        | true =>
          simp only [Bool.not_true, cond_false, cond_true]
          cases back with
          | true => simp only [cond_true, appL_ok acc [_] (show acc.length + 1 ≤ _ by omega), Option.bind_some]; rfl
          | false => simp only [cond_false, appL_ok acc [_] (show acc.length + 1 ≤ _ by omega), Option.bind_some]; rfl
      rw [forR, hst, Option.bind_some]
      simp only
      rw [ih _ _ (by cases ofB p x <;> simp <;> omega), List.filter_cons]
      cases ofB p x <;> simp
  unfold proof_beatsOf
  rw [forL_eq (by omega), run l 0 [] (by simpa using hl), Option.bind_some, thenC_go, List.nil_append]
theorem swapped_eq (l : List Beat) (hl : l.length ≤ 1000000) : ref_swapped l = some (l.map sw) := by
  have run : ∀ (xs : List Beat) (k : Nat) (acc : List Beat), acc.length + xs.length ≤ 1000000 → forR (fun k x s => ref_swapped_L1 k x s) xs k acc = some (.go (acc ++ xs.map sw)) := by
    intro xs
    induction xs with
    | nil => intro k acc _; simp [forR]
    | cons x xs ih =>
      intro k acc hlen
      simp only [List.length_cons] at hlen
      have hst : ref_swapped_L1 k x acc = some (.go (acc ++ [sw x])) := by
        unfold ref_swapped_L1
        rw [appL_ok acc [_] (show acc.length + 1 ≤ _ by omega), Option.bind_some]; rfl
      rw [forR, hst, Option.bind_some]
      simp only
      rw [ih _ _ (by simp; omega)]; simp
  unfold ref_swapped
  rw [forL_eq (by omega), run l 0 [] (by simpa using hl), Option.bind_some, thenC_go, List.nil_append]
theorem filter_sw (l : List Beat) (p : ByteArray) : (l.map sw).filter (ofB p) = (l.filter (ofB p)).map sw := by
  rw [List.filter_map]; rfl

/-! ### greatest common divisors -/
def gcdB (s : Int × Int) : Option (Ctl (Int × Int) Unit) := bif (s.2 != 0) then (remO .i64 s.1 s.2).bind fun q => some (.go (s.2, q)) else some (.brk (s.1, s.2))
theorem gcd_iter : ∀ (m : Nat) (a b M : Int), b.natAbs = m → -M ≤ a → a ≤ M → -M ≤ b → b ≤ M → ∃ n g, iterN (fun s => gcdB s) n (a, b) = some (.go (g, 0)) ∧ (a ≠ 0 ∨ b ≠ 0 → g ≠ 0) ∧ -M ≤ g ∧ g ≤ M := by
  intro m
  induction m using Nat.strongRecOn with
  | _ m ih =>
    intro a b M hm h1 h2 h3 h4
    by_cases hb : b = 0
    · subst hb
      refine ⟨1, a, rfl, fun h => h.resolve_right (fun h => h rfl), h1, h2⟩
    · have hne : (b != 0) = true := by simpa using hb
      have hst : gcdB (a, b) = some (.go (b, a.tmod b)) := by
        unfold gcdB
        simp only [hne, cond_true, remO, if_neg hb, Option.bind_some]
      have hlt : (a.tmod b).natAbs < m := by
        rw [← hm, Int.natAbs_tmod]
        exact Nat.mod_lt _ (Int.natAbs_pos.2 hb)
      obtain ⟨n, g, g1, g2, g3, g4⟩ := ih _ hlt b (a.tmod b) M rfl h3 h4 (by omega) (by omega)
      refine ⟨n + 1, g, ?_, fun _ => g2 (.inl hb), g3, g4⟩
      rw [iterN, hst, Option.bind_some]; exact g1
theorem lowest_eq (a b : Int) (hb : b > 0) (ha : -1000000000000 ≤ a ∧ a ≤ 1000000000000) (hb2 : b ≤ 1000000000000) : ∃ f, kit_Lowest a b = some f ∧ ref_Lowest a b = some f := by
  obtain ⟨n, g, h1, h2, h3, h4⟩ := gcd_iter _ a b 1000000000000 rfl (by omega) (by omega) (by omega) (by omega)
  have hg := h2 (.inr (by omega))
  have hk : loopO (a, b) (fun s => kit_Gcd_L1 s) = some (.go (g, 0)) := iter_loopO h1
  have hr : loopO (a, b) (fun s => ref_Lowest_L1 s) = some (.go (g, 0)) := iter_loopO h1
  have hneg : w64 (0 - g) = -g := by rw [w64_id (by omega)]; omega
  unfold kit_Lowest kit_Gcd ref_Lowest
  simp only [hr, Option.bind_some, thenC_go, decide_eq_false (show ¬ b < 0 by omega), cond_false, hk, hneg]
  by_cases hlt : g < 0
  · have e1 : maxI g (-g) = -g := by unfold maxI; rw [if_pos (by omega)]
    have hne : -g ≠ 0 := by omega
    simp only [e1, decide_eq_true hlt, cond_true, Option.bind_some, quoO, if_neg hne]
    exact ⟨_, rfl, rfl⟩
  · have e1 : maxI g (-g) = g := by unfold maxI; rw [if_neg (by omega)]
    simp only [e1, decide_eq_false hlt, cond_false, Option.bind_some, quoO, if_neg hg]
    exact ⟨_, rfl, rfl⟩

/-! ### what the program answers -/
def namedF (p : ByteArray) : Int := bif keyB p then 0 else 5
def momF (n : Int) : Int := bif momB n then 0 else 1
theorem bnd_of {l : List Beat} {p : ByteArray} (h : ∀ x ∈ l, momB x.At = true ∧ momB x.Clock = true) (back : Bool) : BndM ((l.filter (ofB p)).map (bif back then gK else gB)) := by
  intro y hy
  obtain ⟨x, hx, rfl⟩ := List.mem_map.1 hy
  obtain ⟨h1, h2⟩ := h x (List.mem_filter.1 hx).1
  cases back with
  | true => exact ⟨momB_t h1, momB_t h2⟩
  | false => exact ⟨momB_t h2, momB_t h1⟩
theorem asked_eq (l : List Beat) (p : ByteArray) (n : Int) (back : Bool) (hs : ∀ x ∈ l, GoodB x) (hl : l.length ≤ 1000000) (hp : Short p) :
    ∃ k, (or0 (beatsF l) (or0 (namedF p) (momF n)) = 0 → Cut ((l.filter (ofB p)).map (bif back then gK else gB)) n k) ∧
      proof_asked l p n back = some (bif or0 (beatsF l) (or0 (namedF p) (momF n)) == 0 then mapV ((l.filter (ofB p)).map (bif back then gK else gB)) n k else (0, or0 (beatsF l) (or0 (namedF p) (momF n)))) := by
  obtain ⟨k, hk⟩ := cut_ex ((l.filter (ofB p)).map (bif back then gK else gB)) n
  refine ⟨k, fun _ => hk, ?_⟩
  unfold proof_asked
  simp only [beatsK l hs hl, Option.bind_some, isKey_eq p (by unfold Short at hp; omega), isMoment_eq, beatsOf_eq l p back hl]
  cases hb : beatsF l == 0 with
  | false =>
    have h1 : (beatsF l != 0) = true := by simp [bne, hb]
    have h2 : or0 (beatsF l) (or0 (namedF p) (momF n)) = beatsF l := by unfold or0; rw [hb]; rfl
    simp only [h1, cond_true, h2, hb, cond_false]
  | true =>
    have h1 : (beatsF l != 0) = false := by simp [bne, hb]
    have h0 : beatsF l = 0 := eq_of_beq hb
    have h2 : or0 (beatsF l) (or0 (namedF p) (momF n)) = or0 (namedF p) (momF n) := by rw [h0]; rfl
    simp only [h1, cond_false, h2]
    unfold namedF momF or0
    cases keyB p with
    | false => rfl
    | true =>
      simp only [Bool.not_true, cond_false, cond_true]
      cases hm : momB n with
      | false => rfl
      | true =>
        simp only [Bool.not_true, cond_false, cond_true]
        have hlen : (l.filter (ofB p)).length ≤ 1000000 := Nat.le_trans (List.length_filter_le _ _) hl
        rw [mapped_eq hk (bnd_of (beatsF_0 h0).2 back) (momB_t hm) (by simpa using hlen)]
        rfl
theorem sorted_ends {l : List Beat} (h : SortedB l) (h2 : 2 ≤ l.length) : beforeB (l[0]'(by omega)) (l[l.length - 1]'(by omega)) := by
  cases l with
  | nil => simp at h2
  | cons x xs =>
    refine h.1 _ ?_
    simp only [List.length_cons] at h2
    have hne : xs.length ≠ 0 := by omega
    have : (x :: xs)[(x :: xs).length - 1]'(by simp) = xs[xs.length - 1]'(by omega) := by
      simp only [List.length_cons, Nat.add_sub_cancel]
      rw [List.getElem_cons, dif_neg hne]
    rw [this]; exact List.getElem_mem _
/-- The drift, by program and by reference. -/
theorem drift_eq (l : List Beat) (p : ByteArray) (hs : ∀ x ∈ l, GoodB x) (hl : l.length ≤ 1000000) (hp : Short p) :
    ∃ f : Fraction, ∃ b : Bool, (or0 (beatsF l) (namedF p) = 0 → ref_DriftOf l p = some (f, b)) ∧ (b = false → f = ⟨0, 0⟩) ∧
      proof_Drift l p = some (bif or0 (beatsF l) (namedF p) == 0 then (f, bif b then 0 else 8) else (⟨0, 0⟩, or0 (beatsF l) (namedF p))) := by
  have hr := refBeats_eq l p hl
  have hk := beatsOf_eq l p true hl
  simp only [cond_true] at hk
  have hlen : (l.filter (ofB p)).length ≤ 1000000 := Nat.le_trans (List.length_filter_le _ _) hl
  unfold proof_Drift ref_DriftOf
  simp only [beatsK l hs hl, Option.bind_some, isKey_eq p (by unfold Short at hp; omega), hr, hk, List.length_map]
  cases hb : beatsF l == 0 with
  | false =>
    have h1 : (beatsF l != 0) = true := by simp [bne, hb]
    have h2 : or0 (beatsF l) (namedF p) = beatsF l := by unfold or0; rw [hb]; rfl
    refine ⟨⟨0, 0⟩, false, fun h => ?_, fun _ => rfl, ?_⟩
    · rw [h2] at h; rw [h] at hb; cases hb
    · simp only [h1, cond_true, h2, hb, cond_false]
  | true =>
    have h1 : (beatsF l != 0) = false := by simp [bne, hb]
    have h0 : beatsF l = 0 := eq_of_beq hb
    have h2 : or0 (beatsF l) (namedF p) = namedF p := by rw [h0]; rfl
    simp only [h1, cond_false, h2]
    unfold namedF
    cases keyB p with
    | false => exact ⟨⟨0, 0⟩, false, fun h => (by cases h), fun _ => rfl, rfl⟩
    | true =>
      simp only [Bool.not_true, cond_false, cond_true]
      obtain ⟨k1, k2⟩ := beatsF_0 h0
      generalize hfl : l.filter (ofB p) = r at *
      have hsr : SortedB r := by rw [← hfl]; exact sorted_filter k1
      have hbr : ∀ x ∈ r, (momB x.At = true ∧ momB x.Clock = true) ∧ x.Player = p := by
        intro x hx
        rw [← hfl] at hx
        obtain ⟨m1, m2⟩ := List.mem_filter.1 hx
        exact ⟨k2 x m1, of_decide_eq_true m2⟩
      by_cases h3 : (r.length : Int) < 2
      · simp only [decide_eq_true h3, cond_true]
        exact ⟨⟨0, 0⟩, false, fun _ => rfl, fun _ => rfl, rfl⟩
      · have hlt : 2 ≤ r.length := by omega
        have hw : w64 ((r.length : Int) - 1) = ((r.length - 1 : Nat) : Int) := by rw [w64_id (by omega)]; omega
        have i1 : idx (r.map gK) 0 = some (gK (r[0]'(by omega))) := by
          have := idx_nat (r.map gK) 0
          rw [show ((0 : Nat) : Int) = 0 from rfl] at this
          rw [this, List.getElem?_eq_getElem (by simp; omega)]; simp
        have i2 : idx (r.map gK) ((r.length - 1 : Nat) : Int) = some (gK (r[r.length - 1]'(by omega))) := by
          rw [idx_nat, List.getElem?_eq_getElem (by simp; omega)]; simp
        have i3 : idx r 0 = some (r[0]'(by omega)) := by
          have := idx_nat r 0
          rw [show ((0 : Nat) : Int) = 0 from rfl] at this
          rw [this]; exact List.getElem?_eq_getElem _
        have i4 : idx r ((r.length - 1 : Nat) : Int) = some (r[r.length - 1]'(by omega)) := by rw [idx_nat]; exact List.getElem?_eq_getElem _
        have hbe := sorted_ends hsr hlt
        obtain ⟨⟨a1, a2⟩, a3⟩ := hbr _ (List.getElem_mem (show 0 < r.length by omega))
        obtain ⟨⟨c1, c2⟩, c3⟩ := hbr _ (List.getElem_mem (show r.length - 1 < r.length by omega))
        have hat : (r[0]'(by omega)).At < (r[r.length - 1]'(by omega)).At := by
          rcases hbe with h | ⟨_, h⟩
          · rw [a3, c3] at h; exact absurd h (lt_irr _)
          · exact h
        obtain ⟨a4, a5⟩ := momB_t a1
        obtain ⟨a6, a7⟩ := momB_t a2
        obtain ⟨c4, c5⟩ := momB_t c1
        obtain ⟨c6, c7⟩ := momB_t c2
        simp only [decide_eq_false h3, cond_false, hw, i1, i2, i3, i4, Option.bind_some, gK]
        generalize (r[0]'(by omega)) = x at *
        generalize (r[r.length - 1]'(by omega)) = y at *
        have e1 : w64 (y.At - x.At) = y.At - x.At := w64_id (by omega)
        have e2 : w64 (y.Clock - x.Clock) = y.Clock - x.Clock := w64_id (by omega)
        rw [e1, e2, w64_id (by omega)]
        obtain ⟨f, f1, f2⟩ := lowest_eq (y.Clock - x.Clock - (y.At - x.At)) (y.At - x.At) (by omega) (by omega) (by omega)
        simp only [f1, f2, Option.bind_some]
        exact ⟨f, true, fun _ => rfl, fun h => (by cases h), rfl⟩

theorem eta2 {α β : Type} (o : Option (α × β)) : (o.bind fun r => some (r.1, r.2)) = o := by cases o <;> rfl
theorem rightA (b : List Beat) (p : ByteArray) (n : Int) : proof_Right b p n = proof_asked b p n false := eta2 _
theorem shownA (b : List Beat) (p : ByteArray) (n : Int) : proof_Shown b p n = proof_asked b p n true := eta2 _
theorem momentFault_eq (n : Int) : law_momentFault n = some (momF n) := by
  unfold law_momentFault momF
  rw [refMoment_eq, Option.bind_some, when_eq]
  cases momB n <;> rfl
theorem or0_assoc (a b c : Int) : or0 (or0 a b) c = or0 a (or0 b c) := by
  unfold or0
  cases ha : a == 0 with
  | true => simp
  | false => simp [ha]
theorem proved_ok : law_proved = some true := by
  unfold law_proved
  rw [rightA]
  obtain ⟨k, hk, h⟩ := asked_eq ([(⟨(⟨#[112]⟩ : ByteArray), 0, 100⟩ : Beat), (⟨(⟨#[112]⟩ : ByteArray), 1000, 1300⟩ : Beat)] : List Beat) (⟨#[112]⟩ : ByteArray) 700 false
    (by intro x hx; simp only [List.mem_cons, List.not_mem_nil, or_false] at hx; rcases hx with rfl | rfl <;> exact short_lit rfl) (by simp) (short_lit rfl)
  rw [h]
  have h0 : or0 (beatsF ([(⟨(⟨#[112]⟩ : ByteArray), 0, 100⟩ : Beat), (⟨(⟨#[112]⟩ : ByteArray), 1000, 1300⟩ : Beat)] : List Beat)) (or0 (namedF (⟨#[112]⟩ : ByteArray)) (momF 700)) = 0 := by decide +kernel
  have hc := hk h0
  have hf : (([(⟨(⟨#[112]⟩ : ByteArray), 0, 100⟩ : Beat), (⟨(⟨#[112]⟩ : ByteArray), 1000, 1300⟩ : Beat)] : List Beat).filter (ofB (⟨#[112]⟩ : ByteArray))).map (bif false then gK else gB) = [⟨100, 0⟩, ⟨1300, 1000⟩] := by kernel_rfl
  have hk1 : k = 1 := by
    rw [hf] at hc
    have h1 := hc.le
    have h2 : k ≤ 2 := h1
    by_cases e0 : k = 0
    · subst e0; have := hc.hi (by decide); simp at this
    · by_cases e2 : k = 2
      · subst e2; have := hc.lo 1 (by decide) (by decide); simp at this
      · omega
  subst hk1
  rw [h0, hf]
  decide +kernel

theorem clocksPutRight (l : List Int) : law_ClocksPutRight l = some true := by
  obtain ⟨b, s1, h1, h2, h3, h4⟩ := beats_ok ⟨l, 0⟩ (b := 0) ⟨Int.le_refl _, Int.le_refl _⟩ (by decide)
  obtain ⟨p, s2, h5, h6, h7⟩ := some_ok s1 [(⟨#[112, 97]⟩ : ByteArray), (⟨#[112, 97]⟩ : ByteArray), (⟨#[112, 98]⟩ : ByteArray), (⟨#[112, 122]⟩ : ByteArray), (⟨#[]⟩ : ByteArray)] h2 (by omega) (by simp) (by simp)
  obtain ⟨n, s3, h8, _, h9⟩ := pick_ok s2 [0, 50, 100, 130, 500, 1500, 2678400000, 5184000000, (-1), 345686399999, 345686400000] h7 (by omega) (by simp) (by simp)
  have hp : Short p := by
    simp only [List.mem_cons, List.not_mem_nil, or_false] at h6
    rcases h6 with rfl | rfl | rfl | rfl | rfl <;> exact short_lit rfl
  have hl : b.length ≤ 1000000 := by omega
  obtain ⟨k1, c1, a1⟩ := asked_eq b p n false h4 hl hp
  obtain ⟨k2, c2, a2⟩ := asked_eq b p n true h4 hl hp
  obtain ⟨f, ok, d1, d2, d3⟩ := drift_eq b p h4 hl hp
  rw [← rightA] at a1
  rw [← shownA] at a2
  have hne : (beatsF b != beatsF b) = false := by simp
  have hnm : (bif !keyB p then (5 : Int) else 0) = namedF p := by unfold namedF; cases keyB p <;> rfl
  simp only [law_ClocksPutRight, h1, h5, h8, a1, a2, d3, beatsR b h4 hl, beatsK b h4 hl, Option.bind_some, hne, cond_false, refKey_eq p (by unfold Short at hp; omega), when_eq, hnm, errs2, momentFault_eq, or0_assoc]
  have hR : (bif or0 (beatsF b) (or0 (namedF p) (momF n)) == 0 then (ref_RightOf b p n).bind fun r_42 => some (r_42.2, r_42.1) else some (or0 (beatsF b) (or0 (namedF p) (momF n)), 0)) =
      some ((bif or0 (beatsF b) (or0 (namedF p) (momF n)) == 0 then mapV ((b.filter (ofB p)).map (bif false then gK else gB)) n k1 else (0, or0 (beatsF b) (or0 (namedF p) (momF n)))).2, (bif or0 (beatsF b) (or0 (namedF p) (momF n)) == 0 then mapV ((b.filter (ofB p)).map (bif false then gK else gB)) n k1 else (0, or0 (beatsF b) (or0 (namedF p) (momF n)))).1) := by
    cases hz : or0 (beatsF b) (or0 (namedF p) (momF n)) == 0 with
    | false => rfl
    | true =>
      obtain ⟨z1, z2'⟩ := or0_0 (eq_of_beq hz)
      obtain ⟨z3, z4⟩ := or0_0 z2'
      have hm : momB n = true := by unfold momF at z4; cases hm : momB n with
        | true => rfl
        | false => rw [hm] at z4; cases z4
      have hlen : (b.filter (ofB p)).length ≤ 1000000 := Nat.le_trans (List.length_filter_le _ _) hl
      simp only [cond_true, cond_false]
      rw [right_eq (k := k1) (refBeats_eq b p hl) (c1 (eq_of_beq hz)) (bnd_of (beatsF_0 z1).2 false) (momB_t hm) hlen, Option.bind_some]
  have hS : (bif or0 (beatsF b) (or0 (namedF p) (momF n)) == 0 then (ref_ShownOf b p n).bind fun r_47 => some (r_47.2, r_47.1) else some (or0 (beatsF b) (or0 (namedF p) (momF n)), 0)) =
      some ((bif or0 (beatsF b) (or0 (namedF p) (momF n)) == 0 then mapV ((b.filter (ofB p)).map (bif true then gK else gB)) n k2 else (0, or0 (beatsF b) (or0 (namedF p) (momF n)))).2, (bif or0 (beatsF b) (or0 (namedF p) (momF n)) == 0 then mapV ((b.filter (ofB p)).map (bif true then gK else gB)) n k2 else (0, or0 (beatsF b) (or0 (namedF p) (momF n)))).1) := by
    cases hz : or0 (beatsF b) (or0 (namedF p) (momF n)) == 0 with
    | false => rfl
    | true =>
      obtain ⟨z1, z2'⟩ := or0_0 (eq_of_beq hz)
      obtain ⟨z3, z4⟩ := or0_0 z2'
      have hm : momB n = true := by unfold momF at z4; cases hm : momB n with
        | true => rfl
        | false => rw [hm] at z4; cases z4
      have hlen : (b.filter (ofB p)).length ≤ 1000000 := Nat.le_trans (List.length_filter_le _ _) hl
      have hmap : ((b.filter (ofB p)).map sw).map gB = (b.filter (ofB p)).map gK := by rw [List.map_map]; rfl
      have hc := c2 (eq_of_beq hz)
      have hb := bnd_of (p := p) (beatsF_0 z1).2 true
      simp only [cond_true] at hc hb
      have hrb : ref_beatsOf (b.map sw) p = some ((b.filter (ofB p)).map sw) := by rw [refBeats_eq _ p (by simpa using hl), filter_sw]
      unfold ref_ShownOf
      simp only [cond_true]
      rw [swapped_eq b hl, Option.bind_some, right_eq (k := k2) hrb (by rw [hmap]; exact hc) (by rw [hmap]; exact hb) (momB_t hm) (by simpa using hlen), hmap]
      rfl
  have hD : (bif or0 (beatsF b) (namedF p) == 0 then (ref_DriftOf b p).bind fun r_52 => (some (bif !r_52.2 then (8 : Int) else 0)).bind fun r_55 => some (r_55, r_52.1.Num, r_52.1.Den) else some (or0 (beatsF b) (namedF p), 0, 0)) =
      some ((bif or0 (beatsF b) (namedF p) == 0 then (f, bif ok then (0 : Int) else 8) else ((⟨0, 0⟩ : Fraction), or0 (beatsF b) (namedF p))).2, (bif or0 (beatsF b) (namedF p) == 0 then (f, bif ok then (0 : Int) else 8) else ((⟨0, 0⟩ : Fraction), or0 (beatsF b) (namedF p))).1.Num, (bif or0 (beatsF b) (namedF p) == 0 then (f, bif ok then (0 : Int) else 8) else ((⟨0, 0⟩ : Fraction), or0 (beatsF b) (namedF p))).1.Den) := by
    cases hz : or0 (beatsF b) (namedF p) == 0 with
    | false => rfl
    | true =>
      simp only [cond_true, d1 (eq_of_beq hz), Option.bind_some]
      cases ok <;> rfl
  simp only [cond_true, cond_false] at hR hS
  simp only [hR, hS, Option.bind_some] at hD ⊢
  rw [hD]
  simp only [Option.bind_some, cond_false, cond_true, beq_self_eq_true, cond_true, Bool.and_self, proved_ok]
end Go.Proofs.Ytodfcleaapnklaa.Law
