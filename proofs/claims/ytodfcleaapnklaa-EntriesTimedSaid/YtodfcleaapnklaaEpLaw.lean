import Derived.Test.YtodfcleaapnklaaEpTime
/-
  PLAIN LAW: EntriesTimed is true of every stream.
-/
open Go Go.Eng
namespace Go.Proofs.Ytodfcleaapnklaa.Law
set_option linter.unusedVariables false
set_option linter.unusedSimpArgs false

/-! ### the time of a day -/
def tF (e : Entry) (z d : Int) : Int := (d * 1440 + e.From - z) * 60000
def mins (e : Entry) : Int := if e.To - e.From ≤ 0 then e.To - e.From + 1440 else e.To - e.From
def tW (e : Entry) (z d : Int) : Window := ⟨tF e z d, tF e z d + mins e * 60000⟩
theorem timeK (e : Entry) (h : Right e) (z d : Int) (hz : -1440 ≤ z ∧ z ≤ 1440) (hd : 0 ≤ d ∧ d ≤ 4000) : schedule_timeOf e z d = some (tW e z d) := by
  have h1 := h.from_
  have h2 := h.to_
  unfold schedule_timeOf tW tF mins
  rw [w64_id (n := e.To - e.From) (by omega)]
  by_cases hc : e.To - e.From ≤ 0
  · simp only [decide_eq_true hc, cond_true, Option.bind_some, if_pos hc]
    rw [w64_id (n := e.To - e.From + 1440) (by omega), w64_id (n := d * 1440) (by omega), w64_id (n := d * 1440 + e.From) (by omega), w64_id (n := d * 1440 + e.From - z) (by omega), w64_id (n := (d * 1440 + e.From - z) * 60000) (by omega), w64_id (n := (e.To - e.From + 1440) * 60000) (by omega), w64_id (by omega)]
  · simp only [decide_eq_false hc, cond_false, Option.bind_some, if_neg hc]
    rw [w64_id (n := d * 1440) (by omega), w64_id (n := d * 1440 + e.From) (by omega), w64_id (n := d * 1440 + e.From - z) (by omega), w64_id (n := (d * 1440 + e.From - z) * 60000) (by omega), w64_id (n := (e.To - e.From) * 60000) (by omega), w64_id (by omega)]
theorem timeR (e : Entry) (h : Right e) (z d : Int) (hz : -1440 ≤ z ∧ z ≤ 1440) (hd : 0 ≤ d ∧ d ≤ 4000) : ref_timeOf e z d = some (tW e z d) := by
  have h1 := h.from_
  have h2 := h.to_
  unfold ref_timeOf tW tF mins
  by_cases hc : e.To ≤ e.From
  · simp only [decide_eq_true hc, cond_true, Option.bind_some, if_pos (show e.To - e.From ≤ 0 by omega)]
    rw [w64_id (n := e.To + 1440) (by omega), w64_id (n := d * 86400000) (by omega), w64_id (n := z * 60000) (by omega), w64_id (n := d * 86400000 - z * 60000) (by omega), w64_id (n := e.From * 60000) (by omega), w64_id (n := (e.To + 1440) * 60000) (by omega), w64_id (by omega), w64_id (by omega)]
    congr 2 <;> omega
  · simp only [decide_eq_false hc, cond_false, Option.bind_some, if_neg (show ¬ e.To - e.From ≤ 0 by omega)]
    rw [w64_id (n := d * 86400000) (by omega), w64_id (n := z * 60000) (by omega), w64_id (n := d * 86400000 - z * 60000) (by omega), w64_id (n := e.From * 60000) (by omega), w64_id (n := e.To * 60000) (by omega), w64_id (by omega), w64_id (by omega)]
    congr 2 <;> omega

/-! ### the times -/
def cutW (w t : Window) : Window := ⟨maxI t.From w.From, minI t.To w.To⟩
def pR (e : Entry) (z : Int) (w : Window) (d : Int) : Bool := !e.Gone && (dayB e d && decide (maxI (tF e z d) w.From < minI (tF e z d + mins e * 60000) w.To))
def pK (e : Entry) (z : Int) (w : Window) (d : Int) : Bool := dayB e d && (decide (tF e z d < w.To) && decide (tF e z d + mins e * 60000 > w.From))
def wants (e : Entry) (z : Int) (w : Window) : List Window := collect (pR e z w) (fun d => cutW w (tW e z d)) (e.Last + 1 - e.First).toNat e.First
theorem timesR (e : Entry) (h : Right e) (z : Int) (w : Window) (hz : -1440 ≤ z ∧ z ≤ 1440) : ref_TimesOf e z w = some (wants e z w) := by
  have hf := h.first
  have hl := h.last
  obtain ⟨d', hd⟩ := days_loop (ρ := Unit) (body := fun s => ref_TimesOf_L1 e z w s) (p := pR e z w) (f := fun d => cutW w (tW e z d)) e.First e.Last (by omega) (fun acc d h1 h2 h3 => by
      have hc : decide (d ≤ e.Last) = true := decide_eq_true h2
      simp only [ref_TimesOf_L1, hc, cond_true, timeR e h z d hz (by omega), Option.bind_some, dayR e h d h1 h2, w64_id (n := d + 1) (by omega), pR, tW]
      cases e.Gone with
      | true => simp
      | false =>
        simp only [Bool.not_false, cond_true, Option.bind_some, Bool.true_and]
        cases dayB e d with
        | false => simp
        | true =>
          simp only [cond_true, Option.bind_some, Bool.true_and]
          cases decide (maxI (tF e z d) w.From < minI (tF e z d + mins e * 60000) w.To) with
          | false => simp
          | true => simp only [cond_true, appL_ok acc [_] (show acc.length + 1 ≤ _ by omega), Option.bind_some]; rfl)
    (fun acc d h1 => by
      have hc : decide (d ≤ e.Last) = false := decide_eq_false (by omega)
      simp only [ref_TimesOf_L1, hc, cond_false])
  unfold ref_TimesOf wants
  rw [hd, Option.bind_some, thenC_go]
theorem tdivB (x q : Int) (h : x.tdiv 86400000 = q) : (0 ≤ x → q * 86400000 ≤ x ∧ x < q * 86400000 + 86400000) ∧ (x < 0 → x ≤ q * 86400000 ∧ q * 86400000 - 86400000 < x) := by
  have h1 := Int.mul_tdiv_add_tmod x 86400000
  rw [h] at h1
  refine ⟨fun hx => ?_, fun hx => ?_⟩
  · have h2 := Int.tmod_nonneg 86400000 hx
    have h3 := Int.tmod_lt_of_pos x (show (0 : Int) < 86400000 by decide)
    omega
  · have h3 := Int.lt_tmod_of_pos x (show (0 : Int) < 86400000 by decide)
    have h4 : x.tmod 86400000 ≤ 0 := by
      have h5 := Int.tmod_nonneg 86400000 (show (0 : Int) ≤ -x by omega)
      rw [Int.neg_tmod] at h5
      omega
    omega
def WinOK (w : Window) : Prop := 0 ≤ w.From ∧ w.From ≤ w.To ∧ w.To ≤ 345686400000
theorem mins_b (e : Entry) (h : Right e) : 1 ≤ mins e ∧ mins e ≤ 1440 := by
  have h1 := h.from_
  have h2 := h.to_
  unfold mins
  split <;> omega
theorem timesK (e : Entry) (h : Right e) (z : Int) (w : Window) (hz : -1440 ≤ z ∧ z ≤ 1440) (hw : WinOK w) : ∃ l, schedule_times e z w = some l ∧ l.length ≤ 100000 ∧ l.map (cutW w) = wants e z w := by
  obtain ⟨w1, w2, w3⟩ := hw
  have hf := h.first
  have hl := h.last
  have hm := mins_b e h
  have hfr := h.from_
  unfold schedule_times
  cases hg : e.Gone with
  | true =>
    simp only [cond_true, Option.bind_some]
    refine ⟨[], rfl, by simp, ?_⟩
    unfold wants
    rw [collect_nil _ _ (fun x _ _ => by simp only [pR, hg, Bool.not_true, Bool.false_and])]; rfl
  | false =>
  simp only [cond_false, Option.bind_some]
  by_cases hlt : w.From ≥ w.To
  · simp only [decide_eq_true hlt, cond_true]
    refine ⟨[], rfl, by simp, ?_⟩
    unfold wants
    rw [collect_nil _ _ (fun x _ _ => by
      have : decide (maxI (tF e z x) w.From < minI (tF e z x + mins e * 60000) w.To) = false := decide_eq_false (by unfold maxI minI; split <;> split <;> omega)
      simp only [pR, this, Bool.and_false])]; rfl
  · simp only [decide_eq_false hlt, cond_false]
    rw [w64_id (n := z * 60000) (by omega), w64_id (n := w.From + z * 60000) (by omega)]
    obtain ⟨a, ha⟩ : ∃ a, (w.From + z * 60000).tdiv 86400000 = a := ⟨_, rfl⟩
    obtain ⟨b, hb⟩ : ∃ b, (w.To + z * 60000).tdiv 86400000 = b := ⟨_, rfl⟩
    have ha2 := tdivB _ _ ha
    have hb2 := tdivB _ _ hb
    rw [ha, w64_id (n := a) (by omega), w64_id (n := a - 2) (by omega)]
    obtain ⟨lo, hlo⟩ : ∃ lo, maxI (a - 2) e.First = lo := ⟨_, rfl⟩
    obtain ⟨hi, hhi⟩ : ∃ hi, minI (b + 1) e.Last = hi := ⟨_, rfl⟩
    have hlo2 : e.First ≤ lo ∧ a - 2 ≤ lo ∧ (lo = e.First ∨ lo = a - 2) := by unfold maxI at hlo; split at hlo <;> omega
    have hhi2 : hi ≤ e.Last ∧ hi ≤ b + 1 ∧ (hi = e.Last ∨ hi = b + 1) := by unfold minI at hhi; split at hhi <;> omega
    have hend : ∀ d, decide (d ≤ minI (w64 (w64 ((w64 (w.To + w64 (z * 60000))).tdiv 86400000) + 1)) e.Last) = decide (d ≤ hi) := fun d => by
      rw [w64_id (n := z * 60000) (by omega), w64_id (n := w.To + z * 60000) (by omega), hb, w64_id (n := b) (by omega), w64_id (n := b + 1) (by omega), hhi]
    rw [hlo]
    obtain ⟨d', hd⟩ := days_loop (ρ := Unit) (body := fun s => schedule_times_L1 w z e s) (p := pK e z w) (f := tW e z) lo hi (by omega) (fun acc d h1 h2 h3 => by
        have hc : decide (d ≤ hi) = true := decide_eq_true h2
        simp only [schedule_times_L1, hend, hc, cond_true, timeK e h z d hz (by omega), Option.bind_some, dayK e h d (by omega) (by omega), w64_id (n := d + 1) (by omega), pK]
        cases dayB e d with
        | false => simp
        | true =>
          simp only [Bool.not_true, cond_false, Option.bind_some, Bool.true_and]
          by_cases hA : tF e z d < w.To
          · have hA1 : decide (tF e z d < w.To) = true := decide_eq_true hA
            have hA2 : decide ((tW e z d).From < w.To) = true := decide_eq_true hA
            by_cases hB : tF e z d + mins e * 60000 > w.From
            · have hB1 : decide (tF e z d + mins e * 60000 > w.From) = true := decide_eq_true hB
              have hB2 : decide ((tW e z d).To > w.From) = true := decide_eq_true hB
              simp only [hA1, hA2, hB1, hB2, cond_true, Bool.and_self, Option.bind_some, appL_ok acc [tW e z d] (show acc.length + 1 ≤ _ by omega)]
            · have hB1 : decide (tF e z d + mins e * 60000 > w.From) = false := decide_eq_false hB
              have hB2 : decide ((tW e z d).To > w.From) = false := decide_eq_false hB
              simp only [hA1, hA2, hB1, hB2, cond_true, cond_false, Bool.and_false, Option.bind_some, List.append_nil]
          · have hA1 : decide (tF e z d < w.To) = false := decide_eq_false hA
            have hA2 : decide ((tW e z d).From < w.To) = false := decide_eq_false hA
            simp only [hA1, hA2, cond_false, Bool.false_and, Option.bind_some, List.append_nil])
      (fun acc d h1 => by
        have hc : decide (d ≤ hi) = false := decide_eq_false (by omega)
        simp only [schedule_times_L1, hend, hc, cond_false])
    refine ⟨collect (pK e z w) (tW e z) (hi + 1 - lo).toNat lo, by rw [hd, Option.bind_some, thenC_go], ?_, ?_⟩
    · have := collect_len (pK e z w) (tW e z) (hi + 1 - lo).toNat lo
      omega
    · rw [collect_map]
      unfold wants
      rw [collect_cut (pR e z w) _ e.First e.Last lo hi (by omega) (by omega) (fun x x1 x2 hp => ?_)]
      · refine collect_congr _ _ (fun x x1 x2 => ⟨?_, rfl⟩)
        simp only [pK, pR, hg, Bool.not_false, Bool.true_and]
        congr 1
        rw [Bool.eq_iff_iff, Bool.and_eq_true, decide_eq_true_eq, decide_eq_true_eq, decide_eq_true_eq]
        unfold maxI minI
        split <;> split <;> omega
      · simp only [pR, hg, Bool.not_false, Bool.true_and, Bool.and_eq_true, decide_eq_true_eq] at hp
        have hp2 := hp.2
        unfold tF at hp2
        unfold maxI minI at hp2
        split at hp2 <;> split at hp2 <;> omega

theorem cut_loop (w : Window) (r : List Window) (hr : r.length ≤ 1000000) : forL (List.range ((r.length : Int)).toNat) r (fun k x s => schedule_Times_L1 w k x s) = some (.go (r.map (cutW w))) := by
  obtain ⟨s', h1, h2, h3⟩ := forL_inv (ρ := Unit) (body := fun k x s => schedule_Times_L1 w k x s) (fun k s => s.length = r.length ∧ ∀ i, s[i]? = if i < k then (r.map (cutW w))[i]? else r[i]?) (xs := List.range ((r.length : Int)).toNat) (s := r) (by simp; omega) (fun k x s hx hk ⟨i1, i2⟩ => by
      simp only [List.length_range, Int.toNat_natCast] at hk
      have hg : r[k]? = some r[k] := List.getElem?_eq_getElem hk
      have hs : s[0 + ((k : Int)).toNat]? = some r[k] := by
        rw [show 0 + ((k : Int)).toNat = k by omega, i2 k, if_neg (by omega), hg]
      have hin : inR (k : Int) s = some () := inR_ok (by omega) (by omega)
      simp only [schedule_Times_L1, hin, hs, schedule_cut, Option.bind_some]
      refine ⟨_, rfl, by simpa using i1, fun i => ?_⟩
      rw [show 0 + ((k : Int)).toNat = k by omega, List.getElem?_set]
      by_cases hik : k = i
      · subst hik
        rw [if_pos rfl, if_pos (by omega), if_pos (by omega), List.getElem?_map, hg]; rfl
      · rw [if_neg hik, i2 i]
        by_cases h5 : i < k
        · rw [if_pos h5, if_pos (by omega)]
        · rw [if_neg h5, if_neg (by omega)]) ⟨rfl, fun i => by simp⟩
  rw [h1]
  congr 2
  refine List.ext_getElem? (fun i => ?_)
  rw [h3 i]
  simp only [List.length_range, Int.toNat_natCast]
  split
  · rfl
  · rw [List.getElem?_eq_none (by omega), List.getElem?_eq_none (by simp; omega)]

/-! ### the law -/
def zF (z : Int) : Int := bif outB z (-1440) 1440 then 1 else 0
theorem winF_0 {w : Window} (h : winF w = 0) : WinOK w := by
  unfold winF at h
  cases hb : (outB w.From 0 w.To || decide (w.To > 345686400000)) with
  | true => rw [hb] at h; cases h
  | false =>
    simp only [Bool.or_eq_false_iff, decide_eq_false_iff_not] at hb
    have := outB_f hb.1
    exact ⟨by omega, by omega, by omega⟩
theorem or0_0 {a b : Int} (h : or0 a b = 0) : a = 0 ∧ b = 0 := by
  unfold or0 at h
  cases ha : a == 0 with
  | true => rw [ha] at h; exact ⟨eq_of_beq ha, h⟩
  | false => rw [ha, cond_false] at h; rw [h] at ha; cases ha
theorem zF_0 {z : Int} (h : zF z = 0) : -1440 ≤ z ∧ z ≤ 1440 := by
  unfold zF at h
  cases hb : outB z (-1440) 1440 with
  | true => rw [hb] at h; cases h
  | false => exact outB_f hb
theorem times_eq (e : Entry) (z : Int) (w : Window) (he : GoodE e) : schedule_Times e z w = some (bif or0 (entF e) (or0 (zF z) (winF w)) == 0 then (wants e z w, 0) else ([], or0 (entF e) (or0 (zF z) (winF w)))) := by
  unfold schedule_Times
  rw [oneK e he, Option.bind_some, outside_eq, winK]
  cases h : entF e == 0 with
  | false =>
    have : (entF e != 0) = true := by simp [bne, h]
    have h2 : or0 (entF e) (or0 (zF z) (winF w)) = entF e := by unfold or0; rw [h, cond_false]
    simp only [this, cond_true, h2, h, cond_false]
  | true =>
    have : (entF e != 0) = false := by simp [bne, h]
    have h2 : or0 (entF e) (or0 (zF z) (winF w)) = or0 (zF z) (winF w) := by unfold or0; rw [h, cond_true]
    simp only [this, cond_false, h2, Option.bind_some]
    cases hz : outB z (-1440) 1440 with
    | true =>
      have h3 : or0 (zF z) (winF w) = 1 := by unfold or0 zF; rw [hz]; rfl
      rw [h3]; rfl
    | false =>
      have h3 : or0 (zF z) (winF w) = winF w := by unfold or0 zF; rw [hz]; rfl
      simp only [h3, cond_false]
      cases hw : winF w == 0 with
      | false =>
        have : (winF w != 0) = true := by simp [bne, hw]
        simp only [this, cond_true, cond_false]
      | true =>
        have : (winF w != 0) = false := by simp [bne, hw]
        simp only [this, cond_true, cond_false]
        obtain ⟨l, k1, k2, k3⟩ := timesK e (entF_0 (eq_of_beq h)) z w (outB_f hz) (winF_0 (eq_of_beq hw))
        rw [k1, Option.bind_some, cut_loop w l (by omega), Option.bind_some, thenC_go, k3]

theorem equal_self (l : List Window) (hl : l.length ≤ 1000000) : slices_Equal_api_Window_api_Window l l = some true := by
  unfold slices_Equal_api_Window_api_Window
  have : ((l.length : Int) != (l.length : Int)) = false := by simp
  rw [this, cond_false, forL_eq (by omega)]
  have run : ∀ (xs : List Window) (k : Nat), l.drop k = xs → forR (fun k x s => slices_Equal_api_Window_api_Window_L1 l k x s) xs k () = some (.go ()) := by
    intro xs
    induction xs with
    | nil => exact fun k _ => rfl
    | cons x xs ih =>
      intro k h
      have hg := drop_get h
      have hst : slices_Equal_api_Window_api_Window_L1 l k x () = some (.go ()) := by
        simp [slices_Equal_api_Window_api_Window_L1, idx_nat, hg]
      rw [forR, hst, Option.bind_some]
      exact ih (k + 1) (drop_next h)
  rw [run l 0 rfl, Option.bind_some, thenC_go]
theorem wants_len (e : Entry) (h : Right e) (z : Int) (w : Window) : (wants e z w).length ≤ 1000000 := by
  have := collect_len (pR e z w) (fun d => cutW w (tW e z d)) (e.Last + 1 - e.First).toNat e.First
  have h1 := h.first
  have h2 := h.last
  unfold wants
  omega
theorem when_eq (b : Bool) : law_when b 1 = some (bif b then 1 else 0) := by cases b <;> rfl
theorem law_L1 (p : Player) (w : Window) (z : Int) (e : Entry) (k : Nat) (hp : GoodP p) (he : GoodE e) (s1 s2 s3 : Stream) : law_EntriesTimed_L1 (z, s1) (w, s2) (p, s3) k e () = some (.go ()) := by
  have hv : ∀ (A : Type) (c : Int × Int → Option A), ((bif decide (z < -1440) then (law_when true 1).bind fun r_37 => (ref_SpanFault w).bind fun r_39 => (law_errs ([entF e, r_37, r_39] : List Int)).bind fun r_41 => (ref_PlayerFault p).bind fun r_43 => (law_errs ([entF e, r_43] : List Int)).bind fun r_45 => some (r_41, r_45)
      else (law_when (decide (z > 1440)) 1).bind fun r_47 => (ref_SpanFault w).bind fun r_49 => (law_errs ([entF e, r_47, r_49] : List Int)).bind fun r_51 => (ref_PlayerFault p).bind fun r_53 => (law_errs ([entF e, r_53] : List Int)).bind fun r_55 => some (r_51, r_55))).bind c = c (or0 (entF e) (or0 (zF z) (winF w)), or0 (entF e) (playF p)) := by
    intro A c
    simp only [when_eq, winR, playR p hp, errs2, errs3, Option.bind_some, zF, outB]
    cases decide (z < -1440) with
    | true => rfl
    | false => cases decide (z > 1440) <;> rfl
  simp only [law_EntriesTimed_L1, times_eq e z w he, fits_eq e p he hp, oneR e he, Option.bind_some, hv]
  generalize h1 : or0 (entF e) (or0 (zF z) (winF w)) = f1
  generalize h2 : or0 (entF e) (playF p) = f2
  have key : ∀ (X : List Window × Int) (want : List Window), X = (bif f1 == 0 then (wants e z w, 0) else ([], f1)) → (bif f1 == 0 then (ref_TimesOf e z w).bind fun r_62 => some r_62 else some ([] : List Window)) = some X.1 ∧ X.2 = f1 ∧ X.1.length ≤ 1000000 := by
    intro X _ hX
    subst hX
    cases hf : f1 == 0 with
    | false => simp
    | true =>
      have h0 : f1 = 0 := eq_of_beq hf
      rw [h0] at h1
      obtain ⟨a1, a2⟩ := or0_0 h1
      have hr := entF_0 a1
      simp only [cond_true, timesR e hr z w (zF_0 (or0_0 a2).1), Option.bind_some]
      exact ⟨trivial, h0.symm, wants_len e hr z w⟩
  obtain ⟨k1, k2, k3⟩ := key _ [] rfl
  rw [k1]
  simp only [Option.bind_some]
  rw [k2, equal_self _ k3]
  have e1 : (f1 != f1) = false := by simp
  simp only [e1, cond_false, Option.bind_some, Bool.not_true]
  cases hf : f2 == 0 with
  | false =>
    simp only [cond_false]
    have : (f2 != f2) = false := by simp
    simp [this]
  | true =>
    have h0 : f2 = 0 := eq_of_beq hf
    simp only [cond_true, fitR e p (by have := he.2.2.2.1; omega) (by have := hp.2.2.1; omega), Option.bind_some, h0]
    simp

theorem timed_ok : law_timed = some true := by
  unfold law_timed
  rw [times_eq _ _ _ ⟨short_lit rfl, short_lit rfl, by simp, by simp, by simp⟩]
  decide +kernel

theorem entriesTimed (l : List Int) : law_EntriesTimed l = some true := by
  obtain ⟨p, s1, h1, h2, h3⟩ := player_ok ⟨l, 0⟩ (b := 0) ⟨Int.le_refl _, Int.le_refl _⟩ (by decide)
  obtain ⟨w, s2, h4, h5⟩ := days_ok s1 h2 (by omega)
  obtain ⟨z, s3, h6, _, h7⟩ := pick_ok s2 [0, 0, 60, (-90), 1440, (-1440), 1441] h5 (by omega) (by simp) (by simp)
  obtain ⟨xs, s4, h8, h9, h10, h11⟩ := entries_ok s3 h7 (by omega)
  have hout : forL xs () (fun k x s => law_EntriesTimed_L1 (z, s3) (w, s2) (p, s1) k x s) = some (.go ()) := by
    rw [forL_run (fun _ _ _ => .go ()) (by omega) (fun k y u hy => law_L1 p w z y k h3 (h11 y hy) s3 s2 s1)]
    have : ∀ (xs : List Entry) (k : Nat), runR (σ := Unit) (ρ := Bool) (fun _ _ _ => .go ()) xs k () = .go () := by
      intro xs
      induction xs with
      | nil => exact fun _ => rfl
      | cons y xs ih => exact fun k => ih _
    rw [this]
  simp only [law_EntriesTimed, h1, h4, h6, h8, hout, Option.bind_some, thenC_go, timed_ok]
end Go.Proofs.Ytodfcleaapnklaa.Law
