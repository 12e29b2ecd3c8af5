import Derived.Test.YtodfcleaapnklaaGreatRmSim
import Derived.Test.YtodfcleaapnklaaGreatRmBase
/-
  PLAIN LEMMAS: the region is the reference's.
-/
open Go Go.Eng
namespace Go.Proofs.YtodfcleaapnklaaGreat.Law
set_option linter.unusedVariables false
set_option linter.unusedSimpArgs false

/-! ### faults, lists one behind the other -/
theorem badR_fine {r : Rect} (h : badR r = false) : Fine r := by
  unfold badR at h
  simp only [Bool.or_eq_false_iff] at h
  obtain ⟨⟨⟨h1, h2⟩, h3⟩, h4⟩ := h
  have h1 := outB_f h1
  have h2 := outB_f h2
  rw [w64_id (by omega)] at h3 h4
  have h3 := outB_f h3
  have h4 := outB_f h4
  exact ⟨by omega, by omega, by omega, by omega, by omega⟩
theorem concat_eq (l m : List Rect) (h : l.length + m.length ≤ 1000000) : slices_Concat_api_Rect_api_Rect [l, m] = some (l ++ m) := by
  have g1 : forL [l, m] (0 : Int) (fun k x s => slices_Concat_api_Rect_api_Rect_L1 k x s) = some (.go ((l.length + m.length : Nat) : Int)) := by
    rw [forL_eq (by simp)]
    simp only [forR, slices_Concat_api_Rect_api_Rect_L1]
    have e1 : w64 (0 + (l.length : Int)) = (l.length : Int) := by rw [w64_id (by omega)]; omega
    have e2 : w64 ((l.length : Int) + (m.length : Int)) = ((l.length + m.length : Nat) : Int) := by rw [w64_id (by omega)]; omega
    have d1 : decide ((l.length : Int) < 0) = false := by simp
    have d2 : decide (((l.length + m.length : Nat) : Int) < 0) = false := by simp; omega
    simp only [e1, e2, d1, d2, cond_false, Option.bind_some]
  have g2 : ∃ b, slices_Grow_api_Rect_api_Rect_k ((l.length + m.length : Nat) : Int) = some b := by
    unfold slices_Grow_api_Rect_api_Rect_k
    have d1 : decide (((l.length + m.length : Nat) : Int) < 0) = false := by simp; omega
    have e1 : w64 (((l.length + m.length : Nat) : Int) - w64 (0 - 0)) = ((l.length + m.length : Nat) : Int) := by
      rw [show w64 (0 - 0) = 0 from rfl, w64_id (by omega)]; omega
    rw [d1, cond_false, e1]
    by_cases hp : ((l.length + m.length : Nat) : Int) > 0
    · rw [decide_eq_true hp, cond_true]
      unfold zN
      rw [if_pos ⟨hp, by omega, by omega⟩]
      exact ⟨true, rfl⟩
    · rw [decide_eq_false hp, cond_false]; exact ⟨false, rfl⟩
  obtain ⟨b, g2⟩ := g2
  have g3 : forL [l, m] ([] : List Rect) (fun k x s => slices_Concat_api_Rect_api_Rect_L2 k x s) = some (.go (l ++ m)) := by
    rw [forL_eq (by simp)]
    simp only [forR, slices_Concat_api_Rect_api_Rect_L2]
    rw [appL_ok _ _ (by simp; omega)]
    simp only [Option.bind_some, List.nil_append]
    rw [appL_ok _ _ (by omega)]; rfl
  unfold slices_Concat_api_Rect_api_Rect
  rw [g1, Option.bind_some]
  simp only [thenC]
  rw [g2, Option.bind_some, g3]; rfl
/-! ### pixels -/
def has1 (x y : Int) (r : Rect) : Bool := (decide (r.X ≤ x) && decide (x < r.X + r.W)) && (decide (r.Y ≤ y) && decide (y < r.Y + r.H))
def hasB (l : List Rect) (x y : Int) : Bool := l.any (has1 x y)
theorem hasB_iff (l : List Rect) (x y : Int) : hasB l x y = true ↔ hasP l x y := by
  unfold hasB hasP
  rw [List.any_eq_true]
  simp only [has1, Bool.and_eq_true, decide_eq_true_eq]
theorem has_eq {r : Rect} (h : Fine r) (x y : Int) : ref_some_1 r x y = some (has1 x y r) := by
  obtain ⟨h1, h2, h3, h4⟩ := h
  unfold ref_some_1 ref_has
  rw [in_eq, in_eq, w64_id (n := r.X + r.W) (by omega), w64_id (n := r.Y + r.H) (by omega), w64_id (n := r.X + r.W - 1) (by omega), w64_id (n := r.Y + r.H - 1) (by omega)]
  have e1 : (!outB x r.X (r.X + r.W - 1)) = (decide (r.X ≤ x) && decide (x < r.X + r.W)) := by
    rw [Bool.eq_iff_iff]; simp [outB]; omega
  have e2 : (!outB y r.Y (r.Y + r.H - 1)) = (decide (r.Y ≤ y) && decide (y < r.Y + r.H)) := by
    rw [Bool.eq_iff_iff]; simp [outB]; omega
  rw [e1, e2]
  unfold has1
  cases (decide (r.X ≤ x) && decide (x < r.X + r.W)) <;> rfl
theorem some_loop (x y : Int) : ∀ (l : List Rect) (k : Nat), (∀ r ∈ l, Fine r) → (forR (fun k z s => slices_IndexFunc_api_Rect_api_Rect_L1 (fun x0 => ref_some_1 x0 x y) k z s) l k () = some (.go ()) ∧ hasB l x y = false) ∨ ∃ j : Nat, forR (fun k z s => slices_IndexFunc_api_Rect_api_Rect_L1 (fun x0 => ref_some_1 x0 x y) k z s) l k () = some (.ret (j : Int)) ∧ hasB l x y = true
  | [], k, _ => .inl ⟨rfl, rfl⟩
  | r :: l, k, h => by
    have hB : slices_IndexFunc_api_Rect_api_Rect_L1 (fun x0 => ref_some_1 x0 x y) k r () = some (bif has1 x y r then .ret (k : Int) else .go ()) := by
      unfold slices_IndexFunc_api_Rect_api_Rect_L1
      show (ref_some_1 r x y).bind _ = _
      rw [has_eq (h r (by simp)), Option.bind_some]
      cases has1 x y r <;> rfl
    rw [forR, hB, Option.bind_some]
    unfold hasB
    rw [List.any_cons]
    cases has1 x y r with
    | true => exact .inr ⟨k, rfl, rfl⟩
    | false => exact some_loop x y l (k + 1) (fun r hr => h r (by simp [hr]))
theorem some_eq {l : List Rect} (h : ∀ r ∈ l, Fine r) (hl : l.length ≤ 1000000) (x y : Int) : ref_some l x y = some (hasB l x y) := by
  unfold ref_some slices_ContainsFunc_api_Rect_api_Rect slices_IndexFunc_api_Rect_api_Rect
  rw [forL_eq (by omega)]
  rcases some_loop x y l 0 h with ⟨h1, h2⟩ | ⟨j, h1, h2⟩
  · rw [h1, h2]; rfl
  · rw [h1, h2]
    simp only [Option.bind_some, thenC]
    have : decide ((j : Int) ≥ 0) = true := by simp
    rw [this]
/-! ### edges -/
theorem edges_loop {body : Nat → Rect → List Int → Option (Ctl (List Int) Unit)} (f : Rect → List Int) (hf : ∀ r, (f r).length = 2) : ∀ (l : List Rect) (k : Nat) (s : List Int), (∀ k r s, r ∈ l → s.length ≤ 1000000 → body k r s = some (.go (s ++ f r))) → s.length + 2 * l.length ≤ 1000000 → forR body l k s = some (.go (s ++ l.flatMap f))
  | [], k, s, _, _ => by simp [forR]
  | r :: l, k, s, h, hl => by
    simp only [List.length_cons] at hl
    have := hf r
    rw [forR, h k r s (by simp) (by omega), Option.bind_some]
    simp only
    rw [edges_loop f hf l (k + 1) _ (fun k r s hr => h k r s (by simp [hr])) (by simp; omega)]
    simp
def yE (r : Rect) : List Int := [r.Y, r.Y + r.H]
def xE (r : Rect) : List Int := [r.X, r.X + r.W]
theorem flat2 {f : Rect → List Int} (hf : ∀ r, (f r).length = 2) : ∀ l : List Rect, (l.flatMap f).length = 2 * l.length
  | [] => rfl
  | r :: l => by rw [List.flatMap_cons, List.length_append, hf, flat2 hf l, List.length_cons]; omega
/-- What the edges become. -/
theorem cutsOf (e : List Int) (he : e.length ≤ 1000000) : ∃ c, ((slices_Sort_int_int_v1 e).bind fun r_22 => (sameL r_22 e).bind fun _ => (slices_Compact_int_int_v1 r_22).bind fun r_25 => some r_25) = some c ∧ c.Pairwise (· < ·) ∧ (∀ x, x ∈ c ↔ x ∈ e) ∧ c.length ≤ e.length := by
  obtain ⟨s, c, h1, h2, h3, h4, h5, h6⟩ := sortC e (by omega)
  have hsm : sameL s e = some () := by unfold sameL; rw [if_pos h2]
  exact ⟨c, by rw [h1, Option.bind_some, hsm, Option.bind_some, h3, Option.bind_some], h4, h5, h6⟩
/-- THE REGION. -/
theorem region_ok (is : Int → Int → Option Bool) (l m : List Rect) (hl : ∀ r ∈ l, Fine r) (hm : ∀ r ∈ m, Fine r) (h1 : l.length ≤ 12) (h2 : m.length ≤ 12)
    (his : ∀ x y, is x y = some (hasB l x y && !hasB m x y)) :
    ∃ (xs ys : List Int) (res : List Rect), ref_cuts_v1 (l ++ m) = some xs ∧ ref_cuts_v2 (l ++ m) = some ys ∧ screen_region l m = some res ∧
      ((loopO (([] : List Rect), ([] : List Rect), (0 : Int)) (fun s => regL3 is ys xs s)).bind fun o_22 => thenC o_22 (fun s_13 => (appL s_13.1 s_13.2.1).bind fun a_114 => some a_114) (fun _ => none)) = some res ∧ res.length ≤ (2 * (l.length + m.length) + 1) * (l.length * (m.length + 1)) := by
  have hlm : ∀ r ∈ l ++ m, Fine r := fun r hr => by
    rcases List.mem_append.1 hr with hr | hr
    · exact hl r hr
    · exact hm r hr
  have hlen : (l ++ m).length ≤ 24 := by simp; omega
  obtain ⟨xs, x1, x2, x3, x4⟩ := cutsOf ((l ++ m).flatMap xE) (by rw [flat2 (fun _ => rfl)]; omega)
  obtain ⟨ys, y1, y2, y3, y4⟩ := cutsOf ((l ++ m).flatMap yE) (by rw [flat2 (fun _ => rfl)]; omega)
  rw [flat2 (fun _ => rfl)] at x4 y4
  have ex : forL (l ++ m) ([] : List Int) (fun k x s => ref_cuts_v1_L1 k x s) = some (.go ((l ++ m).flatMap xE)) := by
    rw [forL_eq (by omega), edges_loop xE (fun _ => rfl) (l ++ m) 0 [] (fun k r s hr hs => by
      obtain ⟨f1, f2, f3, f4⟩ := hlm r hr
      unfold ref_cuts_v1_L1 ref_regionOf_1
      rw [w64_id (by omega), Option.bind_some, appL_ok _ _ (by simp; omega)]; rfl) (by simp at hlen ⊢; omega), List.nil_append]
  have ey : forL (l ++ m) ([] : List Int) (fun k x s => ref_cuts_v2_L1 k x s) = some (.go ((l ++ m).flatMap yE)) := by
    rw [forL_eq (by omega), edges_loop yE (fun _ => rfl) (l ++ m) 0 [] (fun k r s hr hs => by
      obtain ⟨f1, f2, f3, f4⟩ := hlm r hr
      unfold ref_cuts_v2_L1 ref_regionOf_2
      rw [w64_id (by omega), Option.bind_some, appL_ok _ _ (by simp; omega)]; rfl) (by simp at hlen ⊢; omega), List.nil_append]
  have ep : forL (l ++ m) ([] : List Int) (fun k x s => screen_region_L1 k x s) = some (.go ((l ++ m).flatMap yE)) := by
    rw [forL_eq (by omega), edges_loop yE (fun _ => rfl) (l ++ m) 0 [] (fun k r s hr hs => by
      obtain ⟨f1, f2, f3, f4⟩ := hlm r hr
      unfold screen_region_L1
      rw [w64_id (by omega), appL_ok _ _ (by simp; omega)]; rfl) (by simp at hlen ⊢; omega), List.nil_append]
  have c1 : ref_cuts_v1 (l ++ m) = some xs := by
    unfold ref_cuts_v1
    rw [ex, Option.bind_some]; exact x1
  have c2 : ref_cuts_v2 (l ++ m) = some ys := by
    unfold ref_cuts_v2
    rw [ey, Option.bind_some]; exact y1
  have inX : ∀ r ∈ l ++ m, r.X ∈ xs ∧ r.X + r.W ∈ xs := fun r hr => ⟨(x3 _).2 (List.mem_flatMap.2 ⟨r, hr, by simp [xE]⟩), (x3 _).2 (List.mem_flatMap.2 ⟨r, hr, by simp [xE]⟩)⟩
  have hbx : ∀ x ∈ xs, Bd x := fun x hx => by
    obtain ⟨r, hr, hx⟩ := List.mem_flatMap.1 ((x3 x).1 hx)
    obtain ⟨f1, f2, f3, f4⟩ := hlm r hr
    simp only [xE, List.mem_cons, List.not_mem_nil, or_false] at hx
    unfold Bd; omega
  have hby : ∀ y ∈ ys, Bd y := fun y hy => by
    obtain ⟨r, hr, hy⟩ := List.mem_flatMap.1 ((y3 y).1 hy)
    obtain ⟨f1, f2, f3, f4⟩ := hlm r hr
    simp only [yE, List.mem_cons, List.not_mem_nil, or_false] at hy
    unfold Bd; omega
  have hBl : l.length * (m.length + 1) ≤ 12 * 13 := Nat.mul_le_mul h1 (by omega)
  -- a row
  have hrow : ∀ (j : Nat) (y y2 : Int) (s : List Rect × List Rect × Int), ys[j]? = some y → ys[j + 1]? = some y2 → s.2.2 = (j : Int) → ∃ R : List Run, ((screen_runs l y).bind fun r_45 => (screen_runs m y).bind fun r_47 => (screen_less r_45 r_47).bind fun r_49 => some r_49) = some R ∧
      (∃ i : Int, loopO (([] : List Rect), (0 : Int)) (fun t => rowL1 is xs ys s t) = some (.go (R.map (toRect y (y2 - y)), i))) ∧ (∀ r ∈ R, Okr r) ∧ R.length ≤ l.length * (m.length + 1) := by
    intro j y y2 s hy hy2 hs
    obtain ⟨A, a1, a2, a3, a4, a5⟩ := runs_ok l y hl h1
    obtain ⟨C, b1, b2, b3, b4, b5⟩ := runs_ok m y hm h2
    obtain ⟨R, r1, r2, r3, r4, r5⟩ := less_ok A C a2 b2 a5 (by omega) (by omega)
    have hjl := (List.getElem?_eq_some_iff.1 hy).1
    have hne : l ++ m ≠ [] := fun e => by
      rw [e] at y4; simp at y4; rw [y4] at hjl; simp at hjl
    have hxne : 0 < xs.length := by
      obtain ⟨r, hr⟩ := List.exists_mem_of_ne_nil _ hne
      exact List.length_pos_of_mem (inX r hr).1
    have gapX : ∀ (i : Nat) (a b e : Int), xs[i]? = some a → xs[i + 1]? = some b → e ∈ xs → e ≤ a ∨ b ≤ e := by
      intro i a b e ha hb he
      obtain ⟨q, hq, rfl⟩ := List.getElem_of_mem he
      obtain ⟨la, ea⟩ := List.getElem?_eq_some_iff.1 ha
      obtain ⟨lb, eb⟩ := List.getElem?_eq_some_iff.1 hb
      rcases Nat.lt_trichotomy q i with k | k | k
      · left; rw [← ea]; exact Int.le_of_lt ((List.pairwise_iff_getElem.1 x2) q i hq la k)
      · left; subst k; rw [← ea]; exact Int.le_refl _
      · right
        rcases Nat.eq_or_lt_of_le (show i + 1 ≤ q by omega) with e | k2
        · subst e; rw [← eb]; exact Int.le_refl _
        · rw [← eb]; exact Int.le_of_lt ((List.pairwise_iff_getElem.1 x2) (i + 1) q lb hq k2)
    have cell1 : ∀ (L : List Rect), (∀ r ∈ L, r ∈ l ++ m) → ∀ (i : Nat) (a b : Int), xs[i]? = some a → xs[i + 1]? = some b → ∀ x, a ≤ x → x < b → (hasP L x y ↔ hasP L a y) := by
      intro L hL i a b ha hb x hax hxb
      constructor
      · rintro ⟨r, hr, ⟨k1, k2⟩, k3⟩
        obtain ⟨i1, i2⟩ := inX r (hL r hr)
        refine ⟨r, hr, ⟨?_, by omega⟩, k3⟩
        rcases gapX i a b _ ha hb i1 with g | g
        · exact g
        · omega
      · rintro ⟨r, hr, ⟨k1, k2⟩, k3⟩
        obtain ⟨i1, i2⟩ := inX r (hL r hr)
        refine ⟨r, hr, ⟨by omega, ?_⟩, k3⟩
        rcases gapX i a b _ ha hb i2 with g | g
        · omega
        · omega
    obtain ⟨Q, q1, q2, q3, q4, q5⟩ := row_loop (is := is) (xs := xs) (ys := ys) (s13 := s) (y := y) (y2 := y2) (j := j) (fun x => hasP l x y ∧ ¬ hasP m x y) (by omega) hs (by omega) hy hy2 (hby _ (List.mem_of_getElem? hy)) (hby _ (List.mem_of_getElem? hy2)) hbx x2
      (fun a _ => ⟨_, his a y, by rw [Bool.and_eq_true, hasB_iff, Bool.not_eq_true', ← Bool.not_eq_true, hasB_iff]⟩)
      (fun i a b ha hb x hx hxb => and_congr (cell1 l (fun r hr => by simp [hr]) i a b ha hb x hx hxb) (not_congr (cell1 m (fun r hr => by simp [hr]) i a b ha hb x hx hxb)))
      (xs.length - 1) 0 [] (by omega) trivial (fun r hr => by cases hr) (fun a ha => by
        refine ⟨?_, fun x => ?_⟩
        · have := hbx a (List.mem_of_getElem? ha)
          unfold Bd at this; show (-200000 : Int) ≤ a; omega
        · simp only [mem_nil, false_iff]
          rintro ⟨k1, ⟨a0, k2, k3⟩, _⟩
          rw [ha] at k2
          simp only [Option.some.injEq] at k2; omega) (Nat.le_refl _)
    have hlast : xs[0 + (xs.length - 1)]? = some (xs[xs.length - 1]'(by omega)) := by rw [Nat.zero_add]; exact List.getElem?_eq_getElem (by omega)
    have h0 : xs[0]? = some (xs[0]'hxne) := List.getElem?_eq_getElem hxne
    have e : R = Q := canon_eq r2 q2 (fun x => by
      rw [r3, a3, b3, q4 _ hlast]
      constructor
      · rintro ⟨k1, k2⟩
        obtain ⟨r, hr, ⟨j1, j2⟩, j3⟩ := id k1
        obtain ⟨i1, i2⟩ := inX r (by simp [hr])
        refine ⟨?_, ⟨_, h0, ?_⟩, k1, k2⟩
        · obtain ⟨p, hp, hpe⟩ := List.getElem_of_mem i2
          have : xs[p] ≤ xs[xs.length - 1]'(by omega) := by
            rcases Nat.eq_or_lt_of_le (show p ≤ xs.length - 1 by omega) with g | g
            · subst g; exact Int.le_refl _
            · exact Int.le_of_lt ((List.pairwise_iff_getElem.1 x2) p (xs.length - 1) hp (by omega) g)
          omega
        · obtain ⟨p, hp, hpe⟩ := List.getElem_of_mem i1
          have : xs[0] ≤ xs[p] := by
            rcases Nat.eq_zero_or_pos p with g | g
            · subst g; exact Int.le_refl _
            · exact Int.le_of_lt ((List.pairwise_iff_getElem.1 x2) 0 p hxne hp g)
          omega
      · rintro ⟨_, _, k⟩; exact k)
    subst e
    refine ⟨R, by rw [a1, Option.bind_some, b1, Option.bind_some, r1, Option.bind_some], ⟨_, iter_loopO q1⟩, r5, ?_⟩
    exact Nat.le_trans r4 (Nat.mul_le_mul a4 (by omega))
  refine ⟨xs, ys, ?_⟩
  have hreg : screen_region l m = (forL ys (([] : List Rect), ([] : List Run), (0 : Int)) (fun k x s => screen_region_L3 ys l m k x s)).bind fun o_38 => thenC o_38 (fun s_32 => some s_32.1) (fun _ => none) := by
    unfold screen_region
    rw [concat_eq l m (by simp at hlen; omega), Option.bind_some, ep, Option.bind_some]
    simp only [thenC]
    obtain ⟨s, c, g1, g2, g3, g4, g5, g6⟩ := sortC ((l ++ m).flatMap yE) (by rw [flat2 (fun _ => rfl)]; omega)
    have hsm : sameL s ((l ++ m).flatMap yE) = some () := by unfold sameL; rw [if_pos g2]
    rw [g1, Option.bind_some, hsm, Option.bind_some, g3, Option.bind_some] at y1
    simp only [Option.some.injEq] at y1
    subst y1
    rw [g1, Option.bind_some, hsm, Option.bind_some, g3, Option.bind_some]
  rw [hreg]
  cases hy0 : ys with
  | nil =>
    refine ⟨[], c1, by rw [← hy0]; exact c2, by rw [forL_eq (by simp)]; rfl, ?_, Nat.zero_le _⟩
    have : loopO (([] : List Rect), ([] : List Rect), (0 : Int)) (fun s => regL3 is [] xs s) = some (.go ([], [], 0)) := iter_loopO (n := 1) rfl
    rw [this]
    simp only [Option.bind_some, thenC]
    rw [appL_ok _ _ (by simp)]; rfl
  | cons ya yl =>
    rw [← hy0]
    have hyl : 0 < ys.length := by rw [hy0]; simp
    obtain ⟨res, b2, f2, o2, last2, i2, q1, q2, q3, q4⟩ := sim is xs ys l m (l.length * (m.length + 1)) (by omega) (by omega) hby hrow (ys.length - 1) 0 ya [] [] 0 (by omega) (by rw [hy0]; rfl) (by unfold Bd; omega) (fun r hr => by cases hr) (by simp) (by
      have : (ys.length - 1 + 2) * (l.length * (m.length + 1)) ≤ 100 * (12 * 13) := Nat.mul_le_mul (by omega) hBl
      simp; omega)
    rw [List.drop_zero] at q1
    refine ⟨res, c1, c2, ?_, ?_, ?_⟩
    · rw [forL_eq (by omega), q1]; rfl
    · have := iter_loopO q2
      rw [show ((0 : Nat) : Int) = 0 from rfl, List.map_nil] at this
      rw [this]
      simp only [Option.bind_some, thenC]
      rw [q3, Option.bind_some]
    · refine Nat.le_trans q4 ?_
      simp only [List.length_nil, Nat.zero_add]
      refine Nat.mul_le_mul ?_ (Nat.le_refl _)
      simp only [List.length_append] at y4
      omega
end Go.Proofs.YtodfcleaapnklaaGreat.Law
