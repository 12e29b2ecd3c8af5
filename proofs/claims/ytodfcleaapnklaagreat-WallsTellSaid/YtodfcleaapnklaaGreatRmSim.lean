import Derived.Test.YtodfcleaapnklaaGreatRmVert
/-
  PLAIN LEMMAS: the program's region and the reference's, row by row.
-/
open Go Go.Eng
namespace Go.Proofs.YtodfcleaapnklaaGreat.Law
set_option linter.unusedVariables false
set_option linter.unusedSimpArgs false

/-- Both regions, from a row on. -/
theorem sim (is : Int → Int → Option Bool) (xs ys : List Int) (l m : List Rect) (B : Nat) (hB : B ≤ 1000) (hys : ys.length ≤ 1000) (hby : ∀ y ∈ ys, Bd y)
    (hrow : ∀ (j : Nat) (y y2 : Int) (s : List Rect × List Rect × Int), ys[j]? = some y → ys[j + 1]? = some y2 → s.2.2 = (j : Int) → ∃ R : List Run, ((screen_runs l y).bind fun r_45 => (screen_runs m y).bind fun r_47 => (screen_less r_45 r_47).bind fun r_49 => some r_49) = some R ∧
      (∃ i : Int, loopO (([] : List Rect), (0 : Int)) (fun t => rowL1 is xs ys s t) = some (.go (R.map (toRect y (y2 - y)), i))) ∧ (∀ r ∈ R, Okr r) ∧ R.length ≤ B) :
    ∀ (n j : Nat) (y : Int) (out : List Rect) (band : List Run) (fr : Int), j + 1 + n = ys.length → ys[j]? = some y → Bd fr → (∀ r ∈ band, Okr r) → band.length ≤ B → out.length + (n + 2) * B ≤ 1000000 →
    ∃ (res : List Rect) (b2 : List Run) (f2 : Int) (o2 last2 : List Rect) (i2 : Int), forR (fun k x s => screen_region_L3 ys l m k x s) (ys.drop j) j (out, band, fr) = some (.go (res, b2, f2)) ∧
      iterN (fun s => regL3 is ys xs s) (n + 1) (out, band.map (toRect fr (y - fr)), (j : Int)) = some (.go (o2, last2, i2)) ∧ appL o2 last2 = some res ∧ res.length ≤ out.length + (n + 2) * B
  | 0, j, y, out, band, fr, hn, hy, hf, hb, hbl, ho => by
    have hjl : j < ys.length := by omega
    have hd : ys.drop j = [y] := by
      rw [List.drop_eq_getElem_cons hjl, List.drop_eq_nil_of_le (by omega)]
      rw [List.getElem?_eq_getElem hjl] at hy
      simp only [Option.some.injEq] at hy; rw [hy]
    have hBy := hby y (List.mem_of_getElem? hy)
    have hw : w64 ((j : Int) + 1) = ((j + 1 : Nat) : Int) := by rw [w64_id (by omega)]; rfl
    have hc : decide (((j + 1 : Nat) : Int) < (ys.length : Int)) = false := by simp; omega
    have hend : appL out (band.map (toRect fr (y - fr))) = some (out ++ band.map (toRect fr (y - fr))) := appL_ok _ _ (by simp; omega)
    have href : iterN (fun s => regL3 is ys xs s) (0 + 1) (out, band.map (toRect fr (y - fr)), (j : Int)) = some (.go (out, band.map (toRect fr (y - fr)), (j : Int))) := by
      simp only [iterN, regL3, hw, hc, cond_false, Option.bind_some]
    rw [hd, forR]
    have h0 : screen_region_L3 ys l m j y (out, band, fr) = (slices_Equal_screen_run_screen_run band []).bind fun r_51 => bif r_51 then some (.go (out, band, fr)) else (forL band out (fun k x s => screen_region_L2 (out, band, fr) y k x s)).bind fun o_64 => thenC o_64 (fun s_59 => some (.go (s_59, [], y))) (fun _ => none) := by
      unfold screen_region_L3
      simp only [hw, hc, cond_false, Option.bind_some]
    rw [h0]
    rcases eqR band [] (by omega) with ⟨h1, h2⟩ | ⟨h1, h2⟩
    · subst h2
      refine ⟨out, [], fr, out, [], j, by rw [h1]; rfl, by simpa using href, by rw [appL_ok _ _ (by simp; omega)]; simp, by omega⟩
    · refine ⟨out ++ band.map (toRect fr (y - fr)), [], y, out, band.map (toRect fr (y - fr)), j, ?_, href, hend, by simp; omega⟩
      rw [h1, Option.bind_some, cond_false, forL_eq (by omega), emit_loop (out, band, fr) y hBy hf band 0 out hb (by omega)]; rfl
  | n + 1, j, y, out, band, fr, hn, hy, hf, hb, hbl, ho => by
    have hjl : j < ys.length := by omega
    have hj2 : j + 1 < ys.length := by omega
    have hd : ys.drop j = y :: ys.drop (j + 1) := by
      rw [List.drop_eq_getElem_cons hjl]
      rw [List.getElem?_eq_getElem hjl] at hy
      simp only [Option.some.injEq] at hy; rw [hy]
    have hy2 : ys[j + 1]? = some ys[j + 1] := List.getElem?_eq_getElem hj2
    generalize ys[j + 1] = y2 at hy2
    have hBy := hby y (List.mem_of_getElem? hy)
    have hBy2 := hby y2 (List.mem_of_getElem? hy2)
    have hw : w64 ((j : Int) + 1) = ((j + 1 : Nat) : Int) := by rw [w64_id (by omega)]; rfl
    have hc : decide (((j + 1 : Nat) : Int) < (ys.length : Int)) = true := by simp; omega
    have hmul : (n + 1 + 2) * B = (n + 2) * B + B := by rw [show n + 1 + 2 = (n + 2) + 1 by omega, Nat.succ_mul]
    rw [hmul] at ho
    obtain ⟨R, k1, ⟨i, k2⟩, k3, k4⟩ := hrow j y y2 (out, band.map (toRect fr (y - fr)), (j : Int)) hy hy2 rfl
    have h0 : screen_region_L3 ys l m j y (out, band, fr) = (slices_Equal_screen_run_screen_run band R).bind fun r_51 => bif r_51 then some (.go (out, band, fr)) else (forL band out (fun k x s => screen_region_L2 (out, band, fr) y k x s)).bind fun o_64 => thenC o_64 (fun s_59 => some (.go (s_59, R, y))) (fun _ => none) := by
      unfold screen_region_L3
      simp only [hw, hc, cond_true]
      rw [k1, Option.bind_some]
    have h1 : regL3 is ys xs (out, band.map (toRect fr (y - fr)), (j : Int)) = (slices_EqualFunc_api_Rect_api_Rect_api_Rect_api_Rect_v3 (R.map (toRect y (y2 - y))) (band.map (toRect fr (y - fr)))).bind fun r_85 => (bif r_85 then some (decide ((((R.map (toRect y (y2 - y))).length : Nat) : Int) > 0)) else some false).bind fun v_87 => bif v_87 then (forL (List.range ((((band.map (toRect fr (y - fr))).length : Nat) : Int)).toNat) (band.map (toRect fr (y - fr))) (fun k x s => ref_regionOf_v1_L2 (R.map (toRect y (y2 - y)), i) k x s)).bind fun o_99 => thenC o_99 (fun s_96 => some (.go (out, s_96, ((j + 1 : Nat) : Int)))) (fun _ => none) else (appL out (band.map (toRect fr (y - fr)))).bind fun a_110 => some (.go (a_110, R.map (toRect y (y2 - y)), ((j + 1 : Nat) : Int))) := by
      unfold regL3
      simp only [hw, hc, cond_true]
      rw [k2, Option.bind_some]; rfl
    rw [hd, forR, iterN, h0, h1]
    rcases eqR band R (by omega) with ⟨e1, e2⟩ | ⟨e1, e2⟩
    · -- the band goes on
      subst e2
      have hef : slices_EqualFunc_api_Rect_api_Rect_api_Rect_api_Rect_v3 (band.map (toRect y (y2 - y))) (band.map (toRect fr (y - fr))) = some true := by
        rcases eqF y (y2 - y) fr band band (by omega) hb hb hBy hf with ⟨g, _⟩ | ⟨_, g⟩
        · exact g
        · exact absurd rfl g
      obtain ⟨res, b2, f2, o2, last2, i2, q1, q2, q3, q4⟩ := sim is xs ys l m B hB hys hby hrow n (j + 1) y2 out band fr (by omega) hy2 hf hb hbl (by omega)
      refine ⟨res, b2, f2, o2, last2, i2, by rw [e1]; exact q1, ?_, q3, by omega⟩
      rw [hef, Option.bind_some, cond_true, Option.bind_some]
      cases hbn : band with
      | nil =>
        have hd0 : decide ((((([] : List Run).map (toRect y (y2 - y))).length : Nat) : Int) > 0) = false := rfl
        rw [hbn] at q2
        rw [hd0, cond_false, appL_ok _ _ (by simp; omega)]
        simpa using q2
      | cons r b' =>
        have hd0 : decide (((((r :: b').map (toRect y (y2 - y))).length : Nat) : Int) > 0) = true := by simp
        rw [← hbn] at hd0 ⊢
        rw [hd0, cond_true, forL_eq (by simp; omega)]
        have hwg : w64 ((y - fr) + (y2 - y)) = (y - fr) + (y2 - y) := by unfold Bd at *; exact w64_id (by omega)
        have hg := grow_loop y fr (y - fr) (y2 - y) band i hwg (List.range ((((band.map (toRect fr (y - fr))).length : Nat) : Int)).toNat) 0 (by simp)
        simp only [List.take_zero, List.map_nil, List.nil_append, List.drop_zero] at hg
        rw [hg, Option.bind_some]
        simp only [thenC, Option.bind_some]
        rw [show (y - fr) + (y2 - y) = y2 - fr by omega]
        exact q2
    · -- another band begins
      have hef : slices_EqualFunc_api_Rect_api_Rect_api_Rect_api_Rect_v3 (R.map (toRect y (y2 - y))) (band.map (toRect fr (y - fr))) = some false := by
        rcases eqF y (y2 - y) fr R band (by omega) k3 hb hBy hf with ⟨_, g⟩ | ⟨g, _⟩
        · exact absurd g.symm e2
        · exact g
      obtain ⟨res, b2, f2, o2, last2, i2, q1, q2, q3, q4⟩ := sim is xs ys l m B hB hys hby hrow n (j + 1) y2 (out ++ band.map (toRect fr (y - fr))) R y (by omega) hy2 hBy k3 k4 (by simp; omega)
      refine ⟨res, b2, f2, o2, last2, i2, ?_, ?_, q3, by simp at q4; omega⟩
      · rw [e1, Option.bind_some, cond_false, forL_eq (by omega), emit_loop (out, band, fr) y hBy hf band 0 out hb (by omega)]
        exact q1
      · rw [hef, Option.bind_some, cond_false, Option.bind_some, cond_false, appL_ok _ _ (by simp; omega)]
        exact q2
end Go.Proofs.YtodfcleaapnklaaGreat.Law
