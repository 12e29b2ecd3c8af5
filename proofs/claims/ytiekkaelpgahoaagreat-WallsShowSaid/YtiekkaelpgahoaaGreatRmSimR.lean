import Derived.Test.YtiekkaelpgahoaaGreatRmSim2
/-
  PLAIN LEMMAS: the reference's region by itself: the bands of its rows.
-/
open Go Go.Eng
namespace Go.Proofs.YtiekkaelpgahoaaGreat.Law
set_option linter.unusedVariables false
set_option linter.unusedSimpArgs false

theorem simR (is : Int → Int → Option Bool) (xs ys : List Int) (B : Nat) (hB : B ≤ 1000) (hys : ys.length ≤ 1000) (hby : ∀ y ∈ ys, Bd y) (Rf : Int → List Run)
  (hrow : ∀ (j : Nat) (y y2 : Int) (s : List Rect × List Rect × Int), ys[j]? = some y → ys[j + 1]? = some y2 → s.2.2 = (j : Int) →
   (∃ i : Int, loopO (([] : List Rect), (0 : Int)) (fun t => rowL1 is xs ys s t) = some (.go ((Rf y).map (toRect y (y2 - y)), i))) ∧ (∀ r ∈ Rf y, Okr r) ∧ (Rf y).length ≤ B) :
  ∀ (n j : Nat) (y : Int) (out : List Rect) (band : List Run) (fr : Int), j + 1 + n = ys.length → ys[j]? = some y → Bd fr → (∀ r ∈ band, Okr r) → band.length ≤ B → out.length + (n + 2) * B ≤ 1000000 →
  ∃ (o2 last2 : List Rect) (i2 : Int), iterN (fun s => regL3 is ys xs s) (n + 1) (out, band.map (toRect fr (y - fr)), (j : Int)) = some (.go (o2, last2, i2)) ∧ appL o2 last2 = some (out ++ flatB (bandsOf (pairsOf Rf (ys.drop j)) band fr))
 | 0, j, y, out, band, fr, hn, hy, hf, hb, hbl, ho => by
  have hjl : j < ys.length := by omega
  have hd : ys.drop j = [y] := by
   rw [List.drop_eq_getElem_cons hjl, List.drop_eq_nil_of_le (by omega)]
   rw [List.getElem?_eq_getElem hjl] at hy
   simp only [Option.some.injEq] at hy; rw [hy]
  have hw : w64 ((j : Int) + 1) = ((j + 1 : Nat) : Int) := by rw [w64_id (by omega)]; rfl
  have hc : decide (((j + 1 : Nat) : Int) < (ys.length : Int)) = false := by simp; omega
  have hend : appL out (band.map (toRect fr (y - fr))) = some (out ++ band.map (toRect fr (y - fr))) := appL_ok _ _ (by simp; omega)
  have href : iterN (fun s => regL3 is ys xs s) (0 + 1) (out, band.map (toRect fr (y - fr)), (j : Int)) = some (.go (out, band.map (toRect fr (y - fr)), (j : Int))) := by
   simp only [iterN, regL3, hw, hc, cond_false, Option.bind_some]
  refine ⟨_, _, _, href, ?_⟩
  rw [hend, hd]
  simp only [pairsOf, bandsOf]
  by_cases h : band = []
  ·rw [if_pos h, h]; simp [flatB]
  ·rw [if_neg h, if_neg h]; simp [flatB]
 | n + 1, j, y, out, band, fr, hn, hy, hf, hb, hbl, ho => by
  have hjl : j < ys.length := by omega
  have hj2 : j + 1 < ys.length := by omega
  have hd : ys.drop j = y :: ys.drop (j + 1) := by
   rw [List.drop_eq_getElem_cons hjl]
   rw [List.getElem?_eq_getElem hjl] at hy
   simp only [Option.some.injEq] at hy; rw [hy]
  have hy2 : ys[j + 1]? = some ys[j + 1] := List.getElem?_eq_getElem hj2
  have hd2 : ys.drop (j + 1) = ys[j + 1] :: ys.drop (j + 1 + 1) := List.drop_eq_getElem_cons hj2
  have hp : pairsOf Rf (ys.drop j) = (y, Rf y) :: pairsOf Rf (ys.drop (j + 1)) := by rw [hd, hd2]; rfl
  generalize ys[j + 1] = y2 at hy2
  have hBy := hby y (List.mem_of_getElem? hy)
  have hBy2 := hby y2 (List.mem_of_getElem? hy2)
  have hw : w64 ((j : Int) + 1) = ((j + 1 : Nat) : Int) := by rw [w64_id (by omega)]; rfl
  have hc : decide (((j + 1 : Nat) : Int) < (ys.length : Int)) = true := by simp; omega
  have hmul : (n + 1 + 2) * B = (n + 2) * B + B := by rw [show n + 1 + 2 = (n + 2) + 1 by omega, Nat.succ_mul]
  rw [hmul] at ho
  obtain ⟨⟨i, k2⟩, k3, k4⟩ := hrow j y y2 (out, band.map (toRect fr (y - fr)), (j : Int)) hy hy2 rfl
  generalize hR : Rf y = R at *
  have h1 : regL3 is ys xs (out, band.map (toRect fr (y - fr)), (j : Int)) = (slices_EqualFunc_api_Rect_api_Rect_api_Rect_api_Rect_v3 (R.map (toRect y (y2 - y))) (band.map (toRect fr (y - fr)))).bind fun r_85 => (bif r_85 then some (decide ((((R.map (toRect y (y2 - y))).length : Nat) : Int) > 0)) else some false).bind fun v_87 => bif v_87 then (forL (List.range ((((band.map (toRect fr (y - fr))).length : Nat) : Int)).toNat) (band.map (toRect fr (y - fr))) (fun k x s => ref_regionOf_v1_L2 (R.map (toRect y (y2 - y)), i) k x s)).bind fun o_99 => thenC o_99 (fun s_96 => some (.go (out, s_96, ((j + 1 : Nat) : Int)))) (fun _ => none) else (appL out (band.map (toRect fr (y - fr)))).bind fun a_110 => some (.go (a_110, R.map (toRect y (y2 - y)), ((j + 1 : Nat) : Int))) := by
   unfold regL3
   simp only [hw, hc, cond_true]
   rw [k2, Option.bind_some]; rfl
  rw [hp, iterN, h1]
  simp only [bandsOf]
  by_cases e2 : band = R
  ·-- the band goes on
   rw [if_pos e2]
   subst e2
   have hef : slices_EqualFunc_api_Rect_api_Rect_api_Rect_api_Rect_v3 (band.map (toRect y (y2 - y))) (band.map (toRect fr (y - fr))) = some true := by
    rcases eqF y (y2 - y) fr band band (by omega) hb hb hBy hf with ⟨g, _⟩ | ⟨_, g⟩
    ·exact g
    ·exact absurd rfl g
   obtain ⟨o2, last2, i2, q2, q3⟩ := simR is xs ys B hB hys hby Rf hrow n (j + 1) y2 out band fr (by omega) hy2 hf hb hbl (by omega)
   refine ⟨o2, last2, i2, ?_, q3⟩
   rw [hef, Option.bind_some, cond_true, Option.bind_some]
   cases hbn : band with
   | nil =>
    have hd0 : decide ((((([] : List Run).map (toRect y (y2 - y))).length : Nat) : Int) > 0) = false := rfl
    rw [hbn] at q2
    rw [hd0, cond_false, appL_ok _ _ (by simp; omega)]
    simpa using q2
   | cons r b' =>
    have hd0 : decide (((((r :: b').map (toRect y (y2 - y))).length : Nat) : Int) > 0) = true := by simp
    rw [← hbn] at hd0 ⊢
    rw [hd0, cond_true, forL_eq (by simp; omega)]
    have hwg : w64 ((y - fr) + (y2 - y)) = (y - fr) + (y2 - y) := by unfold Bd at *; exact w64_id (by omega)
    have hg := grow_loop y fr (y - fr) (y2 - y) band i hwg (List.range ((((band.map (toRect fr (y - fr))).length : Nat) : Int)).toNat) 0 (by simp)
    simp only [List.take_zero, List.map_nil, List.nil_append, List.drop_zero] at hg
    rw [hg, Option.bind_some]
    simp only [thenC, Option.bind_some]
    rw [show (y - fr) + (y2 - y) = y2 - fr by omega]
    exact q2
  ·-- another band begins
   rw [if_neg e2]
   have hef : slices_EqualFunc_api_Rect_api_Rect_api_Rect_api_Rect_v3 (R.map (toRect y (y2 - y))) (band.map (toRect fr (y - fr))) = some false := by
    rcases eqF y (y2 - y) fr R band (by omega) k3 hb hBy hf with ⟨_, g⟩ | ⟨g, _⟩
    ·exact absurd g.symm e2
    ·exact g
   obtain ⟨o2, last2, i2, q2, q3⟩ := simR is xs ys B hB hys hby Rf hrow n (j + 1) y2 (out ++ band.map (toRect fr (y - fr))) R y (by omega) hy2 hBy k3 k4 (by simp; omega)
   refine ⟨o2, last2, i2, ?_, ?_⟩
   ·rw [hef, Option.bind_some, cond_false, Option.bind_some, cond_false, appL_ok _ _ (by simp; omega)]
    exact q2
   ·rw [q3]
    by_cases e3 : band = []
    ·rw [if_pos e3, e3]; simp
    ·rw [if_neg e3]; simp [flatB, List.append_assoc]
end Go.Proofs.YtiekkaelpgahoaaGreat.Law

