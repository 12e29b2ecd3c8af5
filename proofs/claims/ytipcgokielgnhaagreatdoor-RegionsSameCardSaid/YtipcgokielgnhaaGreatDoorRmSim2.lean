import Derived.Test.YtipcgokielgnhaaGreatDoorRmVert
import Derived.Test.YtipcgokielgnhaaGreatDoorRmBands
/-
  PLAIN LEMMAS: the program's region and the reference's, each by itself: the bands of their rows.
-/
open Go Go.Eng
namespace Go.Proofs.YtipcgokielgnhaaGreatDoor.Law
set_option linter.unusedVariables false
set_option linter.unusedSimpArgs false

def pairsOf (Rf : Int → List Run) : List Int → List (Int × List Run)
 | [] => []
 | [y] => [(y, [])]
 | y :: z :: l => (y, Rf y) :: pairsOf Rf (z :: l)
def flatB (l : List Band) : List Rect := l.flatMap fun b => b.row.map (toRect b.a (b.b - b.a))
theorem simP (ys : List Int) (l m : List Rect) (B : Nat) (hB : B ≤ 1000) (hys : ys.length ≤ 1000) (hby : ∀ y ∈ ys, Bd y) (Rf : Int → List Run)
  (hrow : ∀ (j : Nat) (y : Int), ys[j]? = some y → j + 1 < ys.length → ((screen_runs l y).bind fun r_45 => (screen_runs m y).bind fun r_47 => (screen_less r_45 r_47).bind fun r_49 => some r_49) = some (Rf y) ∧ (∀ r ∈ Rf y, Okr r) ∧ (Rf y).length ≤ B) :
  ∀ (n j : Nat) (y : Int) (out : List Rect) (band : List Run) (fr : Int), j + 1 + n = ys.length → ys[j]? = some y → Bd fr → (∀ r ∈ band, Okr r) → band.length ≤ B → out.length + (n + 2) * B ≤ 1000000 →
  ∃ (b2 : List Run) (f2 : Int), forR (fun k x s => screen_region_L3 ys l m k x s) (ys.drop j) j (out, band, fr) = some (.go (out ++ flatB (bandsOf (pairsOf Rf (ys.drop j)) band fr), b2, f2)) ∧ (flatB (bandsOf (pairsOf Rf (ys.drop j)) band fr)).length ≤ (n + 2) * B
 | 0, j, y, out, band, fr, hn, hy, hf, hb, hbl, ho => by
  have hjl : j < ys.length := by omega
  have hd : ys.drop j = [y] := by
   rw [List.drop_eq_getElem_cons hjl, List.drop_eq_nil_of_le (by omega)]
   rw [List.getElem?_eq_getElem hjl] at hy
   simp only [Option.some.injEq] at hy; rw [hy]
  have hBy := hby y (List.mem_of_getElem? hy)
  have hw : w64 ((j : Int) + 1) = ((j + 1 : Nat) : Int) := by rw [w64_id (by omega)]; rfl
  have hc : decide (((j + 1 : Nat) : Int) < (ys.length : Int)) = false := by simp; omega
  rw [hd, forR]
  have h0 : screen_region_L3 ys l m j y (out, band, fr) = (slices_Equal_screen_run_screen_run band []).bind fun r_51 => bif r_51 then some (.go (out, band, fr)) else (forL band out (fun k x s => screen_region_L2 (out, band, fr) y k x s)).bind fun o_64 => thenC o_64 (fun s_59 => some (.go (s_59, [], y))) (fun _ => none) := by
   unfold screen_region_L3
   simp only [hw, hc, cond_false, Option.bind_some]
  rw [h0]
  simp only [pairsOf, bandsOf]
  rcases eqR band [] (by omega) with ⟨h1, h2⟩ | ⟨h1, h2⟩
  ·subst h2
   rw [if_pos rfl]
   exact ⟨[], fr, by rw [h1]; simp [flatB, forR], by simp [flatB]⟩
  ·rw [if_neg h2, if_neg h2]
   refine ⟨[], y, ?_, by simp [flatB]; omega⟩
   rw [h1, Option.bind_some, cond_false, forL_eq (by omega), emit_loop (out, band, fr) y hBy hf band 0 out hb (by omega)]
   simp [flatB, forR, thenC]
 | n + 1, j, y, out, band, fr, hn, hy, hf, hb, hbl, ho => by
  have hjl : j < ys.length := by omega
  have hj2 : j + 1 < ys.length := by omega
  have hd : ys.drop j = y :: ys.drop (j + 1) := by
   rw [List.drop_eq_getElem_cons hjl]
   rw [List.getElem?_eq_getElem hjl] at hy
   simp only [Option.some.injEq] at hy; rw [hy]
  have hy2 : ys[j + 1]? = some ys[j + 1] := List.getElem?_eq_getElem hj2
  have hd2 : ys.drop (j + 1) = ys[j + 1] :: ys.drop (j + 1 + 1) := List.drop_eq_getElem_cons hj2
  have hp : pairsOf Rf (ys.drop j) = (y, Rf y) :: pairsOf Rf (ys.drop (j + 1)) := by rw [hd, hd2]; rfl
  generalize ys[j + 1] = y2 at hy2
  have hBy := hby y (List.mem_of_getElem? hy)
  have hw : w64 ((j : Int) + 1) = ((j + 1 : Nat) : Int) := by rw [w64_id (by omega)]; rfl
  have hc : decide (((j + 1 : Nat) : Int) < (ys.length : Int)) = true := by simp; omega
  have hmul : (n + 1 + 2) * B = (n + 2) * B + B := by rw [show n + 1 + 2 = (n + 2) + 1 by omega, Nat.succ_mul]
  rw [hmul] at ho ⊢
  obtain ⟨k1, k3, k4⟩ := hrow j y hy hj2
  have h0 : screen_region_L3 ys l m j y (out, band, fr) = (slices_Equal_screen_run_screen_run band (Rf y)).bind fun r_51 => bif r_51 then some (.go (out, band, fr)) else (forL band out (fun k x s => screen_region_L2 (out, band, fr) y k x s)).bind fun o_64 => thenC o_64 (fun s_59 => some (.go (s_59, Rf y, y))) (fun _ => none) := by
   unfold screen_region_L3
   simp only [hw, hc, cond_true]
   rw [k1, Option.bind_some]
  rw [hp]
  rw [hd, forR, h0]
  simp only [bandsOf]
  rcases eqR band (Rf y) (by omega) with ⟨e1, e2⟩ | ⟨e1, e2⟩
  ·obtain ⟨b2, f2, q1, q2⟩ := simP ys l m B hB hys hby Rf hrow n (j + 1) y2 out band fr (by omega) hy2 hf hb hbl (by omega)
   rw [if_pos e2]
   exact ⟨b2, f2, by rw [e1]; exact q1, by omega⟩
  ·obtain ⟨b2, f2, q1, q2⟩ := simP ys l m B hB hys hby Rf hrow n (j + 1) y2 (out ++ band.map (toRect fr (y - fr))) (Rf y) y (by omega) hy2 hBy k3 k4 (by simp; omega)
   rw [if_neg e2]
   rw [e1, Option.bind_some, cond_false, forL_eq (by omega), emit_loop (out, band, fr) y hBy hf band 0 out hb (by omega)]
   by_cases e3 : band = []
   ·rw [if_pos e3]
    refine ⟨b2, f2, ?_, by omega⟩
    have := q1
    rw [e3] at this ⊢
    simp only [List.map_nil, List.append_nil] at this ⊢
    exact this
   ·rw [if_neg e3]
    refine ⟨b2, f2, ?_, ?_⟩
    ·have := q1
     simp only [flatB, List.flatMap_cons, List.append_assoc] at this ⊢
     exact this
    ·simp only [flatB, List.flatMap_cons, List.length_append, List.length_map] at q2 ⊢
     omega
end Go.Proofs.YtipcgokielgnhaaGreatDoor.Law

