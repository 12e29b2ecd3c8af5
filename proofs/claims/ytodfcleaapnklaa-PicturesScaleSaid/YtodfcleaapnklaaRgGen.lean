import Derived.Test.YtodfcleaapnklaaRgBase
/-
  PLAIN LEMMAS: the generators of sides and of rectangles in a picture.
-/
open Go Go.Eng
namespace Go.Proofs.Ytodfcleaapnklaa.Law
set_option linter.unusedVariables false
set_option linter.unusedSimpArgs false

theorem side_ok (s : Stream) {b : Int} (hs : Ok s b) (hb : b ≤ 900000) : ∃ r s', mk_Stream_Side s = some (r, s') ∧ (-1 ≤ r ∧ r ≤ 20001) ∧ Ok s' (b + 2) := by
  obtain ⟨c, s1, k1, k2⟩ := flip_ok s 20 hs (by omega) (by decide) (by decide)
  simp only [mk_Stream_Side, k1, Option.bind_some]
  cases c with
  | true =>
    obtain ⟨r, s2, m1, m0, m2⟩ := pick_ok s1 [0, (-1), 20000, 20001] k2 (by omega) (by simp) (by simp)
    simp only [cond_true, m1, Option.bind_some]
    refine ⟨_, _, rfl, ?_, m2.mono (by omega)⟩
    simp only [List.mem_cons, List.not_mem_nil, or_false] at m0
    omega
  | false =>
    obtain ⟨r, s2, m1, m0, m2⟩ := pick_ok s1 [1, 2, 3, 5, 7, 10, 12, 16, 100, 1000] k2 (by omega) (by simp) (by simp)
    simp only [cond_false, m1, Option.bind_some]
    refine ⟨_, _, rfl, ?_, m2.mono (by omega)⟩
    simp only [List.mem_cons, List.not_mem_nil, or_false] at m0
    omega
theorem clamp_in (w : Int) : 1 ≤ minI (maxI w 1) 20000 ∧ minI (maxI w 1) 20000 ≤ 20000 := by
  unfold minI maxI
  split <;> split <;> omega
theorem inner_ok (s : Stream) (w h : Int) {b : Int} (hs : Ok s b) (hb : b ≤ 900000) : ∃ r s', mk_Stream_Inner s w h = some (r, s') ∧ Ok s' (b + 8) := by
  unfold mk_Stream_Inner
  obtain ⟨w1, w2⟩ := clamp_in w
  obtain ⟨h1, h2⟩ := clamp_in h
  generalize minI (maxI w 1) 20000 = w' at *
  generalize minI (maxI h 1) 20000 = h' at *
  rw [w64_id (n := w' - 1) (by omega), w64_id (n := h' - 1) (by omega)]
  obtain ⟨x, s1, a1, a2, a3, a4⟩ := range_ok s 0 (w' - 1) hs (by omega) (by omega) (by omega) (by omega)
  obtain ⟨y, s2, b1, b2, b3, b4⟩ := range_ok s1 0 (h' - 1) a4 (by omega) (by omega) (by omega) (by omega)
  obtain ⟨u, s3, c1, c2, c3, c4⟩ := range_ok s2 1 (w' - x) b4 (by omega) (by omega) (by omega) (by omega)
  obtain ⟨v, s4, d1, d2, d3, d4⟩ := range_ok s3 1 (h' - y) c4 (by omega) (by omega) (by omega) (by omega)
  obtain ⟨f, s5, e1, e2⟩ := flip_ok s4 3 d4 (by omega) (by decide) (by decide)
  obtain ⟨g, s6, f1, f2⟩ := flip_ok s5 15 e2 (by omega) (by decide) (by decide)
  obtain ⟨p, s7, g1, g2, g3⟩ := pick_ok s6 [1, 2] f2 (by omega) (by simp) (by simp)
  obtain ⟨q, s8, i1, i2, i3⟩ := pick_ok s7 [0, 1] g3 (by omega) (by simp) (by simp)
  simp only [a1, b1, Option.bind_some]
  rw [w64_id (n := w' - x) (by omega), w64_id (n := h' - y) (by omega)]
  simp only [c1, d1, e1, Option.bind_some]
  cases f <;> cases g <;> simp only [cond_true, cond_false, Option.bind_some, f1, g1, i1] <;> first | exact ⟨_, _, rfl, i3.mono (by omega)⟩ | exact ⟨_, _, rfl, f2.mono (by omega)⟩
end Go.Proofs.Ytodfcleaapnklaa.Law
