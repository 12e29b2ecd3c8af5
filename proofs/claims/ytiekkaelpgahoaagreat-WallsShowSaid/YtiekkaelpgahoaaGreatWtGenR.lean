import Derived.Test.YtiekkaelpgahoaaGreatEpStream
import Derived.Test.YtiekkaelpgahoaaGreatRmBase
/-
  PLAIN LEMMAS: the generators of rectangles.
-/
open Go Go.Eng
namespace Go.Proofs.YtiekkaelpgahoaaGreat.Law
set_option linter.unusedVariables false
set_option linter.unusedSimpArgs false

theorem rightRect_ok (s : Stream) {b : Int} (hs : Ok s b) (hb : b ≤ 900000) : ∃ r s', mk_Stream_RightRect s = some (r, s') ∧ Ok s' (b + 4) := by
 unfold mk_Stream_RightRect
 obtain ⟨x, s1, a1, a2, a3, a4⟩ := range_ok s (-2) 8 hs (by omega) (by omega) (by omega) (by omega)
 obtain ⟨y, s2, b1, b2, b3, b4⟩ := range_ok s1 (-2) 8 a4 (by omega) (by omega) (by omega) (by omega)
 obtain ⟨w, s3, c1, c2, c3, c4⟩ := range_ok s2 1 5 b4 (by omega) (by omega) (by omega) (by omega)
 obtain ⟨h, s4, d1, d2, d3, d4⟩ := range_ok s3 1 5 c4 (by omega) (by omega) (by omega) (by omega)
 simp only [a1, b1, c1, d1, Option.bind_some]
 exact ⟨_, _, rfl, d4.mono (by omega)⟩
theorem rect_ok (s : Stream) {b : Int} (hs : Ok s b) (hb : b ≤ 800000) : ∃ r s', mk_Stream_Rect s = some (r, s') ∧ Ok s' (b + 10) := by
 unfold mk_Stream_Rect
 obtain ⟨r, s1, a1, a2⟩ := rightRect_ok s hs (by omega)
 obtain ⟨c, s2, b1, b2⟩ := flip_ok s1 20 a2 (by omega) (by decide) (by decide)
 simp only [a1, b1, Option.bind_some]
 cases c with
 | false => exact ⟨_, _, rfl, b2.mono (by omega)⟩
 | true =>
  obtain ⟨k, s3, c1, c2, c3, c4⟩ := next_ok s2 3 b2 (by omega) (by decide) (by decide)
  simp only [cond_true, c1, Option.bind_some]
  cases h0 : k == 0 with
  | true =>
   obtain ⟨v, s4, d1, d2⟩ := odd_ok s3 (-100000) 99999 c4 (by omega) (by decide) (by decide) (by decide)
   simp only [cond_true, d1, Option.bind_some]
   exact ⟨_, _, rfl, d2.mono (by omega)⟩
  | false =>
   cases h1 : k == 1 with
   | true =>
    obtain ⟨v, s4, d1, d2⟩ := odd_ok s3 1 200000 c4 (by omega) (by decide) (by decide) (by decide)
    obtain ⟨u, s5, e1, e2⟩ := odd_ok s4 1 5 d2 (by omega) (by decide) (by decide) (by decide)
    simp only [cond_true, cond_false, d1, e1, Option.bind_some]
    exact ⟨_, _, rfl, e2.mono (by omega)⟩
   | false =>
    obtain ⟨v, s4, d1, _, d2⟩ := pick_ok s3 [(-100000), 99999] c4 (by omega) (by simp) (by simp)
    obtain ⟨u, s5, e1, _, e2⟩ := pick_ok s4 [1, 2, 200000] d2 (by omega) (by simp) (by simp)
    simp only [cond_false, d1, e1, Option.bind_some]
    exact ⟨_, _, rfl, e2.mono (by omega)⟩
end Go.Proofs.YtiekkaelpgahoaaGreat.Law

