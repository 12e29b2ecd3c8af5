import Derived.Test.YtiekkaelpgahoaaGreatWtGenR
import Derived.Test.YtiekkaelpgahoaaGreatWtCheck
/-
  PLAIN LEMMAS: the generators of rectangles and walls.
-/
open Go Go.Eng
namespace Go.Proofs.YtiekkaelpgahoaaGreat.Law
set_option linter.unusedVariables false
set_option linter.unusedSimpArgs false

theorem clone_ok (l : List Screen) (h : l.length ≤ 1000000) : slices_Clone_api_Screen_api_Screen l = some l := by
 unfold slices_Clone_api_Screen_api_Screen
 rw [appL_ok _ _ (by simp; omega)]; rfl
def WOk (w : Wall) : Prop := w.Key.size ≤ 1000 ∧ (∀ s ∈ w.Screens, s.Key.size ≤ 1000)
theorem rightWall_ok (s : Stream) {b : Int} (hs : Ok s b) (hb : b ≤ 700000) : ∃ w s', mk_Stream_RightWall s = some (w, s') ∧ WOk w ∧ w.Screens.length ≤ 4 ∧ Ok s' (b + 50) := by
 unfold mk_Stream_RightWall
 obtain ⟨W, s1, a1, a0, a2⟩ := pick_ok s [10, 20, 24, 100] hs (by omega) (by simp) (by simp)
 obtain ⟨H, s2, b1, b0, b2⟩ := pick_ok s1 [6, 10, 30] a2 (by omega) (by simp) (by simp)
 have hW : 1 ≤ W ∧ W ≤ 100 := by simp only [List.mem_cons, List.not_mem_nil, or_false] at a0; omega
 have hH : 1 ≤ H ∧ H ≤ 100 := by simp only [List.mem_cons, List.not_mem_nil, or_false] at b0; omega
 simp only [a1, b1, Option.bind_some]
 have hkeys : ∀ k ∈ ([(⟨#[115, 97]⟩ : ByteArray), (⟨#[115, 98]⟩ : ByteArray), (⟨#[115, 99]⟩ : ByteArray), (⟨#[115, 100]⟩ : ByteArray)] : List ByteArray), k.size ≤ 1000 := by
  intro k hk
  simp only [List.mem_cons, List.not_mem_nil, or_false] at hk
  rcases hk with rfl | rfl | rfl | rfl <;> exact Nat.le_of_ble_eq_true rfl
 generalize hks : ([(⟨#[115, 97]⟩ : ByteArray), (⟨#[115, 98]⟩ : ByteArray), (⟨#[115, 99]⟩ : ByteArray), (⟨#[115, 100]⟩ : ByteArray)] : List ByteArray) = ks at *
 have hkl : ks.length = 4 := by rw [← hks]; rfl
 obtain ⟨t, t1, t2, t3, t4⟩ := forL_inv (body := fun k x s => mk_Stream_RightWall_L1 (W, s1) (H, s2) k x s) (s := (s2.L, s2.f_at, ([] : List Screen))) (fun j t => t.2.2.length ≤ j ∧ (∀ s ∈ t.2.2, s.Key.size ≤ 1000) ∧ Ok ⟨t.1, t.2.1⟩ (b + 2 + 10 * j)) (xs := ks) (by rw [hkl]; omega) (fun j x t hx hj ⟨i1, i2, i3⟩ => by
  rw [hkl] at hj
  unfold mk_Stream_RightWall_L1
  simp only
  rw [w64_id (n := W - 1) (by omega), w64_id (n := H - 1) (by omega)]
  obtain ⟨X, q1, c1, c2, c3, c4⟩ := range_ok _ 0 (W - 1) i3 (by omega) (by omega) (by omega) (by omega)
  obtain ⟨Y, q2, d1, d2, d3, d4⟩ := range_ok q1 0 (H - 1) c4 (by omega) (by omega) (by omega) (by omega)
  obtain ⟨U, q3, e1, e2, e3, e4⟩ := range_ok q2 1 (W - X) d4 (by omega) (by omega) (by omega) (by omega)
  obtain ⟨V, q4, f1, f2, f3, f4⟩ := range_ok q3 1 (H - Y) e4 (by omega) (by omega) (by omega) (by omega)
  obtain ⟨g, q5, g1, g2⟩ := flip_ok q4 4 f4 (by omega) (by decide) (by decide)
  simp only [c1, d1, Option.bind_some]
  rw [w64_id (n := W - X) (by omega), w64_id (n := H - Y) (by omega)]
  simp only [e1, f1, g1, Option.bind_some, clone_ok _ (show t.2.2.length ≤ 1000000 by omega)]
  rw [appL_ok _ _ (by simp; omega)]
  simp only [Option.bind_some]
  have hnew : ∀ s ∈ t.2.2 ++ [(⟨x, ⟨X, Y, U, V⟩⟩ : Screen)], s.Key.size ≤ 1000 := fun s hs => by
   rcases List.mem_append.1 hs with hs | hs
   ·exact i2 s hs
   ·rw [List.mem_singleton] at hs; subst hs; exact hkeys x hx
  cases g with
  | true => exact ⟨_, rfl, by simp; omega, i2, g2.mono (by omega)⟩
  | false =>
   obtain ⟨e, _, hwf, _⟩ := wall_ok (⟨⟨#[119]⟩, W, H, t.2.2 ++ [(⟨x, ⟨X, Y, U, V⟩⟩ : Screen)]⟩ : Wall) (Nat.le_of_ble_eq_true rfl) hnew (by simp; omega)
   simp only [Bool.not_false, cond_true, hwf, Option.bind_some]
   cases e == 0 with
   | true => exact ⟨_, rfl, by simp; omega, hnew, g2.mono (by omega)⟩
   | false => exact ⟨_, rfl, by simp; omega, i2, g2.mono (by omega)⟩) ⟨Nat.zero_le _, fun s hs => (by cases hs), b2.mono (by omega)⟩
 rw [hkl] at t2 t4
 rw [t1]
 exact ⟨_, _, rfl, ⟨Nat.le_of_ble_eq_true rfl, t3⟩, t2, t4.mono (by omega)⟩
theorem wall_gen (s : Stream) {b : Int} (hs : Ok s b) (hb : b ≤ 600000) : ∃ w s', mk_Stream_Wall s = some (w, s') ∧ WOk w ∧ w.Screens.length ≤ 5 ∧ Ok s' (b + 100) := by
 unfold mk_Stream_Wall
 obtain ⟨w, s1, a1, ⟨a2, a3⟩, a4, a5⟩ := rightWall_ok s hs (by omega)
 obtain ⟨c, s2, b1, b2⟩ := flip_ok s1 10 a5 (by omega) (by decide) (by decide)
 simp only [a1, b1, Option.bind_some]
 cases c with
 | false => exact ⟨_, _, rfl, ⟨a2, a3⟩, by show w.Screens.length ≤ 5; omega, b2.mono (by omega)⟩
 | true =>
  obtain ⟨k, s3, c1, c2, c3, c4⟩ := next_ok s2 3 b2 (by omega) (by decide) (by decide)
  simp only [cond_true, c1, Option.bind_some]
  cases k == 0 with
  | true =>
   obtain ⟨v, s4, d1, d0, d2⟩ := some_ok s3 [(⟨#[]⟩ : ByteArray), (⟨#[65]⟩ : ByteArray)] c4 (by omega) (by simp) (by simp)
   simp only [cond_true, d1, Option.bind_some]
   refine ⟨_, _, rfl, ⟨?_, a3⟩, by show w.Screens.length ≤ 5; omega, d2.mono (by omega)⟩
   simp only [List.mem_cons, List.not_mem_nil, or_false] at d0
   show v.size ≤ 1000
   rcases d0 with rfl | rfl <;> exact Nat.le_of_ble_eq_true rfl
  | false =>
   cases k == 1 with
   | true =>
    obtain ⟨v, s4, d1, d2⟩ := odd_ok s3 1 20 c4 (by omega) (by decide) (by decide) (by decide)
    simp only [cond_true, cond_false, d1, Option.bind_some]
    exact ⟨_, _, rfl, ⟨a2, a3⟩, by show w.Screens.length ≤ 5; omega, d2.mono (by omega)⟩
   | false =>
    obtain ⟨v, s4, d1, d0, d2⟩ := some_ok s3 [(⟨#[]⟩ : ByteArray), (⟨#[115, 97]⟩ : ByteArray), (⟨#[115, 122]⟩ : ByteArray)] c4 (by omega) (by simp) (by simp)
    obtain ⟨r, s5, e1, e2⟩ := rect_ok s4 d2 (by omega)
    simp only [cond_false, d1, e1, Option.bind_some, clone_ok _ (show w.Screens.length ≤ 1000000 by omega)]
    rw [appL_ok _ _ (by simp; omega)]
    simp only [Option.bind_some]
    refine ⟨_, _, rfl, ⟨a2, fun z hz => ?_⟩, by simp; omega, e2.mono (by omega)⟩
    rcases List.mem_append.1 hz with hz | hz
    ·exact a3 z hz
    ·rw [List.mem_singleton] at hz; subst hz
     simp only [List.mem_cons, List.not_mem_nil, or_false] at d0
     show v.size ≤ 1000
     rcases d0 with rfl | rfl | rfl <;> exact Nat.le_of_ble_eq_true rfl
end Go.Proofs.YtiekkaelpgahoaaGreat.Law

