import Derived.Test.YtmdmgnfoojjpbaaGreatDoorKpBase
import Derived.Test.YtmdmgnfoojjpbaaGreatDoorKpLit
/-
  THE PLAIN LAW: what is fitted is within both, one of them whole, and its form differs by less than a pixel.
-/
open Go Go.Eng
namespace Go.Proofs.YtmdmgnfoojjpbaaGreatDoor.Law
set_option linter.unusedVariables false
set_option linter.unusedSimpArgs false

structure Inner (r : Rect) (w h : Int) : Prop where
 x : 0 ≤ r.X
 y : 0 ≤ r.Y
 w1 : 1 ≤ r.W
 h1 : 1 ≤ r.H
 xw : r.X + r.W ≤ w
 yh : r.Y + r.H ≤ h
theorem prod_in {a b : Int} (ha : 1 ≤ a ∧ a ≤ 50) (hb : 1 ≤ b ∧ b ≤ 50) : 1 ≤ a * b ∧ a * b ≤ 2500 := by
 have h1 : 1 * 1 ≤ a * b := Int.mul_le_mul ha.1 hb.1 (by decide) (by omega)
 have h2 : a * b ≤ 50 * 50 := Int.mul_le_mul ha.2 hb.2 (by omega) (by decide)
 exact ⟨h1, h2⟩
theorem quo_in {p b c : Int} (hp : 0 ≤ p ∧ p ≤ 2500) (hb : 1 ≤ b) (h : p ≤ c * b) : ∃ q, quoO .i64 p b = some q ∧ 0 ≤ q ∧ q ≤ c := by
 have e : p.tdiv b = p / b := Int.tdiv_eq_ediv_of_nonneg hp.1
 have h1 : 0 ≤ p / b := Int.ediv_nonneg hp.1 (by omega)
 have h2 : p / b ≤ c := Int.ediv_le_of_le_mul (by omega) h
 have h3 : p / b ≤ p := Int.ediv_le_self _ hp.1
 refine ⟨p / b, ?_, h1, h2⟩
 unfold quoO
 rw [if_neg (by omega), e, show IntKind.i64.wrap (p / b) = p / b from w64_id (by omega)]
theorem middle_in {a b c d : Int} (h1 : 1 ≤ a) (h2 : a ≤ c) (h3 : 1 ≤ b) (h4 : b ≤ d) (h5 : c ≤ 50) (h6 : d ≤ 50) : ∃ r, screen_middle a b c d = some r ∧ Inner r c d ∧ r.W = a ∧ r.H = b := by
 refine ⟨_, rfl, ?_, rfl, rfl⟩
 rw [w64_id (n := c - a) (by omega), w64_id (n := d - b) (by omega), Int.tdiv_eq_ediv_of_nonneg (by omega), Int.tdiv_eq_ediv_of_nonneg (by omega), w64_id (by omega), w64_id (by omega)]
 constructor <;> (try simp only []) <;> omega
theorem maxI_in {q c : Int} (h1 : 0 ≤ q) (h2 : q ≤ c) (h3 : 1 ≤ c) : 1 ≤ maxI 1 q ∧ maxI 1 q ≤ c := by
 unfold maxI; split <;> omega
theorem sides_ok {w h tw th : Int} (hw : 1 ≤ w ∧ w ≤ 50) (hh : 1 ≤ h ∧ h ≤ 50) (htw : 1 ≤ tw ∧ tw ≤ 50) (hth : 1 ≤ th ∧ th ≤ 50) : screen_sidesFault [w, h, tw, th] = some 0 := by
 rw [sides4, show badS w = false from outB_in (by omega), show badS h = false from outB_in (by omega), show badS tw = false from outB_in (by omega), show badS th = false from outB_in (by omega)]; rfl
theorem fit_ok {w h tw th : Int} (hw : 1 ≤ w ∧ w ≤ 50) (hh : 1 ≤ h ∧ h ≤ 50) (htw : 1 ≤ tw ∧ tw ≤ 50) (hth : 1 ≤ th ∧ th ≤ 50) (s : Int) (hs : s = 1 ∨ s = 2 ∨ s = 3) :
  ∃ a b, screen_Fit w h tw th s = some (a, b, 0) ∧ Inner a w h ∧ Inner b tw th ∧ (s = 1 → a = ⟨0, 0, w, h⟩ ∧ b = ⟨0, 0, tw, th⟩) ∧ (s = 2 → a = ⟨0, 0, w, h⟩ ∧ (b.W = tw ∨ b.H = th)) ∧ (s = 3 → b = ⟨0, 0, tw, th⟩ ∧ (a.W = w ∨ a.H = h)) := by
 have ia : Inner ⟨0, 0, w, h⟩ w h := by constructor <;> (try simp only []) <;> omega
 have ib : Inner ⟨0, 0, tw, th⟩ tw th := by constructor <;> (try simp only []) <;> omega
 have p1 := prod_in hw hth
 have p2 := prod_in hh htw
 unfold screen_Fit
 rw [sides_ok hw hh htw hth, w64_id (n := w * th) (by omega), w64_id (n := h * tw) (by omega)]
 simp only [Option.bind_some, bne_self_eq_false, cond_false]
 rcases hs with rfl | rfl | rfl
 ·exact ⟨_, _, rfl, ia, ib, fun _ => ⟨rfl, rfl⟩, fun h => by omega, fun h => by omega⟩
 ·rw [show ((2 : Int) == 1) = false from rfl, show ((2 : Int) == 2) = true from rfl]
  simp only [cond_true, cond_false, Option.bind_some]
  by_cases hc : w * th ≥ h * tw
  ·rw [decide_eq_true hc, cond_true]
   obtain ⟨q, q1, q2, q3⟩ := quo_in (p := h * tw) (b := w) (c := th) (by omega) hw.1 (by rw [Int.mul_comm th w]; exact hc)
   obtain ⟨m1, m2⟩ := maxI_in q2 q3 hth.1
   obtain ⟨r, r1, r2, r3, r4⟩ := middle_in htw.1 (Int.le_refl tw) m1 m2 htw.2 hth.2
   simp only [q1, r1, Option.bind_some]
   exact ⟨_, _, rfl, ia, r2, fun h => by omega, fun _ => ⟨rfl, .inl r3⟩, fun h => by omega⟩
  ·rw [decide_eq_false hc, cond_false]
   obtain ⟨q, q1, q2, q3⟩ := quo_in (p := w * th) (b := h) (c := tw) (by omega) hh.1 (by rw [Int.mul_comm tw h]; omega)
   obtain ⟨m1, m2⟩ := maxI_in q2 q3 htw.1
   obtain ⟨r, r1, r2, r3, r4⟩ := middle_in m1 m2 hth.1 (Int.le_refl th) htw.2 hth.2
   simp only [q1, r1, Option.bind_some]
   exact ⟨_, _, rfl, ia, r2, fun h => by omega, fun _ => ⟨rfl, .inr r4⟩, fun h => by omega⟩
 ·rw [show ((3 : Int) == 1) = false from rfl, show ((3 : Int) == 2) = false from rfl, show ((3 : Int) == 3) = true from rfl]
  simp only [cond_true, cond_false, Option.bind_some]
  by_cases hc : w * th ≥ h * tw
  ·rw [decide_eq_true hc, cond_true]
   obtain ⟨q, q1, q2, q3⟩ := quo_in (p := h * tw) (b := th) (c := w) (by omega) hth.1 hc
   obtain ⟨m1, m2⟩ := maxI_in q2 q3 hw.1
   obtain ⟨r, r1, r2, r3, r4⟩ := middle_in m1 m2 hh.1 (Int.le_refl h) hw.2 hh.2
   simp only [q1, r1, Option.bind_some]
   exact ⟨_, _, rfl, r2, ib, fun h => by omega, fun h => by omega, fun _ => ⟨rfl, .inr r4⟩⟩
  ·rw [decide_eq_false hc, cond_false]
   obtain ⟨q, q1, q2, q3⟩ := quo_in (p := w * th) (b := tw) (c := h) (by omega) htw.1 (by omega)
   obtain ⟨m1, m2⟩ := maxI_in q2 q3 hh.1
   obtain ⟨r, r1, r2, r3, r4⟩ := middle_in hw.1 (Int.le_refl w) m1 m2 hw.2 hh.2
   simp only [q1, r1, Option.bind_some]
   exact ⟨_, _, rfl, r2, ib, fun h => by omega, fun h => by omega, fun _ => ⟨rfl, .inl r3⟩⟩
theorem fit_step {w h tw th : Int} {q1 q2 q3 q4 : Stream} (hw : 1 ≤ w ∧ w ≤ 50) (hh : 1 ≤ h ∧ h ≤ 50) (htw : 1 ≤ tw ∧ tw ≤ 50) (hth : 1 ≤ th ∧ th ≤ 50) (s : Int) (hs : s = 1 ∨ s = 2 ∨ s = 3) :
  keep_FitsKeepForm_L1 (w, q1) (h, q2) (tw, q3) (th, q4) s = some (.go (s + 1)) := by
 obtain ⟨a, b, e, ia, ib, c1, c2, c3⟩ := fit_ok hw hh htw hth s hs
 obtain ⟨a1, a2, a3, a4, a5, a6⟩ := ia
 obtain ⟨b1, b2, b3, b4, b5, b6⟩ := ib
 unfold keep_FitsKeepForm_L1
 rw [decide_eq_true (show s ≤ 3 by omega)]
 simp only [e, cond_true, Option.bind_some]
 rw [w64_id (n := a.X + a.W) (by omega), w64_id (n := a.Y + a.H) (by omega), w64_id (n := b.X + b.W) (by omega), w64_id (n := b.Y + b.H) (by omega), w64_id (n := s + 1) (by omega)]
 rw [decide_eq_false (show ¬ a.X < 0 by omega), decide_eq_false (show ¬ a.Y < 0 by omega), decide_eq_false (show ¬ b.X < 0 by omega), decide_eq_false (show ¬ b.Y < 0 by omega), decide_eq_false (show ¬ a.W < 1 by omega), decide_eq_false (show ¬ a.H < 1 by omega), decide_eq_false (show ¬ b.W < 1 by omega), decide_eq_false (show ¬ b.H < 1 by omega), decide_eq_false (show ¬ a.X + a.W > w by omega), decide_eq_false (show ¬ a.Y + a.H > h by omega), decide_eq_false (show ¬ b.X + b.W > tw by omega), decide_eq_false (show ¬ b.Y + b.H > th by omega)]
 rcases hs with rfl | rfl | rfl
 ·obtain ⟨rfl, rfl⟩ := c1 rfl
  simp only [bne_self_eq_false, beq_self_eq_true, Bool.and_self, Bool.not_true, cond_true, cond_false, Option.bind_some]
  rfl
 ·obtain ⟨rfl, hb⟩ := c2 rfl
  rcases hb with rfl | rfl
  ·simp only [bne_self_eq_false, beq_self_eq_true, Bool.and_self, Bool.not_true, cond_true, cond_false, Option.bind_some]
   rfl
  ·cases hbw : (b.W != tw) <;>
   ·simp only [bne_self_eq_false, beq_self_eq_true, Bool.and_self, Bool.not_true, cond_true, cond_false, Option.bind_some, hbw]
    rfl
 ·obtain ⟨rfl, ha⟩ := c3 rfl
  rcases ha with rfl | rfl
  ·simp only [bne_self_eq_false, beq_self_eq_true, Bool.and_self, Bool.not_true, cond_true, cond_false, Option.bind_some]
   rfl
  ·cases haw : (a.W != w) <;>
   ·simp only [bne_self_eq_false, beq_self_eq_true, Bool.and_self, Bool.not_true, cond_true, cond_false, Option.bind_some, haw]
    rfl
theorem fitsKeepForm (l : List Int) : keep_FitsKeepForm l = some true := by
 unfold keep_FitsKeepForm
 have h0 : Ok (⟨l, 0⟩ : Stream) 0 := ⟨Int.le_refl _, Int.le_refl _⟩
 obtain ⟨w, s1, a1, a2, a3, a4⟩ := range_ok _ 1 50 h0 (by decide) (by decide) (by decide) (by decide)
 obtain ⟨h, s2, b1, b2, b3, b4⟩ := range_ok _ 1 50 a4 (by decide) (by decide) (by decide) (by decide)
 obtain ⟨tw, s3, c1, c2, c3, c4⟩ := range_ok _ 1 50 b4 (by decide) (by decide) (by decide) (by decide)
 obtain ⟨th, s4, d1, d2, d3, d4⟩ := range_ok _ 1 50 c4 (by decide) (by decide) (by decide) (by decide)
 simp only [a1, b1, c1, d1, Option.bind_some]
 have hs : ∀ s, s = 1 ∨ s = 2 ∨ s = 3 → keep_FitsKeepForm_L1 (w, s1) (h, s2) (tw, s3) (th, s4) s = some (.go (s + 1)) := fun s hs => fit_step ⟨a2, a3⟩ ⟨b2, b3⟩ ⟨c2, c3⟩ ⟨d2, d3⟩ s hs
 have h1 := hs 1 (.inl rfl)
 have h2 := hs 2 (.inr (.inl rfl))
 have h3 := hs 3 (.inr (.inr rfl))
 have h4 : keep_FitsKeepForm_L1 (w, s1) (h, s2) (tw, s3) (th, s4) 4 = some (.brk 4) := rfl
 have hi : iterN (fun s => keep_FitsKeepForm_L1 (w, s1) (h, s2) (tw, s3) (th, s4) s) 4 1 = some (.go 4) := by
  simp only [iterN, h1, Option.bind_some, show (1 : Int) + 1 = 2 from rfl, h2, show (2 : Int) + 1 = 3 from rfl, h3, show (3 : Int) + 1 = 4 from rfl, h4]
 rw [iter_loopO hi]
 simp only [Option.bind_some, thenC, ready_ok]
end Go.Proofs.YtmdmgnfoojjpbaaGreatDoor.Law

