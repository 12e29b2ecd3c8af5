import Derived.Test.YtmdmgnfoojjpbaaGreatDoorKpBase
import Derived.Test.YtmdmgnfoojjpbaaGreatDoorKpLit
/-
  THE PLAIN LAW: four quarters change nothing, and a quarter more is a quarter after the others.
-/
open Go Go.Eng
namespace Go.Proofs.YtmdmgnfoojjpbaaGreatDoor.Law
set_option linter.unusedVariables false
set_option linter.unusedSimpArgs false

structure Within (r : Rect) (w h : Int) : Prop where
 x : 0 ≤ r.X
 y : 0 ≤ r.Y
 w1 : 1 ≤ r.W
 h1 : 1 ≤ r.H
 xw : r.X + r.W ≤ w
 yh : r.Y + r.H ≤ h
 wm : w ≤ 20000
 hm : h ≤ 20000
theorem badR_within {r : Rect} {w h : Int} (i : Within r w h) : badR r = false := by
 obtain ⟨a1, a2, a3, a4, a5, a6, a7, a8⟩ := i
 unfold badR
 rw [w64_id (n := 100000 - r.X) (by omega), w64_id (n := 100000 - r.Y) (by omega), outB_in (by omega), outB_in (by omega), outB_in (by omega), outB_in (by omega)]; rfl
theorem inside_ok {r : Rect} {w h : Int} (i : Within r w h) : screen_inside r w h = some true := by
 obtain ⟨a1, a2, a3, a4, a5, a6, a7, a8⟩ := i
 unfold screen_inside
 rw [w64_id (n := r.X + r.W) (by omega), w64_id (n := r.Y + r.H) (by omega), decide_eq_true (by omega), decide_eq_true (by omega), decide_eq_true (by omega), decide_eq_true (by omega)]; rfl
def quarter (r : Rect) (h : Int) : Rect := ⟨h - r.Y - r.H, r.X, r.H, r.W⟩
theorem Within.quarter {r : Rect} {w h : Int} (i : Within r w h) : Within (quarter r h) h w := by
 obtain ⟨a1, a2, a3, a4, a5, a6, a7, a8⟩ := i
 constructor <;> (try simp only [Law.quarter]) <;> omega
theorem turned_go {r : Rect} {w h q : Int} (i : Within r w h) (hq : 0 ≤ q ∧ q ≤ 3) :
  screen_Turned r w h q = (forR (fun k x s => screen_Turned_L1 k x s) (List.range q.toNat) 0 (w, h, r.X, r.Y, r.W, r.H)).bind fun o => thenC o (fun s => some ((⟨s.2.2.1, s.2.2.2.1, s.2.2.2.2.1, s.2.2.2.2.2⟩ : Rect), 0)) (fun _ => none) := by
 have b1 := badR_within i
 have b2 := inside_ok i
 obtain ⟨a1, a2, a3, a4, a5, a6, a7, a8⟩ := i
 unfold screen_Turned
 rw [checkRect_eq, b1, isSide_eq, isSide_eq, outside_eq, show badS w = false from outB_in (by omega), show badS h = false from outB_in (by omega), outB_in hq, b2, forL_eq (by simp; omega)]
 rfl
theorem turn_step {r : Rect} {w h : Int} (i : Within r w h) (k x : Nat) : screen_Turned_L1 k x (w, h, r.X, r.Y, r.W, r.H) = some (.go (h, w, (quarter r h).X, (quarter r h).Y, (quarter r h).W, (quarter r h).H)) := by
 obtain ⟨a1, a2, a3, a4, a5, a6, a7, a8⟩ := i
 simp only [screen_Turned_L1, quarter]
 rw [w64_id (n := h - r.Y) (by omega), w64_id (n := h - r.Y - r.H) (by omega)]
theorem turned0 {r : Rect} {w h : Int} (i : Within r w h) : screen_Turned r w h 0 = some (r, 0) := by
 rw [turned_go i (by omega), show List.range (0 : Int).toNat = [] from rfl]; rfl
theorem turned1 {r : Rect} {w h : Int} (i : Within r w h) : screen_Turned r w h 1 = some (quarter r h, 0) := by
 rw [turned_go i (by omega), show List.range (1 : Int).toNat = [0] from rfl]
 simp only [forR, turn_step i, Option.bind_some, thenC]
theorem turned2 {r : Rect} {w h : Int} (i : Within r w h) : screen_Turned r w h 2 = some (quarter (quarter r h) w, 0) := by
 rw [turned_go i (by omega), show List.range (2 : Int).toNat = [0, 1] from rfl]
 simp only [forR, turn_step i, turn_step i.quarter, Option.bind_some, thenC]
theorem turned3 {r : Rect} {w h : Int} (i : Within r w h) : screen_Turned r w h 3 = some (quarter (quarter (quarter r h) w) h, 0) := by
 rw [turned_go i (by omega), show List.range (3 : Int).toNat = [0, 1, 2] from rfl]
 simp only [forR, turn_step i, turn_step i.quarter, turn_step i.quarter.quarter, Option.bind_some, thenC]
theorem quarter4 (r : Rect) (w h : Int) : quarter (quarter (quarter (quarter r h) w) h) w = r := by
 obtain ⟨a, b, c, d⟩ := r
 simp only [quarter, Rect.mk.injEq, and_true]
 omega
theorem law_step {x0 y0 w0 h0 w h y z : Int} {q1 q2 q3 q4 q5 q6 : Stream} {x : Rect} (k n : Nat) (i : Within x y z) (a : screen_Turned ⟨x0, y0, w0, h0⟩ w h (k : Int) = some (x, 0)) :
  keep_TurnsComeBack_L1 (x0, q1) (y0, q2) (w0, q3) (h0, q4) (w, q5) (h, q6) k n (y, z, x.X, x.Y, x.W, x.H) = some (.go (z, y, (quarter x z).X, (quarter x z).Y, (quarter x z).W, (quarter x z).H)) := by
 have b := turned1 i
 have e : (⟨x.X, x.Y, x.W, x.H⟩ : Rect) = x := rfl
 simp only [keep_TurnsComeBack_L1, a, e, b, Option.bind_some, bne_self_eq_false, beq_self_eq_true, Bool.and_self, Bool.not_true, cond_false, quarter]
theorem turnsComeBack (l : List Int) : keep_TurnsComeBack l = some true := by
 unfold keep_TurnsComeBack
 have h0 : Ok (⟨l, 0⟩ : Stream) 0 := ⟨Int.le_refl _, Int.le_refl _⟩
 obtain ⟨w, s1, a1, a2, a3, a4⟩ := range_ok _ 1 20 h0 (by decide) (by decide) (by decide) (by decide)
 obtain ⟨h, s2, b1, b2, b3, b4⟩ := range_ok _ 1 20 a4 (by decide) (by decide) (by decide) (by decide)
 obtain ⟨x, s3, c1, c2, c3, c4⟩ := range_ok _ 0 (w - 1) b4 (by decide) (by omega) (by decide) (by omega)
 obtain ⟨y, s4, d1, d2, d3, d4⟩ := range_ok _ 0 (h - 1) c4 (by decide) (by omega) (by decide) (by omega)
 obtain ⟨u, s5, e1, e2, e3, e4⟩ := range_ok _ 1 (w - x) d4 (by decide) (by omega) (by decide) (by omega)
 obtain ⟨v, s6, f1, f2, f3, f4⟩ := range_ok _ 1 (h - y) e4 (by decide) (by omega) (by decide) (by omega)
 have i : Within ⟨x, y, u, v⟩ w h := by constructor <;> (try simp only []) <;> omega
 simp only [a1, b1, Option.bind_some]
 rw [w64_id (n := w - 1) (by omega), w64_id (n := h - 1) (by omega)]
 simp only [c1, d1, Option.bind_some]
 rw [w64_id (n := w - x) (by omega), w64_id (n := h - y) (by omega)]
 simp only [e1, f1, Option.bind_some]
 rw [show List.range (4 : Int).toNat = [0, 1, 2, 3] from rfl, forL_eq (by simp)]
 have k0 := law_step (q1 := s3) (q2 := s4) (q3 := s5) (q4 := s6) (q5 := s1) (q6 := s2) 0 0 i (turned0 i)
 have k1 := law_step (q1 := s3) (q2 := s4) (q3 := s5) (q4 := s6) (q5 := s1) (q6 := s2) 1 1 i.quarter (turned1 i)
 have k2 := law_step (q1 := s3) (q2 := s4) (q3 := s5) (q4 := s6) (q5 := s1) (q6 := s2) 2 2 i.quarter.quarter (turned2 i)
 have k3 := law_step (q1 := s3) (q2 := s4) (q3 := s5) (q4 := s6) (q5 := s1) (q6 := s2) 3 3 i.quarter.quarter.quarter (turned3 i)
 rw [quarter4] at k3
 simp only [] at k0
 simp only [forR, k0, k1, k2, k3, Option.bind_some, thenC, beq_self_eq_true, Bool.and_self, cond_true, ready_ok]
end Go.Proofs.YtmdmgnfoojjpbaaGreatDoor.Law

