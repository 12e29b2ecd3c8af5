import Derived.Test.YtipcgokielgnhaaGreatDoorKpReg
import Derived.Test.YtipcgokielgnhaaGreatDoorRmScale
/-
  PLAIN LEMMAS: the calls that the laws make, by what they answer.
-/
open Go Go.Eng
namespace Go.Proofs.YtipcgokielgnhaaGreatDoor.Law
set_option linter.unusedVariables false
set_option linter.unusedSimpArgs false

def badSK (n : Int) : Bool := outB n 1 20000
theorem isSideK (n : Int) : screen_isSide n = some (!badSK n) := by unfold screen_isSide; rw [outside_eq]; rfl
theorem sides4K (a b c d : Int) : screen_sidesFault [a, b, c, d] = some (bif badSK a || badSK b || badSK c || badSK d then 1 else 0) := by
 unfold screen_sidesFault
 rw [forL_eq (by simp)]
 simp only [forR, screen_sidesFault_L1, isSideK, Option.bind_some, Bool.not_not]
 cases badSK a <;> cases badSK b <;> cases badSK c <;> cases badSK d <;> rfl
theorem scale_eqK (r : Rect) (w h W H : Int) (hx : 0 ≤ r.X ∧ 0 ≤ r.W ∧ r.X + r.W ≤ w) (hy : 0 ≤ r.Y ∧ 0 ≤ r.H ∧ r.Y + r.H ≤ h) (hw : 1 ≤ w ∧ w ≤ 20000) (hh : 1 ≤ h ∧ h ≤ 20000) (hW : 1 ≤ W ∧ W ≤ 20000) (hH : 1 ≤ H ∧ H ≤ 20000) :
  screen_scale r w h W H = some (scR w h W H r) := by
 have mul_b : ∀ a b : Int, 0 ≤ a → a ≤ 20000 → 1 ≤ b → b ≤ 20000 → 0 ≤ a * b ∧ a * b ≤ 400000000 := fun a b h1 h2 h3 h4 =>
  ⟨Int.mul_nonneg h1 (by omega), Int.le_trans (Int.mul_le_mul_of_nonneg_right h2 (by omega)) (Int.le_trans (Int.mul_le_mul_of_nonneg_left h4 (by omega)) (by omega))⟩
 have q_ok : ∀ a b : Int, 0 ≤ a → a ≤ 400000000 → 1 ≤ b → quoO .i64 a b = some (a / b) ∧ 0 ≤ a / b ∧ a / b ≤ 400000000 := fun a b h1 h2 h3 => by
  have e : a.tdiv b = a / b := Int.tdiv_eq_ediv_of_nonneg h1
  have k1 : 0 ≤ a / b := Int.ediv_nonneg h1 (by omega)
  have k2 : a / b ≤ a := Int.ediv_le_self b h1
  refine ⟨?_, k1, by omega⟩
  unfold quoO
  rw [if_neg (by omega), e]
  exact congrArg some (w64_id (n := a / b) (by omega))
 obtain ⟨a1, a2⟩ := mul_b r.X W (by omega) (by omega) hW.1 hW.2
 obtain ⟨b1, b2⟩ := mul_b r.Y H (by omega) (by omega) hH.1 hH.2
 obtain ⟨c1, c2⟩ := mul_b (r.X + r.W) W (by omega) (by omega) hW.1 hW.2
 obtain ⟨d1, d2⟩ := mul_b (r.Y + r.H) H (by omega) (by omega) hH.1 hH.2
 obtain ⟨p1, p2, p3⟩ := q_ok (r.X * W) w a1 a2 hw.1
 obtain ⟨q1, q2, q3⟩ := q_ok (r.Y * H) h b1 b2 hh.1
 obtain ⟨u1, u2, u3⟩ := q_ok ((r.X + r.W) * W) w c1 c2 hw.1
 obtain ⟨v1, v2, v3⟩ := q_ok ((r.Y + r.H) * H) h d1 d2 hh.1
 unfold screen_scale scR
 rw [w64_id (n := r.X + r.W) (by omega), w64_id (n := r.Y + r.H) (by omega), w64_id (n := r.X * W) (by omega), w64_id (n := r.Y * H) (by omega), w64_id (n := (r.X + r.W) * W) (by omega), w64_id (n := (r.Y + r.H) * H) (by omega)]
 rw [p1, q1, u1, v1]
 simp only [Option.bind_some]
 rw [w64_id (n := (r.X + r.W) * W / w - r.X * W / w) (by omega), w64_id (n := (r.Y + r.H) * H / h - r.Y * H / h) (by omega)]
 cases ((r.X + r.W) * W / w - r.X * W / w == 0) <;> cases ((r.Y + r.H) * H / h - r.Y * H / h == 0) <;> rfl
theorem eqRects (l : List Rect) (hl : l.length ≤ 1000000) : slices_Equal_api_Rect_api_Rect l l = some true := by
 have key : ∀ (xs : List Rect) (k : Nat), l.drop k = xs → forR (fun k x s => slices_Equal_api_Rect_api_Rect_L1 l k x s) xs k () = some (.go ()) := by
  intro xs
  induction xs with
  | nil => exact fun _ _ => rfl
  | cons x xs ih =>
   intro k h
   have hg : idx l (k : Int) = some x := drop_idx h
   rw [forR]
   have : slices_Equal_api_Rect_api_Rect_L1 l k x () = some (.go ()) := by
    unfold slices_Equal_api_Rect_api_Rect_L1
    rw [hg]; simp
   rw [this, Option.bind_some]
   exact ih (k + 1) (drop_next h)
 unfold slices_Equal_api_Rect_api_Rect
 have : ((l.length : Int) != (l.length : Int)) = false := by simp
 rw [this, cond_false, forL_eq (by omega), key l 0 rfl]; rfl
end Go.Proofs.YtipcgokielgnhaaGreatDoor.Law

