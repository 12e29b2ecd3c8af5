import Derived.Test.YtiekkaelpgahoaaGreatLsSeen
import Derived.Test.YtiekkaelpgahoaaGreatLsGen
import Derived.Test.YtiekkaelpgahoaaGreatWtLit
/-
  THE PLAIN LAW: CheckLayout, ZoneAt, Seen and Covered.
-/
open Go Go.Eng
namespace Go.Proofs.YtiekkaelpgahoaaGreat.Law
set_option linter.unusedVariables false
set_option linter.unusedSimpArgs false

def or0 (a b : Int) : Int := bif a == 0 then b else a
theorem errs2 (a b : Int) : law_errs [a, b] = some (or0 a b) := by
  unfold law_errs or0
  rw [forL_eq (by simp)]
  simp only [forR, law_errs_L1]
  cases ha : a == 0 with
  | false =>
    have : (a != 0) = true := by simp [bne, ha]
    simp only [this, cond_true, cond_false, Option.bind_some, thenC]
  | true =>
    have : (a != 0) = false := by simp [bne, ha]
    simp only [this, cond_true, cond_false, Option.bind_some]
    cases hb : b == 0 with
    | false =>
      have : (b != 0) = true := by simp [bne, hb]
      simp only [this, cond_true, Option.bind_some, thenC]
    | true =>
      have : (b != 0) = false := by simp [bne, hb]
      simp only [this, cond_false, Option.bind_some, thenC]
      rw [eq_of_beq hb]
def bad (b : Bool) : Int := bif b then 1 else 0
theorem eqPieces (l : List Piece) (hl : l.length ≤ 1000000) : slices_Equal_api_Piece_api_Piece l l = some true := by
  have key : ∀ (xs : List Piece) (k : Nat), l.drop k = xs → forR (fun k x s => slices_Equal_api_Piece_api_Piece_L1 l k x s) xs k () = some (.go ()) := by
    intro xs
    induction xs with
    | nil => exact fun _ _ => rfl
    | cons x xs ih =>
      intro k h
      have hg : idx l (k : Int) = some x := drop_idx h
      rw [forR]
      have : slices_Equal_api_Piece_api_Piece_L1 l k x () = some (.go ()) := by
        unfold slices_Equal_api_Piece_api_Piece_L1
        rw [hg]; simp [sNe, sEq]
      rw [this, Option.bind_some]
      exact ih (k + 1) (drop_next h)
  unfold slices_Equal_api_Piece_api_Piece
  have : ((l.length : Int) != (l.length : Int)) = false := by simp
  rw [this, cond_false, forL_eq (by omega), key l 0 rfl]; rfl
theorem eqStrings (l : List ByteArray) (hl : l.length ≤ 1000000) : slices_Equal_string_string l l = some true := by
  have key : ∀ (xs : List ByteArray) (k : Nat), l.drop k = xs → forR (fun k x s => slices_Equal_string_string_L1 l k x s) xs k () = some (.go ()) := by
    intro xs
    induction xs with
    | nil => exact fun _ _ => rfl
    | cons x xs ih =>
      intro k h
      have hg : idx l (k : Int) = some x := drop_idx h
      rw [forR]
      have : slices_Equal_string_string_L1 l k x () = some (.go ()) := by
        unfold slices_Equal_string_string_L1
        rw [hg]; simp [sNe, sEq]
      rw [this, Option.bind_some]
      exact ih (k + 1) (drop_next h)
  unfold slices_Equal_string_string
  have : ((l.length : Int) != (l.length : Int)) = false := by simp
  rw [this, cond_false, forL_eq (by omega), key l 0 rfl]; rfl
theorem layoutsSeen (l : List Int) : law_LayoutsSeen l = some true := by
  unfold law_LayoutsSeen
  have h0 : Ok (⟨l, 0⟩ : Stream) 0 := ⟨Int.le_refl _, Int.le_refl _⟩
  obtain ⟨L, s1, a1, ⟨a2, a3⟩, a4, a5⟩ := layout_gen _ h0 (by decide)
  obtain ⟨x, s3, c1, c2, c3, c4⟩ := range_ok s1 (-1) 16 a5 (by decide) (by decide) (by decide) (by decide)
  obtain ⟨y0, s4, d1, d2, d3, d4⟩ := range_ok s3 (-1) 9 c4 (by decide) (by decide) (by decide) (by decide)
  obtain ⟨g, s5, e1, e2⟩ := flip_ok s4 20 d4 (by decide) (by decide) (by decide)
  obtain ⟨y, ll, f, hx⟩ : ∃ (y : Int) (ll : List Int) (f : Int), (bif g then (mk_Stream_Odd s5 (-100000) 100000).bind fun r_19 => some (r_19.1, r_19.2.L, r_19.2.f_at) else some (y0, s5.L, s5.f_at)) = some (y, ll, f) := by
    cases g with
    | false => exact ⟨_, _, _, rfl⟩
    | true =>
      obtain ⟨v, s6, f1, _⟩ := odd_ok s5 (-100000) 100000 e2 (by decide) (by decide) (by decide) (by decide)
      exact ⟨_, _, _, by rw [f1]; rfl⟩
  obtain ⟨e, w1, w2, w3⟩ := layout_ok L a2 a3 (by omega)
  have hxo : outB x (-100000) 100000 = false := outB_in (by omega)
  have hsf : screen_spotFault x y = some (bad (outB y (-100000) 100000)) := by
    unfold screen_spotFault
    rw [outside_eq, outside_eq, hxo]
    cases outB y (-100000) 100000 <;> rfl
  -- ZoneAt
  have hAt : ∃ (k : ByteArray) (ok : Bool), screen_ZoneAt L x y = some (k, ok, or0 e (bad (outB y (-100000) 100000))) ∧ (bif or0 e (bad (outB y (-100000) 100000)) == 0 then (ref_ZoneOf L x y).bind fun r_51 => some (r_51.1, r_51.2) else some ((⟨#[]⟩ : ByteArray), false)) = some (k, ok) := by
    unfold screen_ZoneAt
    rw [w1, Option.bind_some]
    by_cases he : e = 0
    · obtain ⟨_, _, hc⟩ := w3 he
      obtain ⟨z1, z2⟩ := zones_ok _ _ hc
      subst he
      have hne : ((0 : Int) != 0) = false := rfl
      rw [hne, cond_false, hsf, Option.bind_some]
      cases outB y (-100000) 100000 with
      | true => exact ⟨_, _, rfl, rfl⟩
      | false =>
        have hz : (bad false != 0) = false := rfl
        rw [hz, cond_false]
        obtain ⟨key, ok, q1, q2, _⟩ := zoneOf_ok L (fun z hz => (z1 z hz).1) (by omega) x y
        exact ⟨key, ok, q2, by show ((ref_ZoneOf L x y).bind fun r_51 => some (r_51.1, r_51.2)) = _; rw [q1]; rfl⟩
    · have hne : (e != 0) = true := by simpa using he
      have hz : (e == 0) = false := by simpa using he
      rw [hne, cond_true]
      exact ⟨_, _, by unfold or0; rw [hz]; rfl, by unfold or0; rw [hz, cond_false, hz]; rfl⟩
  obtain ⟨k, ok, k1, k2⟩ := hAt
  have hwhen : (bif decide (y < (-100000)) then (law_when true 1).bind fun r_40 => (law_errs ([e, r_40] : List Int)).bind fun r_42 => some r_42 else (law_when (decide (y > 100000)) 1).bind fun r_44 => (law_errs ([e, r_44] : List Int)).bind fun r_46 => some r_46) = some (or0 e (bad (outB y (-100000) 100000))) := by
    simp only [errs2, Option.bind_some]
    unfold outB law_when
    cases decide (y < -100000) <;> cases decide (y > 100000) <;> rfl
  have hne : (e != e) = false := by simp
  have hkk : sNe k k = false := by simp [sNe, sEq]
  have hok : (!(ok == ok)) = false := by simp
  have hoo : ((or0 e (bad (outB y (-100000) 100000))) != (or0 e (bad (outB y (-100000) 100000)))) = false := by simp
  by_cases he : e = 0
  · obtain ⟨hW, hH, hc⟩ := w3 he
    obtain ⟨z1, z2⟩ := zones_ok _ _ hc
    obtain ⟨Rf, r1, r2, r3, r4⟩ := seenAll L (fun z hz => ⟨(z1 z hz).1, (z1 z hz).2.2.1⟩) z2 a4
    have hS : screen_Seen L = some (piecesFrom Rf L.Zones 0, e) := by
      unfold screen_Seen
      rw [w1, Option.bind_some, he]
      show ((screen_seen L).bind fun r_6 => some (r_6.1, r_6.2)) = _
      rw [r2]; rfl
    have hcl := covered_len Rf L.Zones 0
    have hC : screen_Covered L = some (coveredFrom Rf L.Zones 0, e) := by
      unfold screen_Covered
      rw [w1, Option.bind_some, he]
      have hne : ((0 : Int) != 0) = false := rfl
      rw [hne, cond_false, forL_eq (by omega), covered_loop L Rf (fun k z h => ⟨(r1 k z h).1, (r1 k z h).2.1, (r1 k z h).2.2.1⟩) L.Zones 0 [] rfl (by simp; omega)]; rfl
    have hCo : ref_CoveredOf L = some (coveredFrom Rf L.Zones 0) := by
      unfold ref_CoveredOf
      rw [forL_eq (by omega), coveredOf_loop L Rf _ r3 (by omega) rfl z2 L.Zones 0 [] rfl (by simp; omega)]; rfl
    have he0 : (e != 0) = false := by rw [he]; rfl
    simp only [a1, c1, d1, e1, hx, k1, hS, hC, w1, w2, hne, cond_false, Option.bind_some, hwhen, k2, hoo, hkk, hok, he0, r3, hCo, eqPieces _ (show (piecesFrom Rf L.Zones 0).length ≤ 1000000 by omega), eqStrings _ (show (coveredFrom Rf L.Zones 0).length ≤ 1000000 by omega), lit_ok, cond_true]
  · have he0 : (e != 0) = true := by simpa using he
    have hS : screen_Seen L = some ([], e) := by
      unfold screen_Seen
      rw [w1, Option.bind_some, he0]; rfl
    have hC : screen_Covered L = some ([], e) := by
      unfold screen_Covered
      rw [w1, Option.bind_some, he0]; rfl
    have h00 : (((([] : List Piece).length : Nat) : Int) == 0) = true := rfl
    have h01 : (((([] : List ByteArray).length : Nat) : Int) == 0) = true := rfl
    simp only [a1, c1, d1, e1, hx, k1, hS, hC, w1, w2, hne, cond_false, Option.bind_some, hwhen, k2, hoo, hkk, hok, he0, h00, h01, lit_ok, cond_true]
end Go.Proofs.YtiekkaelpgahoaaGreat.Law

