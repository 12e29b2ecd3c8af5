import Derived.Test.YtiekkaelpgahoaaGreatWtChk
/-
  PLAIN LEMMAS: the checks of layouts.
-/
open Go Go.Eng
namespace Go.Proofs.YtiekkaelpgahoaaGreat.Law
set_option linter.unusedVariables false
set_option linter.unusedSimpArgs false

def stpZ (l : Layout) (last : ByteArray) (z : Zone) : Int := bif !keyB z.Key then 5 else bif badR z.On then 1 else bif !insB z.On l.W l.H then 3 else bif outB z.Order 0 1000 then 1 else bif sLe z.Key last then 7 else 0
theorem layout_ok (l : Layout) (hk : l.Key.size ≤ 1000) (hs : ∀ z ∈ l.Zones, z.Key.size ≤ 1000) (hl : l.Zones.length ≤ 30) : ∃ e, screen_CheckLayout l = some e ∧ ref_LayoutFault l = some e ∧
  (e = 0 → badS l.W = false ∧ badS l.H = false ∧ chk (fun z => z.Key) (stpZ l) nilS l.Zones = 0) := by
 unfold screen_CheckLayout ref_LayoutFault
 rw [isKey_eq l.Key (by omega), refKey_eq l.Key (by omega), sides2, side_eq, side_eq]
 simp only [Option.bind_some, Bool.not_not]
 cases keyB l.Key with
 | false => exact ⟨5, rfl, rfl, fun h => by cases h⟩
 | true =>
  cases hW : badS l.W with
  | true => exact ⟨1, rfl, rfl, fun h => by cases h⟩
  | false =>
   cases hH : badS l.H with
   | true => exact ⟨1, rfl, rfl, fun h => by cases h⟩
   | false =>
    have hd : decide ((l.Zones.length : Int) > 30) = false := by simp; omega
    simp only [Bool.not_true, cond_false, cond_true, Bool.or_self, bne_self_eq_false, hd, Option.bind_some]
    have h1 := chk_prev (key := fun z : Zone => z.Key) (stp := stpZ l) (body := fun k x s => screen_CheckLayout_L1 l k x s) l.Zones l.Zones 0 rfl (fun k x hx => by
     have hxm := List.mem_of_getElem? hx
     unfold screen_CheckLayout_L1 stpZ
     rw [isKey_eq _ (by have := hs x hxm; omega), checkRect_eq, inside_eq, outside_eq]
     simp only [Option.bind_some]
     cases hkey : keyB x.Key with
     | false => rfl
     | true =>
      have hne : x.Key.size ≠ 0 := keyB_ne hkey
      rw [prev_test (key := fun z : Zone => z.Key) hx (by omega) hne]
      cases badR x.On with
      | true => rfl
      | false =>
       cases insB x.On l.W l.H with
       | false => rfl
       | true =>
        cases outB x.Order 0 1000 with
        | true => rfl
        | false => cases sLe x.Key (prevK (fun z : Zone => z.Key) l.Zones k) <;> rfl)
    obtain ⟨last', h2⟩ := chk_go (key := fun z : Zone => z.Key) (stp := stpZ l) (body := fun k x s => ref_LayoutFault_L1 l k x s) l.Zones 0 nilS (fun k x last hxm => by
     unfold ref_LayoutFault_L1 stpZ
     rw [refKey_eq _ (by have := hs x hxm; omega), rectFault_eq, within_eq, in_eq]
     simp only [Option.bind_some, Bool.not_not]
     cases keyB x.Key <;> cases badR x.On <;> cases insB x.On l.W l.H <;> cases outB x.Order 0 1000 <;> cases sLe x.Key last <;> rfl)
    have h0 : prevK (fun z : Zone => z.Key) l.Zones 0 = nilS := rfl
    rw [h0] at h1
    rw [forL_eq (by omega), h1, forL_eq (xs := l.Zones) (s := (⟨#[]⟩ : ByteArray)) (by omega)]
    rw [show (⟨#[]⟩ : ByteArray) = nilS from rfl, h2]
    cases hc : chk (fun z : Zone => z.Key) (stpZ l) nilS l.Zones == 0 with
    | true =>
     refine ⟨0, ?_, ?_, fun _ => ⟨trivial, trivial, eq_of_beq hc⟩⟩
     ·simp only [outC, hc, cond_true, Option.bind_some, thenC]
     ·simp only [cond_true, Option.bind_some, thenC]
    | false =>
     refine ⟨chk (fun z : Zone => z.Key) (stpZ l) nilS l.Zones, ?_, ?_, fun e => by rw [e] at hc; cases hc⟩
     ·simp only [outC, hc, cond_false, Option.bind_some, thenC]
     ·simp only [cond_false, Option.bind_some, thenC]
theorem zones_ok {l : Layout} : ∀ (zs : List Zone) (last : ByteArray), chk (fun z : Zone => z.Key) (stpZ l) last zs = 0 → (∀ z ∈ zs, Fine z.On ∧ insB z.On l.W l.H = true ∧ keyB z.Key = true ∧ lt last z.Key) ∧ zs.Pairwise (fun a b => lt a.Key b.Key)
 | [], _, _ => ⟨fun z hz => (by cases hz), List.Pairwise.nil⟩
 | x :: zs, last, h => by
  rw [chk] at h
  cases he : stpZ l last x == 0 with
  | false => rw [he, cond_false] at h; rw [h] at he; cases he
  | true =>
   rw [he, cond_true] at h
   obtain ⟨i1, i2⟩ := zones_ok zs _ h
   have he := eq_of_beq he
   have hx : Fine x.On ∧ insB x.On l.W l.H = true ∧ keyB x.Key = true ∧ lt last x.Key := by
    unfold stpZ at he
    cases hk : keyB x.Key with
    | false => rw [hk] at he; cases he
    | true =>
     cases hb : badR x.On with
     | true => rw [hk, hb] at he; cases he
     | false =>
      cases hi : insB x.On l.W l.H with
      | false => rw [hk, hb, hi] at he; cases he
      | true =>
       cases ho : outB x.Order 0 1000 with
       | true => rw [hk, hb, hi, ho] at he; cases he
       | false =>
        cases hl : sLe x.Key last with
        | true => rw [hk, hb, hi, ho, hl] at he; cases he
        | false =>
         refine ⟨badR_fine hb, rfl, rfl, ?_⟩
         have := sLe_iff x.Key last
         rw [hl] at this
         simp only [Bool.false_eq_true, false_iff, Classical.not_not] at this
         exact this
   refine ⟨fun z hz => ?_, List.pairwise_cons.2 ⟨fun z hz => (i1 z hz).2.2.2, i2⟩⟩
   rcases List.mem_cons.1 hz with rfl | hz
   ·exact hx
   ·obtain ⟨a, b, c, d⟩ := i1 z hz
    exact ⟨a, b, c, lt_trans hx.2.2.2 d⟩
end Go.Proofs.YtiekkaelpgahoaaGreat.Law

