import Derived.Test.YtiekkaelpgahoaaGreatWtChk
/-
  PLAIN LEMMAS: the checks of walls.
-/
open Go Go.Eng
namespace Go.Proofs.YtiekkaelpgahoaaGreat.Law
set_option linter.unusedVariables false
set_option linter.unusedSimpArgs false

def stpW (w : Wall) (last : ByteArray) (s : Screen) : Int := bif !keyB s.Key then 5 else bif badR s.On then 1 else bif !insB s.On w.W w.H then 3 else bif sLe s.Key last then 7 else 0
theorem meet_ok (a b : Rect) : ∃ m, screen_meet a b = some m := by
 unfold screen_meet
 cases decide (w64 (minI (w64 (a.X + a.W)) (w64 (b.X + b.W)) - maxI a.X b.X) ≤ 0) <;> cases decide (w64 (minI (w64 (a.Y + a.H)) (w64 (b.Y + b.H)) - maxI a.Y b.Y) ≤ 0) <;> exact ⟨_, rfl⟩
def pairsO (w : Wall) : Option Int := (forL w.Screens () (fun k x s => screen_CheckWall_L3 w k x s)).bind fun o_44 => thenC o_44 (fun s_41 => some 0) (fun r => some r)
theorem pairs_same (w : Wall) : (fun k x s => ref_WallFault_L3 w k x s) = fun k x s => screen_CheckWall_L3 w k x s := rfl
theorem pairs_ok (w : Wall) (hl : w.Screens.length ≤ 1000) : ∃ e, pairsO w = some e := by
 have inner : ∀ (x : Screen) (l : List Screen) (k : Nat), forR (fun k x_51 s => screen_CheckWall_L2 x k x_51 s) l k () = some (.go ()) ∨ forR (fun k x_51 s => screen_CheckWall_L2 x k x_51 s) l k () = some (.ret 13) := by
  intro x l
  induction l with
  | nil => exact fun _ => .inl rfl
  | cons y l ih =>
   intro k
   obtain ⟨m, hm⟩ := meet_ok x.On y.On
   rw [forR]
   have : screen_CheckWall_L2 x k y () = some (bif m.2 then .ret 13 else .go ()) := by
    unfold screen_CheckWall_L2
    rw [hm, Option.bind_some]
    cases m.2 <;> rfl
   rw [this, Option.bind_some]
   cases m.2 with
   | true => exact .inr rfl
   | false => exact ih (k + 1)
 have outer : ∀ (l : List Screen) (k : Nat), w.Screens.drop k = l → forR (fun k x s => screen_CheckWall_L3 w k x s) l k () = some (.go ()) ∨ forR (fun k x s => screen_CheckWall_L3 w k x s) l k () = some (.ret 13) := by
  intro l
  induction l with
  | nil => exact fun _ _ => .inl rfl
  | cons x l ih =>
   intro k h
   have hlt := drop_lt h
   have hsub : subL w.Screens 0 (k : Int) = some (w.Screens.take k) := by
    unfold subL
    rw [if_pos ⟨by omega, by omega, by omega, by omega⟩]; simp
   rw [forR]
   have hB : screen_CheckWall_L3 w k x () = some (.go ()) ∨ screen_CheckWall_L3 w k x () = some (.ret 13) := by
    unfold screen_CheckWall_L3
    rw [hsub, Option.bind_some, forL_eq (by rw [List.length_take]; omega)]
    rcases inner x (w.Screens.take k) 0 with h1 | h1
    ·left; rw [h1]; rfl
    ·right; rw [h1]; rfl
   rcases hB with hB | hB
   ·rw [hB, Option.bind_some]; exact ih (k + 1) (drop_next h)
   ·rw [hB]; exact .inr rfl
 unfold pairsO
 rw [forL_eq (by omega)]
 rcases outer w.Screens 0 rfl with h | h
 ·exact ⟨0, by rw [h]; rfl⟩
 ·exact ⟨13, by rw [h]; rfl⟩
theorem wall_ok (w : Wall) (hk : w.Key.size ≤ 1000) (hs : ∀ s ∈ w.Screens, s.Key.size ≤ 1000) (hl : w.Screens.length ≤ 50) : ∃ e, screen_CheckWall w = some e ∧ ref_WallFault w = some e ∧
  (e = 0 → badS w.W = false ∧ badS w.H = false ∧ chk (fun s => s.Key) (stpW w) nilS w.Screens = 0 ∧ pairsO w = some 0) := by
 unfold screen_CheckWall ref_WallFault
 rw [isKey_eq w.Key (by omega), refKey_eq w.Key (by omega), sides2, side_eq, side_eq]
 simp only [Option.bind_some, Bool.not_not]
 cases keyB w.Key with
 | false => exact ⟨5, rfl, rfl, fun h => by cases h⟩
 | true =>
  cases hW : badS w.W with
  | true => exact ⟨1, rfl, rfl, fun h => by cases h⟩
  | false =>
   cases hH : badS w.H with
   | true => exact ⟨1, rfl, rfl, fun h => by cases h⟩
   | false =>
    have hd : decide ((w.Screens.length : Int) > 50) = false := by simp; omega
    simp only [Bool.not_true, cond_false, cond_true, Bool.or_self, bne_self_eq_false, hd, Option.bind_some]
    obtain ⟨p, hp⟩ := pairs_ok w (by omega)
    have h1 := chk_prev (key := fun s : Screen => s.Key) (stp := stpW w) (body := fun k x s => screen_CheckWall_L1 w k x s) w.Screens w.Screens 0 rfl (fun k x hx => by
     have hxm := List.mem_of_getElem? hx
     unfold screen_CheckWall_L1 stpW
     rw [isKey_eq _ (by have := hs x hxm; omega), checkRect_eq, inside_eq]
     simp only [Option.bind_some]
     cases hkey : keyB x.Key with
     | false => rfl
     | true =>
      have hne : x.Key.size ≠ 0 := keyB_ne hkey
      rw [prev_test (key := fun s : Screen => s.Key) hx (by omega) hne]
      cases badR x.On with
      | true => rfl
      | false =>
       cases insB x.On w.W w.H with
       | false => rfl
       | true => cases sLe x.Key (prevK (fun s : Screen => s.Key) w.Screens k) <;> rfl)
    obtain ⟨last', h2⟩ := chk_go (key := fun s : Screen => s.Key) (stp := stpW w) (body := fun k x s => ref_WallFault_L1 w k x s) w.Screens 0 nilS (fun k x last hxm => by
     unfold ref_WallFault_L1 stpW
     rw [refKey_eq _ (by have := hs x hxm; omega), rectFault_eq, within_eq]
     simp only [Option.bind_some]
     cases keyB x.Key <;> cases badR x.On <;> cases insB x.On w.W w.H <;> cases sLe x.Key last <;> rfl)
    have h0 : prevK (fun s : Screen => s.Key) w.Screens 0 = nilS := rfl
    rw [h0] at h1
    rw [forL_eq (by omega), h1, forL_eq (xs := w.Screens) (s := (⟨#[]⟩ : ByteArray)) (by omega)]
    rw [show (⟨#[]⟩ : ByteArray) = nilS from rfl, h2]
    cases hc : chk (fun s : Screen => s.Key) (stpW w) nilS w.Screens == 0 with
    | true =>
     refine ⟨p, ?_, ?_, fun hp0 => ⟨trivial, trivial, eq_of_beq hc, by rw [hp, hp0]⟩⟩
     ·simp only [outC, hc, cond_true, Option.bind_some, thenC]; exact hp
     ·simp only [cond_true, Option.bind_some, thenC]; rw [pairs_same]; exact hp
    | false =>
     refine ⟨chk (fun s : Screen => s.Key) (stpW w) nilS w.Screens, ?_, ?_, fun e => by rw [e] at hc; cases hc⟩
     ·simp only [outC, hc, cond_false, Option.bind_some, thenC]
     ·simp only [cond_false, Option.bind_some, thenC]
end Go.Proofs.YtiekkaelpgahoaaGreat.Law

