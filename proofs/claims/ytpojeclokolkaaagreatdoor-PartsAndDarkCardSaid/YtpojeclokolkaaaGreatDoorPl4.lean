/-
  THE PLAIN LAW (part 4).
-/
import Derived.Test.YtpojeclokolkaaaGreatDoorPl3
open Go Go.Eng
namespace Go.Proofs.YtpojeclokolkaaaGreatDoor.Law
set_option linter.unusedVariables false
set_option linter.unusedSimpArgs false
theorem wall_empty {W H : Int} (hW : 1 ≤ W ∧ W ≤ 100) (hH : 1 ≤ H ∧ H ≤ 100) : screen_CheckWall ⟨⟨#[119]⟩, W, H, []⟩ = some 0 := by
 unfold screen_CheckWall
 simp only
 rw [isKey_eq _ (Nat.le_of_ble_eq_true rfl), sides2, show badS W = false from outB_in (by omega), show badS H = false from outB_in (by omega), show keyB ⟨#[119]⟩ = true by kernel_rfl, forL_eq (by simp), forL_eq (by simp)]
 rfl
theorem rightWallR (s : Stream) {b : Int} (hs : Ok s b) (hb : b ≤ 700000) : ∃ w s', mk_Stream_RightWall s = some (w, s') ∧ screen_CheckWall w = some 0 ∧ WOk w ∧ w.Screens.length ≤ 4 ∧ (1 ≤ w.W ∧ w.W ≤ 100) ∧ (1 ≤ w.H ∧ w.H ≤ 100) ∧ Ok s' (b + 50) := by
 unfold mk_Stream_RightWall
 obtain ⟨W, s1, a1, a0, a2⟩ := pick_ok s [10, 20, 24, 100] hs (by omega) (by simp) (by simp)
 obtain ⟨H, s2, b1, b0, b2⟩ := pick_ok s1 [6, 10, 30] a2 (by omega) (by simp) (by simp)
 have hW : 1 ≤ W ∧ W ≤ 100 := by simp only [List.mem_cons, List.not_mem_nil, or_false] at a0; omega
 have hH : 1 ≤ H ∧ H ≤ 100 := by simp only [List.mem_cons, List.not_mem_nil, or_false] at b0; omega
 simp only [a1, b1, Option.bind_some]
 have hkeys : ∀ k ∈ ([(⟨#[115, 97]⟩ : ByteArray), (⟨#[115, 98]⟩ : ByteArray), (⟨#[115, 99]⟩ : ByteArray), (⟨#[115, 100]⟩ : ByteArray)] : List ByteArray), k.size ≤ 1000 := by
  intro k hk
  simp only [List.mem_cons, List.not_mem_nil, or_false] at hk
  rcases hk with rfl | rfl | rfl | rfl <;> exact Nat.le_of_ble_eq_true rfl
 generalize hks : ([(⟨#[115, 97]⟩ : ByteArray), (⟨#[115, 98]⟩ : ByteArray), (⟨#[115, 99]⟩ : ByteArray), (⟨#[115, 100]⟩ : ByteArray)] : List ByteArray) = ks at *
 have hkl : ks.length = 4 := by rw [← hks]; rfl
 obtain ⟨t, t1, t2, t3, t4, t5⟩ := forL_inv (body := fun k x s => mk_Stream_RightWall_L1 (W, s1) (H, s2) k x s) (s := (s2.L, s2.f_at, ([] : List Screen))) (fun j t => t.2.2.length ≤ j ∧ (∀ s ∈ t.2.2, s.Key.size ≤ 1000) ∧ screen_CheckWall ⟨⟨#[119]⟩, W, H, t.2.2⟩ = some 0 ∧ Ok ⟨t.1, t.2.1⟩ (b + 2 + 10 * j)) (xs := ks) (by rw [hkl]; omega) (fun j x t hx hj ⟨i1, i2, i4, i3⟩ => by
  rw [hkl] at hj
  unfold mk_Stream_RightWall_L1
  simp only
  rw [w64_id (n := W - 1) (by omega), w64_id (n := H - 1) (by omega)]
  obtain ⟨X, q1, c1, c2, c3, c4⟩ := range_ok _ 0 (W - 1) i3 (by omega) (by omega) (by omega) (by omega)
  obtain ⟨Y, q2, d1, d2, d3, d4⟩ := range_ok q1 0 (H - 1) c4 (by omega) (by omega) (by omega) (by omega)
  obtain ⟨U, q3, e1, e2, e3, e4⟩ := range_ok q2 1 (W - X) d4 (by omega) (by omega) (by omega) (by omega)
  obtain ⟨V, q4, f1, f2, f3, f4⟩ := range_ok q3 1 (H - Y) e4 (by omega) (by omega) (by omega) (by omega)
  obtain ⟨g, q5, g1, g2⟩ := flip_ok q4 4 f4 (by omega) (by decide) (by decide)
  simp only [c1, d1, Option.bind_some]
  rw [w64_id (n := W - X) (by omega), w64_id (n := H - Y) (by omega)]
  simp only [e1, f1, g1, Option.bind_some, clone_ok _ (show t.2.2.length ≤ 1000000 by omega)]
  rw [appL_ok _ _ (by simp; omega)]
  simp only [Option.bind_some]
  have hnew : ∀ s ∈ t.2.2 ++ [(⟨x, ⟨X, Y, U, V⟩⟩ : Screen)], s.Key.size ≤ 1000 := fun s hs => by
   rcases List.mem_append.1 hs with hs | hs
   ·exact i2 s hs
   ·rw [List.mem_singleton] at hs; subst hs; exact hkeys x hx
  cases g with
  | true => exact ⟨_, rfl, by simp; omega, i2, i4, g2.mono (by omega)⟩
  | false =>
   obtain ⟨e, hwc, hwf, _⟩ := wall_ok (⟨⟨#[119]⟩, W, H, t.2.2 ++ [(⟨x, ⟨X, Y, U, V⟩⟩ : Screen)]⟩ : Wall) (Nat.le_of_ble_eq_true rfl) hnew (by simp; omega)
   simp only [Bool.not_false, cond_true, hwf, Option.bind_some]
   cases he : e == 0 with
   | true => exact ⟨_, rfl, by simp; omega, hnew, by rw [eq_of_beq he] at hwc; exact hwc, g2.mono (by omega)⟩
   | false => exact ⟨_, rfl, by simp; omega, i2, i4, g2.mono (by omega)⟩) ⟨Nat.zero_le _, fun s hs => (by cases hs), wall_empty hW hH, b2.mono (by omega)⟩
 rw [hkl] at t2 t5
 rw [t1]
 exact ⟨⟨⟨#[119]⟩, W, H, t.2.2⟩, _, rfl, t4, ⟨Nat.le_of_ble_eq_true rfl, t3⟩, t2, hW, hH, t5.mono (by omega)⟩
end Go.Proofs.YtpojeclokolkaaaGreatDoor.Law

open Go Go.Eng
namespace Go.Proofs.YtpojeclokolkaaaGreatDoor.Law
set_option linter.unusedVariables false
set_option linter.unusedSimpArgs false
def hasZ (zs : List Zone) (x y : Int) (i : Nat) : Prop := ∃ z, zs[i]? = some z ∧ has1 x y z.On = true
def cov (zs : List Zone) (i k : Nat) : Prop := ∃ a b, zs[i]? = some a ∧ zs[k]? = some b ∧ (b.Order < a.Order ∨ a.Order = b.Order ∧ k < i)
def SeenP (zs : List Zone) (k : Nat) (x y : Int) : Prop := hasZ zs x y k ∧ ∀ i, i < zs.length → hasZ zs x y i → ¬ cov zs i k
end Go.Proofs.YtpojeclokolkaaaGreatDoor.Law

open Go Go.Eng
namespace Go.Proofs.YtpojeclokolkaaaGreatDoor.Law
set_option linter.unusedVariables false
set_option linter.unusedSimpArgs false
def piecesFrom (Rf : Nat → List Rect) : List Zone → Nat → List Piece
 | [], _ => []
 | z :: l, k => (Rf k).map (fun r => (⟨z.Key, r⟩ : Piece)) ++ piecesFrom Rf l (k + 1)
end Go.Proofs.YtpojeclokolkaaaGreatDoor.Law

open Go Go.Eng
namespace Go.Proofs.YtpojeclokolkaaaGreatDoor.Law
set_option linter.unusedVariables false
set_option linter.unusedSimpArgs false
end Go.Proofs.YtpojeclokolkaaaGreatDoor.Law

open Go Go.Eng
namespace Go.Proofs.YtpojeclokolkaaaGreatDoor.Law
set_option linter.unusedVariables false
set_option linter.unusedSimpArgs false
def IsSeen (zs : List Zone) (Rf : Nat → List Rect) (k : Nat) (z : Zone) : Prop :=
 ∃ bs : List Band, Rf k = flatB bs ∧ CanonB (-200000) bs ∧ (∀ y, CanonFrom (-200000) (rowAt bs y) ∧ (∀ r ∈ rowAt bs y, Okr r) ∧ ∀ x, mem x (rowAt bs y) ↔ SeenP zs k x y) ∧ ∃ above : List Rect, (∀ r ∈ above, Fine r) ∧ Fine z.On ∧ ∀ x y, SeenP zs k x y ↔ hasP [z.On] x y ∧ ¬ hasP above x y
section
variable (zs : List Zone) (Rf : Nat → List Rect) (hR : ∀ (k : Nat) (z : Zone), zs[k]? = some z → IsSeen zs Rf k z)
include hR
omit hR in
theorem pieces_mem : ∀ (l : List Zone) (k : Nat), zs.drop k = l → ∀ p ∈ piecesFrom Rf l k, ∃ (j : Nat) (z : Zone), zs[j]? = some z ∧ p.On ∈ Rf j
 | [], _, _, p, hp => by cases hp
 | z :: l, k, h, p, hp => by
  rw [piecesFrom] at hp
  rcases List.mem_append.1 hp with hp | hp
  ·obtain ⟨r, hr, rfl⟩ := List.mem_map.1 hp
   exact ⟨k, z, drop_get h, hr⟩
  ·exact pieces_mem l (k + 1) (drop_next h) p hp
end
end Go.Proofs.YtpojeclokolkaaaGreatDoor.Law

open Go Go.Eng
namespace Go.Proofs.YtpojeclokolkaaaGreatDoor.Law
set_option linter.unusedVariables false
set_option linter.unusedSimpArgs false
def Apart (a b : Rect) : Prop := ∀ x y, ¬ (has1 x y a = true ∧ has1 x y b = true)
theorem inner_all (x : Screen) (hx : Fine x.On) : ∀ (l : List Screen) (k : Nat), (∀ s ∈ l, Fine s.On) → (forR (fun k x_51 s => screen_CheckWall_L2 x k x_51 s) l k () = some (.go ()) ∧ ∀ s ∈ l, Apart x.On s.On) ∨ forR (fun k x_51 s => screen_CheckWall_L2 x k x_51 s) l k () = some (.ret 13)
 | [], k, _ => .inl ⟨rfl, fun s hs => by cases hs⟩
 | y :: l, k, h => by
  have hm := meet_eq hx.bnd (h y (by simp)).bnd
  have hB : screen_CheckWall_L2 x k y () = some (bif (meetR x.On y.On).2 then .ret 13 else .go ()) := by
   unfold screen_CheckWall_L2
   rw [hm, Option.bind_some]
   cases (meetR x.On y.On).2 <;> rfl
  rw [forR, hB, Option.bind_some]
  cases hc : (meetR x.On y.On).2 with
  | true => exact .inr rfl
  | false =>
   rcases inner_all x hx l (k + 1) (fun s hs => h s (by simp [hs])) with ⟨h1, h2⟩ | h1
   ·refine .inl ⟨h1, fun s hs => ?_⟩
    rcases List.mem_cons.1 hs with rfl | hs
    ·exact fun a b => meetR_none hc a b
    ·exact h2 s hs
   ·exact .inr h1
theorem outer_all (w : Wall) (hf : ∀ s ∈ w.Screens, Fine s.On) (hl : w.Screens.length ≤ 1000) : ∀ (l : List Screen) (k : Nat), w.Screens.drop k = l → (forR (fun k x s => screen_CheckWall_L3 w k x s) l k () = some (.go ()) ∧ ∀ (j : Nat) (x : Screen), k ≤ j → w.Screens[j]? = some x → ∀ s ∈ w.Screens.take j, Apart x.On s.On) ∨ forR (fun k x s => screen_CheckWall_L3 w k x s) l k () = some (.ret 13)
 | [], k, h => .inl ⟨rfl, fun j x hj hx => by
   have h1 := List.drop_eq_nil_iff.1 h
   have h2 := (List.getElem?_eq_some_iff.1 hx).1
   omega⟩
 | x :: l, k, h => by
  have hlt := drop_lt h
  have hg := drop_get h
  have hsub : subL w.Screens 0 (k : Int) = some (w.Screens.take k) := by
   unfold subL
   rw [if_pos ⟨by omega, by omega, by omega, by omega⟩]; simp
  have hB : (screen_CheckWall_L3 w k x () = some (.go ()) ∧ ∀ s ∈ w.Screens.take k, Apart x.On s.On) ∨ screen_CheckWall_L3 w k x () = some (.ret 13) := by
   unfold screen_CheckWall_L3
   rw [hsub, Option.bind_some, forL_eq (by rw [List.length_take]; omega)]
   rcases inner_all x (hf x (List.mem_of_getElem? hg)) (w.Screens.take k) 0 (fun s hs => hf s (List.mem_of_mem_take hs)) with ⟨h1, h2⟩ | h1
   ·left; rw [h1]; exact ⟨rfl, h2⟩
   ·right; rw [h1]; rfl
  rw [forR]
  rcases hB with ⟨hB, hA⟩ | hB
  ·rw [hB, Option.bind_some]
   rcases outer_all w hf hl l (k + 1) (drop_next h) with ⟨h1, h2⟩ | h1
   ·refine .inl ⟨h1, fun j y hj hy => ?_⟩
    rcases Nat.eq_or_lt_of_le hj with e | e
    ·subst e
     rw [hg] at hy
     simp only [Option.some.injEq] at hy
     subst hy; exact hA
    ·exact h2 j y e hy
   ·exact .inr h1
  ·rw [hB]; exact .inr rfl
theorem screens_apart (w : Wall) (hf : ∀ s ∈ w.Screens, Fine s.On) (hl : w.Screens.length ≤ 1000) (h : pairsO w = some 0) : (w.Screens.map (·.On)).Pairwise Apart := by
 unfold pairsO at h
 rw [forL_eq (by omega)] at h
 rcases outer_all w hf hl w.Screens 0 rfl with ⟨_, h2⟩ | h1
 ·rw [List.pairwise_map, List.pairwise_iff_getElem]
  intro i j hi hj hij
  have := h2 j _ (Nat.zero_le _) (List.getElem?_eq_getElem hj) w.Screens[i] (by
   rw [List.mem_take_iff_getElem]
   exact ⟨i, by omega, rfl⟩)
  exact fun x y ⟨a, b⟩ => this x y ⟨b, a⟩
 ·rw [h1] at h; cases h
theorem flat_len {α β : Type} (f : α → List β) (c : Nat) : ∀ l : List α, (∀ x ∈ l, (f x).length ≤ c) → (l.flatMap f).length ≤ c * l.length
 | [], _ => Nat.zero_le _
 | x :: l, h => by
  have := flat_len f c l (fun y hy => h y (by simp [hy]))
  have := h x (by simp)
  rw [List.flatMap_cons, List.length_append, List.length_cons, Nat.mul_succ]; omega
end Go.Proofs.YtpojeclokolkaaaGreatDoor.Law

open Go Go.Eng
namespace Go.Proofs.YtpojeclokolkaaaGreatDoor.Law
set_option linter.unusedVariables false
set_option linter.unusedSimpArgs false
theorem map_loopK {α β : Type} (f : α → β) {body : Nat → α → List β → Option (Ctl (List β) Unit)} : ∀ (l : List α) (k : Nat) (s : List β), (∀ k r s, s.length ≤ 1000000 → body k r s = some (.go (s ++ [f r]))) → s.length + l.length ≤ 1000000 → forR body l k s = some (.go (s ++ l.map f))
 | [], k, s, _, _ => by simp [forR]
 | r :: l, k, s, h, hl => by
  simp only [List.length_cons] at hl
  rw [forR, h k r s (by omega), Option.bind_some]
  simp only
  rw [map_loopK f l (k + 1) _ h (by simp; omega)]
  simp
theorem chk_in {w : Wall} : ∀ (l : List Screen) (last : ByteArray), chk (fun s : Screen => s.Key) (stpW w) last l = 0 → ∀ s ∈ l, Fine s.On ∧ insB s.On w.W w.H = true
 | [], _, _, s, hs => by cases hs
 | x :: l, last, h, s, hs => by
  rw [chk] at h
  cases he : stpW w last x == 0 with
  | false => rw [he, cond_false] at h; rw [h] at he; cases he
  | true =>
   rw [he, cond_true] at h
   rcases List.mem_cons.1 hs with rfl | hs
   ·have he := eq_of_beq he
    unfold stpW at he
    cases hk : keyB s.Key with
    | false => rw [hk] at he; cases he
    | true =>
     cases hb : badR s.On with
     | true => rw [hk, hb] at he; cases he
     | false =>
      cases hi : insB s.On w.W w.H with
      | false => rw [hk, hb, hi] at he; cases he
      | true => exact ⟨badR_fine hb, rfl⟩
   ·exact chk_in l _ h s hs
theorem wall_facts {w : Wall} (hw : screen_CheckWall w = some 0) (hk : WOk w) (hl : w.Screens.length ≤ 4) :
  (∀ s ∈ w.Screens, Fine s.On ∧ 0 ≤ s.On.X ∧ s.On.X + s.On.W ≤ w.W ∧ 0 ≤ s.On.Y ∧ s.On.Y + s.On.H ≤ w.H) ∧ ∀ x y, indL (w.Screens.map (·.On)) x y ≤ 1 := by
 obtain ⟨e, w1, w2, w3⟩ := wall_ok w hk.1 hk.2 (by omega)
 rw [hw] at w1
 obtain ⟨_, _, hc, hp⟩ := w3 (Option.some.inj w1).symm
 have hin := chk_in w.Screens nilS hc
 refine ⟨fun s hs => ?_, fun x y => indL_apart x y _ (screens_apart w (fun s hs => (hin s hs).1) (by omega) hp)⟩
 obtain ⟨f, i⟩ := hin s hs
 have f' := id f
 unfold Fine at f'
 unfold insB at i
 rw [w64_id (n := s.On.X + s.On.W) (by omega), w64_id (n := s.On.Y + s.On.H) (by omega)] at i
 simp only [Bool.and_eq_true, decide_eq_true_eq] at i
 exact ⟨f, by omega, by omega, by omega, by omega⟩
def mv (r b : Rect) : Rect := ⟨r.X - b.X, r.Y - b.Y, r.W, r.H⟩
theorem moved_K {r b : Rect} (hr : Bnd r) (hb : Bnd b) : screen_moved r b = some (mv r b) := by
 unfold Bnd at *
 unfold screen_moved mv
 rw [w64_id (n := r.X - b.X) (by omega), w64_id (n := r.Y - b.Y) (by omega)]
def partOf (r : Rect) (s : Screen) : List Patch := bif (meetR s.On r).2 then [⟨s.Key, mv (meetR s.On r).1 s.On, mv (meetR s.On r).1 r⟩] else []
theorem partOf_len (r : Rect) (s : Screen) : (partOf r s).length ≤ 1 := by
 unfold partOf; cases (meetR s.On r).2 <;> simp
theorem parts_loop (r : Rect) (hr : Fine r) : ∀ (l : List Screen) (k : Nat) (out : List Patch), (∀ s ∈ l, Fine s.On) → out.length + l.length ≤ 100000 → forR (fun k x s => screen_Parts_L1 r k x s) l k out = some (.go (out ++ l.flatMap (partOf r)))
 | [], k, out, _, _ => by simp [forR]
 | s :: l, k, out, h, hl => by
  simp only [List.length_cons] at hl
  have hs := h s (by simp)
  have hB : screen_Parts_L1 r k s out = some (.go (out ++ partOf r s)) := by
   have hb := meetR_bnd hs.bnd hr.bnd
   unfold screen_Parts_L1
   rw [meet_eq hs.bnd hr.bnd, Option.bind_some]
   simp only [moved_K hb hs.bnd, moved_K hb hr.bnd, Option.bind_some]
   unfold partOf
   cases (meetR s.On r).2 with
   | true => rw [cond_true, appL_ok _ _ (by simp; omega)]; rfl
   | false => simp
  have hpl := partOf_len r s
  rw [forR, hB, Option.bind_some]
  simp only
  rw [parts_loop r hr l (k + 1) _ (fun s hs => h s (by simp [hs])) (by rw [List.length_append]; omega), List.flatMap_cons, List.append_assoc]
theorem meetR_of {a b : Rect} (h : (meetR a b).2 = true) : 1 ≤ (meetR a b).1.W ∧ 1 ≤ (meetR a b).1.H ∧ a.X ≤ (meetR a b).1.X ∧ b.X ≤ (meetR a b).1.X ∧ (meetR a b).1.X + (meetR a b).1.W ≤ a.X + a.W ∧ (meetR a b).1.X + (meetR a b).1.W ≤ b.X + b.W ∧ a.Y ≤ (meetR a b).1.Y ∧ b.Y ≤ (meetR a b).1.Y ∧ (meetR a b).1.Y + (meetR a b).1.H ≤ a.Y + a.H ∧ (meetR a b).1.Y + (meetR a b).1.H ≤ b.Y + b.H := by
 unfold meetR at h ⊢
 cases hc : decide (min (a.X + a.W) (b.X + b.W) - max a.X b.X ≤ 0) || decide (min (a.Y + a.H) (b.Y + b.H) - max a.Y b.Y ≤ 0) with
 | true => rw [hc] at h; cases h
 | false =>
  simp only [Bool.or_eq_false_iff, decide_eq_false_iff_not] at hc
  simp only [cond_false]
  omega
theorem meetR_off {a b : Rect} (h : (meetR a b).2 = false) : (meetR a b).1 = ⟨0, 0, 0, 0⟩ := by
 unfold meetR at h ⊢
 cases hc : decide (min (a.X + a.W) (b.X + b.W) - max a.X b.X ≤ 0) || decide (min (a.Y + a.H) (b.Y + b.H) - max a.Y b.Y ≤ 0) with
 | true => rfl
 | false => rw [hc] at h; cases h
theorem area_small {r : Rect} (h : Bnd r) : 0 ≤ r.W * r.H ∧ r.W * r.H ≤ 40000000000 := by
 unfold Bnd at h
 have p1 : 0 ≤ r.W * r.H := Int.mul_nonneg (by omega) (by omega)
 have p2 : r.W * r.H ≤ 200000 * 200000 := Int.mul_le_mul (by omega) (by omega) (by omega) (by decide)
 omega
theorem psum_loop (r : Rect) (q : Stream) (hr : Fine r) : ∀ (l : List Screen) (k : Nat) (s : Int), (∀ s ∈ l, Fine s.On) → 0 ≤ s → s + 100000000000 * l.length ≤ 1000000000000000000 →
  forR (fun k x s => keep_PartsAndDark_L1 (r, q) k x s) (l.flatMap (partOf r)) k s = some (.go (s + sumL (fun s : Screen => (meetR s.On r).1.W * (meetR s.On r).1.H) l))
 | [], k, s, _, _, _ => by simp [forR, sumL]
 | s :: l, k, n, h, h1, h2 => by
  simp only [List.length_cons] at h2
  have hs := h s (by simp)
  have hb := meetR_bnd hs.bnd hr.bnd
  obtain ⟨p1, p2⟩ := area_small hb
  rw [List.flatMap_cons, sumL]
  cases hm : (meetR s.On r).2 with
  | false =>
   have e : partOf r s = [] := by unfold partOf; rw [hm]; rfl
   rw [e, List.nil_append, psum_loop r q hr l k n (fun s hs => h s (by simp [hs])) h1 (by omega), meetR_off hm]
   simp
  | true =>
   obtain ⟨m1, m2, m3, m4, m5, m6, m7, m8, m9, m10⟩ := meetR_of hm
   have e : partOf r s = [⟨s.Key, mv (meetR s.On r).1 s.On, mv (meetR s.On r).1 r⟩] := by unfold partOf; rw [hm]; rfl
   have hr' := hr
   unfold Fine at hr'
   generalize (meetR s.On r).1 = c at *
   have hB : keep_PartsAndDark_L1 (r, q) k ⟨s.Key, mv c s.On, mv c r⟩ n = some (.go (n + c.W * c.H)) := by
    unfold keep_PartsAndDark_L1 mv
    simp only
    rw [bne_self_eq_false, bne_self_eq_false, decide_eq_false (show ¬ c.X - r.X < 0 by omega), decide_eq_false (show ¬ c.Y - r.Y < 0 by omega), w64_id (n := c.X - r.X + c.W) (by omega), w64_id (n := c.Y - r.Y + c.H) (by omega), decide_eq_false (show ¬ c.X - r.X + c.W > r.W by omega), decide_eq_false (show ¬ c.Y - r.Y + c.H > r.H by omega), w64_id (n := c.W * c.H) (by omega), w64_id (n := n + c.W * c.H) (by omega)]
    rfl
   rw [e, List.singleton_append, forR, hB, Option.bind_some]
   simp only
   rw [psum_loop r q hr l (k + 1) _ (fun s hs => h s (by simp [hs])) (by omega) (by omega), Int.add_assoc]
theorem dsum_loop (i : Rect) (b : Bool) (hi : Fine i) : ∀ (l : List Rect) (k : Nat) (s : Int), (∀ d ∈ l, Fine d) → 0 ≤ s → s + 100000000000 * l.length ≤ 1000000000000000000 →
  forR (fun k x s => keep_PartsAndDark_L2 (i, b, 0) k x s) l k s = some (.go (s + sumL (fun d : Rect => (meetR d i).1.W * (meetR d i).1.H) l))
 | [], k, s, _, _, _ => by simp [forR, sumL]
 | d :: l, k, n, h, h1, h2 => by
  simp only [List.length_cons] at h2
  have hd := h d (by simp)
  obtain ⟨p1, p2⟩ := area_small (meetR_bnd hd.bnd hi.bnd)
  have hB : keep_PartsAndDark_L2 (i, b, 0) k d n = some (.go (n + (meetR d i).1.W * (meetR d i).1.H)) := by
   unfold keep_PartsAndDark_L2
   simp only
   rw [Meet_fine hd hi, Option.bind_some]
   simp only [bne_self_eq_false, cond_false]
   cases hm : (meetR d i).2 with
   | true =>
    rw [cond_true, w64_id (n := (meetR d i).1.W * (meetR d i).1.H) (by omega), w64_id (n := n + (meetR d i).1.W * (meetR d i).1.H) (by omega)]; rfl
   | false => rw [cond_false, meetR_off hm]; simp
  rw [forR, hB, Option.bind_some]
  simp only
  rw [dsum_loop i b hi l (k + 1) _ (fun s hs => h s (by simp [hs])) (by omega) (by omega), sumL, Int.add_assoc]
theorem sum_ind {α : Type} (f : α → Rect) (N : Nat) (hN : N = 200000) (l : List α) (h : ∀ x ∈ l, Bnd (f x)) : sumL (fun x => (f x).W * (f x).H) l = SS (-100000) N (fun x y => sumL (fun z => ind (f z) x y) l) := by
 rw [← SS_sumL]
 exact sumL_congr (fun z hz => (area_bnd (h z hz) N hN).symm)
theorem partsAndDark (l : List Int) : keep_PartsAndDark l = some true := by
 unfold keep_PartsAndDark
 obtain ⟨N, hN⟩ : ∃ N : Nat, N = 200000 := ⟨_, rfl⟩
 have h0 : Ok (⟨l, 0⟩ : Stream) 0 := ⟨Int.le_refl _, Int.le_refl _⟩
 obtain ⟨w, s1, a1, a2, a3, a4, a5, a6, a7⟩ := rightWallR _ h0 (by decide)
 obtain ⟨r, s2, b1, b2, _, b4⟩ := rightRectF s1 a7 (by decide)
 obtain ⟨wf, wi⟩ := wall_facts a2 a3 a4
 have hFull : Fine ⟨0, 0, w.W, w.H⟩ := by unfold Fine; simp only []; omega
 have hSf : ∀ q ∈ w.Screens.map (·.On), Fine q := fun q hq => by
  obtain ⟨s, hs, rfl⟩ := List.mem_map.1 hq
  exact (wf s hs).1
 have hP : screen_Parts w r = some (w.Screens.flatMap (partOf r), 0) := by
  unfold screen_Parts
  rw [a2, Option.bind_some, bne_self_eq_false, cond_false, checkRect_eq, fine_badR b2, forL_eq (by omega), parts_loop r b2 w.Screens 0 [] (fun s hs => (wf s hs).1) (by simp; omega)]
  rfl
 have hPl : (w.Screens.flatMap (partOf r)).length ≤ 1 * w.Screens.length := flat_len _ 1 _ (fun s _ => partOf_len r s)
 obtain ⟨D, d1, d2, d3⟩ := region_reg [⟨0, 0, w.W, w.H⟩] (w.Screens.map (·.On)) 1 4 (by decide) (by decide) (fun q hq => by rw [List.mem_singleton.1 hq]; exact hFull) hSf (fun y => rowB_le _ y) (by simpa using a4) (by simp)
 obtain ⟨df, di, _⟩ := d3.facts (fun q hq => by rw [List.mem_singleton.1 hq]; exact hFull)
 have hDl : D.length ≤ 55 := by
  have : (2 * ([(⟨0, 0, w.W, w.H⟩ : Rect)].length + (w.Screens.map (·.On)).length) + 1) * (1 * (4 + 1)) ≤ 11 * 5 := Nat.mul_le_mul (by simp; omega) (by omega)
  omega
 have hlit : screen_lit w = some (w.Screens.map (·.On)) := by
  unfold screen_lit
  rw [forL_eq (by omega), map_loopK (fun s : Screen => s.On) w.Screens 0 [] (fun k r s hs => by unfold screen_lit_L1; rw [appL_ok _ _ (by simp; omega)]; rfl) (by simp; omega)]; rfl
 have hD : screen_Dark w = some (D, 0) := by
  unfold screen_Dark
  rw [a2, Option.bind_some, bne_self_eq_false, cond_false, hlit, Option.bind_some, d1, Option.bind_some, bounded_ok D (by omega)]; rfl
 have hps := psum_loop r s2 b2 w.Screens 0 0 (fun s hs => (wf s hs).1) (Int.le_refl _) (by omega)
 rw [Int.zero_add] at hps
 generalize hS1 : sumL (fun s : Screen => (meetR s.On r).1.W * (meetR s.On r).1.H) w.Screens = S1 at *
 have e1 : S1 = SS (-100000) N (fun x y => indL (w.Screens.map (·.On)) x y * ind r x y) := by
  rw [← hS1, sum_ind (fun s : Screen => (meetR s.On r).1) N hN w.Screens (fun s hs => meetR_bnd (wf s hs).1.bnd b2.bnd)]
  refine SS_congr (fun x y => ?_)
  unfold indL
  rw [sumL_map, Int.mul_comm, ← sumL_mul]
  exact sumL_congr (fun s _ => by rw [meetR_ind, Int.mul_comm])
 have hsub : ∀ x y, hasP (w.Screens.map (·.On)) x y → has1 x y ⟨0, 0, w.W, w.H⟩ = true := by
  rintro x y ⟨q, hq, k1, k2⟩
  obtain ⟨s, hs, rfl⟩ := List.mem_map.1 hq
  have := wf s hs
  simp only [has1, Bool.and_eq_true, decide_eq_true_eq]
  omega
 have hS0 : 0 ≤ S1 := by
  rw [← hS1]
  have : ∀ l : List Screen, (∀ s ∈ l, Fine s.On) → 0 ≤ sumL (fun s : Screen => (meetR s.On r).1.W * (meetR s.On r).1.H) l := fun l => by
   induction l with
   | nil => exact fun _ => Int.le_refl _
   | cons s l ih =>
    intro h
    have h1 := (area_small (meetR_bnd (h s (by simp)).bnd b2.bnd)).1
    have h2 := ih (fun s hs => h s (by simp [hs]))
    rw [sumL]; omega
  exact this _ (fun s hs => (wf s hs).1)
 have hMeet := Meet_fine b2 hFull
 have hSb : S1 ≤ 40000000000 := by
  rw [e1]
  refine (SS_bnd (fun x y => ?_) N hN).2
  have k1 := wi x y
  have k2 := indL_nonneg x y (w.Screens.map (·.On))
  rcases ind_01 r x y with k | k <;> rw [k] <;> omega
 simp only [a1, b1, hP, hD, Option.bind_some, bne_self_eq_false, cond_false]
 rw [forL_eq (by omega), hps]
 simp only [Option.bind_some, thenC, hMeet, bne_self_eq_false, cond_false]
 cases hm : (meetR r ⟨0, 0, w.W, w.H⟩).2 with
 | false =>
  have hz : S1 = 0 := by
   rw [e1, SS_congr (g := fun _ _ => 0) (fun x y => ?_), SS_zero]
   by_cases hp : hasP (w.Screens.map (·.On)) x y
   ·have hh := hsub x y hp
    have : has1 x y r = false := by
     cases hr : has1 x y r with
     | false => rfl
     | true => exact absurd ⟨hr, hh⟩ (meetR_none hm x y)
    rw [ind_f this, Int.mul_zero]
   ·rw [indL_zero hp, Int.zero_mul]
  simp only [Bool.not_false, cond_true, hz, beq_self_eq_true, ready_ok, Option.bind_some]
 | true =>
  obtain ⟨m1, m2, m3, m4, m5, m6, m7, m8, m9, m10⟩ := meetR_of hm
  have hI : Fine (meetR r ⟨0, 0, w.W, w.H⟩).1 := by
   have := b2
   unfold Fine at this ⊢
   simp only at m4 m6 m8 m10
   omega
  have hii : ∀ x y, ind (meetR r ⟨0, 0, w.W, w.H⟩).1 x y = ind r x y * ind ⟨0, 0, w.W, w.H⟩ x y := fun x y => meetR_ind _ _ x y
  generalize (meetR r ⟨0, 0, w.W, w.H⟩).1 = i at *
  have hds := dsum_loop i true hI D 0 S1 df hS0 (by omega)
  have e2 : sumL (fun d : Rect => (meetR d i).1.W * (meetR d i).1.H) D = SS (-100000) N (fun x y => indL D x y * ind i x y) := by
   rw [sum_ind (fun d : Rect => (meetR d i).1) N hN D (fun d hd => meetR_bnd (df d hd).bnd hI.bnd)]
   refine SS_congr (fun x y => ?_)
   unfold indL
   rw [Int.mul_comm, ← sumL_mul]
   exact sumL_congr (fun s _ => by rw [meetR_ind, Int.mul_comm])
  have hall : S1 + sumL (fun d : Rect => (meetR d i).1.W * (meetR d i).1.H) D = i.W * i.H := by
   rw [e1, e2, ← SS_add, ← area_bnd hI.bnd N hN]
   refine SS_congr (fun x y => ?_)
   rw [hii, di, indL_P (wi x y)]
   have hf1 : hasP [⟨0, 0, w.W, w.H⟩] x y ↔ has1 x y ⟨0, 0, w.W, w.H⟩ = true := by rw [hasP_iff]; simp
   by_cases hp : hasP (w.Screens.map (·.On)) x y
   ·have hh := hsub x y hp
    rw [P01_t hp, P01_f (fun k => k.2 hp), ind_t hh]
    omega
   ·rw [P01_f hp]
    cases hh : has1 x y ⟨0, 0, w.W, w.H⟩ with
    | true => rw [P01_t ⟨hf1.2 hh, hp⟩, ind_t hh]; omega
    | false => rw [P01_f (fun k => by have := hf1.1 k.1; rw [hh] at this; cases this), ind_f hh]; omega
  obtain ⟨p1, p2⟩ := area_small hI.bnd
  simp only [Bool.not_true, cond_false]
  rw [forL_eq (by omega), hds]
  simp only [Option.bind_some, thenC]
  rw [hall, w64_id (n := i.W * i.H) (by omega), beq_self_eq_true]
  simp only [cond_true, ready_ok, Option.bind_some]
end Go.Proofs.YtpojeclokolkaaaGreatDoor.Law

