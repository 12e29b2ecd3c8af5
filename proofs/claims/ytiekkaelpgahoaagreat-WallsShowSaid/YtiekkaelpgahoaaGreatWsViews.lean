import Derived.Test.YtiekkaelpgahoaaGreatWsPieces
import Derived.Test.YtiekkaelpgahoaaGreatWtCheck
/-
  PLAIN LEMMAS: the views of a wall; its screens have no common pixels.
-/
open Go Go.Eng
namespace Go.Proofs.YtiekkaelpgahoaaGreat.Law
set_option linter.unusedVariables false
set_option linter.unusedSimpArgs false

theorem scale_eq (r : Rect) (w h W H : Int) (hx : 0 ≤ r.X ∧ 0 ≤ r.W ∧ r.X + r.W ≤ w) (hy : 0 ≤ r.Y ∧ 0 ≤ r.H ∧ r.Y + r.H ≤ h) (hw : 1 ≤ w ∧ w ≤ 20000) (hh : 1 ≤ h ∧ h ≤ 20000) (hW : 1 ≤ W ∧ W ≤ 20000) (hH : 1 ≤ H ∧ H ≤ 20000) :
  screen_scale r w h W H = some (scR w h W H r) := by
 have mul_b : ∀ a b : Int, 0 ≤ a → a ≤ 20000 → 1 ≤ b → b ≤ 20000 → 0 ≤ a * b ∧ a * b ≤ 400000000 := fun a b h1 h2 h3 h4 =>
  ⟨Int.mul_nonneg h1 (by omega), Int.le_trans (Int.mul_le_mul_of_nonneg_right h2 (by omega)) (Int.le_trans (Int.mul_le_mul_of_nonneg_left h4 (by omega)) (by omega))⟩
 have q_ok : ∀ a b : Int, 0 ≤ a → a ≤ 400000000 → 1 ≤ b → quoO .i64 a b = some (a / b) ∧ 0 ≤ a / b ∧ a / b ≤ 400000000 := fun a b h1 h2 h3 => by
  have e : a.tdiv b = a / b := Int.tdiv_eq_ediv_of_nonneg h1
  have k1 : 0 ≤ a / b := Int.ediv_nonneg h1 (by omega)
  have k2 : a / b ≤ a := Int.ediv_le_self b h1
  refine ⟨?_, k1, by omega⟩
  unfold quoO
  rw [if_neg (by omega), e]
  exact congrArg some (w64_id (n := a / b) (by omega))
 obtain ⟨a1, a2⟩ := mul_b r.X W (by omega) (by omega) hW.1 hW.2
 obtain ⟨b1, b2⟩ := mul_b r.Y H (by omega) (by omega) hH.1 hH.2
 obtain ⟨c1, c2⟩ := mul_b (r.X + r.W) W (by omega) (by omega) hW.1 hW.2
 obtain ⟨d1, d2⟩ := mul_b (r.Y + r.H) H (by omega) (by omega) hH.1 hH.2
 obtain ⟨p1, p2, p3⟩ := q_ok (r.X * W) w a1 a2 hw.1
 obtain ⟨q1, q2, q3⟩ := q_ok (r.Y * H) h b1 b2 hh.1
 obtain ⟨u1, u2, u3⟩ := q_ok ((r.X + r.W) * W) w c1 c2 hw.1
 obtain ⟨v1, v2, v3⟩ := q_ok ((r.Y + r.H) * H) h d1 d2 hh.1
 unfold screen_scale scR
 rw [w64_id (n := r.X + r.W) (by omega), w64_id (n := r.Y + r.H) (by omega), w64_id (n := r.X * W) (by omega), w64_id (n := r.Y * H) (by omega), w64_id (n := (r.X + r.W) * W) (by omega), w64_id (n := (r.Y + r.H) * H) (by omega)]
 rw [p1, q1, u1, v1]
 simp only [Option.bind_some]
 rw [w64_id (n := (r.X + r.W) * W / w - r.X * W / w) (by omega), w64_id (n := (r.Y + r.H) * H / h - r.Y * H / h) (by omega)]
 cases ((r.X + r.W) * W / w - r.X * W / w == 0) <;> cases ((r.Y + r.H) * H / h - r.Y * H / h == 0) <;> rfl
def Apart (a b : Rect) : Prop := ∀ x y, ¬ (has1 x y a = true ∧ has1 x y b = true)
theorem inner_all (x : Screen) (hx : Fine x.On) : ∀ (l : List Screen) (k : Nat), (∀ s ∈ l, Fine s.On) → (forR (fun k x_51 s => screen_CheckWall_L2 x k x_51 s) l k () = some (.go ()) ∧ ∀ s ∈ l, Apart x.On s.On) ∨ forR (fun k x_51 s => screen_CheckWall_L2 x k x_51 s) l k () = some (.ret 13)
 | [], k, _ => .inl ⟨rfl, fun s hs => by cases hs⟩
 | y :: l, k, h => by
  have hm := meet_eq hx.bnd (h y (by simp)).bnd
  have hB : screen_CheckWall_L2 x k y () = some (bif (meetR x.On y.On).2 then .ret 13 else .go ()) := by
   unfold screen_CheckWall_L2
   rw [hm, Option.bind_some]
   cases (meetR x.On y.On).2 <;> rfl
  rw [forR, hB, Option.bind_some]
  cases hc : (meetR x.On y.On).2 with
  | true => exact .inr rfl
  | false =>
   rcases inner_all x hx l (k + 1) (fun s hs => h s (by simp [hs])) with ⟨h1, h2⟩ | h1
   ·refine .inl ⟨h1, fun s hs => ?_⟩
    rcases List.mem_cons.1 hs with rfl | hs
    ·exact fun a b => meetR_none hc a b
    ·exact h2 s hs
   ·exact .inr h1
theorem outer_all (w : Wall) (hf : ∀ s ∈ w.Screens, Fine s.On) (hl : w.Screens.length ≤ 1000) : ∀ (l : List Screen) (k : Nat), w.Screens.drop k = l → (forR (fun k x s => screen_CheckWall_L3 w k x s) l k () = some (.go ()) ∧ ∀ (j : Nat) (x : Screen), k ≤ j → w.Screens[j]? = some x → ∀ s ∈ w.Screens.take j, Apart x.On s.On) ∨ forR (fun k x s => screen_CheckWall_L3 w k x s) l k () = some (.ret 13)
 | [], k, h => .inl ⟨rfl, fun j x hj hx => by
   have h1 := List.drop_eq_nil_iff.1 h
   have h2 := (List.getElem?_eq_some_iff.1 hx).1
   omega⟩
 | x :: l, k, h => by
  have hlt := drop_lt h
  have hg := drop_get h
  have hsub : subL w.Screens 0 (k : Int) = some (w.Screens.take k) := by
   unfold subL
   rw [if_pos ⟨by omega, by omega, by omega, by omega⟩]; simp
  have hB : (screen_CheckWall_L3 w k x () = some (.go ()) ∧ ∀ s ∈ w.Screens.take k, Apart x.On s.On) ∨ screen_CheckWall_L3 w k x () = some (.ret 13) := by
   unfold screen_CheckWall_L3
   rw [hsub, Option.bind_some, forL_eq (by rw [List.length_take]; omega)]
   rcases inner_all x (hf x (List.mem_of_getElem? hg)) (w.Screens.take k) 0 (fun s hs => hf s (List.mem_of_mem_take hs)) with ⟨h1, h2⟩ | h1
   ·left; rw [h1]; exact ⟨rfl, h2⟩
   ·right; rw [h1]; rfl
  rw [forR]
  rcases hB with ⟨hB, hA⟩ | hB
  ·rw [hB, Option.bind_some]
   rcases outer_all w hf hl l (k + 1) (drop_next h) with ⟨h1, h2⟩ | h1
   ·refine .inl ⟨h1, fun j y hj hy => ?_⟩
    rcases Nat.eq_or_lt_of_le hj with e | e
    ·subst e
     rw [hg] at hy
     simp only [Option.some.injEq] at hy
     subst hy; exact hA
    ·exact h2 j y e hy
   ·exact .inr h1
  ·rw [hB]; exact .inr rfl
theorem screens_apart (w : Wall) (hf : ∀ s ∈ w.Screens, Fine s.On) (hl : w.Screens.length ≤ 1000) (h : pairsO w = some 0) : (w.Screens.map (·.On)).Pairwise Apart := by
 unfold pairsO at h
 rw [forL_eq (by omega)] at h
 rcases outer_all w hf hl w.Screens 0 rfl with ⟨_, h2⟩ | h1
 ·rw [List.pairwise_map, List.pairwise_iff_getElem]
  intro i j hi hj hij
  have := h2 j _ (Nat.zero_le _) (List.getElem?_eq_getElem hj) w.Screens[i] (by
   rw [List.mem_take_iff_getElem]
   exact ⟨i, by omega, rfl⟩)
  exact fun x y ⟨a, b⟩ => this x y ⟨b, a⟩
 ·rw [h1] at h; cases h
def viewOf (s : Screen) (p : Piece) : List View :=
 bif (meetR s.On p.On).2 then [(⟨s.Key, p.Zone, ⟨(meetR s.On p.On).1.X - s.On.X, (meetR s.On p.On).1.Y - s.On.Y, (meetR s.On p.On).1.W, (meetR s.On p.On).1.H⟩⟩ : View)] else []
theorem viewOf_len (s : Screen) (p : Piece) : (viewOf s p).length ≤ 1 := by
 unfold viewOf
 cases (meetR s.On p.On).2 <;> simp
theorem flat_len {α β : Type} (f : α → List β) (c : Nat) : ∀ l : List α, (∀ x ∈ l, (f x).length ≤ c) → (l.flatMap f).length ≤ c * l.length
 | [], _ => Nat.zero_le _
 | x :: l, h => by
  have := flat_len f c l (fun y hy => h y (by simp [hy]))
  have := h x (by simp)
  rw [List.flatMap_cons, List.length_append, List.length_cons, Nat.mul_succ]; omega
theorem views_prog (s : Screen) (hs : Bnd s.On) : ∀ (l : List Piece) (k : Nat) (out : List View), (∀ p ∈ l, Bnd p.On) → out.length + l.length ≤ 1000000 → forR (fun k x t => screen_Views_L1 s k x t) l k out = some (.go (out ++ l.flatMap (viewOf s)))
 | [], k, out, _, _ => by simp [forR]
 | p :: l, k, out, h, hl => by
  simp only [List.length_cons] at hl
  have hp := h p (by simp)
  have hB : screen_Views_L1 s k p out = some (.go (out ++ viewOf s p)) := by
   unfold screen_Views_L1 viewOf
   have hm := meetR_bnd hs hp
   rw [meet_eq hs hp, Option.bind_some]
   unfold screen_moved
   unfold Bnd at hm hs
   rw [w64_id (n := (meetR s.On p.On).1.X - s.On.X) (by omega), w64_id (n := (meetR s.On p.On).1.Y - s.On.Y) (by omega), Option.bind_some, appL_ok _ _ (by simp; omega)]
   cases (meetR s.On p.On).2 with
   | true => rfl
   | false => simp
  rw [forR, hB, Option.bind_some]
  simp only
  rw [views_prog s hs l (k + 1) _ (fun q hq => h q (by simp [hq])) (by have := viewOf_len s p; rw [List.length_append]; omega), List.flatMap_cons, List.append_assoc]
theorem views_ref (L : Layout) (w : Wall) (s : Screen) (hs : Bnd s.On) (sc : Piece → Piece) : ∀ (l : List Piece) (k : Nat) (out : List View), (∀ p ∈ l, ref_scaled p.On L.W L.H w.W w.H = some (sc p).On ∧ (sc p).Zone = p.Zone ∧ Bnd (sc p).On) → out.length + l.length ≤ 1000000 → forR (fun k x t => ref_ViewsOf_L1 L w s k x t) l k out = some (.go (out ++ (l.map sc).flatMap (viewOf s)))
 | [], k, out, _, _ => by simp [forR]
 | p :: l, k, out, h, hl => by
  simp only [List.length_cons] at hl
  obtain ⟨h1, h2, hp⟩ := h p (by simp)
  have hB : ref_ViewsOf_L1 L w s k p out = some (.go (out ++ viewOf s (sc p))) := by
   unfold ref_ViewsOf_L1 viewOf
   have hm := meetR_bnd hs hp
   rw [h1, Option.bind_some, rmeet_eq hs hp, Option.bind_some, h2]
   unfold Bnd at hm hs
   rw [w64_id (n := (meetR s.On (sc p).On).1.X - s.On.X) (by omega), w64_id (n := (meetR s.On (sc p).On).1.Y - s.On.Y) (by omega), appL_ok _ _ (by simp; omega)]
   cases (meetR s.On (sc p).On).2 with
   | true => rfl
   | false => simp
  rw [forR, hB, Option.bind_some]
  simp only
  rw [views_ref L w s hs sc l (k + 1) _ (fun q hq => h q (by simp [hq])) (by have := viewOf_len s (sc p); rw [List.length_append]; omega), List.map_cons, List.flatMap_cons, List.append_assoc]
theorem views_pos (s : Screen) : ∀ l : List Piece, (∀ p ∈ l, p.On = ⟨0, 0, 0, 0⟩ ∨ p.On.W > 0) → (l.filter (fun p => decide (p.On.W > 0))).flatMap (viewOf s) = l.flatMap (viewOf s)
 | [], _ => rfl
 | p :: l, h => by
  have ih := views_pos s l (fun q hq => h q (by simp [hq]))
  rw [List.filter_cons]
  cases hc : decide (p.On.W > 0) with
  | true => simp only [if_true, List.flatMap_cons, ih]
  | false =>
   simp only [Bool.false_eq_true, if_false, List.flatMap_cons, ih]
   have e : viewOf s p = [] := by
    rcases h p (by simp) with k | k
    ·unfold viewOf; rw [k, meetR_zero]; rfl
    ·simp only [decide_eq_false_iff_not] at hc; exact absurd k hc
   rw [e, List.nil_append]
theorem view_area (s : Screen) (p : Piece) : sumL (fun v : View => v.On.W * v.On.H) (viewOf s p) = (meetR s.On p.On).1.W * (meetR s.On p.On).1.H := by
 unfold viewOf
 cases hc : (meetR s.On p.On).2 with
 | true => simp [sumL]
 | false =>
  have : (meetR s.On p.On).1 = ⟨0, 0, 0, 0⟩ := by
   unfold meetR at hc ⊢
   cases hd : decide (min (s.On.X + s.On.W) (p.On.X + p.On.W) - max s.On.X p.On.X ≤ 0) || decide (min (s.On.Y + s.On.H) (p.On.Y + p.On.H) - max s.On.Y p.On.Y ≤ 0) with
   | true => rfl
   | false => rw [hd] at hc; cases hc
  rw [this]; rfl
end Go.Proofs.YtiekkaelpgahoaaGreat.Law

