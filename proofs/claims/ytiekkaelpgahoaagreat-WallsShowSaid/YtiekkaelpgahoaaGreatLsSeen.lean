import Derived.Test.YtiekkaelpgahoaaGreatLsZone
/-
  PLAIN LEMMAS: the pieces that are seen; the zones that are covered.
-/
open Go Go.Eng
namespace Go.Proofs.YtiekkaelpgahoaaGreat.Law
set_option linter.unusedVariables false
set_option linter.unusedSimpArgs false

def piecesFrom (Rf : Nat → List Rect) : List Zone → Nat → List Piece
 | [], _ => []
 | z :: l, k => (Rf k).map (fun r => (⟨z.Key, r⟩ : Piece)) ++ piecesFrom Rf l (k + 1)
theorem pieces_len (Rf : Nat → List Rect) (B : Nat) : ∀ (l : List Zone) (k : Nat), (∀ j, k ≤ j → j < k + l.length → (Rf j).length ≤ B) → (piecesFrom Rf l k).length ≤ B * l.length
 | [], _, _ => Nat.zero_le _
 | z :: l, k, h => by
  have h1 := h k (Nat.le_refl _) (by simp)
  have h2 := pieces_len Rf B l (k + 1) (fun j a b => h j (by omega) (by simp; omega))
  rw [piecesFrom, List.length_append, List.length_map, List.length_cons, Nat.mul_succ]; omega
theorem push_loop (z : Zone) {body : Nat → Rect → List Piece → Option (Ctl (List Piece) Unit)} : ∀ (l : List Rect) (k : Nat) (s : List Piece), (∀ k r s, s.length ≤ 1000000 → body k r s = some (.go (s ++ [(⟨z.Key, r⟩ : Piece)]))) → s.length + l.length ≤ 1000000 → forR body l k s = some (.go (s ++ l.map (fun r => (⟨z.Key, r⟩ : Piece))))
 | [], k, s, _, _ => by simp [forR]
 | r :: l, k, s, h, hl => by
  simp only [List.length_cons] at hl
  rw [forR, h k r s (by omega), Option.bind_some]
  simp only
  rw [push_loop z l (k + 1) _ h (by simp; omega)]
  simp
section
variable (L : Layout) (Rf : Nat → List Rect)
  (hR : ∀ (k : Nat) (z : Zone), L.Zones[k]? = some z → screen_seenOf L k = some (Rf k) ∧ ref_regionOf_v1 (L.Zones.map (·.On)) L z = some (Rf k) ∧ (Rf k).length ≤ 78)
include hR
theorem seen_loop : ∀ (l : List Zone) (k : Nat) (s : List Piece), L.Zones.drop k = l → s.length + 78 * l.length ≤ 100000 →
  forR (fun k x s => screen_seen_L2 L k x s) l k s = some (.go (s ++ piecesFrom Rf l k)) ∧ forR (fun k x s => ref_SeenOf_L3 (L.Zones.map (·.On)) L k x s) l k s = some (.go (s ++ piecesFrom Rf l k))
 | [], k, s, _, _ => by simp [forR, piecesFrom]
 | z :: l, k, s, h, hs => by
  have hg := drop_get h
  obtain ⟨h1, h2, h3⟩ := hR k z hg
  simp only [List.length_cons] at hs
  have b1 : screen_seen_L2 L k z s = some (.go (s ++ (Rf k).map (fun r => (⟨z.Key, r⟩ : Piece)))) := by
   unfold screen_seen_L2
   rw [h1, Option.bind_some, forL_eq (by omega), push_loop z (Rf k) 0 s (fun k r s hs => by unfold screen_seen_L1; rw [appL_ok _ _ (by simp; omega)]; rfl) (by omega)]; rfl
  have b2 : ref_SeenOf_L3 (L.Zones.map (·.On)) L k z s = some (.go (s ++ (Rf k).map (fun r => (⟨z.Key, r⟩ : Piece)))) := by
   unfold ref_SeenOf_L3
   rw [h2, Option.bind_some, forL_eq (by omega), push_loop z (Rf k) 0 s (fun k r s hs => by unfold ref_SeenOf_L2; rw [appL_ok _ _ (by simp; omega)]; rfl) (by omega)]; rfl
  obtain ⟨c1, c2⟩ := seen_loop l (k + 1) (s ++ (Rf k).map (fun r => (⟨z.Key, r⟩ : Piece))) (drop_next h) (by rw [List.length_append, List.length_map]; omega)
  rw [forR, forR, b1, b2, piecesFrom, ← List.append_assoc]
  exact ⟨c1, c2⟩
end
theorem on_loop {body : Nat → Zone → List Rect → Option (Ctl (List Rect) Unit)} : ∀ (l : List Zone) (k : Nat) (s : List Rect), (∀ k r s, s.length ≤ 1000000 → body k r s = some (.go (s ++ [r.On]))) → s.length + l.length ≤ 1000000 → forR body l k s = some (.go (s ++ l.map (·.On)))
 | [], k, s, _, _ => by simp [forR]
 | r :: l, k, s, h, hl => by
  simp only [List.length_cons] at hl
  rw [forR, h k r s (by omega), Option.bind_some]
  simp only
  rw [on_loop l (k + 1) _ h (by simp; omega)]
  simp
theorem seenAll (L : Layout) (hz : ∀ z ∈ L.Zones, Fine z.On ∧ keyB z.Key = true) (hp : L.Zones.Pairwise (fun a b => lt a.Key b.Key)) (hl : L.Zones.length ≤ 5) :
  ∃ Rf : Nat → List Rect, (∀ (k : Nat) (z : Zone), L.Zones[k]? = some z → screen_seenOf L k = some (Rf k) ∧ ref_regionOf_v1 (L.Zones.map (·.On)) L z = some (Rf k) ∧ (Rf k).length ≤ 78 ∧
   ∃ bs : List Band, Rf k = flatB bs ∧ CanonB (-200000) bs ∧ (∀ y, CanonFrom (-200000) (rowAt bs y) ∧ (∀ r ∈ rowAt bs y, Okr r) ∧ ∀ x, mem x (rowAt bs y) ↔ SeenP L.Zones k x y) ∧ ∃ above : List Rect, (∀ r ∈ above, Fine r) ∧ Fine z.On ∧ ∀ x y, SeenP L.Zones k x y ↔ hasP [z.On] x y ∧ ¬ hasP above x y) ∧
   screen_seen L = some (piecesFrom Rf L.Zones 0, 0) ∧ ref_SeenOf L = some (piecesFrom Rf L.Zones 0) ∧ (piecesFrom Rf L.Zones 0).length ≤ 390 := by
 have ex : ∀ k : Nat, ∃ R : List Rect, ∀ z : Zone, L.Zones[k]? = some z → screen_seenOf L k = some R ∧ ref_regionOf_v1 (L.Zones.map (·.On)) L z = some R ∧ R.length ≤ 78 ∧
   ∃ bs : List Band, R = flatB bs ∧ CanonB (-200000) bs ∧ (∀ y, CanonFrom (-200000) (rowAt bs y) ∧ (∀ r ∈ rowAt bs y, Okr r) ∧ ∀ x, mem x (rowAt bs y) ↔ SeenP L.Zones k x y) ∧ ∃ above : List Rect, (∀ r ∈ above, Fine r) ∧ Fine z.On ∧ ∀ x y, SeenP L.Zones k x y ↔ hasP [z.On] x y ∧ ¬ hasP above x y := fun k => by
  cases hk : L.Zones[k]? with
  | none => exact ⟨[], fun z h => by cases h⟩
  | some zk =>
   obtain ⟨R, h⟩ := seenOf_ok L hz hp hl k zk hk
   refine ⟨R, fun z h' => ?_⟩
   simp only [Option.some.injEq] at h'
   subst h'; exact h
 obtain ⟨Rf, hRf⟩ := Classical.axiomOfChoice ex
 have hR3 : ∀ (k : Nat) (z : Zone), L.Zones[k]? = some z → screen_seenOf L k = some (Rf k) ∧ ref_regionOf_v1 (L.Zones.map (·.On)) L z = some (Rf k) ∧ (Rf k).length ≤ 78 := fun k z h => ⟨(hRf k z h).1, (hRf k z h).2.1, (hRf k z h).2.2.1⟩
 obtain ⟨s1, s2⟩ := seen_loop L Rf hR3 L.Zones 0 [] rfl (by simp; omega)
 have hlen : (piecesFrom Rf L.Zones 0).length ≤ 78 * L.Zones.length := pieces_len Rf 78 L.Zones 0 (fun j _ hj => (hR3 j _ (List.getElem?_eq_getElem (by omega))).2.2)
 have hlen' : (piecesFrom Rf L.Zones 0).length ≤ 390 := by omega
 refine ⟨Rf, fun k z h => hRf k z h, ?_, ?_, hlen'⟩
 ·unfold screen_seen
  rw [forL_eq (by omega), s1]
  have : decide (((piecesFrom Rf L.Zones 0).length : Int) > 2000) = false := by simp; omega
  simp only [Option.bind_some, thenC, List.nil_append, this, cond_false]
 ·unfold ref_SeenOf
  rw [forL_eq (by omega), on_loop L.Zones 0 [] (fun k r s hs => by unfold ref_SeenOf_L1; rw [appL_ok _ _ (by simp; omega)]; rfl) (by simp; omega)]
  simp only [Option.bind_some, thenC, List.nil_append]
  rw [forL_eq (by omega), s2]; rfl
end Go.Proofs.YtiekkaelpgahoaaGreat.Law

