import Derived.Test.YtiekkaelpgahoaaGreatLsZone
/-
  PLAIN LEMMAS: the pieces that are seen; the zones that are covered.
-/
open Go Go.Eng
namespace Go.Proofs.YtiekkaelpgahoaaGreat.Law
set_option linter.unusedVariables false
set_option linter.unusedSimpArgs false

def piecesFrom (Rf : Nat → List Rect) : List Zone → Nat → List Piece
  | [], _ => []
  | z :: l, k => (Rf k).map (fun r => (⟨z.Key, r⟩ : Piece)) ++ piecesFrom Rf l (k + 1)
def coveredFrom (Rf : Nat → List Rect) : List Zone → Nat → List ByteArray
  | [], _ => []
  | z :: l, k => (bif (Rf k).length == 0 then [z.Key] else []) ++ coveredFrom Rf l (k + 1)
theorem pieces_len (Rf : Nat → List Rect) (B : Nat) : ∀ (l : List Zone) (k : Nat), (∀ j, k ≤ j → j < k + l.length → (Rf j).length ≤ B) → (piecesFrom Rf l k).length ≤ B * l.length
  | [], _, _ => Nat.zero_le _
  | z :: l, k, h => by
    have h1 := h k (Nat.le_refl _) (by simp)
    have h2 := pieces_len Rf B l (k + 1) (fun j a b => h j (by omega) (by simp; omega))
    rw [piecesFrom, List.length_append, List.length_map, List.length_cons, Nat.mul_succ]; omega
theorem covered_len (Rf : Nat → List Rect) : ∀ (l : List Zone) (k : Nat), (coveredFrom Rf l k).length ≤ l.length
  | [], _ => Nat.le_refl _
  | z :: l, k => by
    have := covered_len Rf l (k + 1)
    rw [coveredFrom, List.length_append, List.length_cons]
    cases (Rf k).length == 0 <;> simp <;> omega
theorem push_loop (z : Zone) {body : Nat → Rect → List Piece → Option (Ctl (List Piece) Unit)} : ∀ (l : List Rect) (k : Nat) (s : List Piece), (∀ k r s, s.length ≤ 1000000 → body k r s = some (.go (s ++ [(⟨z.Key, r⟩ : Piece)]))) → s.length + l.length ≤ 1000000 → forR body l k s = some (.go (s ++ l.map (fun r => (⟨z.Key, r⟩ : Piece))))
  | [], k, s, _, _ => by simp [forR]
  | r :: l, k, s, h, hl => by
    simp only [List.length_cons] at hl
    rw [forR, h k r s (by omega), Option.bind_some]
    simp only
    rw [push_loop z l (k + 1) _ h (by simp; omega)]
    simp
section
variable (L : Layout) (Rf : Nat → List Rect)
    (hR : ∀ (k : Nat) (z : Zone), L.Zones[k]? = some z → screen_seenOf L k = some (Rf k) ∧ ref_regionOf_v1 (L.Zones.map (·.On)) L z = some (Rf k) ∧ (Rf k).length ≤ 78)
include hR
theorem seen_loop : ∀ (l : List Zone) (k : Nat) (s : List Piece), L.Zones.drop k = l → s.length + 78 * l.length ≤ 100000 →
    forR (fun k x s => screen_seen_L2 L k x s) l k s = some (.go (s ++ piecesFrom Rf l k)) ∧ forR (fun k x s => ref_SeenOf_L3 (L.Zones.map (·.On)) L k x s) l k s = some (.go (s ++ piecesFrom Rf l k))
  | [], k, s, _, _ => by simp [forR, piecesFrom]
  | z :: l, k, s, h, hs => by
    have hg := drop_get h
    obtain ⟨h1, h2, h3⟩ := hR k z hg
    simp only [List.length_cons] at hs
    have b1 : screen_seen_L2 L k z s = some (.go (s ++ (Rf k).map (fun r => (⟨z.Key, r⟩ : Piece)))) := by
      unfold screen_seen_L2
      rw [h1, Option.bind_some, forL_eq (by omega), push_loop z (Rf k) 0 s (fun k r s hs => by unfold screen_seen_L1; rw [appL_ok _ _ (by simp; omega)]; rfl) (by omega)]; rfl
    have b2 : ref_SeenOf_L3 (L.Zones.map (·.On)) L k z s = some (.go (s ++ (Rf k).map (fun r => (⟨z.Key, r⟩ : Piece)))) := by
      unfold ref_SeenOf_L3
      rw [h2, Option.bind_some, forL_eq (by omega), push_loop z (Rf k) 0 s (fun k r s hs => by unfold ref_SeenOf_L2; rw [appL_ok _ _ (by simp; omega)]; rfl) (by omega)]; rfl
    obtain ⟨c1, c2⟩ := seen_loop l (k + 1) (s ++ (Rf k).map (fun r => (⟨z.Key, r⟩ : Piece))) (drop_next h) (by rw [List.length_append, List.length_map]; omega)
    rw [forR, forR, b1, b2, piecesFrom, ← List.append_assoc]
    exact ⟨c1, c2⟩
theorem covered_loop : ∀ (l : List Zone) (k : Nat) (s : List ByteArray), L.Zones.drop k = l → s.length + l.length ≤ 100000 →
    forR (fun k x s => screen_Covered_L1 L k x s) l k s = some (.go (s ++ coveredFrom Rf l k))
  | [], k, s, _, _ => by simp [forR, coveredFrom]
  | z :: l, k, s, h, hs => by
    have hg := drop_get h
    obtain ⟨h1, h2, h3⟩ := hR k z hg
    simp only [List.length_cons] at hs
    have e : (((Rf k).length : Int) == 0) = ((Rf k).length == 0) := by rw [Bool.eq_iff_iff]; simp
    have b1 : screen_Covered_L1 L k z s = some (.go (s ++ bif (Rf k).length == 0 then [z.Key] else [])) := by
      unfold screen_Covered_L1
      rw [h1, Option.bind_some, e]
      cases (Rf k).length == 0 with
      | true => rw [cond_true, appL_ok _ _ (by simp; omega)]; rfl
      | false => simp
    have c1 := covered_loop l (k + 1) (s ++ bif (Rf k).length == 0 then [z.Key] else []) (drop_next h) (by cases (Rf k).length == 0 <;> simp <;> omega)
    rw [forR, b1, coveredFrom, ← List.append_assoc]
    exact c1
end
theorem on_loop {body : Nat → Zone → List Rect → Option (Ctl (List Rect) Unit)} : ∀ (l : List Zone) (k : Nat) (s : List Rect), (∀ k r s, s.length ≤ 1000000 → body k r s = some (.go (s ++ [r.On]))) → s.length + l.length ≤ 1000000 → forR body l k s = some (.go (s ++ l.map (·.On)))
  | [], k, s, _, _ => by simp [forR]
  | r :: l, k, s, h, hl => by
    simp only [List.length_cons] at hl
    rw [forR, h k r s (by omega), Option.bind_some]
    simp only
    rw [on_loop l (k + 1) _ h (by simp; omega)]
    simp
/-! ### a piece of a zone? -/
theorem has_piece (z : Zone) : ∀ (l : List Piece) (k : Nat), (forR (fun k x s => slices_IndexFunc_api_Piece_api_Piece_L1 (fun x0 => ref_CoveredOf_1 x0 z) k x s) l k () = some (.go ()) ∧ (l.any fun p => sEq p.Zone z.Key) = false) ∨ ∃ j : Nat, forR (fun k x s => slices_IndexFunc_api_Piece_api_Piece_L1 (fun x0 => ref_CoveredOf_1 x0 z) k x s) l k () = some (.ret (j : Int)) ∧ (l.any fun p => sEq p.Zone z.Key) = true
  | [], k => .inl ⟨rfl, rfl⟩
  | p :: l, k => by
    have hB : slices_IndexFunc_api_Piece_api_Piece_L1 (fun x0 => ref_CoveredOf_1 x0 z) k p () = some (bif sEq p.Zone z.Key then .ret (k : Int) else .go ()) := by
      unfold slices_IndexFunc_api_Piece_api_Piece_L1 ref_CoveredOf_1
      show (some (sEq p.Zone z.Key)).bind _ = _
      cases sEq p.Zone z.Key <;> rfl
    rw [forR, hB, Option.bind_some, List.any_cons]
    cases sEq p.Zone z.Key with
    | true => exact .inr ⟨k, rfl, rfl⟩
    | false => exact has_piece z l (k + 1)
theorem contains_piece (z : Zone) (l : List Piece) (hl : l.length ≤ 1000000) : slices_ContainsFunc_api_Piece_api_Piece l (fun x0 => ref_CoveredOf_1 x0 z) = some (l.any fun p => sEq p.Zone z.Key) := by
  unfold slices_ContainsFunc_api_Piece_api_Piece slices_IndexFunc_api_Piece_api_Piece
  rw [forL_eq (by omega)]
  rcases has_piece z l 0 with ⟨h1, h2⟩ | ⟨j, h1, h2⟩
  · rw [h1, h2]; rfl
  · rw [h1, h2]
    simp only [Option.bind_some, thenC]
    have : decide ((j : Int) ≥ 0) = true := by simp
    rw [this]
theorem any_pieces (Rf : Nat → List Rect) (key : ByteArray) : ∀ (l : List Zone) (k : Nat), ((piecesFrom Rf l k).any fun p => sEq p.Zone key) = true ↔ ∃ (j : Nat) (z : Zone), l[j]? = some z ∧ z.Key = key ∧ (Rf (k + j)).length ≠ 0
  | [], k => by simp [piecesFrom]
  | z :: l, k => by
    rw [piecesFrom, List.any_append, Bool.or_eq_true, any_pieces Rf key l (k + 1)]
    constructor
    · rintro (h | ⟨j, z', h1, h2, h3⟩)
      · rw [List.any_map, List.any_eq_true] at h
        obtain ⟨r, hr, h⟩ := h
        refine ⟨0, z, rfl, (sEq_iff _ _).1 h, ?_⟩
        rw [Nat.add_zero]
        exact fun e => by rw [List.eq_nil_of_length_eq_zero e] at hr; cases hr
      · exact ⟨j + 1, z', by simpa using h1, h2, by rw [show k + (j + 1) = k + 1 + j by omega]; exact h3⟩
    · rintro ⟨j, z', h1, h2, h3⟩
      cases j with
      | zero =>
        left
        simp only [List.getElem?_cons_zero, Option.some.injEq] at h1
        subst h1
        rw [Nat.add_zero] at h3
        obtain ⟨r, hr⟩ := List.exists_mem_of_ne_nil (Rf k) (fun e => h3 (by rw [e]; rfl))
        rw [List.any_map, List.any_eq_true]
        exact ⟨r, hr, (sEq_iff _ _).2 h2⟩
      | succ j => exact .inr ⟨j, z', by simpa using h1, h2, by rw [show k + 1 + j = k + (j + 1) by omega]; exact h3⟩
theorem key_inj {zs : List Zone} (hp : zs.Pairwise (fun a b => lt a.Key b.Key)) {i k : Nat} {a b : Zone} (ha : zs[i]? = some a) (hb : zs[k]? = some b) (e : a.Key = b.Key) : i = k := by
  obtain ⟨l1, e1⟩ := List.getElem?_eq_some_iff.1 ha
  obtain ⟨l2, e2⟩ := List.getElem?_eq_some_iff.1 hb
  rcases Nat.lt_trichotomy i k with g | g | g
  · exfalso
    have := (List.pairwise_iff_getElem.1 hp) i k l1 l2 g
    rw [e1, e2, e] at this
    exact lt_irr _ this
  · exact g
  · exfalso
    have := (List.pairwise_iff_getElem.1 hp) k i l2 l1 g
    rw [e1, e2, e] at this
    exact lt_irr _ this
theorem coveredOf_loop (L : Layout) (Rf : Nat → List Rect) (P : List Piece) (hP : ref_SeenOf L = some P) (hPl : P.length ≤ 1000000) (hPe : P = piecesFrom Rf L.Zones 0) (hp : L.Zones.Pairwise (fun a b => lt a.Key b.Key)) : ∀ (l : List Zone) (k : Nat) (s : List ByteArray), L.Zones.drop k = l → s.length + l.length ≤ 100000 →
    forR (fun k x s => ref_CoveredOf_L1 L k x s) l k s = some (.go (s ++ coveredFrom Rf l k))
  | [], k, s, _, _ => by simp [forR, coveredFrom]
  | z :: l, k, s, h, hs => by
    have hg := drop_get h
    simp only [List.length_cons] at hs
    have e : (!(P.any fun p => sEq p.Zone z.Key)) = ((Rf k).length == 0) := by
      rw [Bool.eq_iff_iff, Bool.not_eq_true', ← Bool.not_eq_true, hPe, any_pieces, beq_iff_eq]
      constructor
      · intro h
        rcases Nat.eq_zero_or_pos (Rf k).length with g | g
        · exact g
        · exact absurd ⟨k, z, hg, rfl, by rw [Nat.zero_add]; omega⟩ h
      · rintro h ⟨j, z', h1, h2, h3⟩
        have := key_inj hp h1 hg h2
        subst this
        rw [Nat.zero_add] at h3
        exact h3 h
    have b1 : ref_CoveredOf_L1 L k z s = some (.go (s ++ bif (Rf k).length == 0 then [z.Key] else [])) := by
      unfold ref_CoveredOf_L1
      rw [hP, Option.bind_some, contains_piece z P hPl, Option.bind_some, e]
      cases (Rf k).length == 0 with
      | true => rw [cond_true, appL_ok _ _ (by simp; omega)]; rfl
      | false => simp
    have c1 := coveredOf_loop L Rf P hP hPl hPe hp l (k + 1) (s ++ bif (Rf k).length == 0 then [z.Key] else []) (drop_next h) (by cases (Rf k).length == 0 <;> simp <;> omega)
    rw [forR, b1, coveredFrom, ← List.append_assoc]
    exact c1
/-- What is seen of the zones of a right layout. -/
theorem seenAll (L : Layout) (hz : ∀ z ∈ L.Zones, Fine z.On ∧ keyB z.Key = true) (hp : L.Zones.Pairwise (fun a b => lt a.Key b.Key)) (hl : L.Zones.length ≤ 5) :
    ∃ Rf : Nat → List Rect, (∀ (k : Nat) (z : Zone), L.Zones[k]? = some z → screen_seenOf L k = some (Rf k) ∧ ref_regionOf_v1 (L.Zones.map (·.On)) L z = some (Rf k) ∧ (Rf k).length ≤ 78 ∧
      ∃ bs : List Band, Rf k = flatB bs ∧ CanonB (-200000) bs ∧ (∀ y, CanonFrom (-200000) (rowAt bs y) ∧ (∀ r ∈ rowAt bs y, Okr r) ∧ ∀ x, mem x (rowAt bs y) ↔ SeenP L.Zones k x y) ∧ ∃ above : List Rect, (∀ r ∈ above, Fine r) ∧ Fine z.On ∧ ∀ x y, SeenP L.Zones k x y ↔ hasP [z.On] x y ∧ ¬ hasP above x y) ∧
      screen_seen L = some (piecesFrom Rf L.Zones 0, 0) ∧ ref_SeenOf L = some (piecesFrom Rf L.Zones 0) ∧ (piecesFrom Rf L.Zones 0).length ≤ 390 := by
  have ex : ∀ k : Nat, ∃ R : List Rect, ∀ z : Zone, L.Zones[k]? = some z → screen_seenOf L k = some R ∧ ref_regionOf_v1 (L.Zones.map (·.On)) L z = some R ∧ R.length ≤ 78 ∧
      ∃ bs : List Band, R = flatB bs ∧ CanonB (-200000) bs ∧ (∀ y, CanonFrom (-200000) (rowAt bs y) ∧ (∀ r ∈ rowAt bs y, Okr r) ∧ ∀ x, mem x (rowAt bs y) ↔ SeenP L.Zones k x y) ∧ ∃ above : List Rect, (∀ r ∈ above, Fine r) ∧ Fine z.On ∧ ∀ x y, SeenP L.Zones k x y ↔ hasP [z.On] x y ∧ ¬ hasP above x y := fun k => by
    cases hk : L.Zones[k]? with
    | none => exact ⟨[], fun z h => by cases h⟩
    | some zk =>
      obtain ⟨R, h⟩ := seenOf_ok L hz hp hl k zk hk
      refine ⟨R, fun z h' => ?_⟩
      simp only [Option.some.injEq] at h'
      subst h'; exact h
  obtain ⟨Rf, hRf⟩ := Classical.axiomOfChoice ex
  have hR3 : ∀ (k : Nat) (z : Zone), L.Zones[k]? = some z → screen_seenOf L k = some (Rf k) ∧ ref_regionOf_v1 (L.Zones.map (·.On)) L z = some (Rf k) ∧ (Rf k).length ≤ 78 := fun k z h => ⟨(hRf k z h).1, (hRf k z h).2.1, (hRf k z h).2.2.1⟩
  obtain ⟨s1, s2⟩ := seen_loop L Rf hR3 L.Zones 0 [] rfl (by simp; omega)
  have hlen : (piecesFrom Rf L.Zones 0).length ≤ 78 * L.Zones.length := pieces_len Rf 78 L.Zones 0 (fun j _ hj => (hR3 j _ (List.getElem?_eq_getElem (by omega))).2.2)
  have hlen' : (piecesFrom Rf L.Zones 0).length ≤ 390 := by omega
  refine ⟨Rf, fun k z h => hRf k z h, ?_, ?_, hlen'⟩
  · unfold screen_seen
    rw [forL_eq (by omega), s1]
    have : decide (((piecesFrom Rf L.Zones 0).length : Int) > 2000) = false := by simp; omega
    simp only [Option.bind_some, thenC, List.nil_append, this, cond_false]
  · unfold ref_SeenOf
    rw [forL_eq (by omega), on_loop L.Zones 0 [] (fun k r s hs => by unfold ref_SeenOf_L1; rw [appL_ok _ _ (by simp; omega)]; rfl) (by simp; omega)]
    simp only [Option.bind_some, thenC, List.nil_append]
    rw [forL_eq (by omega), s2]; rfl
end Go.Proofs.YtiekkaelpgahoaaGreat.Law

