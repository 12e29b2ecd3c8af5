import Derived.Test.YtiekkaelpgahoaaGreatRmRow
/-
  PLAIN LEMMAS: rows one below the other.
-/
open Go Go.Eng
namespace Go.Proofs.YtiekkaelpgahoaaGreat.Law
set_option linter.unusedVariables false
set_option linter.unusedSimpArgs false

noncomputable def regL3 (is : Int → Int → Option Bool) (r_6 : (List Int)) (r_4 : (List Int)) (s_13 : (List Rect) × (List Rect) × Int) : Option (Ctl ((List Rect) × (List Rect) × Int) (Unit)) :=
 bif (decide ((w64 (s_13.2.2 + 1)) < (r_6.length : Int))) then (loopO (([] : List Rect), 0) (fun s => rowL1 is r_4 r_6 s_13 s)).bind fun o_36 => thenC o_36 (fun s_30 => (slices_EqualFunc_api_Rect_api_Rect_api_Rect_api_Rect_v3 s_30.1 s_13.2.1).bind fun r_85 => (bif r_85 then some (decide ((s_30.1.length : Int) > 0)) else some false).bind fun v_87 => bif v_87 then (forL (List.range ((s_13.2.1.length : Int)).toNat) s_13.2.1 (fun k x s => ref_regionOf_v1_L2 s_30 k x s)).bind fun o_99 => thenC o_99 (fun s_96 => some (.go (s_13.1, s_96, (w64 (s_13.2.2 + 1))))) (fun _ => none) else (appL s_13.1 s_13.2.1).bind fun a_110 => some (.go (a_110, s_30.1, (w64 (s_13.2.2 + 1))))) (fun _ => none) else some (.brk (s_13.1, s_13.2.1, s_13.2.2))
theorem Run.eq {a b : Run} (h1 : a.f_from = b.f_from) (h2 : a.f_to = b.f_to) : a = b := by
 obtain ⟨x, y⟩ := a
 obtain ⟨z, w⟩ := b
 simp only at h1 h2
 rw [h1, h2]
theorem eqR_loop (b : List Run) : ∀ (a : List Run) (k : Nat), b.length = k + a.length →
  (forR (fun k x s => slices_Equal_screen_run_screen_run_L1 b k x s) a k () = some (.go ()) ∧ a = b.drop k) ∨ (forR (fun k x s => slices_Equal_screen_run_screen_run_L1 b k x s) a k () = some (.ret false) ∧ a ≠ b.drop k)
 | [], k, h => .inl ⟨rfl, by simp at h; rw [List.drop_eq_nil_of_le (by omega)]⟩
 | x :: a, k, h => by
  simp only [List.length_cons] at h
  have hlt : k < b.length := by omega
  have hg : idx b (k : Int) = some b[k] := by rw [idx_nat, List.getElem?_eq_getElem hlt]
  have hd : b.drop k = b[k] :: b.drop (k + 1) := List.drop_eq_getElem_cons hlt
  rw [forR, hd]
  have hb : slices_Equal_screen_run_screen_run_L1 b k x () = some (bif (x.f_from == b[k].f_from) && (x.f_to == b[k].f_to) then .go () else .ret false) := by
   unfold slices_Equal_screen_run_screen_run_L1
   rw [hg, Option.bind_some]
   cases x.f_from == b[k].f_from <;> cases x.f_to == b[k].f_to <;> rfl
  rw [hb, Option.bind_some]
  cases he : (x.f_from == b[k].f_from) && (x.f_to == b[k].f_to) with
  | true =>
   simp only [Bool.and_eq_true] at he
   have hx : x = b[k] := Run.eq (eq_of_beq he.1) (eq_of_beq he.2)
   simp only [cond_true]
   rcases eqR_loop b a (k + 1) (by omega) with ⟨h1, h2⟩ | ⟨h1, h2⟩
   ·exact .inl ⟨h1, by rw [hx, ← h2]⟩
   ·exact .inr ⟨h1, fun e => h2 (List.cons.inj e).2⟩
  | false =>
   simp only [cond_false]
   refine .inr ⟨trivial, fun e => ?_⟩
   have hx := (List.cons.inj e).1
   rw [hx] at he; simp at he
theorem eqR (a b : List Run) (h : a.length ≤ 1000000) : (slices_Equal_screen_run_screen_run a b = some true ∧ a = b) ∨ (slices_Equal_screen_run_screen_run a b = some false ∧ a ≠ b) := by
 unfold slices_Equal_screen_run_screen_run
 by_cases hl : a.length = b.length
 ·have : ((a.length : Int) != (b.length : Int)) = false := by rw [hl]; simp
  rw [this, cond_false, forL_eq (by omega)]
  rcases eqR_loop b a 0 (by omega) with ⟨h1, h2⟩ | ⟨h1, h2⟩
  ·exact .inl ⟨by rw [h1]; rfl, by simpa using h2⟩
  ·exact .inr ⟨by rw [h1]; rfl, by simpa using h2⟩
 ·have : ((a.length : Int) != (b.length : Int)) = true := by simp; omega
  rw [this, cond_true]
  exact .inr ⟨rfl, fun e => hl (by rw [e])⟩
theorem eqF_loop (y h fr : Int) (a b : List Run) (hab : a.length = b.length) (ha : ∀ r ∈ a, Okr r) (hb : ∀ r ∈ b, Okr r) (hy : Bd y) (hf : Bd fr) : ∀ (L : List Nat) (k : Nat), k + L.length = a.length →
  (forR (fun k x s => slices_EqualFunc_api_Rect_api_Rect_api_Rect_api_Rect_v3_L1 (a.map (toRect y h)) (b.map (toRect fr (y - fr))) k x s) L k () = some (.go ()) ∧ a.drop k = b.drop k) ∨ (forR (fun k x s => slices_EqualFunc_api_Rect_api_Rect_api_Rect_api_Rect_v3_L1 (a.map (toRect y h)) (b.map (toRect fr (y - fr))) k x s) L k () = some (.ret false) ∧ a.drop k ≠ b.drop k)
 | [], k, hk => .inl ⟨rfl, by simp at hk; rw [List.drop_eq_nil_of_le (by omega), List.drop_eq_nil_of_le (by omega)]⟩
 | x :: L, k, hk => by
  simp only [List.length_cons] at hk
  have hl1 : k < a.length := by omega
  have hl2 : k < b.length := by omega
  have hd1 : a.drop k = a[k] :: a.drop (k + 1) := List.drop_eq_getElem_cons hl1
  have hd2 : b.drop k = b[k] :: b.drop (k + 1) := List.drop_eq_getElem_cons hl2
  have i1 : inR (k : Int) (a.map (toRect y h)) = some () := inR_at (by simpa using hl1)
  have i2 : inR (k : Int) (b.map (toRect fr (y - fr))) = some () := inR_at (by simpa using hl2)
  have g1 : (a.map (toRect y h))[0 + (k : Int).toNat]? = some (toRect y h a[k]) := by rw [show 0 + (k : Int).toNat = k by omega, List.getElem?_map, List.getElem?_eq_getElem hl1]; rfl
  have g2 : (b.map (toRect fr (y - fr)))[0 + (k : Int).toNat]? = some (toRect fr (y - fr) b[k]) := by rw [show 0 + (k : Int).toNat = k by omega, List.getElem?_map, List.getElem?_eq_getElem hl2]; rfl
  have hB : slices_EqualFunc_api_Rect_api_Rect_api_Rect_api_Rect_v3_L1 (a.map (toRect y h)) (b.map (toRect fr (y - fr))) k x () = some (bif (a[k].f_from == b[k].f_from) && (a[k].f_to - a[k].f_from == b[k].f_to - b[k].f_from) then .go () else .ret false) := by
   unfold slices_EqualFunc_api_Rect_api_Rect_api_Rect_api_Rect_v3_L1
   simp only [i1, i2, g1, g2, Option.bind_some]
   unfold ref_regionOf_3
   have e : (toRect y h a[k]).Y == w64 ((toRect fr (y - fr) b[k]).Y + (toRect fr (y - fr) b[k]).H) := by
    show y == w64 (fr + (y - fr))
    unfold Bd at *
    rw [w64_id (by omega), show fr + (y - fr) = y by omega]; simp
   rw [e]
   show ((bif a[k].f_from == b[k].f_from then bif a[k].f_to - a[k].f_from == b[k].f_to - b[k].f_from then some true else some false else some false).bind fun v_5 => some v_5).bind _ = _
   cases a[k].f_from == b[k].f_from <;> cases a[k].f_to - a[k].f_from == b[k].f_to - b[k].f_from <;> rfl
  rw [forR, hB, hd1, hd2, Option.bind_some]
  cases he : (a[k].f_from == b[k].f_from) && (a[k].f_to - a[k].f_from == b[k].f_to - b[k].f_from) with
  | true =>
   simp only [Bool.and_eq_true] at he
   have e1 := eq_of_beq he.1
   have e2 := eq_of_beq he.2
   have hx : a[k] = b[k] := Run.eq e1 (by omega)
   simp only [cond_true]
   rcases eqF_loop y h fr a b hab ha hb hy hf L (k + 1) (by omega) with ⟨h1, h2⟩ | ⟨h1, h2⟩
   ·exact .inl ⟨h1, by rw [hx, h2]⟩
   ·exact .inr ⟨h1, fun e => h2 (List.cons.inj e).2⟩
  | false =>
   simp only [cond_false]
   refine .inr ⟨trivial, fun e => ?_⟩
   have hx := (List.cons.inj e).1
   rw [hx] at he; simp at he
theorem eqF (y h fr : Int) (a b : List Run) (hal : a.length ≤ 1000000) (ha : ∀ r ∈ a, Okr r) (hb : ∀ r ∈ b, Okr r) (hy : Bd y) (hf : Bd fr) :
  (slices_EqualFunc_api_Rect_api_Rect_api_Rect_api_Rect_v3 (a.map (toRect y h)) (b.map (toRect fr (y - fr))) = some true ∧ a = b) ∨ (slices_EqualFunc_api_Rect_api_Rect_api_Rect_api_Rect_v3 (a.map (toRect y h)) (b.map (toRect fr (y - fr))) = some false ∧ a ≠ b) := by
 unfold slices_EqualFunc_api_Rect_api_Rect_api_Rect_api_Rect_v3
 simp only [List.length_map]
 by_cases hl : a.length = b.length
 ·have : ((a.length : Int) != (b.length : Int)) = false := by rw [hl]; simp
  rw [this, cond_false, forL_eq (by simp; omega)]
  rcases eqF_loop y h fr a b hl ha hb hy hf (List.range ((a.length : Int)).toNat) 0 (by simp) with ⟨h1, h2⟩ | ⟨h1, h2⟩
  ·exact .inl ⟨by rw [h1]; rfl, by simpa using h2⟩
  ·exact .inr ⟨by rw [h1]; rfl, by simpa using h2⟩
 ·have : ((a.length : Int) != (b.length : Int)) = true := by simp; omega
  rw [this, cond_true]
  exact .inr ⟨rfl, fun e => hl (by rw [e])⟩
theorem grow_loop (y fr h h2 : Int) (b : List Run) (i : Int) (hb : w64 (h + h2) = h + h2) : ∀ (L : List Nat) (k : Nat), k + L.length = b.length →
  forR (fun k x s => ref_regionOf_v1_L2 (b.map (toRect y h2), i) k x s) L k ((b.take k).map (toRect fr (h + h2)) ++ (b.drop k).map (toRect fr h)) = some (.go (b.map (toRect fr (h + h2))))
 | [], k, hk => by
  simp only [List.length_nil, Nat.add_zero] at hk
  rw [hk, List.take_length, List.drop_length]; simp [forR]
 | x :: L, k, hk => by
  simp only [List.length_cons] at hk
  have hlt : k < b.length := by omega
  have hd : b.drop k = b[k] :: b.drop (k + 1) := List.drop_eq_getElem_cons hlt
  have htl : ((b.take k).map (toRect fr (h + h2))).length = k := by simp; omega
  have hB : ref_regionOf_v1_L2 (b.map (toRect y h2), i) k x ((b.take k).map (toRect fr (h + h2)) ++ (b.drop k).map (toRect fr h)) = some (.go ((b.take (k + 1)).map (toRect fr (h + h2)) ++ (b.drop (k + 1)).map (toRect fr h))) := by
   unfold ref_regionOf_v1_L2
   have i1 : inR (k : Int) ((b.take k).map (toRect fr (h + h2)) ++ (b.drop k).map (toRect fr h)) = some () := inR_at (by simp; omega)
   have i2 : inR (k : Int) (b.map (toRect y h2)) = some () := inR_at (by simpa using hlt)
   have g1 : ((b.take k).map (toRect fr (h + h2)) ++ (b.drop k).map (toRect fr h))[0 + (k : Int).toNat]? = some (toRect fr h b[k]) := by
    rw [show 0 + (k : Int).toNat = k by omega, List.getElem?_append_right (by omega), htl, hd, Nat.sub_self]; rfl
   have g2 : (b.map (toRect y h2))[0 + (k : Int).toNat]? = some (toRect y h2 b[k]) := by rw [show 0 + (k : Int).toNat = k by omega, List.getElem?_map, List.getElem?_eq_getElem hlt]; rfl
   simp only [i1, i2, g1, g2, Option.bind_some]
   congr 2
   rw [show 0 + (k : Int).toNat = k by omega, List.set_append_right _ _ (by omega), htl, hd, Nat.sub_self, List.map_cons, List.set_cons_zero, List.take_add_one, List.getElem?_eq_getElem hlt]
   simp only [Option.toList_some, List.map_append, List.map_cons, List.map_nil, List.append_assoc, List.cons_append, List.nil_append]
   congr 2
   show (⟨b[k].f_from, fr, b[k].f_to - b[k].f_from, w64 (h + h2)⟩ : Rect) = _
   rw [hb]; rfl
  rw [forR, hB, Option.bind_some]
  exact grow_loop y fr h h2 b i hb L (k + 1) (by omega)
theorem emit_loop (s : List Rect × List Run × Int) (y : Int) (hy : Bd y) (hf : Bd s.2.2) : ∀ (b : List Run) (k : Nat) (out : List Rect), (∀ r ∈ b, Okr r) → out.length + b.length ≤ 10000000 → forR (fun k x t => screen_region_L2 s y k x t) b k out = some (.go (out ++ b.map (toRect s.2.2 (y - s.2.2))))
 | [], k, out, _, _ => by simp [forR]
 | r :: b, k, out, hb, hl => by
  simp only [List.length_cons] at hl
  obtain ⟨r1, r2, r3⟩ := hb r (by simp)
  have hB : screen_region_L2 s y k r out = some (.go (out ++ [toRect s.2.2 (y - s.2.2) r])) := by
   unfold screen_region_L2
   unfold Bd at *
   rw [w64_id (n := r.f_to - r.f_from) (by omega), w64_id (n := y - s.2.2) (by omega), appL_ok _ _ (by simp; omega)]; rfl
  rw [forR, hB, Option.bind_some]
  simp only
  rw [emit_loop s y hy hf b (k + 1) _ (fun r hr => hb r (by simp [hr])) (by simp; omega)]
  simp
end Go.Proofs.YtiekkaelpgahoaaGreat.Law

