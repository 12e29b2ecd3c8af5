import Derived.Test.YtiekkaelpgahoaaGreatRmLess
import Derived.Test.YtiekkaelpgahoaaGreatRmCompact
/-
  PLAIN LEMMAS: the reference's rows.
-/
open Go Go.Eng
namespace Go.Proofs.YtiekkaelpgahoaaGreat.Law
set_option linter.unusedVariables false
set_option linter.unusedSimpArgs false

def rowL1 (is : Int → Int → Option Bool) (r_4 : (List Int)) (r_6 : (List Int)) (s_13 : (List Rect) × (List Rect) × Int) (s_30 : (List Rect) × Int) : Option (Ctl ((List Rect) × Int) (Unit)) :=
 bif (decide ((w64 (s_30.2 + 1)) < (r_4.length : Int))) then (idx r_4 s_30.2).bind fun y_39 => (idx r_6 s_13.2.2).bind fun y_41 => (is y_39 y_41).bind fun r_43 => bif (!r_43) then some (.go (s_30.1, (w64 (s_30.2 + 1)))) else (bif (decide ((w64 ((s_30.1.length : Int) - 1)) ≥ 0)) then (inR (w64 ((s_30.1.length : Int) - 1)) s_30.1).bind fun _ => (s_30.1[(0 + ((w64 ((s_30.1.length : Int) - 1))).toNat)]?).bind fun e_51 => (inR (w64 ((s_30.1.length : Int) - 1)) s_30.1).bind fun _ => (s_30.1[(0 + ((w64 ((s_30.1.length : Int) - 1))).toNat)]?).bind fun e_54 => (idx r_4 s_30.2).bind fun y_56 => some ((w64 (e_51.X + e_54.W)) == y_56) else some false).bind fun v_47 => (bif v_47 then (idx r_4 (w64 (s_30.2 + 1))).bind fun y_62 => (inR (w64 ((s_30.1.length : Int) - 1)) s_30.1).bind fun _ => (s_30.1[(0 + ((w64 ((s_30.1.length : Int) - 1))).toNat)]?).bind fun e_65 => (inR (w64 ((s_30.1.length : Int) - 1)) s_30.1).bind fun _ => (s_30.1[(0 + ((w64 ((s_30.1.length : Int) - 1))).toNat)]?).bind fun e_68 => some (s_30.1.set (0 + ((w64 ((s_30.1.length : Int) - 1))).toNat) (⟨e_68.X, e_68.Y, (w64 (y_62 - e_65.X)), e_68.H⟩ : Rect)) else (idx r_4 s_30.2).bind fun y_70 => (idx r_6 s_13.2.2).bind fun y_72 => (idx r_4 (w64 (s_30.2 + 1))).bind fun y_74 => (idx r_4 s_30.2).bind fun y_76 => (idx r_6 (w64 (s_13.2.2 + 1))).bind fun y_78 => (idx r_6 s_13.2.2).bind fun y_80 => (appL s_30.1 ([(⟨y_70, y_72, (w64 (y_74 - y_76)), (w64 (y_78 - y_80))⟩ : Rect)] : List Rect)).bind fun a_82 => some a_82).bind fun v_58 => some (.go (v_58, (w64 (s_30.2 + 1)))) else some (.brk (s_30.1, s_30.2))
def toRect (y h : Int) (r : Run) : Rect := ⟨r.f_from, y, r.f_to - r.f_from, h⟩
def Bd (x : Int) : Prop := -100000 ≤ x ∧ x ≤ 100000

section
variable {is : Int → Int → Option Bool} {xs ys : List Int} {s13 : (List Rect) × (List Rect) × Int} {y y2 : Int} {j : Nat}
theorem rowL1_end (row : List Rect) (i : Nat) (hi : xs.length ≤ i + 1) (hx : i ≤ 1000000) : rowL1 is xs ys s13 (row, (i : Int)) = some (.brk (row, (i : Int))) := by
 unfold rowL1
 have hc : decide (w64 ((i : Int) + 1) < (xs.length : Int)) = false := by rw [w64_id (by omega)]; simp; omega
 rw [hc, cond_false]
theorem rowL1_not (row : List Rect) (i : Nat) {a : Int} (hi : i + 1 < xs.length) (hx : xs.length ≤ 1000000) (ha : xs[i]? = some a) (hj : s13.2.2 = (j : Int)) (hy : ys[j]? = some y) (hs : is a y = some false) : rowL1 is xs ys s13 (row, (i : Int)) = some (.go (row, ((i + 1 : Nat) : Int))) := by
 unfold rowL1
 have hw : w64 ((i : Int) + 1) = ((i + 1 : Nat) : Int) := by rw [w64_id (by omega)]; rfl
 have hc : decide (((i + 1 : Nat) : Int) < (xs.length : Int)) = true := by simp; omega
 simp only [hw, hc, cond_true, idx_nat, ha, hj, hy, Option.bind_some, hs, Bool.not_false]
theorem rowL1_yes (L : List Run) (i : Nat) {a b : Int} (hi : i + 1 < xs.length) (hx : xs.length ≤ 1000000) (ha : xs[i]? = some a) (hb : xs[i + 1]? = some b) (hj : s13.2.2 = (j : Int)) (hj2 : j ≤ 1000000) (hy : ys[j]? = some y) (hy2 : ys[j + 1]? = some y2) (hs : is a y = some true)
  (hL : ∀ r ∈ L, Okr r) (hLl : L.length ≤ 1000000) (hba : Bd a) (hbb : Bd b) (hby : Bd y) (hby2 : Bd y2) :
  rowL1 is xs ys s13 (L.map (toRect y (y2 - y)), (i : Int)) = some (.go ((match L.getLast? with
   | some q => bif q.f_to == a then L.dropLast ++ [(⟨q.f_from, b⟩ : Run)] else L ++ [(⟨a, b⟩ : Run)]
   | none => [(⟨a, b⟩ : Run)]).map (toRect y (y2 - y)), ((i + 1 : Nat) : Int))) := by
 unfold rowL1
 have hw : w64 ((i : Int) + 1) = ((i + 1 : Nat) : Int) := by rw [w64_id (by omega)]; rfl
 have hwj : w64 ((j : Int) + 1) = ((j + 1 : Nat) : Int) := by rw [w64_id (by omega)]; rfl
 have hc : decide (((i + 1 : Nat) : Int) < (xs.length : Int)) = true := by simp; omega
 have e1 : w64 (b - a) = b - a := by unfold Bd at *; exact w64_id (by omega)
 have e2 : w64 (y2 - y) = y2 - y := by unfold Bd at *; exact w64_id (by omega)
 rcases List.eq_nil_or_concat L with h | ⟨M, q, h⟩
 ·subst h
  have hd : decide (w64 ((((([] : List Run).map (toRect y (y2 - y))).length : Nat) : Int) - 1) ≥ 0) = false := rfl
  simp only [hw, hwj, hc, cond_true, idx_nat, ha, hb, hj, hy, hy2, Option.bind_some, hs, Bool.not_true, cond_false, hd, e1, e2, List.map_nil]
  rw [appL_ok _ _ (by simp)]
  rfl
 ·subst h
  simp only [List.concat_eq_append] at hL hLl ⊢
  obtain ⟨q1, q2, q3⟩ := hL q (by simp)
  have hlm : (M.map (toRect y (y2 - y)) ++ [toRect y (y2 - y) q]).length = M.length + 1 := by simp
  have hll : M.length ≤ 1000000 := by simp at hLl; omega
  have hwl : w64 (((M.length + 1 : Nat) : Int) - 1) = (M.length : Int) := by rw [w64_id (by omega)]; omega
  have hd : decide ((M.length : Int) ≥ 0) = true := by simp
  have hr : inR (M.length : Int) (M.map (toRect y (y2 - y)) ++ [toRect y (y2 - y) q]) = some () := inR_at (by simp)
  have hg : (M.map (toRect y (y2 - y)) ++ [toRect y (y2 - y) q])[0 + ((M.length : Nat) : Int).toNat]? = some (toRect y (y2 - y) q) := by rw [show 0 + ((M.length : Nat) : Int).toNat = (M.map (toRect y (y2 - y))).length by simp]; exact get_0 _ [] _
  have hset : ∀ z, (M.map (toRect y (y2 - y)) ++ [toRect y (y2 - y) q]).set (0 + ((M.length : Nat) : Int).toNat) z = M.map (toRect y (y2 - y)) ++ [z] := fun z => by
   rw [show 0 + ((M.length : Nat) : Int).toNat = (M.map (toRect y (y2 - y))).length by simp, List.set_append_right _ _ (Nat.le_refl _)]; simp
  have e3 : w64 ((toRect y (y2 - y) q).X + (toRect y (y2 - y) q).W) = q.f_to := by show w64 (q.f_from + (q.f_to - q.f_from)) = _; rw [w64_id (by omega)]; omega
  have e4 : w64 (b - (toRect y (y2 - y) q).X) = b - q.f_from := by show w64 (b - q.f_from) = _; unfold Bd at *; exact w64_id (by omega)
  simp only [List.map_append, List.map_cons, List.map_nil, hw, hwj, hc, cond_true, idx_nat, ha, hb, hj, hy, hy2, Option.bind_some, hs, Bool.not_true, cond_false, hlm, hwl, hd, hr, hg, hset, e1, e2, e3, e4, List.getLast?_append, List.getLast?_singleton, Option.some_or, List.dropLast_concat]
  rw [appL_ok _ _ (by simp; omega)]
  cases q.f_to == a with
  | true => simp only [cond_true, Option.bind_some, List.map_append, List.map_cons, List.map_nil]; rfl
  | false => simp only [cond_false, Option.bind_some, List.map_append, List.map_cons, List.map_nil]; rfl
theorem row_loop (P : Int → Prop) (hx : xs.length ≤ 1000000) (hj : s13.2.2 = (j : Int)) (hj2 : j ≤ 1000000) (hy : ys[j]? = some y) (hy2 : ys[j + 1]? = some y2) (hby : Bd y) (hby2 : Bd y2) (hbx : ∀ x ∈ xs, Bd x) (hxs : xs.Pairwise (· < ·))
  (his : ∀ a ∈ xs, ∃ b, is a y = some b ∧ (b = true ↔ P a)) (hcell : ∀ (i : Nat) (a b : Int), xs[i]? = some a → xs[i + 1]? = some b → ∀ x, a ≤ x → x < b → (P x ↔ P a)) :
  ∀ (n i : Nat) (L : List Run), i + 1 + n = xs.length → CanonFrom (-200000) L → (∀ r ∈ L, Okr r) → (∀ a, xs[i]? = some a → EndOf (-200000) L ≤ a ∧ ∀ x, mem x L ↔ (x < a ∧ (∃ a0, xs[0]? = some a0 ∧ a0 ≤ x) ∧ P x)) → L.length ≤ i →
  ∃ R : List Run, iterN (fun t => rowL1 is xs ys s13 t) (n + 1) (L.map (toRect y (y2 - y)), (i : Int)) = some (.go (R.map (toRect y (y2 - y)), ((i + n : Nat) : Int))) ∧ CanonFrom (-200000) R ∧ (∀ r ∈ R, Okr r) ∧ (∀ a, xs[i + n]? = some a → ∀ x, mem x R ↔ (x < a ∧ (∃ a0, xs[0]? = some a0 ∧ a0 ≤ x) ∧ P x)) ∧ R.length ≤ i + n
 | 0, i, L, hn, hc, ho, hm, hl => by
  refine ⟨L, ?_, hc, ho, fun a ha => (hm a ha).2, by omega⟩
  rw [iterN, rowL1_end _ i (by omega) (by omega)]; rfl
 | n + 1, i, L, hn, hc, ho, hm, hl => by
  have hlt : i + 1 < xs.length := by omega
  have ha : xs[i]? = some (xs[i]'(by omega)) := List.getElem?_eq_getElem (by omega)
  have hb : xs[i + 1]? = some xs[i + 1] := List.getElem?_eq_getElem hlt
  have hab : xs[i]'(by omega) < xs[i + 1] := (List.pairwise_iff_getElem.1 hxs) i (i + 1) (by omega) hlt (by omega)
  have h0 : xs[0]? = some (xs[0]'(by omega)) := List.getElem?_eq_getElem (by omega)
  have h0i : xs[0]'(by omega) ≤ xs[i]'(by omega) := by
   rcases Nat.eq_zero_or_pos i with e | e
   ·subst e; exact Int.le_refl _
   ·exact Int.le_of_lt ((List.pairwise_iff_getElem.1 hxs) 0 i (by omega) (by omega) e)
  generalize hae : xs[i]'(by omega) = a at *
  generalize hbe : xs[i + 1] = b at *
  have hba : Bd a := hbx a (by rw [← hae]; exact List.getElem_mem _)
  have hbb : Bd b := hbx b (by rw [← hbe]; exact List.getElem_mem _)
  obtain ⟨c, hs, hsP⟩ := his a (by rw [← hae]; exact List.getElem_mem _)
  obtain ⟨m1, m2⟩ := hm a ha
  have hcl := hcell i a b ha hb
  rw [iterN]
  cases c with
  | false =>
   have hnP : ¬ P a := fun k => by have := hsP.2 k; cases this
   rw [rowL1_not _ i hlt hx ha hj hy hs, Option.bind_some]
   obtain ⟨R, g1, g2, g3, g4, g5⟩ := row_loop P hx hj hj2 hy hy2 hby hby2 hbx hxs his hcell n (i + 1) L (by omega) hc ho (fun a' ha' => by
    rw [hb] at ha'
    simp only [Option.some.injEq] at ha'
    subst ha'
    refine ⟨by omega, fun x => ?_⟩
    rw [m2]
    constructor
    ·rintro ⟨k1, k2, k3⟩; exact ⟨by omega, k2, k3⟩
    ·rintro ⟨k1, k2, k3⟩
     refine ⟨?_, k2, k3⟩
     rcases Int.lt_or_le x a with k | k
     ·exact k
     ·exact absurd ((hcl x k k1).1 k3) hnP) (by omega)
   exact ⟨R, by rw [show i + (n + 1) = i + 1 + n by omega]; exact g1, g2, g3, by rw [show i + (n + 1) = i + 1 + n by omega]; exact g4, by omega⟩
  | true =>
   have hP : P a := hsP.1 rfl
   rw [rowL1_yes L i hlt hx ha hb hj hj2 hy hy2 hs ho (by omega) hba hbb hby hby2, Option.bind_some]
   have hPc : ∀ x, (x < b ∧ (∃ a0, xs[0]? = some a0 ∧ a0 ≤ x) ∧ P x) ↔ (x < a ∧ (∃ a0, xs[0]? = some a0 ∧ a0 ≤ x) ∧ P x) ∨ (a ≤ x ∧ x < b) := fun x => by
    constructor
    ·rintro ⟨k1, k2, k3⟩
     rcases Int.lt_or_le x a with k | k
     ·exact .inl ⟨k, k2, k3⟩
     ·exact .inr ⟨k, k1⟩
    ·rintro (⟨k1, k2, k3⟩ | ⟨k1, k2⟩)
     ·exact ⟨by omega, k2, k3⟩
     ·exact ⟨k2, ⟨_, h0, by omega⟩, (hcl x k1 k2).2 hP⟩
   have key : ∀ N : List Run, CanonFrom (-200000) N → (∀ r ∈ N, Okr r) → EndOf (-200000) N ≤ b → (∀ x, mem x N ↔ mem x L ∨ (a ≤ x ∧ x < b)) → N.length ≤ i + 1 →
     ∃ R : List Run, iterN (fun t => rowL1 is xs ys s13 t) (n + 1) (N.map (toRect y (y2 - y)), ((i + 1 : Nat) : Int)) = some (.go (R.map (toRect y (y2 - y)), ((i + (n + 1) : Nat) : Int))) ∧ CanonFrom (-200000) R ∧ (∀ r ∈ R, Okr r) ∧ (∀ a, xs[i + (n + 1)]? = some a → ∀ x, mem x R ↔ (x < a ∧ (∃ a0, xs[0]? = some a0 ∧ a0 ≤ x) ∧ P x)) ∧ R.length ≤ i + (n + 1) := by
    intro N n1 n2 n3 n4 n5
    obtain ⟨R, g1, g2, g3, g4, g5⟩ := row_loop P hx hj hj2 hy hy2 hby hby2 hbx hxs his hcell n (i + 1) N (by omega) n1 n2 (fun a' ha' => by
     rw [hb] at ha'
     simp only [Option.some.injEq] at ha'
     subst ha'
     exact ⟨n3, fun x => by rw [n4, m2, hPc]⟩) n5
    exact ⟨R, by rw [show i + (n + 1) = i + 1 + n by omega]; exact g1, g2, g3, by rw [show i + (n + 1) = i + 1 + n by omega]; exact g4, by omega⟩
   unfold Bd at hba hbb
   rcases List.eq_nil_or_concat L with h | ⟨M, q, h⟩
   ·subst h
    simp only [List.getLast?_nil]
    refine key [⟨a, b⟩] ⟨by show (-200000 : Int) < a; omega, hab, trivial⟩ (fun r hr => by rw [List.mem_singleton] at hr; subst hr; exact ⟨hba.1, hab, hbb.2⟩) (Int.le_refl _) (fun x => by rw [mem_cons]; simp [mem_nil]) (by simp)
   ·subst h
    simp only [List.concat_eq_append] at hc ho m1 hl ⊢ key
    simp only [List.getLast?_append, List.getLast?_singleton, Option.some_or, List.dropLast_concat]
    obtain ⟨c1, c2, c3, _⟩ := canon_app.1 hc
    have hend : EndOf (-200000) (M ++ [q]) = q.f_to := by rw [end_app]; rfl
    rw [hend] at m1
    obtain ⟨q1, q2, q3⟩ := ho q (by simp)
    simp only [List.length_append, List.length_cons, List.length_nil] at hl
    cases he : q.f_to == a with
    | true =>
     have he := eq_of_beq he
     simp only [cond_true]
     refine key (M ++ [⟨q.f_from, b⟩]) (canon_app.2 ⟨c1, c2, by show q.f_from < b; omega, trivial⟩) (fun r hr => ?_) (by rw [end_app]; exact Int.le_refl _) (fun x => ?_) (by simp; omega)
     ·rcases List.mem_append.1 hr with hr | hr
      ·exact ho r (by simp [hr])
      ·rw [List.mem_singleton] at hr; subst hr; exact ⟨q1, by show q.f_from < b; omega, hbb.2⟩
     ·rw [mem_app, mem_app, mem_cons, mem_cons]
      simp only [mem_nil, or_false]
      constructor
      ·rintro (k | k)
       ·exact .inl (.inl k)
       ·by_cases hx' : x < q.f_to
        ·exact .inl (.inr ⟨k.1, hx'⟩)
        ·exact .inr ⟨by omega, k.2⟩
      ·rintro ((k | k) | k)
       ·exact .inl k
       ·exact .inr ⟨k.1, by omega⟩
       ·exact .inr ⟨by omega, k.2⟩
    | false =>
     have he : q.f_to ≠ a := by simpa using he
     simp only [cond_false]
     refine key (M ++ [q] ++ [⟨a, b⟩]) (canon_app.2 ⟨hc, by rw [hend]; show q.f_to < a; omega, hab, trivial⟩) (fun r hr => ?_) (by rw [end_app]; exact Int.le_refl _) (fun x => ?_) (by simp; omega)
     ·rcases List.mem_append.1 hr with hr | hr
      ·exact ho r hr
      ·rw [List.mem_singleton] at hr; subst hr; exact ⟨hba.1, hab, hbb.2⟩
     ·rw [mem_app (M := [⟨a, b⟩]), mem_cons]; simp [mem_nil]
end
end Go.Proofs.YtiekkaelpgahoaaGreat.Law

