/-
  THE PLAIN LAW (part 3).
-/
import Derived.Test.YtpojeclokolkaaaGreatDoorPl2
import Derived.Test.YtpojeclokolkaaaGreatDoorDefs
open Go Go.Eng
namespace Go.Proofs.YtpojeclokolkaaaGreatDoor.Law
set_option linter.unusedVariables false
set_option linter.unusedSimpArgs false
theorem rightRectF (s : Stream) {b : Int} (hs : Ok s b) (hb : b ≤ 900000) : ∃ r s', mk_Stream_RightRect s = some (r, s') ∧ Fine r ∧ (-2 ≤ r.X ∧ r.X ≤ 8 ∧ -2 ≤ r.Y ∧ r.Y ≤ 8 ∧ r.W ≤ 5 ∧ r.H ≤ 5) ∧ Ok s' (b + 4) := by
 unfold mk_Stream_RightRect
 obtain ⟨X, q1, c1, c2, c3, c4⟩ := range_ok s (-2) 8 hs (by omega) (by decide) (by decide) (by decide)
 obtain ⟨Y, q2, d1, d2, d3, d4⟩ := range_ok q1 (-2) 8 c4 (by omega) (by decide) (by decide) (by decide)
 obtain ⟨U, q3, e1, e2, e3, e4⟩ := range_ok q2 1 5 d4 (by omega) (by decide) (by decide) (by decide)
 obtain ⟨V, q4, f1, f2, f3, f4⟩ := range_ok q3 1 5 e4 (by omega) (by decide) (by decide) (by decide)
 simp only [c1, d1, e1, f1, Option.bind_some]
 refine ⟨_, _, rfl, ?_, by simp only []; omega, f4.mono (by omega)⟩
 unfold Fine
 simp only []; omega
theorem Meet_fine {a b : Rect} (ha : Fine a) (hb : Fine b) : screen_Meet a b = some ((meetR a b).1, (meetR a b).2, 0) := by
 have hl : forL (List.range (2 : Int).toNat) () (fun k x s => screen_Meet_L1 a b k x s) = some (.go ()) := by
  rw [forL_eq (by simp)]
  show forR _ [0, 1] 0 () = _
  simp only [forR, screen_Meet_L1]
  rw [show idx [a, b] ((0 : Nat) : Int) = some a from rfl, show idx [a, b] ((0 + 1 : Nat) : Int) = some b from rfl]
  simp only [Option.bind_some, checkRect_eq, fine_badR ha, fine_badR hb]
  rfl
 unfold screen_Meet
 rw [hl, Option.bind_some, meet_eq ha.bnd hb.bnd]
 rfl
theorem sumN_bnd {f : Int → Int} {c lo : Int} (h : ∀ x, 0 ≤ f x ∧ f x ≤ c) : ∀ n : Nat, 0 ≤ sumN f lo n ∧ sumN f lo n ≤ c * n
 | 0 => by simp [sumN]
 | n + 1 => by
  have ih := sumN_bnd (lo := lo) h n
  have hx := h (lo + n)
  have e : c * ((n + 1 : Nat) : Int) = c * (n : Int) + c := by rw [Int.natCast_add, Int.mul_add]; simp
  rw [e]
  simp only [sumN]
  omega
theorem SS_bnd {f : Int → Int → Int} {lo : Int} (h : ∀ x y, 0 ≤ f x y ∧ f x y ≤ 1) (n : Nat) (hn : n = 200000) : 0 ≤ SS lo n f ∧ SS lo n f ≤ 40000000000 := by
 have h1 := sumN_bnd (f := fun y => sumN (fun x => f x y) lo n) (c := 1 * n) (lo := lo) (fun y => sumN_bnd (fun x => h x y) n) n
 unfold SS
 rw [hn] at h1 ⊢
 exact ⟨h1.1, h1.2⟩
end Go.Proofs.YtpojeclokolkaaaGreatDoor.Law

open Go Go.Eng
namespace Go.Proofs.YtpojeclokolkaaaGreatDoor.Law
set_option linter.unusedVariables false
set_option linter.unusedSimpArgs false
def loopF {σ ρ : Type} (s : σ) (body : σ → Option (Ctl σ ρ)) : Option (Ctl σ ρ) := iterN body 300 s
def Le {α : Type} (a b : Option α) : Prop := ∀ r, a = some r → b = some r
theorem Le.refl {α : Type} (a : Option α) : Le a a := fun _ h => h
theorem Le.bind {α β : Type} {a b : Option α} {f g : α → Option β} (h : Le a b) (k : ∀ x, Le (f x) (g x)) : Le (a.bind f) (b.bind g) := fun r e => by
 obtain ⟨x, h1, h2⟩ := Option.bind_eq_some_iff.1 e
 rw [h x h1]; exact k x r h2
theorem Le.cond {α : Type} {a b c d : Option α} {t : Bool} (h : Le a c) (k : Le b d) : Le (bif t then a else b) (bif t then c else d) := by
 cases t
 ·exact k
 ·exact h
theorem Le.thenC {σ ρ τ : Type} {o : Ctl σ ρ} {f f' : σ → Option τ} {g g' : ρ → Option τ} (h : ∀ x, Le (f x) (f' x)) (k : ∀ x, Le (g x) (g' x)) : Le (Go.Eng.thenC o f g) (Go.Eng.thenC o f' g') := by
 cases o
 ·exact h _
 ·exact Le.refl _
 ·exact k _
theorem Le.forR {α σ ρ : Type} {b b' : Nat → α → σ → Option (Ctl σ ρ)} (h : ∀ k x s, Le (b k x s) (b' k x s)) : ∀ (xs : List α) (k : Nat) (s : σ), Le (Go.Eng.forR b xs k s) (Go.Eng.forR b' xs k s)
 | [], k, s => Le.refl _
 | x :: xs, k, s => Le.bind (h k x s) (fun c => by
   cases c with
   | go s' => exact Le.forR h xs _ _
   | brk s' => exact Le.refl _
   | ret r => exact Le.refl _)
theorem Le.forL {α σ ρ : Type} {xs : List α} {s : σ} {b b' : Nat → α → σ → Option (Ctl σ ρ)} (h : ∀ k x s, Le (b k x s) (b' k x s)) : Le (Go.Eng.forL xs s b) (Go.Eng.forL xs s b') := by
 unfold Go.Eng.forL
 split
 ·exact Le.forR h xs 0 s
 ·exact Le.refl _
theorem Le.iterN {σ ρ : Type} {b b' : σ → Option (Ctl σ ρ)} (h : ∀ s, Le (b s) (b' s)) : ∀ (n : Nat) (s : σ), Le (Go.Eng.iterN b n s) (Go.Eng.iterN b' n s)
 | 0, s => Le.refl _
 | n + 1, s => Le.bind (h s) (fun c => by
   cases c with
   | go s' => exact Le.iterN h n s'
   | brk s' => exact Le.refl _
   | ret r => exact Le.refl _)
theorem Le.loop {σ ρ : Type} {s : σ} {b b' : σ → Option (Ctl σ ρ)} (h : ∀ s, Le (b s) (b' s)) : Le (loopF s b) (loopO s b') := fun r e => iter_loopO (Le.iterN h _ _ r e)
end Go.Proofs.YtpojeclokolkaaaGreatDoor.Law

open Go Go.Eng
namespace Go.Proofs.YtpojeclokolkaaaGreatDoor.Law
set_option linter.unusedVariables false
set_option linter.unusedSimpArgs false
def insI (x : Int) : List Int → List Int
 | [] => [x]
 | y :: l => bif decide (x ≤ y) then x :: y :: l else y :: insI x l
def isortI : List Int → List Int
 | [] => []
 | x :: l => insI x (isortI l)
theorem insI_perm (x : Int) : ∀ l, (insI x l).Perm (x :: l)
 | [] => .refl _
 | y :: l => by
  unfold insI
  cases decide (x ≤ y) with
  | true => exact .refl _
  | false => exact ((insI_perm x l).cons y).trans (List.Perm.swap x y l)
theorem isortI_perm : ∀ l, (isortI l).Perm l
 | [] => .refl _
 | x :: l => (insI_perm x _).trans ((isortI_perm l).cons x)
theorem insI_sorted (x : Int) : ∀ l : List Int, l.Pairwise (· ≤ ·) → (insI x l).Pairwise (· ≤ ·)
 | [], _ => List.pairwise_singleton _ _
 | y :: l, h => by
  obtain ⟨h1, h2⟩ := List.pairwise_cons.1 h
  unfold insI
  by_cases hx : x ≤ y
  ·rw [decide_eq_true hx, cond_true]
   exact List.pairwise_cons.2 ⟨fun z hz => by
    rcases List.mem_cons.1 hz with rfl | hz
    ·exact hx
    ·exact Int.le_trans hx (h1 z hz), h⟩
  ·rw [decide_eq_false hx, cond_false]
   exact List.pairwise_cons.2 ⟨fun z hz => by
    rcases List.mem_cons.1 ((insI_perm x l).mem_iff.1 hz) with rfl | hz
    ·omega
    ·exact h1 z hz, insI_sorted x l h2⟩
theorem isortI_sorted : ∀ l, (isortI l).Pairwise (· ≤ ·)
 | [] => .nil
 | x :: l => insI_sorted x _ (isortI_sorted l)
theorem isortI_eq (l : List Int) : l.mergeSort (fun x y => decide (x ≤ y)) = isortI l := by
 refine List.Perm.eq_of_pairwise (le := (· ≤ ·)) (fun a b _ _ h1 h2 => Int.le_antisymm h1 h2) ?_ (isortI_sorted l) ((List.mergeSort_perm l _).trans (isortI_perm l).symm)
 have := List.pairwise_mergeSort (le := fun (x y : Int) => decide (x ≤ y)) (fun a b c => by simp; omega) (fun a b => by simp; omega) l
 exact this.imp (by simp)
def sortF (l : List Int) : Option (List Int) := bif Nat.ble l.length 1000 then some (isortI l) else none
theorem sortF_le (l : List Int) : Le (sortF l) (slices_Sort_int_int_v1 l) := fun r h => by
 unfold sortF at h
 cases hb : Nat.ble l.length 1000 with
 | false => rw [hb] at h; cases h
 | true =>
  rw [hb, cond_true] at h
  have := Nat.le_of_ble_eq_true hb
  unfold slices_Sort_int_int_v1 sortI
  rw [if_pos (by omega), isortI_eq]; exact h
end Go.Proofs.YtpojeclokolkaaaGreatDoor.Law

open Go Go.Eng
namespace Go.Proofs.YtpojeclokolkaaaGreatDoor.Law
set_option linter.unusedVariables false
set_option linter.unusedSimpArgs false
set_option maxRecDepth 100000
def slices_Compact_int_int_v1_L2F (s_1 : (List Int)) (s_8 : Int) : Option (Ctl (Int) ((List Int))) :=
 bif (decide (s_8 < (s_1.length : Int))) then (inR s_8 s_1).bind fun _ => (s_1[(0 + (s_8).toNat)]?).bind fun e_15 => (inR (w64 (s_8 - 1)) s_1).bind fun _ => (s_1[(0 + ((w64 (s_8 - 1))).toNat)]?).bind fun e_18 => bif (e_15 == e_18) then (neL s_1).bind fun _ => (subR s_1 s_8 (s_1.length : Int)).bind fun _ => (loopF (s_1, s_8, 1) (fun s => slices_Compact_int_int_v1_L1 s_1 s_8 s)).bind fun o_31 => thenC o_31 (fun s_28 => (subR s_28.1 s_28.2.1 (s_28.1.length : Int)).bind fun _ => (subR (s_28.1.take ((s_28.2.1).toNat) ++ List.replicate (((s_28.1.length : Int)).toNat - (s_28.2.1).toNat) 0 ++ s_28.1.drop (((s_28.2.1).toNat) + (((s_28.1.length : Int)).toNat - (s_28.2.1).toNat))) 0 s_28.2.1).bind fun _ => some (.ret (cutL (s_28.1.take ((s_28.2.1).toNat) ++ List.replicate (((s_28.1.length : Int)).toNat - (s_28.2.1).toNat) 0 ++ s_28.1.drop (((s_28.2.1).toNat) + (((s_28.1.length : Int)).toNat - (s_28.2.1).toNat))) 0 ((s_28.2.1).toNat)))) (fun _ => none) else some (.go (w64 (s_8 + 1))) else some (.brk s_8)
theorem slices_Compact_int_int_v1_L2_le (s_1 : (List Int)) (s_8 : Int) : Le (slices_Compact_int_int_v1_L2F s_1 s_8) (slices_Compact_int_int_v1_L2 s_1 s_8) := by
 unfold slices_Compact_int_int_v1_L2F slices_Compact_int_int_v1_L2
 repeat' (with_reducible first | exact Le.refl _ | refine Le.loop (fun _ => ?_) | refine Le.forL (fun _ _ _ => ?_) | refine Le.thenC (fun _ => ?_) (fun _ => ?_) | refine Le.cond ?_ ?_ | refine Le.bind ?_ (fun _ => ?_))
def slices_Compact_int_int_v1F (s_1 : (List Int)) : Option ((List Int)) :=
 bif (decide ((s_1.length : Int) < 2)) then some s_1 else (loopF 1 (fun s => slices_Compact_int_int_v1_L2F s_1 s)).bind fun o_11 => thenC o_11 (fun s_8 => some s_1) (fun r => some r)
theorem slices_Compact_int_int_v1_le (s_1 : (List Int)) : Le (slices_Compact_int_int_v1F s_1) (slices_Compact_int_int_v1 s_1) := by
 unfold slices_Compact_int_int_v1F slices_Compact_int_int_v1
 repeat' (with_reducible first | exact Le.refl _ | exact slices_Compact_int_int_v1_L2_le _ _ | refine Le.loop (fun _ => ?_) | refine Le.forL (fun _ _ _ => ?_) | refine Le.thenC (fun _ => ?_) (fun _ => ?_) | refine Le.cond ?_ ?_ | refine Le.bind ?_ (fun _ => ?_))
def slices_insertionSortCmpFunc_screen_run_v1_L2F (b_3 : Int) (a_2 : Int) (s_10 : (List Run) × Int) : Option (Ctl ((List Run) × Int) (Unit)) :=
 bif (decide (s_10.2 < b_3)) then (loopF (s_10.1, s_10.2) (fun s => slices_insertionSortCmpFunc_screen_run_v1_L1 a_2 s)).bind fun o_24 => thenC o_24 (fun s_21 => some (.go (s_21.1, (w64 (s_10.2 + 1))))) (fun _ => none) else some (.brk (s_10.1, s_10.2))
theorem slices_insertionSortCmpFunc_screen_run_v1_L2_le (b_3 : Int) (a_2 : Int) (s_10 : (List Run) × Int) : Le (slices_insertionSortCmpFunc_screen_run_v1_L2F b_3 a_2 s_10) (slices_insertionSortCmpFunc_screen_run_v1_L2 b_3 a_2 s_10) := by
 unfold slices_insertionSortCmpFunc_screen_run_v1_L2F slices_insertionSortCmpFunc_screen_run_v1_L2
 repeat' (with_reducible first | exact Le.refl _ | refine Le.loop (fun _ => ?_) | refine Le.forL (fun _ _ _ => ?_) | refine Le.thenC (fun _ => ?_) (fun _ => ?_) | refine Le.cond ?_ ?_ | refine Le.bind ?_ (fun _ => ?_))
def slices_insertionSortCmpFunc_screen_run_v1F (data_1 : (List Run)) (a_2 : Int) (b_3 : Int) : Option ((List Run)) :=
 (loopF (data_1, (w64 (a_2 + 1))) (fun s => slices_insertionSortCmpFunc_screen_run_v1_L2F b_3 a_2 s)).bind fun o_13 => thenC o_13 (fun s_10 => some s_10.1) (fun _ => none)
theorem slices_insertionSortCmpFunc_screen_run_v1_le (data_1 : (List Run)) (a_2 : Int) (b_3 : Int) : Le (slices_insertionSortCmpFunc_screen_run_v1F data_1 a_2 b_3) (slices_insertionSortCmpFunc_screen_run_v1 data_1 a_2 b_3) := by
 unfold slices_insertionSortCmpFunc_screen_run_v1F slices_insertionSortCmpFunc_screen_run_v1
 repeat' (with_reducible first | exact Le.refl _ | exact slices_insertionSortCmpFunc_screen_run_v1_L2_le _ _ _ | refine Le.loop (fun _ => ?_) | refine Le.forL (fun _ _ _ => ?_) | refine Le.thenC (fun _ => ?_) (fun _ => ?_) | refine Le.cond ?_ ?_ | refine Le.bind ?_ (fun _ => ?_))
def slices_pdqsortCmpFunc_screen_run_v1_L1F (b_3 : Int) (a_2 : Int) (data_1 : (List Run)) (limit_4 : Int) (s_11 : Unit) : Option (Ctl (Unit) ((List Run))) :=
 bif (decide ((w64 (b_3 - a_2)) ≤ 12)) then (slices_insertionSortCmpFunc_screen_run_v1F data_1 a_2 b_3).bind fun r_17 => (sameL r_17 data_1).bind fun _ => some (.ret r_17) else bif (limit_4 == 0) then none else none
theorem slices_pdqsortCmpFunc_screen_run_v1_L1_le (b_3 : Int) (a_2 : Int) (data_1 : (List Run)) (limit_4 : Int) (s_11 : Unit) : Le (slices_pdqsortCmpFunc_screen_run_v1_L1F b_3 a_2 data_1 limit_4 s_11) (slices_pdqsortCmpFunc_screen_run_v1_L1 b_3 a_2 data_1 limit_4 s_11) := by
 unfold slices_pdqsortCmpFunc_screen_run_v1_L1F slices_pdqsortCmpFunc_screen_run_v1_L1
 repeat' (with_reducible first | exact Le.refl _ | exact slices_insertionSortCmpFunc_screen_run_v1_le _ _ _ | refine Le.loop (fun _ => ?_) | refine Le.forL (fun _ _ _ => ?_) | refine Le.thenC (fun _ => ?_) (fun _ => ?_) | refine Le.cond ?_ ?_ | refine Le.bind ?_ (fun _ => ?_))
def slices_pdqsortCmpFunc_screen_run_v1F (data_1 : (List Run)) (a_2 : Int) (b_3 : Int) (limit_4 : Int) : Option ((List Run)) :=
 (loopF () (fun s => slices_pdqsortCmpFunc_screen_run_v1_L1F b_3 a_2 data_1 limit_4 s)).bind fun o_14 => thenC o_14 (fun s_11 => some data_1) (fun r => some r)
theorem slices_pdqsortCmpFunc_screen_run_v1_le (data_1 : (List Run)) (a_2 : Int) (b_3 : Int) (limit_4 : Int) : Le (slices_pdqsortCmpFunc_screen_run_v1F data_1 a_2 b_3 limit_4) (slices_pdqsortCmpFunc_screen_run_v1 data_1 a_2 b_3 limit_4) := by
 unfold slices_pdqsortCmpFunc_screen_run_v1F slices_pdqsortCmpFunc_screen_run_v1
 repeat' (with_reducible first | exact Le.refl _ | exact slices_pdqsortCmpFunc_screen_run_v1_L1_le _ _ _ _ _ | refine Le.loop (fun _ => ?_) | refine Le.forL (fun _ _ _ => ?_) | refine Le.thenC (fun _ => ?_) (fun _ => ?_) | refine Le.cond ?_ ?_ | refine Le.bind ?_ (fun _ => ?_))
def slices_SortFunc_screen_run_screen_run_v1F (x_1 : (List Run)) : Option ((List Run)) :=
 (math_bits_Len (IntKind.u64.wrap (x_1.length : Int))).bind fun r_3 => (slices_pdqsortCmpFunc_screen_run_v1F x_1 0 (x_1.length : Int) r_3).bind fun r_5 => (sameL r_5 x_1).bind fun _ => some r_5
theorem slices_SortFunc_screen_run_screen_run_v1_le (x_1 : (List Run)) : Le (slices_SortFunc_screen_run_screen_run_v1F x_1) (slices_SortFunc_screen_run_screen_run_v1 x_1) := by
 unfold slices_SortFunc_screen_run_screen_run_v1F slices_SortFunc_screen_run_screen_run_v1
 repeat' (with_reducible first | exact Le.refl _ | exact slices_pdqsortCmpFunc_screen_run_v1_le _ _ _ _ | refine Le.loop (fun _ => ?_) | refine Le.forL (fun _ _ _ => ?_) | refine Le.thenC (fun _ => ?_) (fun _ => ?_) | refine Le.cond ?_ ?_ | refine Le.bind ?_ (fun _ => ?_))
def screen_runsF (l_1 : (List Rect)) (y_2 : Int) : Option ((List Run)) :=
 (forL l_1 ([] : List Run) (fun k x s => screen_runs_L1 y_2 k x s)).bind fun o_14 => thenC o_14 (fun s_8 => (slices_SortFunc_screen_run_screen_run_v1F s_8).bind fun r_27 => (sameL r_27 s_8).bind fun _ => (forL r_27 ([] : List Run) (fun k x s => screen_runs_L2 k x s)).bind fun o_41 => thenC o_41 (fun s_35 => some s_35) (fun _ => none)) (fun _ => none)
theorem screen_runs_le (l_1 : (List Rect)) (y_2 : Int) : Le (screen_runsF l_1 y_2) (screen_runs l_1 y_2) := by
 unfold screen_runsF screen_runs
 repeat' (with_reducible first | exact Le.refl _ | exact slices_SortFunc_screen_run_screen_run_v1_le _ | refine Le.loop (fun _ => ?_) | refine Le.forL (fun _ _ _ => ?_) | refine Le.thenC (fun _ => ?_) (fun _ => ?_) | refine Le.cond ?_ ?_ | refine Le.bind ?_ (fun _ => ?_))
def screen_less_L3F (m_2 : (List Run)) (k_3 : Nat) (x_5 : Run) (s_8 : (List Run) × Int) : Option (Ctl ((List Run) × Int) (Unit)) :=
 (loopF s_8.2 (fun s => screen_less_L1 m_2 x_5 s)).bind fun o_25 => thenC o_25 (fun s_22 => (loopF (s_8.1, s_22, x_5.f_from) (fun s => screen_less_L2 m_2 x_5 s)).bind fun o_43 => thenC o_43 (fun s_38 => (bif (decide (s_38.2.2 < x_5.f_to)) then (appL s_38.1 ([(⟨s_38.2.2, x_5.f_to⟩ : Run)] : List Run)).bind fun a_68 => some a_68 else some s_38.1).bind fun v_64 => some (.go (v_64, s_22))) (fun _ => none)) (fun _ => none)
theorem screen_less_L3_le (m_2 : (List Run)) (k_3 : Nat) (x_5 : Run) (s_8 : (List Run) × Int) : Le (screen_less_L3F m_2 k_3 x_5 s_8) (screen_less_L3 m_2 k_3 x_5 s_8) := by
 unfold screen_less_L3F screen_less_L3
 repeat' (with_reducible first | exact Le.refl _ | refine Le.loop (fun _ => ?_) | refine Le.forL (fun _ _ _ => ?_) | refine Le.thenC (fun _ => ?_) (fun _ => ?_) | refine Le.cond ?_ ?_ | refine Le.bind ?_ (fun _ => ?_))
def screen_lessF (l_1 : (List Run)) (m_2 : (List Run)) : Option ((List Run)) :=
 (forL l_1 (([] : List Run), 0) (fun k x s => screen_less_L3F m_2 k x s)).bind fun o_14 => thenC o_14 (fun s_8 => some s_8.1) (fun _ => none)
theorem screen_less_le (l_1 : (List Run)) (m_2 : (List Run)) : Le (screen_lessF l_1 m_2) (screen_less l_1 m_2) := by
 unfold screen_lessF screen_less
 repeat' (with_reducible first | exact Le.refl _ | exact screen_less_L3_le _ _ _ _ | refine Le.loop (fun _ => ?_) | refine Le.forL (fun _ _ _ => ?_) | refine Le.thenC (fun _ => ?_) (fun _ => ?_) | refine Le.cond ?_ ?_ | refine Le.bind ?_ (fun _ => ?_))
def screen_region_L3F (r_25 : (List Int)) (l_1 : (List Rect)) (m_2 : (List Rect)) (k_27 : Nat) (x_29 : Int) (s_32 : (List Rect) × (List Run) × Int) : Option (Ctl ((List Rect) × (List Run) × Int) (Unit)) :=
 (bif (decide ((w64 ((k_27 : Int) + 1)) < (r_25.length : Int))) then (screen_runsF l_1 x_29).bind fun r_45 => (screen_runsF m_2 x_29).bind fun r_47 => (screen_lessF r_45 r_47).bind fun r_49 => some r_49 else some ([] : List Run)).bind fun v_42 => (slices_Equal_screen_run_screen_run s_32.2.1 v_42).bind fun r_51 => bif r_51 then some (.go (s_32.1, s_32.2.1, s_32.2.2)) else (forL s_32.2.1 s_32.1 (fun k x s => screen_region_L2 s_32 x_29 k x s)).bind fun o_64 => thenC o_64 (fun s_59 => some (.go (s_59, v_42, x_29))) (fun _ => none)
theorem screen_region_L3_le (r_25 : (List Int)) (l_1 : (List Rect)) (m_2 : (List Rect)) (k_27 : Nat) (x_29 : Int) (s_32 : (List Rect) × (List Run) × Int) : Le (screen_region_L3F r_25 l_1 m_2 k_27 x_29 s_32) (screen_region_L3 r_25 l_1 m_2 k_27 x_29 s_32) := by
 unfold screen_region_L3F screen_region_L3
 repeat' (with_reducible first | exact Le.refl _ | exact screen_runs_le _ _ | exact screen_less_le _ _ | refine Le.loop (fun _ => ?_) | refine Le.forL (fun _ _ _ => ?_) | refine Le.thenC (fun _ => ?_) (fun _ => ?_) | refine Le.cond ?_ ?_ | refine Le.bind ?_ (fun _ => ?_))
def screen_regionF (l_1 : (List Rect)) (m_2 : (List Rect)) : Option ((List Rect)) :=
 (slices_Concat_api_Rect_api_Rect ([l_1, m_2] : List (List Rect))).bind fun r_3 => (forL r_3 ([] : List Int) (fun k x s => screen_region_L1 k x s)).bind fun o_16 => thenC o_16 (fun s_10 => (sortF s_10).bind fun r_22 => (sameL r_22 s_10).bind fun _ => (slices_Compact_int_int_v1F r_22).bind fun r_25 => (forL r_25 (([] : List Rect), ([] : List Run), 0) (fun k x s => screen_region_L3F r_25 l_1 m_2 k x s)).bind fun o_38 => thenC o_38 (fun s_32 => some s_32.1) (fun _ => none)) (fun _ => none)
theorem screen_region_le (l_1 : (List Rect)) (m_2 : (List Rect)) : Le (screen_regionF l_1 m_2) (screen_region l_1 m_2) := by
 unfold screen_regionF screen_region
 repeat' (with_reducible first | exact Le.refl _ | exact slices_Compact_int_int_v1_le _ | exact screen_region_L3_le _ _ _ _ _ _ | exact sortF_le _ | refine Le.loop (fun _ => ?_) | refine Le.forL (fun _ _ _ => ?_) | refine Le.thenC (fun _ => ?_) (fun _ => ?_) | refine Le.cond ?_ ?_ | refine Le.bind ?_ (fun _ => ?_))
def screen_AreaF (l_1 : (List Rect)) : Option (Int × Int) :=
 (screen_rectsFault l_1).bind fun r_2 => bif (r_2 != 0) then some (0, r_2) else (screen_regionF l_1 ([] : List Rect)).bind fun r_5 => (screen_area r_5).bind fun r_7 => some (r_7, 0)
theorem screen_Area_le (l_1 : (List Rect)) : Le (screen_AreaF l_1) (screen_Area l_1) := by
 unfold screen_AreaF screen_Area
 repeat' (with_reducible first | exact Le.refl _ | exact screen_region_le _ _ | refine Le.loop (fun _ => ?_) | refine Le.forL (fun _ _ _ => ?_) | refine Le.thenC (fun _ => ?_) (fun _ => ?_) | refine Le.cond ?_ ?_ | refine Le.bind ?_ (fun _ => ?_))
def kit_IsKeyF (s_1 : ByteArray) : Option (Bool) :=
 (loopF 0 (fun s => kit_IsKey_L1 s_1 s)).bind fun o_10 => thenC o_10 (fun s_7 => (bif (sNe s_1 (⟨#[]⟩ : ByteArray)) then some (decide ((s_1.size : Int) ≤ 40)) else some false).bind fun v_30 => some v_30) (fun r => some r)
theorem kit_IsKey_le (s_1 : ByteArray) : Le (kit_IsKeyF s_1) (kit_IsKey s_1) := by
 unfold kit_IsKeyF kit_IsKey
 repeat' (with_reducible first | exact Le.refl _ | refine Le.loop (fun _ => ?_) | refine Le.forL (fun _ _ _ => ?_) | refine Le.thenC (fun _ => ?_) (fun _ => ?_) | refine Le.cond ?_ ?_ | refine Le.bind ?_ (fun _ => ?_))
def kit_RisingFault_L1F (l_1 : (List ByteArray)) (k_2 : Nat) (x_4 : ByteArray) (s_7 : Unit) : Option (Ctl (Unit) (Int)) :=
 (kit_IsKeyF x_4).bind fun r_12 => bif (!r_12) then some (.ret 5) else (bif (decide ((k_2 : Int) > 0)) then (idx l_1 (w64 ((k_2 : Int) - 1))).bind fun y_18 => some (sLe x_4 y_18) else some false).bind fun v_15 => bif v_15 then some (.ret 7) else some (.go ())
theorem kit_RisingFault_L1_le (l_1 : (List ByteArray)) (k_2 : Nat) (x_4 : ByteArray) (s_7 : Unit) : Le (kit_RisingFault_L1F l_1 k_2 x_4 s_7) (kit_RisingFault_L1 l_1 k_2 x_4 s_7) := by
 unfold kit_RisingFault_L1F kit_RisingFault_L1
 repeat' (with_reducible first | exact Le.refl _ | exact kit_IsKey_le _ | refine Le.loop (fun _ => ?_) | refine Le.forL (fun _ _ _ => ?_) | refine Le.thenC (fun _ => ?_) (fun _ => ?_) | refine Le.cond ?_ ?_ | refine Le.bind ?_ (fun _ => ?_))
def kit_RisingFaultF (l_1 : (List ByteArray)) : Option (Int) :=
 (forL l_1 () (fun k x s => kit_RisingFault_L1F l_1 k x s)).bind fun o_10 => thenC o_10 (fun s_7 => some 0) (fun r => some r)
theorem kit_RisingFault_le (l_1 : (List ByteArray)) : Le (kit_RisingFaultF l_1) (kit_RisingFault l_1) := by
 unfold kit_RisingFaultF kit_RisingFault
 repeat' (with_reducible first | exact Le.refl _ | exact kit_RisingFault_L1_le _ _ _ _ | refine Le.loop (fun _ => ?_) | refine Le.forL (fun _ _ _ => ?_) | refine Le.thenC (fun _ => ?_) (fun _ => ?_) | refine Le.cond ?_ ?_ | refine Le.bind ?_ (fun _ => ?_))
def schedule_tagsFaultF (l_1 : (List ByteArray)) : Option (Int) :=
 bif (decide ((l_1.length : Int) > 20)) then some 2 else (kit_RisingFaultF l_1).bind fun r_3 => some r_3
theorem schedule_tagsFault_le (l_1 : (List ByteArray)) : Le (schedule_tagsFaultF l_1) (schedule_tagsFault l_1) := by
 unfold schedule_tagsFaultF schedule_tagsFault
 repeat' (with_reducible first | exact Le.refl _ | exact kit_RisingFault_le _ | refine Le.loop (fun _ => ?_) | refine Le.forL (fun _ _ _ => ?_) | refine Le.thenC (fun _ => ?_) (fun _ => ?_) | refine Le.cond ?_ ?_ | refine Le.bind ?_ (fun _ => ?_))
def schedule_entryFaultF (e_1 : Entry) : Option (Int) :=
 ((kit_IsKeyF e_1.Key).bind fun r_5 => bif (!r_5) then some true else (kit_IsKeyF e_1.Item).bind fun r_8 => some (!r_8)).bind fun v_3 => bif v_3 then some 5 else ((kit_Outside e_1.Version 0 1000000).bind fun r_13 => bif r_13 then some true else (kit_Outside e_1.First 0 e_1.Last).bind fun r_16 => bif r_16 then some true else bif (decide (e_1.Last > 4000)) then some true else (kit_Outside e_1.Every 1 400).bind fun r_20 => bif r_20 then some true else (kit_Outside e_1.Days 1 127).bind fun r_23 => some r_23).bind fun v_11 => bif v_11 then some 1 else (schedule_exceptFault e_1.Except).bind fun r_26 => bif (r_26 != 0) then some r_26 else ((kit_Outside e_1.From 0 1439).bind fun r_31 => bif r_31 then some true else (kit_Outside e_1.To 0 1439).bind fun r_34 => bif r_34 then some true else (kit_Outside e_1.Prio 0 9).bind fun r_37 => some r_37).bind fun v_29 => bif v_29 then some 1 else (schedule_tagsFaultF e_1.Tags).bind fun r_40 => some r_40
theorem schedule_entryFault_le (e_1 : Entry) : Le (schedule_entryFaultF e_1) (schedule_entryFault e_1) := by
 unfold schedule_entryFaultF schedule_entryFault
 repeat' (with_reducible first | exact Le.refl _ | exact kit_IsKey_le _ | exact schedule_tagsFault_le _ | refine Le.loop (fun _ => ?_) | refine Le.forL (fun _ _ _ => ?_) | refine Le.thenC (fun _ => ?_) (fun _ => ?_) | refine Le.cond ?_ ?_ | refine Le.bind ?_ (fun _ => ?_))
def schedule_CheckEntries_L1F (l_1 : (List Entry)) (k_3 : Nat) (x_5 : Entry) (s_8 : Unit) : Option (Ctl (Unit) (Int)) :=
 (schedule_entryFaultF x_5).bind fun r_14 => bif (r_14 != 0) then some (.ret r_14) else (bif (decide ((k_3 : Int) > 0)) then (idx l_1 (w64 ((k_3 : Int) - 1))).bind fun y_20 => some (sLe x_5.Key y_20.Key) else some false).bind fun v_17 => bif v_17 then some (.ret 7) else some (.go ())
theorem schedule_CheckEntries_L1_le (l_1 : (List Entry)) (k_3 : Nat) (x_5 : Entry) (s_8 : Unit) : Le (schedule_CheckEntries_L1F l_1 k_3 x_5 s_8) (schedule_CheckEntries_L1 l_1 k_3 x_5 s_8) := by
 unfold schedule_CheckEntries_L1F schedule_CheckEntries_L1
 repeat' (with_reducible first | exact Le.refl _ | exact schedule_entryFault_le _ | refine Le.loop (fun _ => ?_) | refine Le.forL (fun _ _ _ => ?_) | refine Le.thenC (fun _ => ?_) (fun _ => ?_) | refine Le.cond ?_ ?_ | refine Le.bind ?_ (fun _ => ?_))
def schedule_CheckEntriesF (l_1 : (List Entry)) : Option (Int) :=
 bif (decide ((l_1.length : Int) > 200)) then some 2 else (forL l_1 () (fun k x s => schedule_CheckEntries_L1F l_1 k x s)).bind fun o_11 => thenC o_11 (fun s_8 => some 0) (fun r => some r)
theorem schedule_CheckEntries_le (l_1 : (List Entry)) : Le (schedule_CheckEntriesF l_1) (schedule_CheckEntries l_1) := by
 unfold schedule_CheckEntriesF schedule_CheckEntries
 repeat' (with_reducible first | exact Le.refl _ | exact schedule_CheckEntries_L1_le _ _ _ _ | refine Le.loop (fun _ => ?_) | refine Le.forL (fun _ _ _ => ?_) | refine Le.thenC (fun _ => ?_) (fun _ => ?_) | refine Le.cond ?_ ?_ | refine Le.bind ?_ (fun _ => ?_))
def slices_BinarySearch_int_intF (x_1 : (List Int)) (target_2 : Int) : Option (Int × Bool) :=
 (loopF (0, (x_1.length : Int)) (fun s => slices_BinarySearch_int_int_L1 x_1 target_2 s)).bind fun o_11 => thenC o_11 (fun s_8 => (bif (decide (s_8.1 < (x_1.length : Int))) then (idx x_1 s_8.1).bind fun y_24 => bif (y_24 == target_2) then some true else (idx x_1 s_8.1).bind fun y_27 => (slices_isNaN_int y_27).bind fun r_29 => bif r_29 then (slices_isNaN_int target_2).bind fun r_32 => some r_32 else some false else some false).bind fun v_21 => some (s_8.1, v_21)) (fun _ => none)
theorem slices_BinarySearch_int_int_le (x_1 : (List Int)) (target_2 : Int) : Le (slices_BinarySearch_int_intF x_1 target_2) (slices_BinarySearch_int_int x_1 target_2) := by
 unfold slices_BinarySearch_int_intF slices_BinarySearch_int_int
 repeat' (with_reducible first | exact Le.refl _ | refine Le.loop (fun _ => ?_) | refine Le.forL (fun _ _ _ => ?_) | refine Le.thenC (fun _ => ?_) (fun _ => ?_) | refine Le.cond ?_ ?_ | refine Le.bind ?_ (fun _ => ?_))
def schedule_isDayF (e_1 : Entry) (d_2 : Int) : Option (Bool) :=
 ((kit_Outside d_2 e_1.First e_1.Last).bind fun r_6 => bif r_6 then some true else (remO .i64 (w64 (d_2 - e_1.First)) e_1.Every).bind fun q_9 => bif (q_9 != 0) then some true else (shlO .i64 1 (d_2.tmod 7)).bind fun q_12 => some ((andI .i64 e_1.Days q_12) == 0)).bind fun v_4 => bif v_4 then some false else (slices_BinarySearch_int_intF e_1.Except d_2).bind fun r_15 => some (!r_15.2)
theorem schedule_isDay_le (e_1 : Entry) (d_2 : Int) : Le (schedule_isDayF e_1 d_2) (schedule_isDay e_1 d_2) := by
 unfold schedule_isDayF schedule_isDay
 repeat' (with_reducible first | exact Le.refl _ | exact slices_BinarySearch_int_int_le _ _ | refine Le.loop (fun _ => ?_) | refine Le.forL (fun _ _ _ => ?_) | refine Le.thenC (fun _ => ?_) (fun _ => ?_) | refine Le.cond ?_ ?_ | refine Le.bind ?_ (fun _ => ?_))
def schedule_times_L1F (wv_3 : Window) (zone_2 : Int) (e_1 : Entry) (s_15 : (List Window) × Int) : Option (Ctl ((List Window) × Int) (Unit)) :=
 bif (decide (s_15.2 ≤ (minI (w64 ((w64 ((w64 (wv_3.To + (w64 (zone_2 * 60000)))).tdiv 86400000)) + 1)) e_1.Last))) then (schedule_isDayF e_1 s_15.2).bind fun r_24 => bif (!r_24) then some (.go (s_15.1, (w64 (s_15.2 + 1)))) else (schedule_timeOf e_1 zone_2 s_15.2).bind fun r_27 => (bif (decide (r_27.From < wv_3.To)) then some (decide (r_27.To > wv_3.From)) else some false).bind fun v_30 => (bif v_30 then (appL s_15.1 ([r_27] : List Window)).bind fun a_37 => some a_37 else some s_15.1).bind fun v_33 => some (.go (v_33, (w64 (s_15.2 + 1)))) else some (.brk (s_15.1, s_15.2))
theorem schedule_times_L1_le (wv_3 : Window) (zone_2 : Int) (e_1 : Entry) (s_15 : (List Window) × Int) : Le (schedule_times_L1F wv_3 zone_2 e_1 s_15) (schedule_times_L1 wv_3 zone_2 e_1 s_15) := by
 unfold schedule_times_L1F schedule_times_L1
 repeat' (with_reducible first | exact Le.refl _ | exact schedule_isDay_le _ _ | refine Le.loop (fun _ => ?_) | refine Le.forL (fun _ _ _ => ?_) | refine Le.thenC (fun _ => ?_) (fun _ => ?_) | refine Le.cond ?_ ?_ | refine Le.bind ?_ (fun _ => ?_))
def schedule_timesF (e_1 : Entry) (zone_2 : Int) (wv_3 : Window) : Option ((List Window)) :=
 (bif e_1.Gone then some true else some (decide (wv_3.From ≥ wv_3.To))).bind fun v_6 => bif v_6 then some ([] : (List Window)) else (loopF (([] : List Window), (maxI (w64 ((w64 ((w64 (wv_3.From + (w64 (zone_2 * 60000)))).tdiv 86400000)) - 2)) e_1.First)) (fun s => schedule_times_L1F wv_3 zone_2 e_1 s)).bind fun o_21 => thenC o_21 (fun s_15 => some s_15.1) (fun _ => none)
theorem schedule_times_le (e_1 : Entry) (zone_2 : Int) (wv_3 : Window) : Le (schedule_timesF e_1 zone_2 wv_3) (schedule_times e_1 zone_2 wv_3) := by
 unfold schedule_timesF schedule_times
 repeat' (with_reducible first | exact Le.refl _ | exact schedule_times_L1_le _ _ _ _ | refine Le.loop (fun _ => ?_) | refine Le.forL (fun _ _ _ => ?_) | refine Le.thenC (fun _ => ?_) (fun _ => ?_) | refine Le.cond ?_ ?_ | refine Le.bind ?_ (fun _ => ?_))
def schedule_TimesF (e_1 : Entry) (zone_2 : Int) (wv_3 : Window) : Option ((List Window) × Int) :=
 (schedule_CheckEntriesF ([e_1] : List Entry)).bind fun r_6 => bif (r_6 != 0) then some (([] : (List Window)), r_6) else (kit_Outside zone_2 (-1440) 1440).bind fun r_9 => bif r_9 then some (([] : (List Window)), 1) else (schedule_windowFault wv_3).bind fun r_12 => bif (r_12 != 0) then some (([] : (List Window)), r_12) else (schedule_timesF e_1 zone_2 wv_3).bind fun r_15 => (forL (List.range ((r_15.length : Int)).toNat) r_15 (fun k x s => schedule_Times_L1 wv_3 k x s)).bind fun o_27 => thenC o_27 (fun s_24 => some (s_24, 0)) (fun _ => none)
theorem schedule_Times_le (e_1 : Entry) (zone_2 : Int) (wv_3 : Window) : Le (schedule_TimesF e_1 zone_2 wv_3) (schedule_Times e_1 zone_2 wv_3) := by
 unfold schedule_TimesF schedule_Times
 repeat' (with_reducible first | exact Le.refl _ | exact schedule_CheckEntries_le _ | exact schedule_times_le _ _ _ | refine Le.loop (fun _ => ?_) | refine Le.forL (fun _ _ _ => ?_) | refine Le.thenC (fun _ => ?_) (fun _ => ?_) | refine Le.cond ?_ ?_ | refine Le.bind ?_ (fun _ => ?_))
def booking_tagsFaultF (l_1 : (List ByteArray)) : Option (Int) :=
 bif (decide ((l_1.length : Int) > 20)) then some 2 else (kit_RisingFaultF l_1).bind fun r_3 => some r_3
theorem booking_tagsFault_le (l_1 : (List ByteArray)) : Le (booking_tagsFaultF l_1) (booking_tagsFault l_1) := by
 unfold booking_tagsFaultF booking_tagsFault
 repeat' (with_reducible first | exact Le.refl _ | exact kit_RisingFault_le _ | refine Le.loop (fun _ => ?_) | refine Le.forL (fun _ _ _ => ?_) | refine Le.thenC (fun _ => ?_) (fun _ => ?_) | refine Le.cond ?_ ?_ | refine Le.bind ?_ (fun _ => ?_))
def booking_CheckCampaigns_L1F (l_1 : (List Campaign)) (k_3 : Nat) (x_5 : Campaign) (s_8 : Unit) : Option (Ctl (Unit) (Int)) :=
 ((kit_IsKeyF x_5.Key).bind fun r_16 => bif (!r_16) then some true else bif (sNe x_5.Class (⟨#[]⟩ : ByteArray)) then (kit_IsKeyF x_5.Class).bind fun r_20 => some (!r_20) else some false).bind fun v_14 => bif v_14 then some (.ret 5) else (bif (decide ((k_3 : Int) > 0)) then (idx l_1 (w64 ((k_3 : Int) - 1))).bind fun y_26 => some (sLe x_5.Key y_26.Key) else some false).bind fun v_23 => bif v_23 then some (.ret 7) else ((booking_isTime x_5.Time).bind fun r_31 => bif (!r_31) then some true else (kit_Outside x_5.Goal 0 1000000).bind fun r_34 => bif r_34 then some true else (kit_Outside x_5.Most 0 1000000).bind fun r_37 => bif r_37 then some true else (kit_Outside x_5.Cents 0 1000000000).bind fun r_40 => some r_40).bind fun v_29 => bif v_29 then some (.ret 1) else (booking_tagsFaultF x_5.Tags).bind fun r_43 => bif (r_43 != 0) then some (.ret r_43) else some (.go ())
theorem booking_CheckCampaigns_L1_le (l_1 : (List Campaign)) (k_3 : Nat) (x_5 : Campaign) (s_8 : Unit) : Le (booking_CheckCampaigns_L1F l_1 k_3 x_5 s_8) (booking_CheckCampaigns_L1 l_1 k_3 x_5 s_8) := by
 unfold booking_CheckCampaigns_L1F booking_CheckCampaigns_L1
 repeat' (with_reducible first | exact Le.refl _ | exact kit_IsKey_le _ | exact booking_tagsFault_le _ | refine Le.loop (fun _ => ?_) | refine Le.forL (fun _ _ _ => ?_) | refine Le.thenC (fun _ => ?_) (fun _ => ?_) | refine Le.cond ?_ ?_ | refine Le.bind ?_ (fun _ => ?_))
def booking_CheckCampaignsF (l_1 : (List Campaign)) : Option (Int) :=
 bif (decide ((l_1.length : Int) > 30)) then some 2 else (forL l_1 () (fun k x s => booking_CheckCampaigns_L1F l_1 k x s)).bind fun o_11 => thenC o_11 (fun s_8 => some 0) (fun r => some r)
theorem booking_CheckCampaigns_le (l_1 : (List Campaign)) : Le (booking_CheckCampaignsF l_1) (booking_CheckCampaigns l_1) := by
 unfold booking_CheckCampaignsF booking_CheckCampaigns
 repeat' (with_reducible first | exact Le.refl _ | exact booking_CheckCampaigns_L1_le _ _ _ _ | refine Le.loop (fun _ => ?_) | refine Le.forL (fun _ _ _ => ?_) | refine Le.thenC (fun _ => ?_) (fun _ => ?_) | refine Le.cond ?_ ?_ | refine Le.bind ?_ (fun _ => ?_))
def booking_DueF (c_1 : Campaign) (atv_2 : Int) : Option (Int × Int) :=
 (booking_CheckCampaignsF ([c_1] : List Campaign)).bind fun r_4 => bif (r_4 != 0) then some (0, r_4) else (kit_IsMoment atv_2).bind fun r_7 => bif (!r_7) then some (0, 1) else (booking_due c_1 atv_2).bind fun r_10 => some (r_10, 0)
theorem booking_Due_le (c_1 : Campaign) (atv_2 : Int) : Le (booking_DueF c_1 atv_2) (booking_Due c_1 atv_2) := by
 unfold booking_DueF booking_Due
 repeat' (with_reducible first | exact Le.refl _ | exact booking_CheckCampaigns_le _ | refine Le.loop (fun _ => ?_) | refine Le.forL (fun _ _ _ => ?_) | refine Le.thenC (fun _ => ?_) (fun _ => ?_) | refine Le.cond ?_ ?_ | refine Le.bind ?_ (fun _ => ?_))
def proof_CheckBeats_L1F (l_1 : (List Beat)) (k_3 : Nat) (x_5 : Beat) (s_8 : Unit) : Option (Ctl (Unit) (Int)) :=
 (kit_IsKeyF x_5.Player).bind fun r_14 => bif (!r_14) then some (.ret 5) else ((kit_IsMoment x_5.At).bind fun r_19 => bif (!r_19) then some true else (kit_Outside x_5.Clock 0 345686399999).bind fun r_22 => some r_22).bind fun v_17 => bif v_17 then some (.ret 1) else (bif (decide ((k_3 : Int) > 0)) then (idx l_1 (w64 ((k_3 : Int) - 1))).bind fun y_28 => (proof_compareBeats y_28 x_5).bind fun r_30 => some (decide (r_30 ≥ 0)) else some false).bind fun v_25 => bif v_25 then some (.ret 7) else (bif (decide ((k_3 : Int) > 0)) then (idx l_1 (w64 ((k_3 : Int) - 1))).bind fun y_36 => bif (sEq x_5.Player y_36.Player) then (idx l_1 (w64 ((k_3 : Int) - 1))).bind fun y_39 => some (decide (x_5.Clock ≤ y_39.Clock)) else some false else some false).bind fun v_33 => bif v_33 then some (.ret 16) else some (.go ())
theorem proof_CheckBeats_L1_le (l_1 : (List Beat)) (k_3 : Nat) (x_5 : Beat) (s_8 : Unit) : Le (proof_CheckBeats_L1F l_1 k_3 x_5 s_8) (proof_CheckBeats_L1 l_1 k_3 x_5 s_8) := by
 unfold proof_CheckBeats_L1F proof_CheckBeats_L1
 repeat' (with_reducible first | exact Le.refl _ | exact kit_IsKey_le _ | refine Le.loop (fun _ => ?_) | refine Le.forL (fun _ _ _ => ?_) | refine Le.thenC (fun _ => ?_) (fun _ => ?_) | refine Le.cond ?_ ?_ | refine Le.bind ?_ (fun _ => ?_))
def proof_CheckBeatsF (l_1 : (List Beat)) : Option (Int) :=
 bif (decide ((l_1.length : Int) > 500)) then some 2 else (forL l_1 () (fun k x s => proof_CheckBeats_L1F l_1 k x s)).bind fun o_11 => thenC o_11 (fun s_8 => some 0) (fun r => some r)
theorem proof_CheckBeats_le (l_1 : (List Beat)) : Le (proof_CheckBeatsF l_1) (proof_CheckBeats l_1) := by
 unfold proof_CheckBeatsF proof_CheckBeats
 repeat' (with_reducible first | exact Le.refl _ | exact proof_CheckBeats_L1_le _ _ _ _ | refine Le.loop (fun _ => ?_) | refine Le.forL (fun _ _ _ => ?_) | refine Le.thenC (fun _ => ?_) (fun _ => ?_) | refine Le.cond ?_ ?_ | refine Le.bind ?_ (fun _ => ?_))
def proof_mappedF (l_1 : (List Beat_)) (n_2 : Int) : Option (Int × Int) :=
 bif ((l_1.length : Int) == 0) then some (0, 8) else (loopF 0 (fun s => proof_mapped_L1 l_1 n_2 s)).bind fun o_12 => thenC o_12 (fun s_9 => bif (s_9 == 0) then (idx l_1 0).bind fun y_21 => (idx l_1 0).bind fun y_23 => (kit_IsMoment (w64 (y_21.f_to - (w64 (y_23.f_from - n_2))))).bind fun r_25 => bif (!r_25) then some (0, 11) else some ((w64 (y_21.f_to - (w64 (y_23.f_from - n_2)))), 0) else bif (s_9 == (l_1.length : Int)) then (idx l_1 (w64 (s_9 - 1))).bind fun y_29 => (idx l_1 (w64 (s_9 - 1))).bind fun y_31 => (kit_IsMoment (w64 ((w64 (y_29.f_to + n_2)) - y_31.f_from))).bind fun r_33 => bif (!r_33) then some (0, 11) else some ((w64 ((w64 (y_29.f_to + n_2)) - y_31.f_from)), 0) else (idx l_1 (w64 (s_9 - 1))).bind fun y_36 => (idx l_1 s_9).bind fun y_38 => (bif (decide ((w64 (y_38.f_from - y_36.f_from)) > 2592000000)) then some true else some (decide ((w64 (y_38.f_to - y_36.f_to)) > 2592000000))).bind fun v_42 => bif v_42 then some (0, 2) else (quoO .i64 (w64 ((w64 (n_2 - y_36.f_from)) * (w64 (y_38.f_to - y_36.f_to)))) (w64 (y_38.f_from - y_36.f_from))).bind fun q_46 => (kit_IsMoment (w64 (y_36.f_to + q_46))).bind fun r_48 => bif (!r_48) then some (0, 11) else some ((w64 (y_36.f_to + q_46)), 0)) (fun _ => none)
theorem proof_mapped_le (l_1 : (List Beat_)) (n_2 : Int) : Le (proof_mappedF l_1 n_2) (proof_mapped l_1 n_2) := by
 unfold proof_mappedF proof_mapped
 repeat' (with_reducible first | exact Le.refl _ | refine Le.loop (fun _ => ?_) | refine Le.forL (fun _ _ _ => ?_) | refine Le.thenC (fun _ => ?_) (fun _ => ?_) | refine Le.cond ?_ ?_ | refine Le.bind ?_ (fun _ => ?_))
def proof_askedF (l_1 : (List Beat)) (player_2 : ByteArray) (n_3 : Int) (back_4 : Bool) : Option (Int × Int) :=
 (proof_CheckBeatsF l_1).bind fun r_5 => bif (r_5 != 0) then some (0, r_5) else (kit_IsKeyF player_2).bind fun r_8 => bif (!r_8) then some (0, 5) else (kit_IsMoment n_3).bind fun r_11 => bif (!r_11) then some (0, 1) else (proof_beatsOf l_1 player_2 back_4).bind fun r_14 => (proof_mappedF r_14 n_3).bind fun r_16 => some (r_16.1, r_16.2)
theorem proof_asked_le (l_1 : (List Beat)) (player_2 : ByteArray) (n_3 : Int) (back_4 : Bool) : Le (proof_askedF l_1 player_2 n_3 back_4) (proof_asked l_1 player_2 n_3 back_4) := by
 unfold proof_askedF proof_asked
 repeat' (with_reducible first | exact Le.refl _ | exact kit_IsKey_le _ | exact proof_CheckBeats_le _ | exact proof_mapped_le _ _ | refine Le.loop (fun _ => ?_) | refine Le.forL (fun _ _ _ => ?_) | refine Le.thenC (fun _ => ?_) (fun _ => ?_) | refine Le.cond ?_ ?_ | refine Le.bind ?_ (fun _ => ?_))
def proof_RightF (l_1 : (List Beat)) (player_2 : ByteArray) (clock_3 : Int) : Option (Int × Int) :=
 (proof_askedF l_1 player_2 clock_3 false).bind fun r_4 => some (r_4.1, r_4.2)
theorem proof_Right_le (l_1 : (List Beat)) (player_2 : ByteArray) (clock_3 : Int) : Le (proof_RightF l_1 player_2 clock_3) (proof_Right l_1 player_2 clock_3) := by
 unfold proof_RightF proof_Right
 repeat' (with_reducible first | exact Le.refl _ | exact proof_asked_le _ _ _ _ | refine Le.loop (fun _ => ?_) | refine Le.forL (fun _ _ _ => ?_) | refine Le.thenC (fun _ => ?_) (fun _ => ?_) | refine Le.cond ?_ ?_ | refine Le.bind ?_ (fun _ => ?_))
def alert_refsFault_L1F (a_1 : Alert) (k_4 : Nat) (x_6 : ByteArray) (s_9 : Unit) : Option (Ctl (Unit) (Int)) :=
 (kit_IsKeyF x_6).bind fun r_14 => bif (!r_14) then some (.ret 5) else (bif (decide ((k_4 : Int) > 0)) then (idx a_1.Refs (w64 ((k_4 : Int) - 1))).bind fun y_20 => some (sLe x_6 y_20) else some false).bind fun v_17 => bif v_17 then some (.ret 7) else bif (sEq x_6 a_1.Id) then some (.ret 14) else some (.go ())
theorem alert_refsFault_L1_le (a_1 : Alert) (k_4 : Nat) (x_6 : ByteArray) (s_9 : Unit) : Le (alert_refsFault_L1F a_1 k_4 x_6 s_9) (alert_refsFault_L1 a_1 k_4 x_6 s_9) := by
 unfold alert_refsFault_L1F alert_refsFault_L1
 repeat' (with_reducible first | exact Le.refl _ | exact kit_IsKey_le _ | refine Le.loop (fun _ => ?_) | refine Le.forL (fun _ _ _ => ?_) | refine Le.thenC (fun _ => ?_) (fun _ => ?_) | refine Le.cond ?_ ?_ | refine Le.bind ?_ (fun _ => ?_))
def alert_refsFaultF (a_1 : Alert) : Option (Int) :=
 bif (decide ((a_1.Refs.length : Int) > 20)) then some 2 else (forL a_1.Refs () (fun k x s => alert_refsFault_L1F a_1 k x s)).bind fun o_12 => thenC o_12 (fun s_9 => bif (!((a_1.Kind == 1) == ((a_1.Refs.length : Int) == 0))) then some 3 else some 0) (fun r => some r)
theorem alert_refsFault_le (a_1 : Alert) : Le (alert_refsFaultF a_1) (alert_refsFault a_1) := by
 unfold alert_refsFaultF alert_refsFault
 repeat' (with_reducible first | exact Le.refl _ | exact alert_refsFault_L1_le _ _ _ _ | refine Le.loop (fun _ => ?_) | refine Le.forL (fun _ _ _ => ?_) | refine Le.thenC (fun _ => ?_) (fun _ => ?_) | refine Le.cond ?_ ?_ | refine Le.bind ?_ (fun _ => ?_))
def unicode_utf8_ValidString_L2F (s_7 : ByteArray) : Option (Ctl (ByteArray) (Unit)) :=
 bif (decide ((s_7.size : Int) > 0)) then (idxS s_7 0).bind fun b_13 => bif (decide ((b_13.toNat : Int) < 128)) then (subS s_7 1 s_7.size).bind fun y_16 => (bif (decide ((y_16.size : Int) > 8)) then (unicode_utf8_word_string y_16).bind fun r_21 => some ((andI .u64 r_21 9259542123273814144) == 0) else some false).bind fun v_18 => (bif v_18 then (subS y_16 8 y_16.size).bind fun y_26 => (bif (decide ((y_26.size : Int) > 16)) then (unicode_utf8_word_string y_26).bind fun r_31 => (subS y_26 8 y_26.size).bind fun y_33 => (unicode_utf8_word_string y_33).bind fun r_35 => some ((andI .u64 (orI .u64 r_31 r_35) 9259542123273814144) == 0) else some false).bind fun v_28 => bif v_28 then (subS y_26 16 y_26.size).bind fun y_38 => (loopF y_38 (fun s => unicode_utf8_ValidString_L1 s)).bind fun o_48 => thenC o_48 (fun s_45 => some s_45) (fun _ => none) else some y_26 else some y_16).bind fun v_23 => some (.go v_23) else none else some (.brk s_7)
theorem unicode_utf8_ValidString_L2_le (s_7 : ByteArray) : Le (unicode_utf8_ValidString_L2F s_7) (unicode_utf8_ValidString_L2 s_7) := by
 unfold unicode_utf8_ValidString_L2F unicode_utf8_ValidString_L2
 repeat' (with_reducible first | exact Le.refl _ | refine Le.loop (fun _ => ?_) | refine Le.forL (fun _ _ _ => ?_) | refine Le.thenC (fun _ => ?_) (fun _ => ?_) | refine Le.cond ?_ ?_ | refine Le.bind ?_ (fun _ => ?_))
def unicode_utf8_ValidStringF (s_1 : ByteArray) : Option (Bool) :=
 (loopF s_1 (fun s => unicode_utf8_ValidString_L2F s)).bind fun o_10 => thenC o_10 (fun s_7 => some true) (fun _ => none)
theorem unicode_utf8_ValidString_le (s_1 : ByteArray) : Le (unicode_utf8_ValidStringF s_1) (unicode_utf8_ValidString s_1) := by
 unfold unicode_utf8_ValidStringF unicode_utf8_ValidString
 repeat' (with_reducible first | exact Le.refl _ | exact unicode_utf8_ValidString_L2_le _ | refine Le.loop (fun _ => ?_) | refine Le.forL (fun _ _ _ => ?_) | refine Le.thenC (fun _ => ?_) (fun _ => ?_) | refine Le.cond ?_ ?_ | refine Le.bind ?_ (fun _ => ?_))
def strings_trimRightByteF (s_1 : ByteArray) (c_2 : Int) : Option (ByteArray) :=
 (loopF s_1 (fun s => strings_trimRightByte_L1 c_2 s)).bind fun o_11 => thenC o_11 (fun s_8 => some s_8) (fun _ => none)
theorem strings_trimRightByte_le (s_1 : ByteArray) (c_2 : Int) : Le (strings_trimRightByteF s_1 c_2) (strings_trimRightByte s_1 c_2) := by
 unfold strings_trimRightByteF strings_trimRightByte
 repeat' (with_reducible first | exact Le.refl _ | refine Le.loop (fun _ => ?_) | refine Le.forL (fun _ _ _ => ?_) | refine Le.thenC (fun _ => ?_) (fun _ => ?_) | refine Le.cond ?_ ?_ | refine Le.bind ?_ (fun _ => ?_))
def strings_trimLeftByteF (s_1 : ByteArray) (c_2 : Int) : Option (ByteArray) :=
 (loopF s_1 (fun s => strings_trimLeftByte_L1 c_2 s)).bind fun o_11 => thenC o_11 (fun s_8 => some s_8) (fun _ => none)
theorem strings_trimLeftByte_le (s_1 : ByteArray) (c_2 : Int) : Le (strings_trimLeftByteF s_1 c_2) (strings_trimLeftByte s_1 c_2) := by
 unfold strings_trimLeftByteF strings_trimLeftByte
 repeat' (with_reducible first | exact Le.refl _ | refine Le.loop (fun _ => ?_) | refine Le.forL (fun _ _ _ => ?_) | refine Le.thenC (fun _ => ?_) (fun _ => ?_) | refine Le.cond ?_ ?_ | refine Le.bind ?_ (fun _ => ?_))
def strings_TrimF (s_1 : ByteArray) (cutset_2 : ByteArray) : Option (ByteArray) :=
 (bif (sEq s_1 (⟨#[]⟩ : ByteArray)) then some true else some (sEq cutset_2 (⟨#[]⟩ : ByteArray))).bind fun v_3 => bif v_3 then some s_1 else (bif ((cutset_2.size : Int) == 1) then (idxS cutset_2 0).bind fun b_10 => some (decide ((b_10.toNat : Int) < 128)) else some false).bind fun v_7 => bif v_7 then (idxS cutset_2 0).bind fun b_13 => (strings_trimRightByteF s_1 (b_13.toNat : Int)).bind fun r_15 => (idxS cutset_2 0).bind fun b_17 => (strings_trimLeftByteF r_15 (b_17.toNat : Int)).bind fun r_19 => some r_19 else none
theorem strings_Trim_le (s_1 : ByteArray) (cutset_2 : ByteArray) : Le (strings_TrimF s_1 cutset_2) (strings_Trim s_1 cutset_2) := by
 unfold strings_TrimF strings_Trim
 repeat' (with_reducible first | exact Le.refl _ | exact strings_trimRightByte_le _ _ | exact strings_trimLeftByte_le _ _ | refine Le.loop (fun _ => ?_) | refine Le.forL (fun _ _ _ => ?_) | refine Le.thenC (fun _ => ?_) (fun _ => ?_) | refine Le.cond ?_ ?_ | refine Le.bind ?_ (fun _ => ?_))
def kit_IsPlainF (s_1 : ByteArray) : Option (Bool) :=
 (loopF 0 (fun s => kit_IsPlain_L1 s_1 s)).bind fun o_10 => thenC o_10 (fun s_7 => ((unicode_utf8_ValidStringF s_1).bind fun r_23 => bif r_23 then (strings_TrimF s_1 (⟨#[32]⟩ : ByteArray)).bind fun r_26 => bif (sEq r_26 s_1) then (strings_Contains s_1 (⟨#[32, 32]⟩ : ByteArray)).bind fun r_29 => some (!r_29) else some false else some false).bind fun v_21 => some v_21) (fun r => some r)
theorem kit_IsPlain_le (s_1 : ByteArray) : Le (kit_IsPlainF s_1) (kit_IsPlain s_1) := by
 unfold kit_IsPlainF kit_IsPlain
 repeat' (with_reducible first | exact Le.refl _ | exact unicode_utf8_ValidString_le _ | exact strings_Trim_le _ _ | refine Le.loop (fun _ => ?_) | refine Le.forL (fun _ _ _ => ?_) | refine Le.thenC (fun _ => ?_) (fun _ => ?_) | refine Le.cond ?_ ?_ | refine Le.bind ?_ (fun _ => ?_))
def alert_alertFaultF (a_1 : Alert) : Option (Int) :=
 ((kit_IsKeyF a_1.Id).bind fun r_5 => bif (!r_5) then some true else (kit_IsKeyF a_1.Sender).bind fun r_8 => some (!r_8)).bind fun v_3 => bif v_3 then some 5 else (kit_Outside a_1.Kind 1 3).bind fun r_11 => bif r_11 then some 4 else (alert_refsFaultF a_1).bind fun r_14 => bif (r_14 != 0) then some r_14 else ((kit_IsMoment a_1.At).bind fun r_19 => bif (!r_19) then some true else (kit_Outside a_1.Until (w64 (a_1.At + 1)) (w64 (a_1.At + 2592000000))).bind fun r_22 => bif r_22 then some true else (kit_Outside a_1.Weight 1 9).bind fun r_25 => some r_25).bind fun v_17 => bif v_17 then some 1 else bif (decide ((a_1.Areas.length : Int) > 20)) then some 2 else (forL a_1.Areas () (fun k x s => alert_alertFault_L1 k x s)).bind fun o_37 => thenC o_37 (fun s_34 => bif (!((a_1.Kind == 3) == ((a_1.Areas.length : Int) == 0))) then some 3 else bif (decide ((a_1.Text.size : Int) > 500)) then some 2 else ((kit_IsPlainF a_1.Text).bind fun r_47 => bif (!r_47) then some true else bif (sEq a_1.Text (⟨#[]⟩ : ByteArray)) then some (!(a_1.Kind == 3)) else some false).bind fun v_45 => bif v_45 then some 3 else some 0) (fun r => some r)
theorem alert_alertFault_le (a_1 : Alert) : Le (alert_alertFaultF a_1) (alert_alertFault a_1) := by
 unfold alert_alertFaultF alert_alertFault
 repeat' (with_reducible first | exact Le.refl _ | exact kit_IsKey_le _ | exact alert_refsFault_le _ | exact kit_IsPlain_le _ | refine Le.loop (fun _ => ?_) | refine Le.forL (fun _ _ _ => ?_) | refine Le.thenC (fun _ => ?_) (fun _ => ?_) | refine Le.cond ?_ ?_ | refine Le.bind ?_ (fun _ => ?_))
def alert_CheckAlerts_L1F (l_1 : (List Alert)) (k_3 : Nat) (x_5 : Alert) (s_8 : Unit) : Option (Ctl (Unit) (Int)) :=
 (alert_alertFaultF x_5).bind fun r_14 => bif (r_14 != 0) then some (.ret r_14) else (bif (decide ((k_3 : Int) > 0)) then (idx l_1 (w64 ((k_3 : Int) - 1))).bind fun y_20 => (alert_compare y_20 x_5).bind fun r_22 => some (decide (r_22 ≥ 0)) else some false).bind fun v_17 => bif v_17 then some (.ret 7) else some (.go ())
theorem alert_CheckAlerts_L1_le (l_1 : (List Alert)) (k_3 : Nat) (x_5 : Alert) (s_8 : Unit) : Le (alert_CheckAlerts_L1F l_1 k_3 x_5 s_8) (alert_CheckAlerts_L1 l_1 k_3 x_5 s_8) := by
 unfold alert_CheckAlerts_L1F alert_CheckAlerts_L1
 repeat' (with_reducible first | exact Le.refl _ | exact alert_alertFault_le _ | refine Le.loop (fun _ => ?_) | refine Le.forL (fun _ _ _ => ?_) | refine Le.thenC (fun _ => ?_) (fun _ => ?_) | refine Le.cond ?_ ?_ | refine Le.bind ?_ (fun _ => ?_))
def alert_CheckAlertsF (l_1 : (List Alert)) : Option (Int) :=
 bif (decide ((l_1.length : Int) > 300)) then some 2 else (forL l_1 () (fun k x s => alert_CheckAlerts_L1F l_1 k x s)).bind fun o_11 => thenC o_11 (fun s_8 => (forL l_1 ([] : List (ByteArray × Bool)) (fun k x s => alert_CheckAlerts_L2 k x s)).bind fun o_34 => thenC o_34 (fun s_31 => some 0) (fun r => some r)) (fun r => some r)
theorem alert_CheckAlerts_le (l_1 : (List Alert)) : Le (alert_CheckAlertsF l_1) (alert_CheckAlerts l_1) := by
 unfold alert_CheckAlertsF alert_CheckAlerts
 repeat' (with_reducible first | exact Le.refl _ | exact alert_CheckAlerts_L1_le _ _ _ _ | refine Le.loop (fun _ => ?_) | refine Le.forL (fun _ _ _ => ?_) | refine Le.thenC (fun _ => ?_) (fun _ => ?_) | refine Le.cond ?_ ?_ | refine Le.bind ?_ (fun _ => ?_))
def alert_CheckPosts_L1F (l_1 : (List Post)) (k_3 : Nat) (x_5 : Post) (s_8 : Unit) : Option (Ctl (Unit) (Int)) :=
 (kit_IsKeyF x_5.Player).bind fun r_14 => bif (!r_14) then some (.ret 5) else ((kit_Outside x_5.X (-100000) 100000).bind fun r_19 => bif r_19 then some true else (kit_Outside x_5.Y (-100000) 100000).bind fun r_22 => some r_22).bind fun v_17 => bif v_17 then some (.ret 1) else (bif (decide ((k_3 : Int) > 0)) then (idx l_1 (w64 ((k_3 : Int) - 1))).bind fun y_28 => some (sLe x_5.Player y_28.Player) else some false).bind fun v_25 => bif v_25 then some (.ret 7) else some (.go ())
theorem alert_CheckPosts_L1_le (l_1 : (List Post)) (k_3 : Nat) (x_5 : Post) (s_8 : Unit) : Le (alert_CheckPosts_L1F l_1 k_3 x_5 s_8) (alert_CheckPosts_L1 l_1 k_3 x_5 s_8) := by
 unfold alert_CheckPosts_L1F alert_CheckPosts_L1
 repeat' (with_reducible first | exact Le.refl _ | exact kit_IsKey_le _ | refine Le.loop (fun _ => ?_) | refine Le.forL (fun _ _ _ => ?_) | refine Le.thenC (fun _ => ?_) (fun _ => ?_) | refine Le.cond ?_ ?_ | refine Le.bind ?_ (fun _ => ?_))
def alert_CheckPostsF (l_1 : (List Post)) : Option (Int) :=
 bif (decide ((l_1.length : Int) > 500)) then some 2 else (forL l_1 () (fun k x s => alert_CheckPosts_L1F l_1 k x s)).bind fun o_11 => thenC o_11 (fun s_8 => some 0) (fun r => some r)
theorem alert_CheckPosts_le (l_1 : (List Post)) : Le (alert_CheckPostsF l_1) (alert_CheckPosts l_1) := by
 unfold alert_CheckPostsF alert_CheckPosts
 repeat' (with_reducible first | exact Le.refl _ | exact alert_CheckPosts_L1_le _ _ _ _ | refine Le.loop (fun _ => ?_) | refine Le.forL (fun _ _ _ => ?_) | refine Le.thenC (fun _ => ?_) (fun _ => ?_) | refine Le.cond ?_ ?_ | refine Le.bind ?_ (fun _ => ?_))
def alert_checkBothF (l_1 : (List Alert)) (posts_2 : (List Post)) : Option (Int) :=
 (alert_CheckAlertsF l_1).bind fun r_3 => bif (r_3 != 0) then some r_3 else (alert_CheckPostsF posts_2).bind fun r_6 => some r_6
theorem alert_checkBoth_le (l_1 : (List Alert)) (posts_2 : (List Post)) : Le (alert_checkBothF l_1 posts_2) (alert_checkBoth l_1 posts_2) := by
 unfold alert_checkBothF alert_checkBoth
 repeat' (with_reducible first | exact Le.refl _ | exact alert_CheckAlerts_le _ | exact alert_CheckPosts_le _ | refine Le.loop (fun _ => ?_) | refine Le.forL (fun _ _ _ => ?_) | refine Le.thenC (fun _ => ?_) (fun _ => ?_) | refine Le.cond ?_ ?_ | refine Le.bind ?_ (fun _ => ?_))
def alert_ReachesF (a_1 : Alert) (p_2 : Post) : Option (Bool × Int) :=
 (alert_checkBothF ([a_1] : List Alert) ([p_2] : List Post)).bind fun r_5 => bif (r_5 != 0) then some (false, r_5) else (alert_reaches a_1 p_2).bind fun r_8 => some (r_8, 0)
theorem alert_Reaches_le (a_1 : Alert) (p_2 : Post) : Le (alert_ReachesF a_1 p_2) (alert_Reaches a_1 p_2) := by
 unfold alert_ReachesF alert_Reaches
 repeat' (with_reducible first | exact Le.refl _ | exact alert_checkBoth_le _ _ | refine Le.loop (fun _ => ?_) | refine Le.forL (fun _ _ _ => ?_) | refine Le.thenC (fun _ => ?_) (fun _ => ?_) | refine Le.cond ?_ ?_ | refine Le.bind ?_ (fun _ => ?_))
def keep_readyF  : Option (Bool) :=
 (screen_AreaF ([(⟨0, 0, 2, 2⟩ : Rect), (⟨1, 1, 2, 2⟩ : Rect)] : List Rect)).bind fun r_1 => (schedule_TimesF (⟨(⟨#[97]⟩ : ByteArray), (⟨#[98]⟩ : ByteArray), 0, 0, 0, 1, 127, ([] : List Int), 1, 2, 0, ([] : List ByteArray), false⟩ : Entry) 0 (⟨0, 86400000⟩ : Window)).bind fun r_3 => (booking_DueF (⟨(⟨#[97]⟩ : ByteArray), (⟨#[]⟩ : ByteArray), (⟨0, 100⟩ : Window), ([] : List ByteArray), 10, 0, 0⟩ : Campaign) 50).bind fun r_5 => (proof_RightF ([(⟨(⟨#[112]⟩ : ByteArray), 0, 100⟩ : Beat), (⟨(⟨#[112]⟩ : ByteArray), 1000, 1300⟩ : Beat)] : List Beat) (⟨#[112]⟩ : ByteArray) 700).bind fun r_7 => (alert_ReachesF (⟨(⟨#[97]⟩ : ByteArray), (⟨#[115]⟩ : ByteArray), 1, ([] : List ByteArray), 0, 5, 1, ([(⟨0, 0, 2, 2⟩ : Rect)] : List Rect), (⟨#[120]⟩ : ByteArray)⟩ : Alert) (⟨(⟨#[112]⟩ : ByteArray), 1, 1⟩ : Post)).bind fun r_10 => ((keep_errs ([r_1.2, r_3.2, r_5.2, r_7.2, r_10.2] : List Int)).bind fun r_14 => bif (r_14 == 0) then bif (r_1.1 == 7) then bif ((r_3.1.length : Int) == 1) then bif (r_5.1 == 5) then bif (r_7.1 == 500) then some r_10.1 else some false else some false else some false else some false else some false).bind fun v_12 => some v_12
theorem keep_ready_le  : Le (keep_readyF) (keep_ready) := by
 unfold keep_readyF keep_ready
 repeat' (with_reducible first | exact Le.refl _ | exact screen_Area_le _ | exact schedule_Times_le _ _ _ | exact booking_Due_le _ _ | exact proof_Right_le _ _ _ | exact alert_Reaches_le _ _ | refine Le.loop (fun _ => ?_) | refine Le.forL (fun _ _ _ => ?_) | refine Le.thenC (fun _ => ?_) (fun _ => ?_) | refine Le.cond ?_ ?_ | refine Le.bind ?_ (fun _ => ?_))
end Go.Proofs.YtpojeclokolkaaaGreatDoor.Law

open Go Go.Eng
namespace Go.Proofs.YtpojeclokolkaaaGreatDoor.Law
set_option linter.unusedVariables false
set_option maxRecDepth 100000
theorem ready_F : keep_readyF = some true := by kernel_rfl
theorem ready_ok : keep_ready = some true := keep_ready_le _ ready_F
end Go.Proofs.YtpojeclokolkaaaGreatDoor.Law

open Go Go.Eng
namespace Go.Proofs.YtpojeclokolkaaaGreatDoor.Law
set_option linter.unusedVariables false
set_option linter.unusedSimpArgs false
end Go.Proofs.YtpojeclokolkaaaGreatDoor.Law

open Go Go.Eng
namespace Go.Proofs.YtpojeclokolkaaaGreatDoor.Law
set_option linter.unusedVariables false
set_option linter.unusedSimpArgs false
end Go.Proofs.YtpojeclokolkaaaGreatDoor.Law

open Go Go.Eng
namespace Go.Proofs.YtpojeclokolkaaaGreatDoor.Law
set_option linter.unusedVariables false
set_option linter.unusedSimpArgs false
def lowB (b : UInt8) : Bool := decide (97 ≤ b.toNat) && decide (b.toNat ≤ 122)
def moreB (b : UInt8) : Bool := (decide (48 ≤ b.toNat) && decide (b.toNat ≤ 57)) || (b.toNat == 45) || (b.toNat == 95)
def okB (i : Nat) (b : UInt8) : Bool := lowB b || (decide (0 < i) && moreB b)
def byteAt (s : ByteArray) (i : Nat) : UInt8 := s.data.toList.getD i 0
def keyB (s : ByteArray) : Bool := decide (s.size ≠ 0) && (decide (s.size ≤ 40) && (List.range s.size).all fun i => okB i (byteAt s i))
theorem idxS_nat (s : ByteArray) (k : Nat) (h : k < s.size) : idxS s (k : Int) = some (byteAt s k) := by
 have h1 : s[k]? = some s[k] := by simp [h]
 have h2 : byteAt s k = s[k] := by
  have hl : k < s.data.toList.length := by rw [← Go.Lib.size_eq]; exact h
  simp only [byteAt, List.getD_eq_getElem?_getD, List.getElem?_eq_getElem hl, Option.getD_some]
  simp
  rfl
 simp only [idxS, if_pos (Int.natCast_nonneg k), Int.toNat_natCast, h1, h2]
theorem isKey_L1 (s : ByteArray) (k : Nat) (hs : s.size ≤ 1000000000) : kit_IsKey_L1 s (k : Int) = some (if k < s.size then (bif okB k (byteAt s k) then .go ((k + 1 : Nat) : Int) else .ret false) else .brk (k : Int)) := by
 unfold kit_IsKey_L1
 by_cases h : k < s.size
 ·have hd : decide ((k : Int) < (s.size : Int)) = true := by simp; omega
  have hw : w64 ((k : Int) + 1) = ((k + 1 : Nat) : Int) := by rw [w64_id (by omega)]; omega
  simp only [hd, cond_true, idxS_nat s k h, Option.bind_some, if_pos h, hw]
  generalize byteAt s k = b
  simp only [okB, lowB, moreB]
  have e1 : decide ((b.toNat : Int) ≥ 97) = decide (97 ≤ b.toNat) := decide_eq_decide.2 (by omega)
  have e2 : decide ((b.toNat : Int) ≤ 122) = decide (b.toNat ≤ 122) := decide_eq_decide.2 (by omega)
  have e3 : decide ((k : Int) > 0) = decide (0 < k) := decide_eq_decide.2 (by omega)
  have e4 : decide ((b.toNat : Int) ≥ 48) = decide (48 ≤ b.toNat) := decide_eq_decide.2 (by omega)
  have e5 : decide ((b.toNat : Int) ≤ 57) = decide (b.toNat ≤ 57) := decide_eq_decide.2 (by omega)
  have e6 : ((b.toNat : Int) == 45) = (b.toNat == 45) := by rw [Bool.eq_iff_iff]; simp; omega
  have e7 : ((b.toNat : Int) == 95) = (b.toNat == 95) := by rw [Bool.eq_iff_iff]; simp; omega
  rw [e1, e2, e3, e4, e5, e6, e7]
  cases decide (97 ≤ b.toNat) <;> cases decide (b.toNat ≤ 122) <;> cases decide (0 < k) <;> cases decide (48 ≤ b.toNat) <;> cases decide (b.toNat ≤ 57) <;> cases (b.toNat == 45) <;> cases (b.toNat == 95) <;> rfl
 ·have hd : decide ((k : Int) < (s.size : Int)) = false := by simp; omega
  simp only [hd, cond_false, if_neg h]
theorem isKey_iter (s : ByteArray) (hs : s.size ≤ 1000000000) : ∀ (n k : Nat), k + n = s.size → iterN (fun i => kit_IsKey_L1 s i) (n + 1) (k : Int) = some (bif (List.range' k n).all (fun j => okB j (byteAt s j)) then .go (s.size : Int) else .ret false)
 | 0, k, h => by
  have hk : ¬ k < s.size := by omega
  simp only [iterN, isKey_L1 s k hs, if_neg hk, Option.bind_some, List.range'_zero, List.all_nil, cond_true]
  rw [show (k : Int) = s.size by omega]
 | n + 1, k, h => by
  have hk : k < s.size := by omega
  rw [iterN, isKey_L1 s k hs, if_pos hk, Option.bind_some, List.range'_succ, List.all_cons]
  cases okB k (byteAt s k) with
  | true => simp only [cond_true, Bool.true_and]; exact isKey_iter s hs n (k + 1) (by omega)
  | false => rfl
theorem isKey_eq (s : ByteArray) (hs : s.size ≤ 1000000000) : kit_IsKey s = some (keyB s) := by
 have h := iter_loopO (isKey_iter s hs s.size 0 (by omega))
 unfold kit_IsKey
 have h' : loopO (0 : Int) (fun s_1 => kit_IsKey_L1 s s_1) = _ := h
 rw [h', Option.bind_some, ← List.range_eq_range']
 have e : decide ((s.size : Int) ≤ 40) = decide (s.size ≤ 40) := decide_eq_decide.2 (by omega)
 simp only [keyB]
 cases (List.range s.size).all (fun i => okB i (byteAt s i)) with
 | true =>
  rw [cond_true, thenC_go, sNe_nil, e, Bool.and_true]
  cases decide (s.size ≠ 0) <;> rfl
 | false => simp only [cond_false, thenC_ret, Bool.and_false]
def inSet (t : ByteArray) (b : UInt8) : Bool := !decide (ixB t (b.toNat : Int) < 0)
theorem only_L1 (s t : ByteArray) (k x : Nat) (h : k < s.size) : ref_only_L1 s t k x () = some (bif inSet t (byteAt s k) then .go () else .ret false) := by
 simp only [ref_only_L1, idxS_nat s k h, strings_IndexByte, internal_stringslite_IndexByte, Option.bind_some, inSet]
 cases decide (ixB t ((byteAt s k).toNat : Int) < 0) <;> rfl
theorem only_run (s t : ByteArray) : ∀ (xs : List Nat) (k : Nat), k + xs.length = s.size → forR (fun k x u => ref_only_L1 s t k x u) xs k () = some (bif (List.range' k xs.length).all (fun j => inSet t (byteAt s j)) then .go () else .ret false)
 | [], k, h => rfl
 | x :: xs, k, h => by
  simp only [List.length_cons] at h ⊢
  have hk : k < s.size := by omega
  rw [forR, only_L1 s t k x hk, Option.bind_some, List.range'_succ, List.all_cons]
  cases inSet t (byteAt s k) with
  | true => simp only [cond_true, Bool.true_and]; exact only_run s t xs (k + 1) (by omega)
  | false => rfl
theorem only_eq (s t : ByteArray) (hs : s.size ≤ 1000000000) : ref_only s t = some ((List.range s.size).all fun i => inSet t (byteAt s i)) := by
 unfold ref_only
 rw [Int.toNat_natCast, forL_eq (by simp; omega), only_run s t _ 0 (by simp), Option.bind_some, List.length_range, ← List.range_eq_range']
 cases (List.range s.size).all (fun i => inSet t (byteAt s i)) <;> rfl
def alpha : ByteArray := ⟨#[97, 98, 99, 100, 101, 102, 103, 104, 105, 106, 107, 108, 109, 110, 111, 112, 113, 114, 115, 116, 117, 118, 119, 120, 121, 122]⟩
def alnum : ByteArray := ⟨#[97, 98, 99, 100, 101, 102, 103, 104, 105, 106, 107, 108, 109, 110, 111, 112, 113, 114, 115, 116, 117, 118, 119, 120, 121, 122, 48, 49, 50, 51, 52, 53, 54, 55, 56, 57, 45, 95]⟩
theorem inSet_all : ∀ n : Fin 256, inSet alpha (UInt8.ofNat n.val) = lowB (UInt8.ofNat n.val) ∧ inSet alnum (UInt8.ofNat n.val) = (lowB (UInt8.ofNat n.val) || moreB (UInt8.ofNat n.val)) := by decide +kernel
theorem inSet_alpha (b : UInt8) : inSet alpha b = lowB b := by
 have := (inSet_all ⟨b.toNat, b.toNat_lt⟩).1
 simpa using this
theorem inSet_alnum (b : UInt8) : inSet alnum b = (lowB b || moreB b) := by
 have := (inSet_all ⟨b.toNat, b.toNat_lt⟩).2
 simpa using this
theorem refKey_eq (s : ByteArray) (hs : s.size ≤ 1000000000) : ref_Key s = some (keyB s) := by
 unfold ref_Key ref_in
 have e1 : decide ((1 : Int) ≤ (s.size : Int)) = decide (s.size ≠ 0) := decide_eq_decide.2 (by omega)
 have e2 : decide ((s.size : Int) ≤ 40) = decide (s.size ≤ 40) := decide_eq_decide.2 (by omega)
 rw [e1, e2]
 by_cases h1 : s.size ≠ 0
 ·by_cases h2 : s.size ≤ 40
  ·have hsub : subS s 0 1 = some (s.extract 0 1) := by
    unfold subS; rw [if_pos ⟨by omega, by omega, by decide, by show 1 ≤ s.size; omega⟩]; rfl
   have hsz : (s.extract 0 1).size = 1 := by simp [ByteArray.size_extract]; omega
   have hb : byteAt (s.extract 0 1) 0 = byteAt s 0 := by
    obtain ⟨⟨l⟩⟩ := s
    simp only [byteAt]
    cases l with
    | nil => exact absurd rfl h1
    | cons b l => simp [ByteArray.extract, ByteArray.copySlice]
   simp only [decide_eq_true h1, decide_eq_true h2, cond_true, Option.bind_some, hsub]
   have o1 := only_eq (s.extract 0 1) alpha (by omega)
   have o2 := only_eq s alnum hs
   unfold alpha at o1
   unfold alnum at o2
   rw [o1, Option.bind_some, o2]
   have e3 : (List.range (s.extract 0 1).size).all (fun i => inSet alpha (byteAt (s.extract 0 1) i)) = lowB (byteAt s 0) := by
    rw [hsz]
    simp only [List.range_succ, List.range_zero, List.nil_append, List.all_cons, List.all_nil, Bool.and_true]
    rw [hb, inSet_alpha]
   have e3' := e3
   unfold alpha at e3'
   rw [e3']
   have e4 : ∀ i, inSet alnum (byteAt s i) = (lowB (byteAt s i) || moreB (byteAt s i)) := fun i => inSet_alnum _
   have e5 : keyB s = (lowB (byteAt s 0) && (List.range s.size).all (fun i => inSet alnum (byteAt s i))) := by
    simp only [keyB, decide_eq_true h1, decide_eq_true h2, Bool.true_and, e4]
    rw [Bool.eq_iff_iff]
    simp only [List.all_eq_true, List.mem_range, Bool.and_eq_true, okB, Bool.or_eq_true, decide_eq_true_eq]
    constructor
    ·intro h
     refine ⟨?_, fun i hi => (h i hi).imp id (fun h => h.2)⟩
     rcases h 0 (by omega) with h | h
     ·exact h
     ·exact absurd h.1 (by omega)
    ·rintro ⟨h3, h4⟩ i hi
     by_cases e : i = 0
     ·rw [e]; exact .inl h3
     ·exact (h4 i hi).imp id (fun h => ⟨by omega, h⟩)
   unfold alnum at e5
   rw [e5]
   cases lowB (byteAt s 0) <;> rfl
  ·simp only [decide_eq_true h1, decide_eq_false h2, cond_true, cond_false, Option.bind_some, keyB, Bool.false_and, Bool.and_false]
 ·simp only [decide_eq_false h1, cond_false, Option.bind_some, keyB, Bool.false_and]
theorem keyB_ne {s : ByteArray} (h : keyB s = true) : s.size ≠ 0 := by
 simp only [keyB, Bool.and_eq_true, decide_eq_true_eq] at h
 exact h.1
end Go.Proofs.YtpojeclokolkaaaGreatDoor.Law

open Go Go.Eng
namespace Go.Proofs.YtpojeclokolkaaaGreatDoor.Law
set_option linter.unusedVariables false
set_option linter.unusedSimpArgs false
def nilS : ByteArray := ⟨#[]⟩
def prevK {α : Type} (key : α → ByteArray) (l : List α) (k : Nat) : ByteArray := if k = 0 then nilS else match l[k - 1]? with | some y => key y | none => nilS
def chk {α : Type} (key : α → ByteArray) (stp : ByteArray → α → Int) : ByteArray → List α → Int
 | _, [] => 0
 | last, x :: xs => bif stp last x == 0 then chk key stp (key x) xs else stp last x
def outC (e : Int) : Ctl Unit Int := bif e == 0 then .go () else .ret e
theorem chk_prev {α : Type} {key : α → ByteArray} {stp : ByteArray → α → Int} {body : Nat → α → Unit → Option (Ctl Unit Int)} (l : List α) : ∀ (xs : List α) (k : Nat), l.drop k = xs → (∀ k x, l[k]? = some x → body k x () = some (outC (stp (prevK key l k) x))) →
  forR body xs k () = some (outC (chk key stp (prevK key l k) xs))
 | [], k, h, hb => rfl
 | x :: xs, k, h, hb => by
  have hg := drop_get h
  rw [forR, hb k x hg, Option.bind_some, chk]
  cases he : stp (prevK key l k) x == 0 with
  | true =>
   simp only [outC, he, cond_true]
   rw [chk_prev l xs (k + 1) (drop_next h) hb]
   have : prevK key l (k + 1) = key x := by simp [prevK, hg]
   rw [this]; rfl
  | false => simp only [outC, he, cond_false]
theorem idx_prev {α : Type} {l : List α} {k : Nat} {x : α} (h : l[k]? = some x) (hk : 0 < k) (hl : l.length ≤ 1000000000) : ∃ y, idx l (w64 ((k : Int) - 1)) = some y ∧ l[k - 1]? = some y := by
 have hlt : k < l.length := (List.getElem?_eq_some_iff.1 h).1
 rw [w64_id (by omega), show (k : Int) - 1 = ((k - 1 : Nat) : Int) by omega, idx_nat]
 exact ⟨l[k - 1], List.getElem?_eq_getElem (by omega), List.getElem?_eq_getElem (by omega)⟩
theorem prev_test {α : Type} {key : α → ByteArray} {l : List α} {k : Nat} {x : α} {s : ByteArray} (h : l[k]? = some x) (hl : l.length ≤ 1000000000) (hs : s.size ≠ 0) :
  (bif decide ((k : Int) > 0) then (idx l (w64 ((k : Int) - 1))).bind fun y => some (sLe s (key y)) else some false) = some (sLe s (prevK key l k)) := by
 by_cases hk : 0 < k
 ·obtain ⟨y, h1, h2⟩ := idx_prev h hk hl
  have hd : decide ((k : Int) > 0) = true := by simp; omega
  simp only [hd, cond_true, h1, Option.bind_some, prevK, if_neg (show ¬ k = 0 by omega), h2]
 ·have hk0 : k = 0 := by omega
  subst hk0
  simp only [prevK, if_pos, nilS, sLe_nil, decide_eq_false hs]
  rfl
theorem chk_go {α : Type} {key : α → ByteArray} {stp : ByteArray → α → Int} {body : Nat → α → ByteArray → Option (Ctl ByteArray Int)} : ∀ (xs : List α) (k : Nat) (last : ByteArray), (∀ k x last, x ∈ xs → body k x last = some (bif stp last x == 0 then .go (key x) else .ret (stp last x))) →
  ∃ last', forR body xs k last = some (bif chk key stp last xs == 0 then .go last' else .ret (chk key stp last xs))
 | [], k, last, hb => ⟨last, rfl⟩
 | x :: xs, k, last, hb => by
  rw [forR, hb k x last (by simp), Option.bind_some, chk]
  cases he : stp last x == 0 with
  | true => exact chk_go xs (k + 1) (key x) (fun k y last hy => hb k y last (by simp [hy]))
  | false =>
   refine ⟨last, ?_⟩
   simp only [cond_false, he]
def badS (n : Int) : Bool := outB n 1 20000
theorem isSide_eq (n : Int) : screen_isSide n = some (!badS n) := by unfold screen_isSide; rw [outside_eq]; rfl
theorem side_eq (n : Int) : ref_side n = some (!badS n) := by unfold ref_side; rw [in_eq]; rfl
theorem sides2 (a b : Int) : screen_sidesFault [a, b] = some (bif badS a || badS b then 1 else 0) := by
 unfold screen_sidesFault
 rw [forL_eq (by simp)]
 simp only [forR, screen_sidesFault_L1, isSide_eq, Option.bind_some, Bool.not_not]
 cases badS a <;> cases badS b <;> rfl
def insB (r : Rect) (w h : Int) : Bool := decide (r.X ≥ 0) && (decide (r.Y ≥ 0) && (decide (w64 (r.X + r.W) ≤ w) && decide (w64 (r.Y + r.H) ≤ h)))
theorem inside_eq (r : Rect) (w h : Int) : screen_inside r w h = some (insB r w h) := by
 unfold screen_inside insB
 cases decide (r.X ≥ 0) <;> cases decide (r.Y ≥ 0) <;> cases decide (w64 (r.X + r.W) ≤ w) <;> rfl
theorem within_eq (r : Rect) (w h : Int) : ref_within r w h = some (insB r w h) := inside_eq r w h
end Go.Proofs.YtpojeclokolkaaaGreatDoor.Law

open Go Go.Eng
namespace Go.Proofs.YtpojeclokolkaaaGreatDoor.Law
set_option linter.unusedVariables false
set_option linter.unusedSimpArgs false
def stpW (w : Wall) (last : ByteArray) (s : Screen) : Int := bif !keyB s.Key then 5 else bif badR s.On then 1 else bif !insB s.On w.W w.H then 3 else bif sLe s.Key last then 7 else 0
theorem meet_ok (a b : Rect) : ∃ m, screen_meet a b = some m := by
 unfold screen_meet
 cases decide (w64 (minI (w64 (a.X + a.W)) (w64 (b.X + b.W)) - maxI a.X b.X) ≤ 0) <;> cases decide (w64 (minI (w64 (a.Y + a.H)) (w64 (b.Y + b.H)) - maxI a.Y b.Y) ≤ 0) <;> exact ⟨_, rfl⟩
def pairsO (w : Wall) : Option Int := (forL w.Screens () (fun k x s => screen_CheckWall_L3 w k x s)).bind fun o_44 => thenC o_44 (fun s_41 => some 0) (fun r => some r)
theorem pairs_same (w : Wall) : (fun k x s => ref_WallFault_L3 w k x s) = fun k x s => screen_CheckWall_L3 w k x s := rfl
theorem pairs_ok (w : Wall) (hl : w.Screens.length ≤ 1000) : ∃ e, pairsO w = some e := by
 have inner : ∀ (x : Screen) (l : List Screen) (k : Nat), forR (fun k x_51 s => screen_CheckWall_L2 x k x_51 s) l k () = some (.go ()) ∨ forR (fun k x_51 s => screen_CheckWall_L2 x k x_51 s) l k () = some (.ret 13) := by
  intro x l
  induction l with
  | nil => exact fun _ => .inl rfl
  | cons y l ih =>
   intro k
   obtain ⟨m, hm⟩ := meet_ok x.On y.On
   rw [forR]
   have : screen_CheckWall_L2 x k y () = some (bif m.2 then .ret 13 else .go ()) := by
    unfold screen_CheckWall_L2
    rw [hm, Option.bind_some]
    cases m.2 <;> rfl
   rw [this, Option.bind_some]
   cases m.2 with
   | true => exact .inr rfl
   | false => exact ih (k + 1)
 have outer : ∀ (l : List Screen) (k : Nat), w.Screens.drop k = l → forR (fun k x s => screen_CheckWall_L3 w k x s) l k () = some (.go ()) ∨ forR (fun k x s => screen_CheckWall_L3 w k x s) l k () = some (.ret 13) := by
  intro l
  induction l with
  | nil => exact fun _ _ => .inl rfl
  | cons x l ih =>
   intro k h
   have hlt := drop_lt h
   have hsub : subL w.Screens 0 (k : Int) = some (w.Screens.take k) := by
    unfold subL
    rw [if_pos ⟨by omega, by omega, by omega, by omega⟩]; simp
   rw [forR]
   have hB : screen_CheckWall_L3 w k x () = some (.go ()) ∨ screen_CheckWall_L3 w k x () = some (.ret 13) := by
    unfold screen_CheckWall_L3
    rw [hsub, Option.bind_some, forL_eq (by rw [List.length_take]; omega)]
    rcases inner x (w.Screens.take k) 0 with h1 | h1
    ·left; rw [h1]; rfl
    ·right; rw [h1]; rfl
   rcases hB with hB | hB
   ·rw [hB, Option.bind_some]; exact ih (k + 1) (drop_next h)
   ·rw [hB]; exact .inr rfl
 unfold pairsO
 rw [forL_eq (by omega)]
 rcases outer w.Screens 0 rfl with h | h
 ·exact ⟨0, by rw [h]; rfl⟩
 ·exact ⟨13, by rw [h]; rfl⟩
theorem wall_ok (w : Wall) (hk : w.Key.size ≤ 1000) (hs : ∀ s ∈ w.Screens, s.Key.size ≤ 1000) (hl : w.Screens.length ≤ 50) : ∃ e, screen_CheckWall w = some e ∧ ref_WallFault w = some e ∧
  (e = 0 → badS w.W = false ∧ badS w.H = false ∧ chk (fun s => s.Key) (stpW w) nilS w.Screens = 0 ∧ pairsO w = some 0) := by
 unfold screen_CheckWall ref_WallFault
 rw [isKey_eq w.Key (by omega), refKey_eq w.Key (by omega), sides2, side_eq, side_eq]
 simp only [Option.bind_some, Bool.not_not]
 cases keyB w.Key with
 | false => exact ⟨5, rfl, rfl, fun h => by cases h⟩
 | true =>
  cases hW : badS w.W with
  | true => exact ⟨1, rfl, rfl, fun h => by cases h⟩
  | false =>
   cases hH : badS w.H with
   | true => exact ⟨1, rfl, rfl, fun h => by cases h⟩
   | false =>
    have hd : decide ((w.Screens.length : Int) > 50) = false := by simp; omega
    simp only [Bool.not_true, cond_false, cond_true, Bool.or_self, bne_self_eq_false, hd, Option.bind_some]
    obtain ⟨p, hp⟩ := pairs_ok w (by omega)
    have h1 := chk_prev (key := fun s : Screen => s.Key) (stp := stpW w) (body := fun k x s => screen_CheckWall_L1 w k x s) w.Screens w.Screens 0 rfl (fun k x hx => by
     have hxm := List.mem_of_getElem? hx
     unfold screen_CheckWall_L1 stpW
     rw [isKey_eq _ (by have := hs x hxm; omega), checkRect_eq, inside_eq]
     simp only [Option.bind_some]
     cases hkey : keyB x.Key with
     | false => rfl
     | true =>
      have hne : x.Key.size ≠ 0 := keyB_ne hkey
      rw [prev_test (key := fun s : Screen => s.Key) hx (by omega) hne]
      cases badR x.On with
      | true => rfl
      | false =>
       cases insB x.On w.W w.H with
       | false => rfl
       | true => cases sLe x.Key (prevK (fun s : Screen => s.Key) w.Screens k) <;> rfl)
    obtain ⟨last', h2⟩ := chk_go (key := fun s : Screen => s.Key) (stp := stpW w) (body := fun k x s => ref_WallFault_L1 w k x s) w.Screens 0 nilS (fun k x last hxm => by
     unfold ref_WallFault_L1 stpW
     rw [refKey_eq _ (by have := hs x hxm; omega), rectFault_eq, within_eq]
     simp only [Option.bind_some]
     cases keyB x.Key <;> cases badR x.On <;> cases insB x.On w.W w.H <;> cases sLe x.Key last <;> rfl)
    have h0 : prevK (fun s : Screen => s.Key) w.Screens 0 = nilS := rfl
    rw [h0] at h1
    rw [forL_eq (by omega), h1, forL_eq (xs := w.Screens) (s := (⟨#[]⟩ : ByteArray)) (by omega)]
    rw [show (⟨#[]⟩ : ByteArray) = nilS from rfl, h2]
    cases hc : chk (fun s : Screen => s.Key) (stpW w) nilS w.Screens == 0 with
    | true =>
     refine ⟨p, ?_, ?_, fun hp0 => ⟨trivial, trivial, eq_of_beq hc, by rw [hp, hp0]⟩⟩
     ·simp only [outC, hc, cond_true, Option.bind_some, thenC]; exact hp
     ·simp only [cond_true, Option.bind_some, thenC]; rw [pairs_same]; exact hp
    | false =>
     refine ⟨chk (fun s : Screen => s.Key) (stpW w) nilS w.Screens, ?_, ?_, fun e => by rw [e] at hc; cases hc⟩
     ·simp only [outC, hc, cond_false, Option.bind_some, thenC]
     ·simp only [cond_false, Option.bind_some, thenC]
end Go.Proofs.YtpojeclokolkaaaGreatDoor.Law

open Go Go.Eng
namespace Go.Proofs.YtpojeclokolkaaaGreatDoor.Law
set_option linter.unusedVariables false
set_option linter.unusedSimpArgs false
theorem clone_ok (l : List Screen) (h : l.length ≤ 1000000) : slices_Clone_api_Screen_api_Screen l = some l := by
 unfold slices_Clone_api_Screen_api_Screen
 rw [appL_ok _ _ (by simp; omega)]; rfl
def WOk (w : Wall) : Prop := w.Key.size ≤ 1000 ∧ (∀ s ∈ w.Screens, s.Key.size ≤ 1000)
end Go.Proofs.YtpojeclokolkaaaGreatDoor.Law

open Go Go.Eng
namespace Go.Proofs.YtpojeclokolkaaaGreatDoor.Law
set_option linter.unusedVariables false
set_option linter.unusedSimpArgs false
end Go.Proofs.YtpojeclokolkaaaGreatDoor.Law

