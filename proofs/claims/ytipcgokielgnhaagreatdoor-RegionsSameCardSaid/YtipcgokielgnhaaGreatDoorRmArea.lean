import Derived.Test.YtipcgokielgnhaaGreatDoorRmReg2
/-
  PLAIN LEMMAS: areas are counts of pixels.
-/
open Go Go.Eng
namespace Go.Proofs.YtipcgokielgnhaaGreatDoor.Law
set_option linter.unusedVariables false
set_option linter.unusedSimpArgs false

def sumN (f : Int → Int) (lo : Int) : Nat → Int
 | 0 => 0
 | n + 1 => sumN f lo n + f (lo + n)
theorem sumN_congr {f g : Int → Int} {lo : Int} : ∀ {n : Nat}, (∀ x, f x = g x) → sumN f lo n = sumN g lo n
 | 0, _ => rfl
 | n + 1, h => by rw [sumN, sumN, sumN_congr (n := n) h, h]
theorem sumN_add (f g : Int → Int) (lo : Int) : ∀ n : Nat, sumN (fun x => f x + g x) lo n = sumN f lo n + sumN g lo n
 | 0 => rfl
 | n + 1 => by rw [sumN, sumN, sumN, sumN_add f g lo n]; omega
theorem sumN_sub (f g : Int → Int) (lo : Int) : ∀ n : Nat, sumN (fun x => f x - g x) lo n = sumN f lo n - sumN g lo n
 | 0 => rfl
 | n + 1 => by rw [sumN, sumN, sumN, sumN_sub f g lo n]; omega
theorem sumN_zero (lo : Int) : ∀ n : Nat, sumN (fun _ => 0) lo n = 0
 | 0 => rfl
 | n + 1 => by rw [sumN, sumN_zero lo n]; rfl
theorem sumN_mul (c : Int) (f : Int → Int) (lo : Int) : ∀ n : Nat, sumN (fun x => c * f x) lo n = c * sumN f lo n
 | 0 => by simp [sumN]
 | n + 1 => by rw [sumN, sumN, sumN_mul c f lo n, Int.mul_add]
def b01 (b : Bool) : Int := bif b then 1 else 0
theorem b01_and (a b : Bool) : b01 (a && b) = b01 b * b01 a := by cases a <;> cases b <;> rfl
theorem sumN_ind {lo a b : Int} (h1 : lo ≤ a) (h2 : a ≤ b) : ∀ n : Nat, sumN (fun x => b01 (decide (a ≤ x) && decide (x < b))) lo n = min b (lo + n) - min a (lo + n)
 | 0 => by simp only [sumN]; omega
 | n + 1 => by
  rw [sumN, sumN_ind h1 h2 n]
  by_cases k1 : a ≤ lo + (n : Int)
  ·by_cases k2 : lo + (n : Int) < b
   ·rw [decide_eq_true k1, decide_eq_true k2]; show _ + 1 = _; omega
   ·rw [decide_eq_true k1, decide_eq_false k2]; show _ + 0 = _; omega
  ·rw [decide_eq_false k1]; show _ + 0 = _; omega
def SS (lo : Int) (n : Nat) (f : Int → Int → Int) : Int := sumN (fun y => sumN (fun x => f x y) lo n) lo n
theorem SS_congr {lo : Int} {n : Nat} {f g : Int → Int → Int} (h : ∀ x y, f x y = g x y) : SS lo n f = SS lo n g := sumN_congr (fun y => sumN_congr (fun x => h x y))
theorem SS_add (lo : Int) (n : Nat) (f g : Int → Int → Int) : SS lo n (fun x y => f x y + g x y) = SS lo n f + SS lo n g := by
 unfold SS
 rw [← sumN_add]
 exact sumN_congr (fun y => sumN_add _ _ _ _)
theorem SS_sub (lo : Int) (n : Nat) (f g : Int → Int → Int) : SS lo n (fun x y => f x y - g x y) = SS lo n f - SS lo n g := by
 unfold SS
 rw [← sumN_sub]
 exact sumN_congr (fun y => sumN_sub _ _ _ _)
theorem SS_zero (lo : Int) (n : Nat) : SS lo n (fun _ _ => 0) = 0 := by
 unfold SS
 rw [sumN_congr (g := fun _ => 0) (fun y => sumN_zero lo n), sumN_zero]
def sumL {α : Type} (f : α → Int) : List α → Int
 | [] => 0
 | x :: l => f x + sumL f l
theorem sumL_app {α : Type} (f : α → Int) : ∀ l m : List α, sumL f (l ++ m) = sumL f l + sumL f m
 | [], m => by simp [sumL]
 | x :: l, m => by rw [List.cons_append, sumL, sumL, sumL_app f l m]; omega
theorem sumL_congr {α : Type} {f g : α → Int} : ∀ {l : List α}, (∀ x ∈ l, f x = g x) → sumL f l = sumL g l
 | [], _ => rfl
 | x :: l, h => by rw [sumL, sumL, h x (by simp), sumL_congr (l := l) (fun y hy => h y (by simp [hy]))]
theorem sumL_map {α β : Type} (f : β → Int) (g : α → β) : ∀ l : List α, sumL f (l.map g) = sumL (fun x => f (g x)) l
 | [] => rfl
 | x :: l => by rw [List.map_cons, sumL, sumL, sumL_map f g l]
theorem sumL_mul {α : Type} (c : Int) (f : α → Int) : ∀ l : List α, sumL (fun x => c * f x) l = c * sumL f l
 | [] => by simp [sumL]
 | x :: l => by rw [sumL, sumL, sumL_mul c f l, Int.mul_add]
theorem SS_sumL {α : Type} (lo : Int) (n : Nat) (g : α → Int → Int → Int) : ∀ l : List α, sumL (fun r => SS lo n (g r)) l = SS lo n (fun x y => sumL (fun r => g r x y) l)
 | [] => (SS_zero lo n).symm
 | r :: l => by
  rw [sumL, SS_sumL lo n g l, ← SS_add]; rfl
def ind (r : Rect) (x y : Int) : Int := b01 (has1 x y r)
theorem area_ind {lo : Int} {n : Nat} {r : Rect} (h1 : lo ≤ r.X ∧ r.X + r.W ≤ lo + n) (h2 : lo ≤ r.Y ∧ r.Y + r.H ≤ lo + n) (h3 : 0 ≤ r.W) (h4 : 0 ≤ r.H) : SS lo n (ind r) = r.W * r.H := by
 have e1 : sumN (fun x => b01 (decide (r.X ≤ x) && decide (x < r.X + r.W))) lo n = r.W := by rw [sumN_ind h1.1 (by omega)]; omega
 have e2 : sumN (fun y => b01 (decide (r.Y ≤ y) && decide (y < r.Y + r.H))) lo n = r.H := by rw [sumN_ind h2.1 (by omega)]; omega
 unfold SS ind has1
 rw [sumN_congr (g := fun y => r.W * b01 (decide (r.Y ≤ y) && decide (y < r.Y + r.H))) (fun y => by
  rw [sumN_congr (g := fun x => b01 (decide (r.Y ≤ y) && decide (y < r.Y + r.H)) * b01 (decide (r.X ≤ x) && decide (x < r.X + r.W))) (fun x => b01_and _ _), sumN_mul, e1, Int.mul_comm]), sumN_mul, e2]
def areaL (l : List Rect) : Int := sumL (fun r => r.W * r.H) l
open Classical in
noncomputable def P01 (p : Prop) : Int := if p then 1 else 0
theorem P01_t {p : Prop} (h : p) : P01 p = 1 := by unfold P01; rw [if_pos h]
theorem P01_f {p : Prop} (h : ¬ p) : P01 p = 0 := by unfold P01; rw [if_neg h]
theorem P01_congr {p q : Prop} (h : p ↔ q) : P01 p = P01 q := by rw [propext h]
theorem b01_P (b : Bool) : b01 b = P01 (b = true) := by
 cases b
 ·rw [P01_f (by simp)]; rfl
 ·rw [P01_t rfl]; rfl
theorem row_ind (x : Int) : ∀ (L : List Run) (lo : Int), CanonFrom lo L → sumL (fun r => b01 (decide (r.f_from ≤ x) && decide (x < r.f_to))) L = P01 (mem x L)
 | [], _, _ => by rw [P01_f (mem_nil x)]; rfl
 | r :: L, lo, ⟨h1, h2, h3⟩ => by
  rw [sumL, row_ind x L _ h3, b01_P]
  simp only [Bool.and_eq_true, decide_eq_true_eq]
  by_cases k : r.f_from ≤ x ∧ x < r.f_to
  ·rw [P01_t k, P01_f (fun m => by have := h3.gt m; omega), P01_t ((mem_cons _ _ _).2 (.inl k))]; rfl
  ·rw [P01_f k, Int.zero_add]
   exact P01_congr (by rw [mem_cons]; simp [k])
theorem band_ind (x y : Int) : ∀ (bs : List Band) (lo : Int), CanonB lo bs → (∀ b ∈ bs, ∃ c, CanonFrom c b.row) → sumL (fun r => ind r x y) (flatB bs) = P01 (mem x (rowAt bs y))
 | [], _, _, _ => by rw [show rowAt [] y = [] from rfl, P01_f (mem_nil x)]; rfl
 | p :: bs, lo, ⟨h1, h2, h3, h4, h5⟩, hc => by
  have e : flatB (p :: bs) = p.row.map (toRect p.a (p.b - p.a)) ++ flatB bs := by simp [flatB]
  rw [e, sumL_app, sumL_map, band_ind x y bs _ h5 (fun b hb => hc b (by simp [hb]))]
  have e2 : ∀ r : Run, ind (toRect p.a (p.b - p.a) r) x y = b01 (decide (p.a ≤ y) && decide (y < p.b)) * b01 (decide (r.f_from ≤ x) && decide (x < r.f_to)) := fun r => by
   unfold ind has1 toRect
   rw [b01_and]
   simp only
   rw [show r.f_from + (r.f_to - r.f_from) = r.f_to by omega, show p.a + (p.b - p.a) = p.b by omega]
  rw [sumL_congr (fun r _ => e2 r), sumL_mul]
  obtain ⟨c, hcp⟩ := hc p (by simp)
  rw [row_ind x p.row c hcp]
  by_cases k1 : p.a ≤ y
  ·by_cases k2 : y < p.b
   ·rw [rowAt_in k1 k2, rowAt_low h5 k2, P01_f (mem_nil x), decide_eq_true k1, decide_eq_true k2]
    show 1 * _ + 0 = _
    omega
   ·rw [rowAt_out (.inr (by omega)), decide_eq_false k2, Bool.and_false]
    show 0 * _ + _ = _
    omega
  ·rw [rowAt_out (.inl (by omega)), decide_eq_false k1]
   show 0 * _ + _ = _
   omega
theorem bands_area {l m : List Rect} (hfl : ∀ r ∈ l, Fine r) {bs : List Band} (hb : CanonB (-200000) bs) (hr : ∀ y, CanonFrom (-200000) (rowAt bs y) ∧ (∀ r ∈ rowAt bs y, Okr r) ∧ ∀ x, mem x (rowAt bs y) ↔ hasP l x y ∧ ¬ hasP m x y) :
  (∀ b ∈ bs, ∃ y, b.row = rowAt bs y ∧ b.a ≤ y ∧ y < b.b ∧ -100000 ≤ b.a ∧ b.b ≤ 100000) := by
 have key : ∀ (bs' : List Band) (lo : Int), CanonB lo bs' → ∀ b ∈ bs', (∀ y, b.a ≤ y → y < b.b → rowAt bs' y = b.row) ∧ b.a < b.b ∧ b.row ≠ [] := by
  intro bs'
  induction bs' with
  | nil => intro lo _ b hb; cases hb
  | cons p bs' ih =>
   rintro lo ⟨h1, h2, h3, h4, h5⟩ b hb
   rcases List.mem_cons.1 hb with rfl | hb
   ·exact ⟨fun y k1 k2 => rowAt_in k1 k2, h2, h3⟩
   ·obtain ⟨i1, i2, i3⟩ := ih _ h5 b hb
    refine ⟨fun y k1 k2 => ?_, i2, i3⟩
    have hge : p.b ≤ y := by
     rcases Int.lt_or_le y p.b with k | k
     ·have e := i1 y k1 k2
      rw [rowAt_low h5 k] at e
      exact absurd e.symm i3
     ·exact k
    rw [rowAt_out (.inr hge)]; exact i1 y k1 k2
 intro b hbm
 obtain ⟨i1, i2, i3⟩ := key bs _ hb b hbm
 have at_ : ∀ y, b.a ≤ y → y < b.b → -100000 ≤ y ∧ y < 100000 := fun y k1 k2 => by
  obtain ⟨q, hq⟩ := List.exists_mem_of_ne_nil _ i3
  obtain ⟨c1, c2, c3⟩ := hr y
  rw [i1 y k1 k2] at c1 c2 c3
  have := c2 q hq
  have hm : mem q.f_from b.row := ⟨q, hq, Int.le_refl _, this.2.1⟩
  obtain ⟨⟨r, hr, _, k3⟩, _⟩ := (c3 _).1 hm
  obtain ⟨f1, f2, f3, f4⟩ := hfl r hr
  omega
 have a1 := at_ b.a (Int.le_refl _) i2
 have a2 := at_ (b.b - 1) (by omega) (by omega)
 exact ⟨b.a, (i1 b.a (Int.le_refl _) i2).symm, Int.le_refl _, i2, by omega, by omega⟩
theorem region_area {l m : List Rect} (hfl : ∀ r ∈ l, Fine r) {bs : List Band} (hb : CanonB (-200000) bs) (hr : ∀ y, CanonFrom (-200000) (rowAt bs y) ∧ (∀ r ∈ rowAt bs y, Okr r) ∧ ∀ x, mem x (rowAt bs y) ↔ hasP l x y ∧ ¬ hasP m x y) :
  (∀ r ∈ flatB bs, Fine r) ∧ (∀ x y, sumL (fun r => ind r x y) (flatB bs) = P01 (hasP l x y ∧ ¬ hasP m x y)) ∧ ∀ n : Nat, n = 200000 → areaL (flatB bs) = SS (-100000) n (fun x y => P01 (hasP l x y ∧ ¬ hasP m x y)) := by
 have hba := bands_area hfl hb hr
 have hfine : ∀ r ∈ flatB bs, Fine r := by
  intro r hrm
  obtain ⟨b, hb', hr'⟩ := List.mem_flatMap.1 hrm
  obtain ⟨q, hq, rfl⟩ := List.mem_map.1 hr'
  obtain ⟨y, e, k1, k2, k3, k4⟩ := hba b hb'
  have ho := (hr y).2.1 q (by rw [← e]; exact hq)
  unfold Okr at ho
  refine ⟨?_, ?_, ?_, ?_⟩
  ·show -100000 ≤ q.f_from ∧ q.f_from ≤ 100000; omega
  ·show -100000 ≤ b.a ∧ b.a ≤ 100000; omega
  ·show 1 ≤ q.f_to - q.f_from ∧ q.f_from + (q.f_to - q.f_from) ≤ 100000; omega
  ·show 1 ≤ b.b - b.a ∧ b.a + (b.b - b.a) ≤ 100000; omega
 have hind : ∀ x y, sumL (fun r => ind r x y) (flatB bs) = P01 (hasP l x y ∧ ¬ hasP m x y) := fun x y => by
  rw [band_ind x y bs _ hb (fun b hb' => by
   obtain ⟨y, e, _⟩ := hba b hb'
   exact ⟨_, by rw [e]; exact (hr y).1⟩)]
  exact P01_congr ((hr y).2.2 x)
 refine ⟨hfine, hind, fun n hn => ?_⟩
 unfold areaL
 rw [sumL_congr (g := fun r => SS (-100000) n (ind r)) (fun r hr' => by
  obtain ⟨f1, f2, f3, f4⟩ := hfine r hr'
  rw [area_ind (by omega) (by omega) (by omega) (by omega)]), SS_sumL]
 exact SS_congr hind
end Go.Proofs.YtipcgokielgnhaaGreatDoor.Law

