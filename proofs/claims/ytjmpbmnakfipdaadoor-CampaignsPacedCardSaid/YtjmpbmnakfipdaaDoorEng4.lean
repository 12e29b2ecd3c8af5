/-
  The engine: what the machine does to data, shown once for all programs (part 4).
-/
import Derived.Test.YtjmpbmnakfipdaaDoorEng3
import Derived.Sort.Row
import Derived.Sort.Grow
/-
  THE ENGINE: parts of a slice over a box; clear.
-/
namespace Go.Eng
set_option linter.unusedVariables false
set_option linter.unusedSimpArgs false

section
variable {C : Cfg} {Q : QH} {sl : Nat → V} {H : Hp} {c : Code}
end
section
variable {C : Cfg} {sl : Nat → V} {H : Hp} {q : Qm} {all rest : List Oper} {K : (Nat → V) → Hp → Prop}
 {dst : Option Tmp} {t ty e : TypeId} {pos : String} {after : Array Edge} {g : Option (Nat × Bool)}
section part
variable {α : Type} {enc : α → List D} {xs : List α} {sz : Nat} {n : Nm} {x l hi : Operand} {k k' : IntKind} {a b : Int} {u : Unit}
end part
end
end Go.Eng

/-
  THE ENGINE: a slice that a function writes into: its box is handed in and handed back.
-/
namespace Go.Eng
set_option linter.unusedVariables false
set_option linter.unusedSimpArgs false

def inN (i : Int) (len : Nat) : Option Unit := if 0 ≤ i ∧ i.toNat < len then some () else none
section
variable {C : Cfg} {sl : Nat → V} {H : Hp} {Q : QH} {c : Code}
end
section
variable {C : Cfg} {sl : Nat → V} {H : Hp} {q : Qm} {all rest : List Oper} {K : (Nat → V) → Hp → Prop}
variable {dst : Option Tmp} {d : Nat} {t ty : TypeId} {pos : String} {after : Array Edge} {g : Option (Nat × Bool)}
end
end Go.Eng

/-
  THE ENGINE: rules for maps, arrays and new slices of zeros.
-/
namespace Go.Eng
set_option linter.unusedVariables false
set_option linter.unusedSimpArgs false

section
variable {C : Cfg} {sl : Nat → V} {H : Hp} {q : Qm} {all rest : List Oper} {K : (Nat → V) → Hp → Prop}
variable {dst : Option Tmp} {d : Nat} {t ty : TypeId} {pos : String} {after : Array Edge} {g : Option (Nat × Bool)}
end
end Go.Eng

/-
  THE ENGINE: slices with room made ahead; functions that are handed two slices in their boxes.
-/
namespace Go.Eng
set_option linter.unusedVariables false
set_option linter.unusedSimpArgs false

section
variable {C : Cfg} {Q : QH} {sl : Nat → V} {H : Hp} {c : Code}
end
section
variable {C : Cfg} {sl : Nat → V} {H : Hp} {q : Qm} {all rest : List Oper} {K : (Nat → V) → Hp → Prop}
variable {dst : Option Tmp} {d : Nat} {t ty : TypeId} {pos : String} {after : Array Edge} {g : Option (Nat × Bool)}
end
end Go.Eng

/-
  THE ENGINE: functions that are handed two slices in their boxes.
-/
namespace Go.Eng
set_option linter.unusedVariables false
set_option linter.unusedSimpArgs false

def okO (os : List (Option Box)) : Bool := os.all fun o => match o with
  | some b => b.ok 0
  | none => true
theorem ArgsOK.set {S : Store} {x y x' y' : V} (hxy : y' = x' ∨ y' = co S x') : ∀ {a b : List V} {i : Nat}, ArgsOK S (a.set i x) (b.set i y) → ArgsOK S (a.set i x') (b.set i y')
  | [], [], i, h => by simpa using h
  | [], b :: bs, i, h => by cases i <;> (simp at h; cases h)
  | a :: az, [], i, h => by cases i <;> (simp at h; cases h)
  | a :: az, b :: bs, 0, h => by
    simp only [List.set_cons_zero] at h ⊢
    cases h with
    | cons _ t => exact .cons hxy t
  | a :: az, b :: bs, i + 1, h => by
    simp only [List.set_cons_succ] at h ⊢
    cases h with
    | cons h1 t => exact .cons h1 (ArgsOK.set hxy t)
section
variable {C : Cfg} {sl : Nat → V} {H : Hp} {q : Qm} {all rest : List Oper} {K : (Nat → V) → Hp → Prop}
variable {dst : Option Tmp} {d : Nat} {t ty : TypeId} {pos : String} {after : Array Edge} {g : Option (Nat × Bool)}
theorem pre_mk {H0 : Hp} (h : H.take H0.length = H0) : pre H0 H := pre_r h
end
end Go.Eng

/-
  THE ENGINE: a sort of the library's, by its contract off the shelf.
-/
namespace Go.Eng
open Go.Sort
set_option linter.unusedVariables false
set_option linter.unusedSimpArgs false

theorem RepL.alone {G : Gh} {w : World} {vargs : List Value} {a : V} (h : RepL G w vargs [a]) : ∃ x, vargs = [x] ∧ RepV G w x a := by
 obtain ⟨hl, h⟩ := h
 match vargs, hl with
 | [x], _ => exact ⟨x, rfl, h 0 (by simp) (by simp)⟩
end Go.Eng

