import Derived.Test.YtipcgokielgnhaaGreatDoorPlStream
/-
  PLAIN LEMMAS: campaigns that are made.
-/
open Go Go.Eng
namespace Go.Proofs.YtipcgokielgnhaaGreatDoor.Law
set_option linter.unusedVariables false
set_option linter.unusedSimpArgs false

def Short (s : ByteArray) : Prop := s.size ≤ 1000
def GoodC (c : Campaign) : Prop := Short c.Key ∧ Short c.Class ∧ c.Tags.length ≤ 20 ∧ ∀ t ∈ c.Tags, Short t

theorem appL_ok {α : Type} (xs ys : List α) (h : xs.length + ys.length ≤ 1000000000) : appL xs ys = some (xs ++ ys) := by unfold appL; rw [if_pos h]

theorem short_lit {s : ByteArray} (h : Nat.ble s.size 1000 = true) : Short s := Nat.le_of_ble_eq_true h

end Go.Proofs.YtipcgokielgnhaaGreatDoor.Law

