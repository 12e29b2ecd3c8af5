/-
  The engine: what the machine does to data, shown once for all programs (part 4).
-/
import Derived.Test.YtjmpbmnakfipdaaDoorEng3
import Derived.Sort.Row
import Derived.Sort.Grow
import Derived.Lib.LaidTab
import Derived.Lib.ItoaNum
import Derived.Deep.Draws
/-
  THE ENGINE: parts of a slice over a box; clear.
-/
namespace Go.Eng
set_option linter.unusedVariables false
set_option linter.unusedSimpArgs false

section
variable {C : Cfg} {Q : QH} {sl : Nat → V} {H : Hp} {c : Code}
end
section
variable {C : Cfg} {sl : Nat → V} {H : Hp} {q : Qm} {all rest : List Oper} {K : (Nat → V) → Hp → Prop}
 {dst : Option Tmp} {t ty e : TypeId} {pos : String} {after : Array Edge} {g : Option (Nat × Bool)}
section part
variable {α : Type} {enc : α → List D} {xs : List α} {sz : Nat} {n : Nm} {x l hi : Operand} {k k' : IntKind} {a b : Int} {u : Unit}
end part
end
end Go.Eng

/-
  THE ENGINE: a slice that a function writes into: its box is handed in and handed back.
-/
namespace Go.Eng
set_option linter.unusedVariables false
set_option linter.unusedSimpArgs false

def inN (i : Int) (len : Nat) : Option Unit := if 0 ≤ i ∧ i.toNat < len then some () else none
section
variable {C : Cfg} {sl : Nat → V} {H : Hp} {Q : QH} {c : Code}
end
section
variable {C : Cfg} {sl : Nat → V} {H : Hp} {q : Qm} {all rest : List Oper} {K : (Nat → V) → Hp → Prop}
variable {dst : Option Tmp} {d : Nat} {t ty : TypeId} {pos : String} {after : Array Edge} {g : Option (Nat × Bool)}
end
end Go.Eng

/-
  THE ENGINE: rules for maps, arrays and new slices of zeros.
-/
namespace Go.Eng
set_option linter.unusedVariables false
set_option linter.unusedSimpArgs false

section
variable {C : Cfg} {sl : Nat → V} {H : Hp} {q : Qm} {all rest : List Oper} {K : (Nat → V) → Hp → Prop}
variable {dst : Option Tmp} {d : Nat} {t ty : TypeId} {pos : String} {after : Array Edge} {g : Option (Nat × Bool)}
end
end Go.Eng

/-
  THE ENGINE: slices with room made ahead; functions that are handed two slices in their boxes.
-/
namespace Go.Eng
set_option linter.unusedVariables false
set_option linter.unusedSimpArgs false

section
variable {C : Cfg} {Q : QH} {sl : Nat → V} {H : Hp} {c : Code}
end
section
variable {C : Cfg} {sl : Nat → V} {H : Hp} {q : Qm} {all rest : List Oper} {K : (Nat → V) → Hp → Prop}
variable {dst : Option Tmp} {d : Nat} {t ty : TypeId} {pos : String} {after : Array Edge} {g : Option (Nat × Bool)}
end
end Go.Eng

/-
  THE ENGINE: functions that are handed two slices in their boxes.
-/
namespace Go.Eng
set_option linter.unusedVariables false
set_option linter.unusedSimpArgs false

def okO (os : List (Option Box)) : Bool := os.all fun o => match o with
  | some b => b.ok 0
  | none => true
theorem ArgsOK.set {S : Store} {x y x' y' : V} (hxy : y' = x' ∨ y' = co S x') : ∀ {a b : List V} {i : Nat}, ArgsOK S (a.set i x) (b.set i y) → ArgsOK S (a.set i x') (b.set i y')
  | [], [], i, h => by simpa using h
  | [], b :: bs, i, h => by cases i <;> (simp at h; cases h)
  | a :: as, [], i, h => by cases i <;> (simp at h; cases h)
  | a :: as, b :: bs, 0, h => by
    simp only [List.set_cons_zero] at h ⊢
    cases h with
    | cons _ t => exact .cons hxy t
  | a :: as, b :: bs, i + 1, h => by
    simp only [List.set_cons_succ] at h ⊢
    cases h with
    | cons h1 t => exact .cons h1 (ArgsOK.set hxy t)
section
variable {C : Cfg} {sl : Nat → V} {H : Hp} {q : Qm} {all rest : List Oper} {K : (Nat → V) → Hp → Prop}
variable {dst : Option Tmp} {d : Nat} {t ty : TypeId} {pos : String} {after : Array Edge} {g : Option (Nat × Bool)}
theorem pre_mk {H0 : Hp} (h : H.take H0.length = H0) : pre H0 H := pre_r h
end
end Go.Eng

/-
  THE ENGINE: a sort of the library's, by its contract off the shelf.
-/
namespace Go.Eng
open Go.Sort
set_option linter.unusedVariables false
set_option linter.unusedSimpArgs false

theorem RepL.alone {G : Gh} {w : World} {vargs : List Value} {a : V} (h : RepL G w vargs [a]) : ∃ x, vargs = [x] ∧ RepV G w x a := by
 obtain ⟨hl, h⟩ := h
 match vargs, hl with
 | [x], _ => exact ⟨x, rfl, h 0 (by simp) (by simp)⟩
end Go.Eng

/-
  THE ENGINE: strconv.Itoa, by its contract off the shelf; the table that it reads is known.
-/
namespace Go.Eng
open Go.Sort
set_option linter.unusedVariables false
set_option linter.unusedSimpArgs false

theorem tabIs_kn {P : Program} {G : Gh} {w : World} {name : String} {k : IntKind} {zs : List Int} (hl : ∀ w0, laidK w0 → Lib.TabIs P w0 name k zs) (hz : zs ≠ []) (h : Kn G w) : Lib.TabIs P w name k zs := by
 obtain ⟨w0, h1, h2⟩ := h
 have ht := hl w0 h1
 unfold Lib.TabIs World.var? at ht ⊢
 cases hg : P.globalNamed name with
 | none => rw [hg] at ht; simp at ht
 | some g =>
  rw [hg] at ht
  simp only [Option.bind_some] at ht ⊢
  have hlt : g < w0.heap.size := by
   rcases Nat.lt_or_ge g w0.heap.size with h | h
   ·exact h
   ·rw [Array.getElem?_eq_none h] at ht; cases ht
  have hc : ∀ o, w.cell? ⟨g, o, Option.none⟩ = w0.cell? ⟨g, o, Option.none⟩ := fun o => (h2 g o hlt).2
  cases hb : w0.heap[g]? with
  | none => rw [hb] at ht; cases ht
  | some ob =>
   rw [hb] at ht
   cases ob with
   | cells cs t fr =>
    simp only [Option.some.injEq] at ht
    have e0 : ∀ o, w0.cell? ⟨g, o, Option.none⟩ = cs[o]? := fun o => by simp [World.cell?, hb]
    cases hw : w.heap[g]? with
    | none =>
     exfalso
     have := hc 0
     rw [e0] at this
     simp only [World.cell?, hw] at this
     rw [ht] at this
     cases zs with
     | nil => exact hz rfl
     | cons z zs => simp at this
    | some ob' =>
     cases ob' with
     | cells cs' t' fr' =>
      have e1 : ∀ o, w.cell? ⟨g, o, Option.none⟩ = cs'[o]? := fun o => by simp [World.cell?, hw]
      have : cs' = cs := Array.ext_getElem? (fun o => by rw [← e1, ← e0, hc])
      rw [this, ht]
     | _ =>
      exfalso
      have := hc 0
      rw [e0] at this
      simp only [World.cell?, hw] at this
      rw [ht] at this
      cases zs with
      | nil => exact hz rfl
      | cons z zs => simp at this
   | _ => cases ht
def itoaF (n : Int) : Option ByteArray := if -9223372036854775808 ≤ n ∧ n ≤ 9223372036854775807 then some ⟨(Lib.itoa n).toArray⟩ else none
theorem itoa_ok {P : Program} {f : FuncId}
  (hC : ∀ (n : Int), -9223372036854775808 ≤ n → n ≤ 9223372036854775807 → ∀ w : World, Lib.TabIs P w "internal/strconv.uint64pow10" .u64 Lib.pow10Tab →
   Calls P f #[.int .i64 n] w fun e w' => e = .returned (.string ⟨(Lib.itoa n).toArray⟩) ∧ ∃ k os, w' = grow (w.drewN k) os)
  (hl : ∀ w0, laidK w0 → Lib.TabIs P w0 "internal/strconv.uint64pow10" .u64 Lib.pow10Tab) {n : Int} {r : ByteArray} (hF : itoaF n = some r) : FnM P f [.d (.int .i64 n)] [] (.d (.str r)) [] := by
 unfold itoaF at hF
 split at hF
 ·rename_i hn
  simp only [Option.some.injEq] at hF
  subst hF
  intro G w vargs hinv hargs
  obtain ⟨v, rfl, hv⟩ := hargs.alone
  have hv' : RepD G.imm w v (.int .i64 n) := hv.d_inv
  cases hv' with
  | int =>
   refine (hC n hn.1 hn.2 w (tabIs_kn hl (by decide) hinv.kn)).mono ?_
   rintro e w' ⟨rfl, k, os, rfl⟩
   obtain ⟨i2, e2⟩ := hinv.more (w' := grow (w.drewN k) os) (G' := G) (U' := fun _ => False) (fun b' hb' => by
    show (w.heap ++ os)[b']? = _
    rw [Array.getElem?_append_left hb']) (by simp [grow, World.drewN]) rfl rfl rfl (fun _ _ h => h) (fun _ _ h => .inl h) rfl (fun _ h => h)
   exact ⟨_, G, _, 1, _, [], rfl, i2, .d (.str _), rfl, List.nodup_nil, fun i hi => absurd hi (Nat.not_lt_zero i), fun i bx hb => by simp at hb⟩
 ·cases hF
end Go.Eng

