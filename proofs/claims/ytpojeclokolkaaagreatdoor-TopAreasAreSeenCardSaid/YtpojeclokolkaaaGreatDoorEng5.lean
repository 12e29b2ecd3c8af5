/-
  The engine: what the machine does to data, shown once for all programs (part 5).
-/
import Derived.Test.YtpojeclokolkaaaGreatDoorEng4
import Derived.Below
import Derived.Deep.Draws
import Derived.Lib.IndexMore
import Derived.Lib.TrimByte
/-
  THE ENGINE: functions over literals, by their contracts off the shelf.
-/
namespace Go.Eng
open Go.RowKit (Below)
set_option linter.unusedVariables false
set_option linter.unusedSimpArgs false
def isLit : D → Bool
 | .int _ _ | .bool _ | .str _ => true
 | _ => false
def lv : D → Value
 | .int k n => .int k n
 | .bool b => .bool b
 | .str s => .string s
 | _ => undef
theorem lit_inv {I : Nat → Nat → Prop} {w : World} {v : Value} {d : D} (h : RepD I w v d) (hl : isLit d = true) : v = lv d := by
 cases h with
 | int k n => rfl
 | bool b => rfl
 | str s => rfl
 | agg => cases hl
 | sl0 => cases hl
 | sl => cases hl
 | ptr => cases hl
 | nilp => cases hl
theorem lits_inv {G : Gh} {w : World} : ∀ {vs : List Value} {ds : List D}, RepL G w vs (ds.map V.d) → ds.all isLit = true → vs = ds.map lv
 | [], [], _, _ => rfl
 | [], d :: ds, h, _ => by have := h.1; simp at this
 | v :: vs, [], h, _ => by have := h.1; simp at this
 | v :: vs, d :: ds, h, hl => by
  simp only [List.all_cons, Bool.and_eq_true] at hl
  obtain ⟨hlen, h⟩ := h
  have h0 : RepV G w v (.d d) := h 0 (by simp) (by simp)
  have e := lit_inv h0.d_inv hl.1
  have : RepL G w vs (ds.map V.d) := ⟨by simpa using hlen, fun i h1 h2 => by
   have := h (i + 1) (by simpa using h1) (by simpa using h2)
   simpa using this⟩
  rw [e, lits_inv this hl.2]; rfl
theorem fnm_lits {P : Program} {f : FuncId} (ds : List D) (v : Value) (r : V) (ha : ds.all isLit = true) (hr : ∀ G w, RepV G w v (ren [] r))
  (hC : ∀ (G : Gh) (w : World), Kn G w → Calls P f (ds.map lv).toArray w fun e w' => e = .returned v ∧ Below w.heap.size w w' ∧ (dmK = true → w.drawn ≤ w'.drawn)) : FnM P f (ds.map V.d) [] r [] := by
 intro G w vargs hinv hargs
 rw [lits_inv hargs ha]
 refine (hC G w hinv.kn).mono ?_
 rintro e w' ⟨rfl, hb, hd⟩
 obtain ⟨i2, e2⟩ := hinv.more (w' := w') (G' := G) (U' := fun _ => False) (fun b' hb' => hb.block b' hb') hb.size hb.os hb.tape hb.output (fun _ _ h => h) (fun _ _ h => .inl h) rfl (fun _ h => h) hd
 exact ⟨_, G, _, 1, _, [], rfl, i2, hr _ _, rfl, List.nodup_nil, fun i hi => absurd hi (Nat.not_lt_zero i), fun i bx hb => by simp at hb⟩
def containsF (s t : ByteArray) : Option Bool := if s.size < 4294967281 then some (Lib.contains s.data.toList t.data.toList) else none
theorem contains_ok {P : Program} {f : FuncId} {g : Nat}
  (hC : ∀ (s t : ByteArray) (m : Int) (w : World), s.size < 4294967281 → w.cell? ⟨g, 0, Option.none⟩ = some (.int .i64 m) → Calls P f #[.string s, .string t] w fun e w' => e = .returned (.bool (Lib.contains s.data.toList t.data.toList)) ∧ w' = w)
  (hl : ∀ w0, laidK w0 → ∃ m, w0.cell? ⟨g, 0, Option.none⟩ = some (.int .i64 m)) {s t : ByteArray} {r : Bool} (h : containsF s t = some r) : FnM P f [.d (.str s), .d (.str t)] [] (.d (.bool r)) [] := by
 unfold containsF at h
 split at h
 ·rename_i hs
  simp only [Option.some.injEq] at h
  subst h
  refine fnm_lits [.str s, .str t] _ _ rfl (fun G w => .d (.bool _)) (fun G w hk => ?_)
  obtain ⟨w0, h1, h2⟩ := hk
  obtain ⟨m, hm⟩ := hl w0 h1
  have hb : g < w0.heap.size := by
   rcases Nat.lt_or_ge g w0.heap.size with h | h
   ·exact h
   ·have e : w0.heap[g]? = none := Array.getElem?_eq_none h
    simp only [World.cell?, e] at hm
    cases hm
  exact (hC s t m w hs (by rw [(h2 g 0 hb).2]; exact hm)).mono (fun e w' hw => ⟨hw.1, by rw [hw.2]; exact ⟨Below.refl _ _, fun _ => Nat.le_refl _⟩⟩)
 ·cases h
end Go.Eng

