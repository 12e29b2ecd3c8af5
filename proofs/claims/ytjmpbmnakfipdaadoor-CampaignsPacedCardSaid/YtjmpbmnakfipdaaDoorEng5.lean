/-
  The engine: what the machine does to data, shown once for all programs (part 5).
-/
import Derived.Test.YtjmpbmnakfipdaaDoorEng4
import Derived.Lib.LaidTab
import Derived.Lib.ItoaNum
import Derived.Deep.Draws
/-
  THE ENGINE: strconv.Itoa, by its contract off the shelf; the table that it reads is known.
-/
namespace Go.Eng
open Go.Sort
set_option linter.unusedVariables false
set_option linter.unusedSimpArgs false

theorem tabIs_kn {P : Program} {G : Gh} {w : World} {name : String} {k : IntKind} {zs : List Int} (hl : ∀ w0, laidK w0 → Lib.TabIs P w0 name k zs) (hz : zs ≠ []) (h : Kn G w) : Lib.TabIs P w name k zs := by
 obtain ⟨w0, h1, h2⟩ := h
 have ht := hl w0 h1
 unfold Lib.TabIs World.var? at ht ⊢
 cases hg : P.globalNamed name with
 | none => rw [hg] at ht; simp at ht
 | some g =>
  rw [hg] at ht
  simp only [Option.bind_some] at ht ⊢
  have hlt : g < w0.heap.size := by
   rcases Nat.lt_or_ge g w0.heap.size with h | h
   ·exact h
   ·rw [Array.getElem?_eq_none h] at ht; cases ht
  have hc : ∀ o, w.cell? ⟨g, o, Option.none⟩ = w0.cell? ⟨g, o, Option.none⟩ := fun o => (h2 g o hlt).2
  cases hb : w0.heap[g]? with
  | none => rw [hb] at ht; cases ht
  | some ob =>
   rw [hb] at ht
   cases ob with
   | cells cs t fr =>
    simp only [Option.some.injEq] at ht
    have e0 : ∀ o, w0.cell? ⟨g, o, Option.none⟩ = cs[o]? := fun o => by simp [World.cell?, hb]
    cases hw : w.heap[g]? with
    | none =>
     exfalso
     have := hc 0
     rw [e0] at this
     simp only [World.cell?, hw] at this
     rw [ht] at this
     cases zs with
     | nil => exact hz rfl
     | cons z zs => simp at this
    | some ob' =>
     cases ob' with
     | cells cs' t' fr' =>
      have e1 : ∀ o, w.cell? ⟨g, o, Option.none⟩ = cs'[o]? := fun o => by simp [World.cell?, hw]
      have : cs' = cs := Array.ext_getElem? (fun o => by rw [← e1, ← e0, hc])
      rw [this, ht]
     | _ =>
      exfalso
      have := hc 0
      rw [e0] at this
      simp only [World.cell?, hw] at this
      rw [ht] at this
      cases zs with
      | nil => exact hz rfl
      | cons z zs => simp at this
   | _ => cases ht
def itoaF (n : Int) : Option ByteArray := if -9223372036854775808 ≤ n ∧ n ≤ 9223372036854775807 then some ⟨(Lib.itoa n).toArray⟩ else none
theorem itoa_ok {P : Program} {f : FuncId}
  (hC : ∀ (n : Int), -9223372036854775808 ≤ n → n ≤ 9223372036854775807 → ∀ w : World, Lib.TabIs P w "internal/strconv.uint64pow10" .u64 Lib.pow10Tab →
   Calls P f #[.int .i64 n] w fun e w' => e = .returned (.string ⟨(Lib.itoa n).toArray⟩) ∧ ∃ k os, w' = grow (w.drewN k) os)
  (hl : ∀ w0, laidK w0 → Lib.TabIs P w0 "internal/strconv.uint64pow10" .u64 Lib.pow10Tab) {n : Int} {r : ByteArray} (hF : itoaF n = some r) : FnM P f [.d (.int .i64 n)] [] (.d (.str r)) [] := by
 unfold itoaF at hF
 split at hF
 ·rename_i hn
  simp only [Option.some.injEq] at hF
  subst hF
  intro G w vargs hinv hargs
  obtain ⟨v, rfl, hv⟩ := hargs.alone
  have hv' : RepD G.imm w v (.int .i64 n) := hv.d_inv
  cases hv' with
  | int =>
   refine (hC n hn.1 hn.2 w (tabIs_kn hl (by decide) hinv.kn)).mono ?_
   rintro e w' ⟨rfl, k, os, rfl⟩
   obtain ⟨i2, e2⟩ := hinv.more (w' := grow (w.drewN k) os) (G' := G) (U' := fun _ => False) (fun b' hb' => by
    show (w.heap ++ os)[b']? = _
    rw [Array.getElem?_append_left hb']) (by simp [grow, World.drewN]) rfl rfl rfl (fun _ _ h => h) (fun _ _ h => .inl h) rfl (fun _ h => h)
   exact ⟨_, G, _, 1, _, [], rfl, i2, .d (.str _), rfl, List.nodup_nil, fun i hi => absurd hi (Nat.not_lt_zero i), fun i bx hb => by simp at hb⟩
 ·cases hF
end Go.Eng

