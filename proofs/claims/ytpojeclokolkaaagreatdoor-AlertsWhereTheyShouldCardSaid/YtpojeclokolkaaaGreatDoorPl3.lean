/-
  THE PLAIN LAW (part 3).
-/
import Derived.Test.YtpojeclokolkaaaGreatDoorPl2
import Derived.Test.YtpojeclokolkaaaGreatDoorDefs
open Go Go.Eng
namespace Go.Proofs.YtpojeclokolkaaaGreatDoor.Law
set_option linter.unusedVariables false
set_option linter.unusedSimpArgs false
theorem fine_badR {r : Rect} (h : Fine r) : badR r = false := by
 unfold Fine at h
 unfold badR
 rw [w64_id (n := 100000 - r.X) (by omega), w64_id (n := 100000 - r.Y) (by omega), outB_in (by omega), outB_in (by omega), outB_in (by omega), outB_in (by omega)]; rfl
end Go.Proofs.YtpojeclokolkaaaGreatDoor.Law

open Go Go.Eng
namespace Go.Proofs.YtpojeclokolkaaaGreatDoor.Law
set_option linter.unusedVariables false
set_option linter.unusedSimpArgs false
end Go.Proofs.YtpojeclokolkaaaGreatDoor.Law

open Go Go.Eng
namespace Go.Proofs.YtpojeclokolkaaaGreatDoor.Law
set_option linter.unusedVariables false
set_option linter.unusedSimpArgs false
end Go.Proofs.YtpojeclokolkaaaGreatDoor.Law

open Go Go.Eng
namespace Go.Proofs.YtpojeclokolkaaaGreatDoor.Law
set_option linter.unusedVariables false
set_option linter.unusedSimpArgs false
theorem rightRectF (s : Stream) {b : Int} (hs : Ok s b) (hb : b ≤ 900000) : ∃ r s', mk_Stream_RightRect s = some (r, s') ∧ Fine r ∧ (-2 ≤ r.X ∧ r.X ≤ 8 ∧ -2 ≤ r.Y ∧ r.Y ≤ 8 ∧ r.W ≤ 5 ∧ r.H ≤ 5) ∧ Ok s' (b + 4) := by
 unfold mk_Stream_RightRect
 obtain ⟨X, q1, c1, c2, c3, c4⟩ := range_ok s (-2) 8 hs (by omega) (by decide) (by decide) (by decide)
 obtain ⟨Y, q2, d1, d2, d3, d4⟩ := range_ok q1 (-2) 8 c4 (by omega) (by decide) (by decide) (by decide)
 obtain ⟨U, q3, e1, e2, e3, e4⟩ := range_ok q2 1 5 d4 (by omega) (by decide) (by decide) (by decide)
 obtain ⟨V, q4, f1, f2, f3, f4⟩ := range_ok q3 1 5 e4 (by omega) (by decide) (by decide) (by decide)
 simp only [c1, d1, e1, f1, Option.bind_some]
 refine ⟨_, _, rfl, ?_, by simp only []; omega, f4.mono (by omega)⟩
 unfold Fine
 simp only []; omega
theorem any_loop (f : Rect → Option Bool) (p : Rect → Bool) : ∀ (l : List Rect) (k : Nat), (∀ r ∈ l, f r = some (p r)) → (forR (fun k z s => slices_IndexFunc_api_Rect_api_Rect_L1 f k z s) l k () = some (.go ()) ∧ l.any p = false) ∨ ∃ j : Nat, forR (fun k z s => slices_IndexFunc_api_Rect_api_Rect_L1 f k z s) l k () = some (.ret (j : Int)) ∧ l.any p = true
 | [], k, _ => .inl ⟨rfl, rfl⟩
 | r :: l, k, h => by
  have hB : slices_IndexFunc_api_Rect_api_Rect_L1 f k r () = some (bif p r then .ret (k : Int) else .go ()) := by
   unfold slices_IndexFunc_api_Rect_api_Rect_L1
   rw [h r (by simp), Option.bind_some]
   cases p r <;> rfl
  rw [forR, hB, Option.bind_some, List.any_cons]
  cases p r with
  | true => exact .inr ⟨k, rfl, rfl⟩
  | false => exact any_loop f p l (k + 1) (fun r hr => h r (by simp [hr]))
theorem any_eq (f : Rect → Option Bool) (p : Rect → Bool) {l : List Rect} (h : ∀ r ∈ l, f r = some (p r)) (hl : l.length ≤ 1000000) : slices_ContainsFunc_api_Rect_api_Rect l f = some (l.any p) := by
 unfold slices_ContainsFunc_api_Rect_api_Rect slices_IndexFunc_api_Rect_api_Rect
 rw [forL_eq (by omega)]
 rcases any_loop f p l 0 h with ⟨h1, h2⟩ | ⟨j, h1, h2⟩
 ·rw [h1, h2]; rfl
 ·rw [h1, h2]
  simp only [Option.bind_some, thenC]
  have : decide ((j : Int) ≥ 0) = true := by simp
  rw [this]
end Go.Proofs.YtpojeclokolkaaaGreatDoor.Law

open Go Go.Eng
namespace Go.Proofs.YtpojeclokolkaaaGreatDoor.Law
set_option linter.unusedVariables false
set_option linter.unusedSimpArgs false
def loopF {σ ρ : Type} (s : σ) (body : σ → Option (Ctl σ ρ)) : Option (Ctl σ ρ) := iterN body 300 s
def Le {α : Type} (a b : Option α) : Prop := ∀ r, a = some r → b = some r
theorem Le.refl {α : Type} (a : Option α) : Le a a := fun _ h => h
theorem Le.bind {α β : Type} {a b : Option α} {f g : α → Option β} (h : Le a b) (k : ∀ x, Le (f x) (g x)) : Le (a.bind f) (b.bind g) := fun r e => by
 obtain ⟨x, h1, h2⟩ := Option.bind_eq_some_iff.1 e
 rw [h x h1]; exact k x r h2
theorem Le.cond {α : Type} {a b c d : Option α} {t : Bool} (h : Le a c) (k : Le b d) : Le (bif t then a else b) (bif t then c else d) := by
 cases t
 ·exact k
 ·exact h
theorem Le.thenC {σ ρ τ : Type} {o : Ctl σ ρ} {f f' : σ → Option τ} {g g' : ρ → Option τ} (h : ∀ x, Le (f x) (f' x)) (k : ∀ x, Le (g x) (g' x)) : Le (Go.Eng.thenC o f g) (Go.Eng.thenC o f' g') := by
 cases o
 ·exact h _
 ·exact Le.refl _
 ·exact k _
theorem Le.forR {α σ ρ : Type} {b b' : Nat → α → σ → Option (Ctl σ ρ)} (h : ∀ k x s, Le (b k x s) (b' k x s)) : ∀ (xs : List α) (k : Nat) (s : σ), Le (Go.Eng.forR b xs k s) (Go.Eng.forR b' xs k s)
 | [], k, s => Le.refl _
 | x :: xs, k, s => Le.bind (h k x s) (fun c => by
   cases c with
   | go s' => exact Le.forR h xs _ _
   | brk s' => exact Le.refl _
   | ret r => exact Le.refl _)
theorem Le.forL {α σ ρ : Type} {xs : List α} {s : σ} {b b' : Nat → α → σ → Option (Ctl σ ρ)} (h : ∀ k x s, Le (b k x s) (b' k x s)) : Le (Go.Eng.forL xs s b) (Go.Eng.forL xs s b') := by
 unfold Go.Eng.forL
 split
 ·exact Le.forR h xs 0 s
 ·exact Le.refl _
theorem Le.iterN {σ ρ : Type} {b b' : σ → Option (Ctl σ ρ)} (h : ∀ s, Le (b s) (b' s)) : ∀ (n : Nat) (s : σ), Le (Go.Eng.iterN b n s) (Go.Eng.iterN b' n s)
 | 0, s => Le.refl _
 | n + 1, s => Le.bind (h s) (fun c => by
   cases c with
   | go s' => exact Le.iterN h n s'
   | brk s' => exact Le.refl _
   | ret r => exact Le.refl _)
theorem Le.loop {σ ρ : Type} {s : σ} {b b' : σ → Option (Ctl σ ρ)} (h : ∀ s, Le (b s) (b' s)) : Le (loopF s b) (loopO s b') := fun r e => iter_loopO (Le.iterN h _ _ r e)
end Go.Proofs.YtpojeclokolkaaaGreatDoor.Law

open Go Go.Eng
namespace Go.Proofs.YtpojeclokolkaaaGreatDoor.Law
set_option linter.unusedVariables false
set_option linter.unusedSimpArgs false
set_option maxRecDepth 100000
def unicode_utf8_ValidString_L2F (s_7 : ByteArray) : Option (Ctl (ByteArray) (Unit)) :=
 bif (decide ((s_7.size : Int) > 0)) then (idxS s_7 0).bind fun b_13 => bif (decide ((b_13.toNat : Int) < 128)) then (subS s_7 1 s_7.size).bind fun y_16 => (bif (decide ((y_16.size : Int) > 8)) then (unicode_utf8_word_string y_16).bind fun r_21 => some ((andI .u64 r_21 9259542123273814144) == 0) else some false).bind fun v_18 => (bif v_18 then (subS y_16 8 y_16.size).bind fun y_26 => (bif (decide ((y_26.size : Int) > 16)) then (unicode_utf8_word_string y_26).bind fun r_31 => (subS y_26 8 y_26.size).bind fun y_33 => (unicode_utf8_word_string y_33).bind fun r_35 => some ((andI .u64 (orI .u64 r_31 r_35) 9259542123273814144) == 0) else some false).bind fun v_28 => bif v_28 then (subS y_26 16 y_26.size).bind fun y_38 => (loopF y_38 (fun s => unicode_utf8_ValidString_L1 s)).bind fun o_48 => thenC o_48 (fun s_45 => some s_45) (fun _ => none) else some y_26 else some y_16).bind fun v_23 => some (.go v_23) else none else some (.brk s_7)
theorem unicode_utf8_ValidString_L2_le (s_7 : ByteArray) : Le (unicode_utf8_ValidString_L2F s_7) (unicode_utf8_ValidString_L2 s_7) := by
 unfold unicode_utf8_ValidString_L2F unicode_utf8_ValidString_L2
 repeat' (with_reducible first | exact Le.refl _ | refine Le.loop (fun _ => ?_) | refine Le.forL (fun _ _ _ => ?_) | refine Le.thenC (fun _ => ?_) (fun _ => ?_) | refine Le.cond ?_ ?_ | refine Le.bind ?_ (fun _ => ?_))
def unicode_utf8_ValidStringF (s_1 : ByteArray) : Option (Bool) :=
 (loopF s_1 (fun s => unicode_utf8_ValidString_L2F s)).bind fun o_10 => thenC o_10 (fun s_7 => some true) (fun _ => none)
theorem unicode_utf8_ValidString_le (s_1 : ByteArray) : Le (unicode_utf8_ValidStringF s_1) (unicode_utf8_ValidString s_1) := by
 unfold unicode_utf8_ValidStringF unicode_utf8_ValidString
 repeat' (with_reducible first | exact Le.refl _ | exact unicode_utf8_ValidString_L2_le _ | refine Le.loop (fun _ => ?_) | refine Le.forL (fun _ _ _ => ?_) | refine Le.thenC (fun _ => ?_) (fun _ => ?_) | refine Le.cond ?_ ?_ | refine Le.bind ?_ (fun _ => ?_))
def strings_trimRightByteF (s_1 : ByteArray) (c_2 : Int) : Option (ByteArray) :=
 (loopF s_1 (fun s => strings_trimRightByte_L1 c_2 s)).bind fun o_11 => thenC o_11 (fun s_8 => some s_8) (fun _ => none)
theorem strings_trimRightByte_le (s_1 : ByteArray) (c_2 : Int) : Le (strings_trimRightByteF s_1 c_2) (strings_trimRightByte s_1 c_2) := by
 unfold strings_trimRightByteF strings_trimRightByte
 repeat' (with_reducible first | exact Le.refl _ | refine Le.loop (fun _ => ?_) | refine Le.forL (fun _ _ _ => ?_) | refine Le.thenC (fun _ => ?_) (fun _ => ?_) | refine Le.cond ?_ ?_ | refine Le.bind ?_ (fun _ => ?_))
def strings_trimLeftByteF (s_1 : ByteArray) (c_2 : Int) : Option (ByteArray) :=
 (loopF s_1 (fun s => strings_trimLeftByte_L1 c_2 s)).bind fun o_11 => thenC o_11 (fun s_8 => some s_8) (fun _ => none)
theorem strings_trimLeftByte_le (s_1 : ByteArray) (c_2 : Int) : Le (strings_trimLeftByteF s_1 c_2) (strings_trimLeftByte s_1 c_2) := by
 unfold strings_trimLeftByteF strings_trimLeftByte
 repeat' (with_reducible first | exact Le.refl _ | refine Le.loop (fun _ => ?_) | refine Le.forL (fun _ _ _ => ?_) | refine Le.thenC (fun _ => ?_) (fun _ => ?_) | refine Le.cond ?_ ?_ | refine Le.bind ?_ (fun _ => ?_))
def strings_TrimF (s_1 : ByteArray) (cutset_2 : ByteArray) : Option (ByteArray) :=
 (bif (sEq s_1 (⟨#[]⟩ : ByteArray)) then some true else some (sEq cutset_2 (⟨#[]⟩ : ByteArray))).bind fun v_3 => bif v_3 then some s_1 else (bif ((cutset_2.size : Int) == 1) then (idxS cutset_2 0).bind fun b_10 => some (decide ((b_10.toNat : Int) < 128)) else some false).bind fun v_7 => bif v_7 then (idxS cutset_2 0).bind fun b_13 => (strings_trimRightByteF s_1 (b_13.toNat : Int)).bind fun r_15 => (idxS cutset_2 0).bind fun b_17 => (strings_trimLeftByteF r_15 (b_17.toNat : Int)).bind fun r_19 => some r_19 else none
theorem strings_Trim_le (s_1 : ByteArray) (cutset_2 : ByteArray) : Le (strings_TrimF s_1 cutset_2) (strings_Trim s_1 cutset_2) := by
 unfold strings_TrimF strings_Trim
 repeat' (with_reducible first | exact Le.refl _ | exact strings_trimRightByte_le _ _ | exact strings_trimLeftByte_le _ _ | refine Le.loop (fun _ => ?_) | refine Le.forL (fun _ _ _ => ?_) | refine Le.thenC (fun _ => ?_) (fun _ => ?_) | refine Le.cond ?_ ?_ | refine Le.bind ?_ (fun _ => ?_))
def kit_IsPlainF (s_1 : ByteArray) : Option (Bool) :=
 (loopF 0 (fun s => kit_IsPlain_L1 s_1 s)).bind fun o_10 => thenC o_10 (fun s_7 => ((unicode_utf8_ValidStringF s_1).bind fun r_23 => bif r_23 then (strings_TrimF s_1 (⟨#[32]⟩ : ByteArray)).bind fun r_26 => bif (sEq r_26 s_1) then (strings_Contains s_1 (⟨#[32, 32]⟩ : ByteArray)).bind fun r_29 => some (!r_29) else some false else some false).bind fun v_21 => some v_21) (fun r => some r)
theorem kit_IsPlain_le (s_1 : ByteArray) : Le (kit_IsPlainF s_1) (kit_IsPlain s_1) := by
 unfold kit_IsPlainF kit_IsPlain
 repeat' (with_reducible first | exact Le.refl _ | exact unicode_utf8_ValidString_le _ | exact strings_Trim_le _ _ | refine Le.loop (fun _ => ?_) | refine Le.forL (fun _ _ _ => ?_) | refine Le.thenC (fun _ => ?_) (fun _ => ?_) | refine Le.cond ?_ ?_ | refine Le.bind ?_ (fun _ => ?_))
theorem kit_IsPlainF_le (s : ByteArray) : Le (kit_IsPlainF s) (kit_IsPlain s) := kit_IsPlain_le s
end Go.Proofs.YtpojeclokolkaaaGreatDoor.Law

open Go Go.Eng
namespace Go.Proofs.YtpojeclokolkaaaGreatDoor.Law
set_option linter.unusedVariables false
set_option linter.unusedSimpArgs false
set_option maxRecDepth 100000
def idL : List ByteArray := [⟨#[97, 97]⟩, ⟨#[97, 98]⟩, ⟨#[97, 99]⟩, ⟨#[97, 100]⟩, ⟨#[97, 101]⟩, ⟨#[97, 102]⟩]
def refL : List ByteArray := [⟨#[97, 97]⟩, ⟨#[97, 98]⟩, ⟨#[97, 99]⟩, ⟨#[97, 100]⟩, ⟨#[122, 122]⟩]
def zyS : ByteArray := ⟨#[122, 121]⟩
def wxS : ByteArray := ⟨#[119, 120]⟩
def fireS : ByteArray := ⟨#[102, 105, 114, 101]⟩
def floodS : ByteArray := ⟨#[102, 108, 111, 111, 100]⟩
def mallS : ByteArray := ⟨#[102, 105, 114, 101, 32, 105, 110, 32, 116, 104, 101, 32, 109, 97, 108, 108]⟩
def overS : ByteArray := ⟨#[111, 118, 101, 114]⟩
theorem plain_lit : kit_IsPlainF ⟨#[]⟩ = some true ∧ kit_IsPlainF floodS = some true ∧ kit_IsPlainF mallS = some true ∧ kit_IsPlainF overS = some true :=
 ⟨by kernel_rfl, by kernel_rfl, by kernel_rfl, by kernel_rfl⟩
def SmallR (r : Rect) : Prop := Fine r ∧ (-2 ≤ r.X ∧ r.X ≤ 8 ∧ -2 ≤ r.Y ∧ r.Y ≤ 8 ∧ r.W ≤ 5 ∧ r.H ≤ 5)
structure RightA (x : Alert) : Prop where
 id : x.Id ∈ idL
 sender : x.Sender = wxS ∨ x.Sender = fireS
 kind : 1 ≤ x.Kind ∧ x.Kind ≤ 3
 refs : x.Refs.Sublist refL ∨ x.Refs = [zyS]
 noId : ∀ r ∈ x.Refs, r ≠ x.Id
 new : x.Kind = 1 ↔ x.Refs = []
 at_ : 0 ≤ x.At ∧ x.At ≤ 30
 until_ : x.At + 1 ≤ x.Until ∧ x.Until ≤ x.At + 50
 weight : 1 ≤ x.Weight ∧ x.Weight ≤ 9
 areas : ∀ r ∈ x.Areas, SmallR r
 alen : x.Areas.length ≤ 2
 cancel : x.Kind = 3 ↔ x.Areas = []
 text : x.Text = floodS ∨ x.Text = mallS ∨ x.Kind = 3 ∧ (x.Text = ⟨#[]⟩ ∨ x.Text = overS)
theorem idL_key : ∀ k ∈ idL, keyB k = true ∧ Nat.ble k.size 1000 = true := by
 intro k hk
 simp only [idL, List.mem_cons, List.not_mem_nil, or_false] at hk
 rcases hk with rfl | rfl | rfl | rfl | rfl | rfl <;> exact ⟨by kernel_rfl, rfl⟩
theorem idL_byte : ∀ k ∈ idL, byteAt k 0 = 97 := by
 intro k hk
 simp only [idL, List.mem_cons, List.not_mem_nil, or_false] at hk
 rcases hk with rfl | rfl | rfl | rfl | rfl | rfl <;> rfl
theorem refL_key : ∀ k ∈ refL, keyB k = true ∧ Nat.ble k.size 1000 = true := by
 intro k hk
 simp only [refL, List.mem_cons, List.not_mem_nil, or_false] at hk
 rcases hk with rfl | rfl | rfl | rfl | rfl <;> exact ⟨by kernel_rfl, rfl⟩
theorem refL_rise : refL.Pairwise lt := by
 unfold refL
 simp only [List.pairwise_cons, List.mem_cons, List.not_mem_nil, or_false, forall_eq_or_imp, forall_eq]
 refine ⟨⟨lt_lit (by kernel_rfl), lt_lit (by kernel_rfl), lt_lit (by kernel_rfl), lt_lit (by kernel_rfl)⟩, ⟨lt_lit (by kernel_rfl), lt_lit (by kernel_rfl), lt_lit (by kernel_rfl)⟩, ⟨lt_lit (by kernel_rfl), lt_lit (by kernel_rfl)⟩, lt_lit (by kernel_rfl), fun a h => (by cases h), List.Pairwise.nil⟩
theorem idL_rise : idL.Pairwise lt := by
 unfold idL
 simp only [List.pairwise_cons, List.mem_cons, List.not_mem_nil, or_false, forall_eq_or_imp, forall_eq]
 refine ⟨⟨lt_lit (by kernel_rfl), lt_lit (by kernel_rfl), lt_lit (by kernel_rfl), lt_lit (by kernel_rfl), lt_lit (by kernel_rfl)⟩, ⟨lt_lit (by kernel_rfl), lt_lit (by kernel_rfl), lt_lit (by kernel_rfl), lt_lit (by kernel_rfl)⟩, ⟨lt_lit (by kernel_rfl), lt_lit (by kernel_rfl), lt_lit (by kernel_rfl)⟩, ⟨lt_lit (by kernel_rfl), lt_lit (by kernel_rfl)⟩, lt_lit (by kernel_rfl), fun a h => (by cases h), List.Pairwise.nil⟩
theorem RightA.refsKey {x : Alert} (h : RightA x) : ∀ r ∈ x.Refs, kit_IsKey r = some true := fun r hr => by
 have : keyB r = true ∧ Nat.ble r.size 1000 = true := by
  rcases h.refs with hs | hs
  ·exact refL_key r (hs.subset hr)
  ·rw [hs] at hr
   rw [List.mem_singleton.1 hr]; exact ⟨by kernel_rfl, rfl⟩
 rw [isKey_eq r (by have := Nat.le_of_ble_eq_true this.2; omega), this.1]
theorem RightA.refsRise {x : Alert} (h : RightA x) : x.Refs.Pairwise lt := by
 rcases h.refs with hs | hs
 ·exact refL_rise.sublist hs
 ·rw [hs]; exact List.pairwise_singleton _ _
theorem RightA.refsLen {x : Alert} (h : RightA x) : x.Refs.length ≤ 5 := by
 rcases h.refs with hs | hs
 ·exact hs.length_le
 ·rw [hs]; decide
theorem RightA.plain {x : Alert} (h : RightA x) : kit_IsPlain x.Text = some true := by
 obtain ⟨p1, p2, p3, p4⟩ := plain_lit
 rcases h.text with e | e | ⟨_, e | e⟩ <;> rw [e]
 ·exact kit_IsPlain_le _ _ p2
 ·exact kit_IsPlain_le _ _ p3
 ·exact kit_IsPlain_le _ _ p1
 ·exact kit_IsPlain_le _ _ p4
theorem refsFault_0 {x : Alert} (h : RightA x) : alert_refsFault x = some 0 := by
 have hl := h.refsLen
 unfold alert_refsFault
 rw [decide_eq_false (by omega), cond_false]
 obtain ⟨u, e, _⟩ := forL_at (body := fun k y s => alert_refsFault_L1 x k y s) (fun _ _ => True) (xs := x.Refs) (s := ()) (by omega) (fun k y s hy _ => by
  refine ⟨(), ?_, trivial⟩
  have hm := List.mem_of_getElem? hy
  unfold alert_refsFault_L1
  rw [h.refsKey y hm]
  simp only [Option.bind_some, Bool.not_true, cond_false]
  have hid : sEq y x.Id = false := by rw [sEq_dec]; exact decide_eq_false (h.noId y hm)
  rcases Nat.eq_zero_or_pos k with h0 | h0
  ·rw [decide_eq_false (by omega), cond_false, Option.bind_some, cond_false, hid]; rfl
  ·rw [decide_eq_true (by omega), cond_true]
   obtain ⟨z, q1, q2⟩ := idx_prev hy h0 (by omega)
   have hz : lt z y := by
    obtain ⟨l1, m1⟩ := List.getElem?_eq_some_iff.1 q2
    obtain ⟨l2, m2⟩ := List.getElem?_eq_some_iff.1 hy
    rw [← m1, ← m2]
    exact List.pairwise_iff_getElem.1 h.refsRise _ _ l1 l2 (by omega)
   have hle : sLe y z = false := by rw [← Bool.not_eq_true, sLe_iff]; exact fun k => k hz
   rw [q1, Option.bind_some, hle, Option.bind_some, cond_false, hid]; rfl) trivial
 rw [e]
 simp only [Option.bind_some, thenC]
 have : ((x.Kind == 1) == ((x.Refs.length : Int) == 0)) = true := by
  rw [beq_iff_eq, Bool.eq_iff_iff, beq_iff_eq, beq_iff_eq, h.new]
  constructor
  ·intro e; rw [e]; rfl
  ·intro e; exact List.eq_nil_of_length_eq_zero (by omega)
 rw [this]; rfl
theorem fine_check {r : Rect} (h : Fine r) : screen_CheckRect r = some 0 := by rw [checkRect_eq, fine_badR h]; rfl
theorem alertFault_0 {x : Alert} (h : RightA x) : alert_alertFault x = some 0 := by
 have hid := idL_key _ h.id
 have k1 : kit_IsKey x.Id = some true := by rw [isKey_eq _ (by have := Nat.le_of_ble_eq_true hid.2; omega), hid.1]
 have k2 : kit_IsKey x.Sender = some true := by
  rcases h.sender with e | e <;> rw [e, isKey_eq _ (by decide)] <;> exact congrArg some (by kernel_rfl)
 have h1 := h.at_
 have h2 := h.until_
 have h3 := h.weight
 have h4 := h.alen
 have k3 : momB x.At = true := by unfold momB; rw [outB_in (by omega)]; rfl
 unfold alert_alertFault
 rw [k1, k2, refsFault_0 h]
 simp only [Option.bind_some, Bool.not_true, cond_false, outside_eq, outB_in h.kind, bne_self_eq_false, isMoment_eq, k3, w64_id (n := x.At + 1) (by omega), w64_id (n := x.At + 2592000000) (by omega), outB_in (show x.At + 1 ≤ x.Until ∧ x.Until ≤ x.At + 2592000000 by omega), outB_in h3, decide_eq_false (show ¬ (x.Areas.length : Int) > 20 by omega)]
 obtain ⟨u, e, _⟩ := forL_at (body := fun k y s => alert_alertFault_L1 k y s) (fun _ _ => True) (xs := x.Areas) (s := ()) (by omega) (fun k y s hy _ => by
  refine ⟨(), ?_, trivial⟩
  unfold alert_alertFault_L1
  rw [fine_check (h.areas y (List.mem_of_getElem? hy)).1]; rfl) trivial
 rw [e]
 simp only [Option.bind_some, thenC, h.plain, Bool.not_true, cond_false]
 have c1 : ((x.Kind == 3) == ((x.Areas.length : Int) == 0)) = true := by
  rw [beq_iff_eq, Bool.eq_iff_iff, beq_iff_eq, beq_iff_eq, h.cancel]
  constructor
  ·intro e; rw [e]; rfl
  ·intro e; exact List.eq_nil_of_length_eq_zero (by omega)
 rw [c1]
 have c2 : x.Text.size ≤ 16 := by
  rcases h.text with e | e | ⟨_, e | e⟩ <;> rw [e] <;> decide
 rw [decide_eq_false (show ¬ (x.Text.size : Int) > 500 by omega)]
 have c3 : (bif sEq x.Text ⟨#[]⟩ then some (!(x.Kind == 3)) else some false) = some false := by
  rw [sEq_dec]
  rcases h.text with e | e | ⟨k, _⟩
  ·rw [e, decide_eq_false (by decide)]; rfl
  ·rw [e, decide_eq_false (by decide)]; rfl
  ·rw [k]
   cases decide (x.Text = ⟨#[]⟩) <;> rfl
 rw [c3]; rfl
theorem refs_gen (id : ByteArray) (s : Stream) {b : Int} (hs : Ok s b) (hb : b ≤ 800000) :
  ∃ l s', forL ([(⟨#[97, 97]⟩ : ByteArray), (⟨#[97, 98]⟩ : ByteArray), (⟨#[97, 99]⟩ : ByteArray), (⟨#[97, 100]⟩ : ByteArray), (⟨#[122, 122]⟩ : ByteArray)] : List ByteArray) (([] : List ByteArray), s.L, s.f_at) (fun k x s => mk_Stream_RightAlerts_L1 id k x s) = some (.go (l, s'.L, s'.f_at)) ∧ l.Sublist refL ∧ (∀ r ∈ l, r ≠ id) ∧ Ok s' (b + 10) := by
 obtain ⟨t, t1, t2, t3, t4⟩ := forL_at (body := fun k x s => mk_Stream_RightAlerts_L1 id k x s) (xs := refL) (s := (([] : List ByteArray), s.L, s.f_at)) (fun k t => t.1.Sublist (refL.take k) ∧ (∀ r ∈ t.1, r ≠ id) ∧ Ok ⟨t.2.1, t.2.2⟩ (b + k)) (by decide) (fun k x t hx ⟨i1, i2, i3⟩ => by
  have hk : k < refL.length := (List.getElem?_eq_some_iff.1 hx).1
  have hk5 : k < 5 := hk
  have et : refL.take (k + 1) = refL.take k ++ [x] := by rw [List.take_add_one, hx]; rfl
  have hlen : t.1.length ≤ 5 := Nat.le_trans i1.length_le (by rw [List.length_take]; exact Nat.min_le_right _ _)
  unfold mk_Stream_RightAlerts_L1
  rw [sNe_dec]
  by_cases he : x = id
  ·rw [decide_eq_true he]
   exact ⟨_, rfl, by rw [et]; exact i1.trans (List.sublist_append_left _ _), i2, i3.mono (by omega)⟩
  ·obtain ⟨f, s1, c1, c2⟩ := flip_ok _ 3 i3 (by omega) (by decide) (by decide)
   rw [decide_eq_false he]
   simp only [Bool.not_false, cond_true, c1, Option.bind_some]
   cases f with
   | true =>
    rw [cond_true, appL_ok _ _ (by simp; omega)]
    refine ⟨_, rfl, by rw [et]; exact i1.append (List.Sublist.refl _), fun r hr => ?_, c2.mono (by omega)⟩
    rcases List.mem_append.1 hr with hr | hr
    ·exact i2 r hr
    ·rw [List.mem_singleton.1 hr]; exact he
   | false => exact ⟨_, rfl, by rw [et]; exact i1.trans (List.sublist_append_left _ _), i2, c2.mono (by omega)⟩) ⟨List.Sublist.refl _, fun r hr => (by cases hr), hs.mono (by omega)⟩
 exact ⟨t.1, ⟨t.2.1, t.2.2⟩, t1, by simpa using t2, t3, t4.mono (by show b + ((5 : Nat) : Int) ≤ b + 10; omega)⟩
theorem areas_gen (n : Int) (hn : 1 ≤ n ∧ n ≤ 2) (s : Stream) {b : Int} (hs : Ok s b) (hb : b ≤ 800000) :
  ∃ l s', forL (List.range n.toNat) (([] : List Rect), s.L, s.f_at) (fun k x s => mk_Stream_RightAlerts_L2 k x s) = some (.go (l, s'.L, s'.f_at)) ∧ (l.length : Int) = n ∧ (∀ r ∈ l, SmallR r) ∧ Ok s' (b + 10) := by
 obtain ⟨t, t1, t2, t3, t4⟩ := forL_inv (body := fun k x s => mk_Stream_RightAlerts_L2 k x s) (s := (([] : List Rect), s.L, s.f_at)) (xs := List.range n.toNat) (fun j t => t.1.length = j ∧ (∀ r ∈ t.1, SmallR r) ∧ Ok ⟨t.2.1, t.2.2⟩ (b + 4 * j)) (by simp; omega) (fun j x t hx hj ⟨i1, i2, i3⟩ => by
  simp only [List.length_range] at hj
  obtain ⟨r, s1, c1, c2, c3, c4⟩ := rightRectF _ i3 (by omega)
  unfold mk_Stream_RightAlerts_L2
  rw [c1, Option.bind_some, appL_ok _ _ (by simp; omega)]
  refine ⟨_, rfl, by simp [i1], fun q hq => ?_, c4.mono (by omega)⟩
  rcases List.mem_append.1 hq with hq | hq
  ·exact i2 q hq
  ·rw [List.mem_singleton.1 hq]; exact ⟨c2, c3⟩) ⟨rfl, fun r hr => (by cases hr), hs.mono (by omega)⟩
 rw [List.length_range] at t2 t4
 exact ⟨t.1, ⟨t.2.1, t.2.2⟩, t1, by omega, t3, t4.mono (by omega)⟩
theorem one_alert (id : ByteArray) (hid : id ∈ idL) (k : Nat) (l0 : List Alert) (hl : l0.length ≤ 100) (s : Stream) {b : Int} (hs : Ok s b) (hb : b ≤ 700000) :
  ∃ x s', mk_Stream_RightAlerts_L3 k id (l0, s.L, s.f_at) = some (.go (l0 ++ [x], s'.L, s'.f_at)) ∧ RightA x ∧ x.Id = id ∧ Ok s' (b + 40) := by
 obtain ⟨sd, s1, a1, a2, a3⟩ := some_ok s [(⟨#[119, 120]⟩ : ByteArray), (⟨#[119, 120]⟩ : ByteArray), (⟨#[102, 105, 114, 101]⟩ : ByteArray)] hs (by omega) (by simp) (by simp)
 obtain ⟨kd, s2, b1, b2, b3⟩ := pick_ok s1 [1, 1, 2, 2, 3] a3 (by omega) (by simp) (by simp)
 obtain ⟨n5, s3, c1, c2, c3, c4⟩ := range_ok s2 0 6 b3 (by omega) (by decide) (by decide) (by decide)
 obtain ⟨wt, s4, d1, d2, d3⟩ := pick_ok s3 [1, 5, 5, 9] c4 (by omega) (by simp) (by simp)
 obtain ⟨tx, s5, e1, e2, e3⟩ := some_ok s4 [(⟨#[102, 108, 111, 111, 100]⟩ : ByteArray), (⟨#[102, 105, 114, 101, 32, 105, 110, 32, 116, 104, 101, 32, 109, 97, 108, 108]⟩ : ByteArray)] d3 (by omega) (by simp) (by simp)
 obtain ⟨un, s6, f1, f2, f3⟩ := pick_ok s5 [1, 10, 20, 50] e3 (by omega) (by simp) (by simp)
 have hsd : sd = wxS ∨ sd = fireS := by
  simp only [List.mem_cons, List.not_mem_nil, or_false] at a2
  rcases a2 with h | h | h
  ·exact .inl h
  ·exact .inl h
  ·exact .inr h
 have hkd : kd = 1 ∨ kd = 2 ∨ kd = 3 := by
  simp only [List.mem_cons, List.not_mem_nil, or_false] at b2; omega
 have hwt : 1 ≤ wt ∧ wt ≤ 9 := by
  simp only [List.mem_cons, List.not_mem_nil, or_false] at d2; omega
 have hun : 1 ≤ un ∧ un ≤ 50 := by
  simp only [List.mem_cons, List.not_mem_nil, or_false] at f2; omega
 have htx : tx = floodS ∨ tx = mallS := by
  simp only [List.mem_cons, List.not_mem_nil, or_false] at e2; exact e2
 obtain ⟨rf, s7, g1, g2, g3, g4, g5⟩ : ∃ rf s7, (bif kd != 1 then (forL ([(⟨#[97, 97]⟩ : ByteArray), (⟨#[97, 98]⟩ : ByteArray), (⟨#[97, 99]⟩ : ByteArray), (⟨#[97, 100]⟩ : ByteArray), (⟨#[122, 122]⟩ : ByteArray)] : List ByteArray) (([] : List ByteArray), s6.L, s6.f_at) (fun k x s => mk_Stream_RightAlerts_L1 id k x s)).bind fun o_56 => thenC o_56 (fun s_50 => bif ((s_50.1.length : Int) == 0) then some (s_50.2.1, s_50.2.2, ([(⟨#[122, 121]⟩ : ByteArray)] : List ByteArray)) else some (s_50.2.1, s_50.2.2, s_50.1)) (fun _ => none) else some (s6.L, s6.f_at, ([] : List ByteArray))) = some (Stream.L s7, Stream.f_at s7, rf) ∧ (rf.Sublist refL ∨ rf = [zyS]) ∧ (∀ r ∈ rf, r ≠ id) ∧ (kd = 1 ↔ rf = []) ∧ Ok s7 (b + 20) := by
  by_cases h1 : kd = 1
  ·rw [h1]
   exact ⟨[], s6, rfl, .inl (List.nil_sublist _), fun r hr => (by cases hr), ⟨fun _ => rfl, fun _ => rfl⟩, f3.mono (by omega)⟩
  ·have : (kd != 1) = true := by simpa using h1
   rw [this, cond_true]
   obtain ⟨l, s7, g1, g2, g3, g4⟩ := refs_gen id s6 f3 (by omega)
   rw [g1]
   simp only [Option.bind_some, thenC]
   by_cases hl0 : l = []
   ·subst hl0
    refine ⟨[zyS], s7, rfl, .inr rfl, fun r hr e => ?_, ⟨fun h => absurd h h1, fun h => (by cases h)⟩, g4.mono (by omega)⟩
    rw [List.mem_singleton.1 hr] at e
    rw [← e] at hid
    have := idL_byte _ hid
    exact absurd this (by decide)
   ·have : ((l.length : Int) == 0) = false := by
     rw [beq_eq_false_iff_ne]
     intro e; exact hl0 (List.eq_nil_of_length_eq_zero (by omega))
    rw [this, cond_false]
    exact ⟨l, s7, rfl, .inl g2, g3, ⟨fun h => absurd h h1, fun h => absurd h hl0⟩, g4.mono (by omega)⟩
 obtain ⟨ar, tx2, s8, j1, j2, j3, j4, j5, j6⟩ : ∃ ar tx2 s8, (bif kd == 3 then (mk_Stream_Some (⟨Stream.L s7, Stream.f_at s7⟩ : Stream) ([(⟨#[]⟩ : ByteArray), (⟨#[111, 118, 101, 114]⟩ : ByteArray)] : List ByteArray)).bind fun r_79 => some (([] : List Rect), r_79.2.L, r_79.2.f_at, r_79.1) else (mk_Stream_Range (⟨Stream.L s7, Stream.f_at s7⟩ : Stream) 1 2).bind fun r_82 => (forL (List.range (r_82.1).toNat) (([] : List Rect), r_82.2.L, r_82.2.f_at) (fun k x s => mk_Stream_RightAlerts_L2 k x s)).bind fun o_95 => thenC o_95 (fun s_90 => some (s_90.1, s_90.2.1, s_90.2.2, tx)) (fun _ => none)) = some (ar, Stream.L s8, Stream.f_at s8, tx2) ∧ (∀ r ∈ ar, SmallR r) ∧ ar.length ≤ 2 ∧ (kd = 3 ↔ ar = []) ∧ (tx2 = floodS ∨ tx2 = mallS ∨ kd = 3 ∧ (tx2 = ⟨#[]⟩ ∨ tx2 = overS)) ∧ Ok s8 (b + 40) := by
  have e7 : (⟨Stream.L s7, Stream.f_at s7⟩ : Stream) = s7 := rfl
  rw [e7]
  by_cases h3 : kd = 3
  ·have : (kd == 3) = true := by simpa using h3
   rw [this, cond_true]
   obtain ⟨t2, s8, q1, q2, q3⟩ := some_ok s7 [(⟨#[]⟩ : ByteArray), (⟨#[111, 118, 101, 114]⟩ : ByteArray)] g5 (by omega) (by simp) (by simp)
   rw [q1]
   simp only [List.mem_cons, List.not_mem_nil, or_false] at q2
   exact ⟨[], t2, s8, rfl, fun r hr => (by cases hr), by decide, ⟨fun _ => rfl, fun _ => h3⟩, .inr (.inr ⟨h3, q2⟩), q3.mono (by omega)⟩
  ·have : (kd == 3) = false := by simpa using h3
   rw [this, cond_false]
   obtain ⟨m, s8, q1, q2, q3, q4⟩ := range_ok s7 1 2 g5 (by omega) (by decide) (by decide) (by decide)
   obtain ⟨ar, s9, r1, r2, r3, r4⟩ := areas_gen m ⟨q2, q3⟩ s8 q4 (by omega)
   rw [q1, Option.bind_some, r1]
   refine ⟨ar, tx, s9, rfl, r3, by omega, ⟨fun h => absurd h h3, fun h => ?_⟩, htx.imp (fun h => h) .inl, r4.mono (by omega)⟩
   rw [h] at r2; simp at r2; omega
 refine ⟨⟨id, sd, kd, rf, n5 * 5, n5 * 5 + un, wt, ar, tx2⟩, s8, ?_, ⟨hid, hsd, by simp only []; omega, g2, g3, g4, by simp only []; omega, by simp only []; omega, hwt, j2, j3, j4, j5⟩, rfl, j6⟩
 unfold mk_Stream_RightAlerts_L3
 have e0 : (⟨s.L, s.f_at⟩ : Stream) = s := rfl
 simp only [e0, a1, b1, c1, d1, e1, f1, g1, j1, Option.bind_some]
 rw [appL_ok _ _ (by simp; omega), w64_id (n := n5 * 5) (by omega), w64_id (n := n5 * 5 + un) (by omega)]; rfl
def befA (a b : Alert) : Prop := a.At < b.At ∨ a.At = b.At ∧ lt a.Id b.Id
open Classical in
theorem order_eq {a b : Alert} (ha : RightA a) (hb : RightA b) : mk_alertOrder a b = some (bif a.At != b.At then a.At - b.At else bif sLt a.Id b.Id then -1 else 1) := by
 have h1 := ha.at_
 have h2 := hb.at_
 unfold mk_alertOrder
 cases a.At != b.At with
 | true => rw [cond_true, cond_true, w64_id (by omega)]
 | false =>
  rw [cond_false, cond_false]
  cases sLt a.Id b.Id <;> rfl
theorem order_neg {a b : Alert} : (bif a.At != b.At then a.At - b.At else bif sLt a.Id b.Id then (-1 : Int) else 1) < 0 ↔ befA a b := by
 unfold befA
 by_cases h : a.At = b.At
 ·have : (a.At != b.At) = false := by simpa using h
  rw [this, cond_false]
  cases hl : sLt a.Id b.Id with
  | true =>
   rw [cond_true]
   exact ⟨fun _ => .inr ⟨h, (sLt_iff _ _).1 hl⟩, fun _ => by decide⟩
  | false =>
   rw [cond_false]
   refine ⟨fun h => absurd h (by decide), fun hb => ?_⟩
   rcases hb with hb | hb
   ·omega
   ·rw [(sLt_iff _ _).2 hb.2] at hl; cases hl
 ·have : (a.At != b.At) = true := by simpa using h
  rw [this, cond_true]
  refine ⟨fun k => .inl (by omega), fun hb => ?_⟩
  rcases hb with hb | hb
  ·omega
  ·exact absurd hb.1 h
theorem befA_irr (a : Alert) : ¬ befA a a := fun h => by
 rcases h with h | h
 ·omega
 ·exact lt_irr _ h.2
theorem befA_trans {a b c : Alert} (h : befA a b) (k : befA b c) : befA a c := by
 rcases h with h | h <;> rcases k with k | k
 ·exact .inl (by omega)
 ·exact .inl (by omega)
 ·exact .inl (by omega)
 ·exact .inr ⟨h.1.trans k.1, lt_trans h.2 k.2⟩
theorem befA_tri (a b : Alert) (hid : a.Id ≠ b.Id) : befA a b ∨ befA b a := by
 rcases Int.lt_trichotomy a.At b.At with h | h | h
 ·exact .inl (.inl h)
 ·rcases lt_tri a.Id b.Id with k | k | k
  ·exact .inl (.inr ⟨h, k⟩)
  ·exact absurd k hid
  ·exact .inr (.inr ⟨h.symm, k⟩)
 ·exact .inr (.inl h)
theorem befA_ntrans {a b c : Alert} (h : ¬ befA a b) (k : ¬ befA b c) : ¬ befA a c := fun hc => by
 unfold befA at *
 simp only [not_or, not_and] at h k
 rcases hc with hc | hc
 ·rcases Int.lt_trichotomy a.At b.At with q | q | q
  ·exact h.1 q
  ·rcases Int.lt_trichotomy b.At c.At with r | r | r
   ·exact k.1 r
   ·omega
   ·omega
  ·have := k.1; omega
 ·have h1 := h.1
  have k1 := k.1
  have e1 : a.At = b.At := by omega
  have e2 : b.At = c.At := by omega
  have h2 := h.2 e1
  have k2 := k.2 e2
  rcases lt_tri a.Id b.Id with q | q | q
  ·exact h2 q
  ·rw [q] at hc; exact k2 hc.2
  ·rcases lt_tri b.Id c.Id with r | r | r
   ·exact k2 r
   ·rw [← r] at hc; exact h2 hc.2
   ·exact lt_irr _ (lt_trans (lt_trans hc.2 r) q)
structure RAlerts (l : List Alert) (n : Nat) : Prop where
 right : ∀ x ∈ l, RightA x
 rise : l.Pairwise befA
 ids : (l.map (·.Id)).Nodup
 len : l.length ≤ n
theorem rightAlerts (most : Int) (hm : 0 ≤ most ∧ most ≤ 6) (s : Stream) {b : Int} (hs : Ok s b) (hb : b ≤ 600000) : ∃ l s', mk_Stream_RightAlerts s most = some (l, s') ∧ RAlerts l most.toNat ∧ Ok s' (b + 250) := by
 obtain ⟨n, s1, a1, a2, a3, a4⟩ := range_ok s 0 most hs (by omega) (by omega) (by decide) (by omega)
 have hsub : subL idL 0 n = some (idL.take n.toNat) := by
  unfold subL
  have h6 : idL.length = 6 := rfl
  rw [if_pos (by rw [h6]; omega)]
  simp
 obtain ⟨t, t1, t2, t3, t4⟩ := forL_at (body := fun k x s => mk_Stream_RightAlerts_L3 k x s) (xs := idL.take n.toNat) (s := (([] : List Alert), s1.L, s1.f_at)) (fun k t => t.1.map (·.Id) = idL.take k ∧ (∀ x ∈ t.1, RightA x) ∧ Ok ⟨t.2.1, t.2.2⟩ (b + 1 + 40 * k)) (by rw [List.length_take]; show min n.toNat 6 ≤ _; omega) (fun k x t hx ⟨i1, i2, i3⟩ => by
  have hk : k < (idL.take n.toNat).length := (List.getElem?_eq_some_iff.1 hx).1
  rw [List.length_take] at hk
  have hk6 : k < 6 := by have : idL.length = 6 := rfl; omega
  have hx' : idL[k]? = some x := by rw [List.getElem?_take_of_lt (by omega)] at hx; exact hx
  have hlen : t.1.length ≤ 6 := by
   have := congrArg List.length i1
   rw [List.length_map, List.length_take] at this
   omega
  obtain ⟨y, s2, c1, c2, c3, c4⟩ := one_alert x (List.mem_of_getElem? hx') k t.1 (by omega) ⟨t.2.1, t.2.2⟩ i3 (by omega)
  refine ⟨_, c1, ?_, fun z hz => ?_, c4.mono (by omega)⟩
  ·rw [List.map_append, i1, List.take_add_one, hx']
   simp [c3]
  ·rcases List.mem_append.1 hz with hz | hz
   ·exact i2 z hz
   ·rw [List.mem_singleton.1 hz]; exact c2) ⟨rfl, fun x hx => (by cases hx), a4.mono (by omega)⟩
 have hnd : (t.1.map (·.Id)).Nodup := by
  rw [t2]
  exact (idL_rise.sublist (List.take_sublist _ _)).imp (fun h e => by rw [e] at h; exact lt_irr _ h)
 have hlen : t.1.length ≤ most.toNat := by
  have := congrArg List.length t2
  rw [List.length_map, List.length_take, List.length_take] at this
  omega
 obtain ⟨r, r1, r2, r3⟩ := sort12 (cmp := mk_alertOrder) (S := slices_SortFunc_api_Alert_api_Alert_v1) (fun a b => bif a.At != b.At then a.At - b.At else bif sLt a.Id b.Id then -1 else 1) (fun _ => rfl) (xs := t.1) (by omega) (fun x hx y hy => order_eq (t3 x hx) (t3 y hy))
  (fun x y h k => befA_irr x (befA_trans (order_neg.1 h) (order_neg.1 k))) (fun x y z h k q => befA_ntrans (fun e => h (order_neg.2 e)) (fun e => k (order_neg.2 e)) (order_neg.1 q))
 have hrl : r.length = t.1.length := r2.length_eq
 have hids : (r.map (·.Id)).Nodup := (r2.map (·.Id)).nodup_iff.2 hnd
 refine ⟨r, ⟨t.2.1, t.2.2⟩, ?_, ⟨fun x hx => t3 x (r2.mem_iff.1 hx), ?_, hids, by omega⟩, t4.mono (by
  have : (idL.take n.toNat).length ≤ 6 := by rw [List.length_take]; exact Nat.min_le_right _ _
  omega)⟩
 ·unfold mk_Stream_RightAlerts
  have e1 : subL ([(⟨#[97, 97]⟩ : ByteArray), (⟨#[97, 98]⟩ : ByteArray), (⟨#[97, 99]⟩ : ByteArray), (⟨#[97, 100]⟩ : ByteArray), (⟨#[97, 101]⟩ : ByteArray), (⟨#[97, 102]⟩ : ByteArray)] : List ByteArray) 0 n = some (idL.take n.toNat) := hsub
  simp only [a1, Option.bind_some, e1, t1, thenC]
  have e2 : slices_SortFunc_api_Alert_api_Alert_v1 t.1 = some r := r1
  have e3 : sameL r t.1 = some () := by unfold sameL; rw [if_pos hrl]
  rw [e2, Option.bind_some, e3]; rfl
 ·refine List.pairwise_iff_getElem.2 (fun i j hi hj hij => ?_)
  have h1 := List.pairwise_iff_getElem.1 r3 i j hi hj hij
  have h2 : r[i].Id ≠ r[j].Id := fun e => by
   have := List.pairwise_iff_getElem.1 hids i j (by simpa using hi) (by simpa using hj) hij
   rw [List.getElem_map, List.getElem_map] at this
   exact this e
  rcases befA_tri r[i] r[j] h2 with h | h
  ·exact h
  ·exact absurd (order_neg.2 h) h1
theorem compareA_neg {a b : Alert} (h : befA a b) : ∃ n, alert_compare a b = some n ∧ n < 0 := by
 refine ⟨_, by simp only [alert_compare, compare_eq, cmpInt_eq, or2_eq, Option.bind_some]; rfl, ?_⟩
 unfold or0 cmpI
 rcases h with h | ⟨h, k⟩
 ·simp [h]
 ·rw [h]
  rcases cmpB_spec a.Id b.Id with ⟨_, e⟩ | ⟨e, _⟩ | ⟨e, _⟩
  ·rw [e]; simp
  ·rw [e] at k; exact absurd k (lt_irr _)
  ·exact absurd (lt_trans k e) (lt_irr _)
end Go.Proofs.YtpojeclokolkaaaGreatDoor.Law

open Go Go.Eng
namespace Go.Proofs.YtpojeclokolkaaaGreatDoor.Law
set_option linter.unusedVariables false
set_option linter.unusedSimpArgs false
theorem mIdx_none {K T : Type} {eq : K → K → Bool} {k : K} : ∀ {es : List (K × T)}, (∀ e ∈ es, eq k e.1 = false) → mIdx eq k es = none
 | [], _ => rfl
 | e :: es, h => by
  have h1 := h e (by simp)
  have h2 := mIdx_none (es := es) (fun x hx => h x (by simp [hx]))
  rw [mIdx, h1, h2]; rfl
theorem eqS_eq {a b : ByteArray} (h : (a == b) = true) : a = b := by
 obtain ⟨x⟩ := a
 obtain ⟨y⟩ := b
 have h1 : (x == y) = true := h
 rw [eq_of_beq h1]
theorem idsLoop (l : List Alert) (hnd : (l.map (·.Id)).Nodup) (hl : l.length ≤ 1000) : ∃ s, forL l ([] : List (ByteArray × Bool)) (fun k x s => alert_CheckAlerts_L2 k x s) = some (.go s) := by
 obtain ⟨s, e, _⟩ := forL_at (body := fun k x s => alert_CheckAlerts_L2 k x s) (fun k s => s = (l.take k).map fun a => (a.Id, true)) (xs := l) (s := ([] : List (ByteArray × Bool))) (by omega) (fun k x s hx hs => by
  have et : l.take (k + 1) = l.take k ++ [x] := by rw [List.take_add_one, hx]; rfl
  have hn : mIdx eqS x.Id s = none := mIdx_none (fun e he => by
   rw [hs] at he
   obtain ⟨a, ha, rfl⟩ := List.mem_map.1 he
   obtain ⟨i, hi, rfl⟩ := List.getElem_of_mem ha
   rw [List.length_take] at hi
   obtain ⟨hk, hxk⟩ := List.getElem?_eq_some_iff.1 hx
   rw [← Bool.not_eq_true]
   intro e
   replace e := eqS_eq e
   have := List.pairwise_iff_getElem.1 hnd i k (by simp; omega) (by simpa using hk) (by omega)
   rw [List.getElem_map, List.getElem_map, hxk] at this
   rw [List.getElem_take] at e
   exact this e.symm)
  unfold alert_CheckAlerts_L2 mGet mSet
  rw [hn]
  refine ⟨_, rfl, ?_⟩
  rw [et, List.map_append, hs]; rfl) rfl
 exact ⟨s, e⟩
theorem checkAlerts_0 {l : List Alert} {n : Nat} (h : RAlerts l n) (hn : n ≤ 300) : alert_CheckAlerts l = some 0 := by
 have hl := h.len
 unfold alert_CheckAlerts
 rw [decide_eq_false (by omega), cond_false]
 obtain ⟨u, e, _⟩ := forL_at (body := fun k x s => alert_CheckAlerts_L1 l k x s) (fun _ _ => True) (xs := l) (s := ()) (by omega) (fun k x s hx _ => by
  refine ⟨(), ?_, trivial⟩
  have hm := List.mem_of_getElem? hx
  unfold alert_CheckAlerts_L1
  rw [alertFault_0 (h.right x hm)]
  simp only [Option.bind_some, bne_self_eq_false, cond_false]
  rcases Nat.eq_zero_or_pos k with h0 | h0
  ·rw [decide_eq_false (by omega)]; rfl
  ·rw [decide_eq_true (by omega), cond_true]
   obtain ⟨y, q1, q2⟩ := idx_prev hx h0 (by omega)
   have hb : befA y x := by
    obtain ⟨l1, m1⟩ := List.getElem?_eq_some_iff.1 q2
    obtain ⟨l2, m2⟩ := List.getElem?_eq_some_iff.1 hx
    rw [← m1, ← m2]
    exact List.pairwise_iff_getElem.1 h.rise _ _ l1 l2 (by omega)
   obtain ⟨m, m1, m2⟩ := compareA_neg hb
   rw [q1, Option.bind_some, m1, Option.bind_some, decide_eq_false (by omega)]; rfl) trivial
 rw [e]
 simp only [Option.bind_some, thenC]
 obtain ⟨s, e2⟩ := idsLoop l h.ids (by omega)
 rw [e2]; rfl
theorem one_RAlerts {x : Alert} (h : RightA x) : RAlerts [x] 1 := ⟨fun y hy => by rw [List.mem_singleton.1 hy]; exact h, List.pairwise_singleton _ _, by simp, by simp⟩
structure RightPo (p : Post) : Prop where
 key : kit_IsKey p.Player = some true
 x : -1000 ≤ p.X ∧ p.X ≤ 1000
 y : -1000 ≤ p.Y ∧ p.Y ≤ 1000
theorem paP_right {x y : Int} (hx : -1000 ≤ x ∧ x ≤ 1000) (hy : -1000 ≤ y ∧ y ≤ 1000) : RightPo ⟨⟨#[112, 97]⟩, x, y⟩ := ⟨by
 show kit_IsKey ⟨#[112, 97]⟩ = some true
 rw [isKey_eq _ (by decide)]; exact congrArg some (by kernel_rfl), hx, hy⟩
theorem onePost_0 {p : Post} (h : RightPo p) : alert_CheckPosts [p] = some 0 := by
 have h1 := h.x
 have h2 := h.y
 unfold alert_CheckPosts
 rw [decide_eq_false (by simp), cond_false, forL_eq (by simp)]
 have e : alert_CheckPosts_L1 [p] 0 p () = some (.go ()) := by
  unfold alert_CheckPosts_L1
  rw [h.key]
  simp only [Option.bind_some, Bool.not_true, cond_false, outside_eq, outB_in (show (-100000 : Int) ≤ p.X ∧ p.X ≤ 100000 by omega), outB_in (show (-100000 : Int) ≤ p.Y ∧ p.Y ≤ 100000 by omega)]
  rfl
 simp only [forR, e, Option.bind_some, thenC]
theorem checkBoth_0 {l : List Alert} {n : Nat} (h : RAlerts l n) (hn : n ≤ 300) {p : Post} (hp : RightPo p) : alert_checkBoth l [p] = some 0 := by
 unfold alert_checkBoth
 rw [checkAlerts_0 h hn, Option.bind_some, onePost_0 hp]; rfl
theorem reaches_eq {x : Alert} (h : ∀ r ∈ x.Areas, SmallR r) (hl : x.Areas.length ≤ 1000) (p : Post) : alert_reaches x p = some (hasB x.Areas p.X p.Y) := by
 unfold alert_reaches
 rw [any_eq (fun x0 => alert_reaches_1 x0 p) (has1 p.X p.Y) (fun r hr => by
  have hs := (h r hr).2
  unfold alert_reaches_1 has1
  rw [w64_id (n := r.X + r.W) (by have := (h r hr).1; unfold Fine at this; omega), w64_id (n := r.Y + r.H) (by have := (h r hr).1; unfold Fine at this; omega)]
  cases decide (r.X ≤ p.X) <;> cases decide (p.X < r.X + r.W) <;> cases decide (r.Y ≤ p.Y) <;> rfl) (by omega)]
 rfl
theorem Reaches_ok {x : Alert} (h : RightA x) {p : Post} (hp : RightPo p) : alert_Reaches x p = some (hasB x.Areas p.X p.Y, 0) := by
 unfold alert_Reaches
 rw [checkBoth_0 (one_RAlerts h) (by decide) hp]
 simp only [Option.bind_some, bne_self_eq_false, cond_false]
 have := h.alen
 rw [reaches_eq h.areas (by omega)]; rfl
end Go.Proofs.YtpojeclokolkaaaGreatDoor.Law

open Go Go.Eng
namespace Go.Proofs.YtpojeclokolkaaaGreatDoor.Law
set_option linter.unusedVariables false
set_option linter.unusedSimpArgs false
theorem loopO_inv {σ ρ : Type} {body : σ → Option (Ctl σ ρ)} (I : Nat → σ → Prop) (N : Nat) (hgo : ∀ k s, k < N → I k s → ∃ s', body s = some (.go s') ∧ I (k + 1) s') (hbrk : ∀ s, I N s → body s = some (.brk s)) {s : σ} (h0 : I 0 s) : ∃ s', loopO s body = some (.go s') ∧ I N s' := by
  have key : ∀ (n k : Nat) (s : σ), k + n = N → I k s → ∃ s', iterN body (n + 1) s = some (.go s') ∧ I N s' := by
    intro n
    induction n with
    | zero => intro k s hk hI
              have e : k = N := by omega
              subst e
              exact ⟨s, by simp only [iterN, hbrk s hI, Option.bind_some], hI⟩
    | succ n ih => intro k s hk hI
                   obtain ⟨s', e, hI'⟩ := hgo k s (by omega) hI
                   obtain ⟨r, er, hr⟩ := ih (k + 1) s' (by omega) hI'
                   refine ⟨r, ?_, hr⟩
                   rw [iterN, e, Option.bind_some]; exact er
  obtain ⟨s', e, hI⟩ := key N 0 s (by omega) h0
  exact ⟨s', iter_loopO e, hI⟩
def Tiles (f : Int → ByteArray) (T : Int) : Int → List Slot_ → Prop
  | F, [] => F = T
  | F, x :: r => x.Time.From = F ∧ F < x.Time.To ∧ x.Time.To ≤ T ∧ (∀ t, F ≤ t → t < x.Time.To → f t = x.Entry) ∧ (∀ y, r.head? = some y → y.Entry ≠ x.Entry) ∧ Tiles f T x.Time.To r
def addS (id : ByteArray) (F T : Int) : List Slot_ → List Slot_
  | [] => [⟨⟨F, T⟩, id⟩]
  | [x] => if x.Entry = id then [⟨⟨x.Time.From, T⟩, x.Entry⟩] else [x, ⟨⟨F, T⟩, id⟩]
  | x :: y :: r => x :: addS id F T (y :: r)
theorem addS_head (id : ByteArray) (F T : Int) : ∀ (y : Slot_) (r : List Slot_), ∃ z, (addS id F T (y :: r)).head? = some z ∧ z.Entry = y.Entry
  | y, [] => by
    unfold addS
    split
    · exact ⟨_, rfl, rfl⟩
    · exact ⟨_, rfl, rfl⟩
  | y, z :: r => ⟨y, rfl, rfl⟩
theorem Tiles.add {f : Int → ByteArray} {id : ByteArray} {F T : Int} (hT : F < T) (hf : ∀ t, F ≤ t → t < T → f t = id) : ∀ (out : List Slot_) (F0 : Int), Tiles f F F0 out → Tiles f T F0 (addS id F T out)
  | [], F0, h => by
    unfold Tiles at h
    subst h
    unfold addS Tiles
    exact ⟨rfl, hT, Int.le_refl _, hf, fun y hy => (by cases hy), (by unfold Tiles; rfl)⟩
  | [x], F0, h => by
    unfold Tiles at h
    obtain ⟨h1, h2, h3, h4, h5, h6⟩ := h
    unfold Tiles at h6
    unfold addS
    by_cases he : x.Entry = id
    · rw [if_pos he]
      unfold Tiles
      refine ⟨h1, (by show F0 < T; omega), Int.le_refl _, fun t t1 t2 => ?_, fun y hy => (by cases hy), (by unfold Tiles; rfl)⟩
      by_cases ht : t < F
      · exact h4 t t1 (by omega)
      · exact (hf t (by omega) t2).trans he.symm
    · rw [if_neg he]
      unfold Tiles
      refine ⟨h1, h2, by omega, h4, fun y hy => ?_, ?_⟩
      · rw [← Option.some.inj hy]; exact fun e => he e.symm
      · unfold Tiles
        exact ⟨h6.symm, (by show x.Time.To < T; omega), Int.le_refl _, fun t t1 t2 => hf t (by omega) t2, fun y hy => (by cases hy), (by unfold Tiles; rfl)⟩
  | x :: y :: r, F0, h => by
    unfold Tiles at h
    obtain ⟨h1, h2, h3, h4, h5, h6⟩ := h
    have ih := Tiles.add hT hf (y :: r) _ h6
    unfold addS
    unfold Tiles
    refine ⟨h1, h2, by omega, h4, fun z hz => ?_, ih⟩
    obtain ⟨z', e1, e2⟩ := addS_head id F T y r
    rw [e1] at hz
    rw [← Option.some.inj hz, e2]
    exact h5 y rfl
theorem addS_set (id : ByteArray) (F T : Int) : ∀ (out : List Slot_) (n : Nat) (x : Slot_), out.length = n + 1 → out[n]? = some x → x.Entry = id → addS id F T out = out.set n ⟨⟨x.Time.From, T⟩, x.Entry⟩
  | [], n, x, h, _, _ => by simp at h
  | [y], 0, x, _, hx, he => by
    simp only [List.getElem?_cons_zero, Option.some.injEq] at hx
    subst hx
    unfold addS
    rw [if_pos he]; rfl
  | [y], n + 1, x, h, _, _ => by simp at h
  | y :: z :: r, 0, x, h, _, _ => by simp at h
  | y :: z :: r, n + 1, x, h, hx, he => by
    unfold addS
    rw [addS_set id F T (z :: r) n x (by simpa using h) (by simpa using hx) he]; rfl
theorem addS_app (id : ByteArray) (F T : Int) : ∀ (out : List Slot_), (∀ (n : Nat) (x : Slot_), out.length = n + 1 → out[n]? = some x → x.Entry ≠ id) → addS id F T out = out ++ [⟨⟨F, T⟩, id⟩]
  | [], _ => rfl
  | [y], h => by
    unfold addS
    rw [if_neg (h 0 y rfl rfl)]; rfl
  | y :: z :: r, h => by
    unfold addS
    rw [addS_app id F T (z :: r) (fun n x h1 h2 => h (n + 1) x (by simp only [List.length_cons] at *; omega) (by simpa using h2))]; rfl
theorem addS_len (id : ByteArray) (F T : Int) : ∀ (out : List Slot_), (addS id F T out).length ≤ out.length + 1
  | [] => by simp [addS]
  | [y] => by unfold addS; split <;> simp
  | y :: z :: r => by
    have := addS_len id F T (z :: r)
    unfold addS
    simp only [List.length_cons] at *; omega
theorem Tiles.at {f : Int → ByteArray} {T : Int} : ∀ {l : List Slot_} {F : Int}, Tiles f T F l → (∀ x ∈ l, F ≤ x.Time.From ∧ x.Time.From < x.Time.To ∧ x.Time.To ≤ T ∧ ∀ t, x.Time.From ≤ t → t < x.Time.To → f t = x.Entry) ∧ ∀ t, F ≤ t → t < T → ∃ x ∈ l, x.Time.From ≤ t ∧ t < x.Time.To
  | [], F, h => by
    unfold Tiles at h
    exact ⟨fun x hx => (by cases hx), fun t t1 t2 => by omega⟩
  | y :: r, F, h => by
    unfold Tiles at h
    obtain ⟨h1, h2, h3, h4, h5, h6⟩ := h
    obtain ⟨k1, k2⟩ := Tiles.at h6
    refine ⟨fun x hx => ?_, fun t t1 t2 => ?_⟩
    · rcases List.mem_cons.1 hx with rfl | hx
      · exact ⟨by omega, by omega, h3, fun t t1 t2 => h4 t (by omega) t2⟩
      · obtain ⟨q1, q2, q3, q4⟩ := k1 x hx
        exact ⟨by omega, q2, q3, q4⟩
    · by_cases ht : t < y.Time.To
      · exact ⟨y, List.mem_cons_self, by omega, ht⟩
      · obtain ⟨x, hx, q⟩ := k2 t (by omega) t2
        exact ⟨x, List.mem_cons_of_mem _ hx, q⟩
theorem tile_gap {E : List Int} (hE : E.Pairwise (· < ·)) {i : Nat} {a b : Int} (ha : E[i]? = some a) (hb : E[i + 1]? = some b) {x : Int} (hx : x ∈ E) : x ≤ a ∨ b ≤ x := by
  obtain ⟨j, hj, rfl⟩ := List.getElem_of_mem hx
  obtain ⟨h1, e1⟩ := List.getElem?_eq_some_iff.1 ha
  obtain ⟨h2, e2⟩ := List.getElem?_eq_some_iff.1 hb
  have hp := List.pairwise_iff_getElem.1 hE
  by_cases hji : j < i
  · left; have := hp j i hj h1 hji; omega
  · by_cases hji2 : j = i
    · subst hji2; left; omega
    · by_cases hj3 : j = i + 1
      · subst hj3; right; omega
      · right; have := hp (i + 1) j h2 hj (by omega); omega
theorem tile_next {E : List Int} (hE : E.Pairwise (· < ·)) {i : Nat} {a b : Int} (ha : E[i]? = some a) (hb : E[i + 1]? = some b) : a < b := by
  obtain ⟨h1, e1⟩ := List.getElem?_eq_some_iff.1 ha
  obtain ⟨h2, e2⟩ := List.getElem?_eq_some_iff.1 hb
  have := List.pairwise_iff_getElem.1 hE i (i + 1) h1 h2 (by omega)
  omega
theorem tile_ends {E : List Int} (hE : E.Pairwise (· < ·)) {F T : Int} (hF : F ∈ E) (hT : T ∈ E) (hin : ∀ x ∈ E, F ≤ x ∧ x ≤ T) : E[0]? = some F ∧ E[E.length - 1]? = some T := by
  have hp := List.pairwise_iff_getElem.1 hE
  obtain ⟨i, hi, ei⟩ := List.getElem_of_mem hF
  obtain ⟨j, hj, ej⟩ := List.getElem_of_mem hT
  constructor
  · rw [List.getElem?_eq_getElem (by omega)]
    by_cases h0 : i = 0
    · subst h0; rw [ei]
    · have h1 := hp 0 i (by omega) hi (by omega)
      have h2 := (hin E[0] (List.getElem_mem _)).1
      omega
  · rw [List.getElem?_eq_getElem (by omega)]
    by_cases h0 : j = E.length - 1
    · subst h0; rw [ej]
    · have h1 := hp j (E.length - 1) hj (by omega) (by omega)
      have h2 := (hin E[E.length - 1] (List.getElem_mem _)).2
      omega
theorem perm_uniq {α : Type} {R : α → α → Prop} (has : ∀ a b, R a b → ¬ R b a) {a b : List α} (h : a.Perm b) (ha : a.Pairwise R) (hb : b.Pairwise R) : a = b :=
  List.Perm.eq_of_pairwise (fun x y _ _ h1 h2 => absurd h2 (has x y h1)) ha hb h
end Go.Proofs.YtpojeclokolkaaaGreatDoor.Law

open Go Go.Eng
namespace Go.Proofs.YtpojeclokolkaaaGreatDoor.Law
set_option linter.unusedVariables false
set_option linter.unusedSimpArgs false
def insG {α : Type} (r : α → α → Bool) (x : α) : List α → List α
 | [] => [x]
 | y :: l => bif r x y then x :: y :: l else y :: insG r x l
def srtG {α : Type} (r : α → α → Bool) : List α → List α
 | [] => []
 | x :: l => insG r x (srtG r l)
theorem insG_perm {α : Type} (r : α → α → Bool) (x : α) : ∀ l, (insG r x l).Perm (x :: l)
 | [] => .refl _
 | y :: l => by
  unfold insG
  cases r x y with
  | true => exact .refl _
  | false => exact ((insG_perm r x l).cons y).trans (List.Perm.swap x y l)
theorem srtG_perm {α : Type} (r : α → α → Bool) : ∀ l, (srtG r l).Perm l
 | [] => .refl _
 | x :: l => (insG_perm r x _).trans ((srtG_perm r l).cons x)
theorem insG_sorted {α : Type} {r : α → α → Bool} (htr : ∀ a b c, r a b = true → r b c = true → r a c = true) {x : α} : ∀ {l : List α}, (∀ y ∈ l, r x y = true ∨ r y x = true) → l.Pairwise (fun a b => r a b = true) → (insG r x l).Pairwise (fun a b => r a b = true)
 | [], _, _ => List.pairwise_singleton _ _
 | y :: l, h, hp => by
  obtain ⟨p1, p2⟩ := List.pairwise_cons.1 hp
  unfold insG
  cases hxy : r x y with
  | true =>
   refine List.pairwise_cons.2 ⟨fun z hz => ?_, hp⟩
   rcases List.mem_cons.1 hz with rfl | hz
   ·exact hxy
   ·exact htr _ _ _ hxy (p1 z hz)
  | false =>
   refine List.pairwise_cons.2 ⟨fun z hz => ?_, insG_sorted htr (fun z hz => h z (List.mem_cons_of_mem _ hz)) p2⟩
   rcases List.mem_cons.1 ((insG_perm r x l).mem_iff.1 hz) with rfl | hz
   ·exact (h y List.mem_cons_self).resolve_left (by rw [hxy]; exact Bool.false_ne_true)
   ·exact p1 z hz
theorem srtG_sorted {α : Type} {r : α → α → Bool} (htr : ∀ a b c, r a b = true → r b c = true → r a c = true) : ∀ {l : List α}, l.Pairwise (fun a b => r a b = true ∨ r b a = true) → (srtG r l).Pairwise (fun a b => r a b = true)
 | [], _ => .nil
 | x :: l, h => by
  obtain ⟨p1, p2⟩ := List.pairwise_cons.1 h
  exact insG_sorted htr (fun y hy => p1 y ((srtG_perm r l).mem_iff.1 hy)) (srtG_sorted htr p2)
theorem srtG_is {α : Type} {r : α → α → Bool} (hir : ∀ a, r a a = false) (htr : ∀ a b c, r a b = true → r b c = true → r a c = true) {l s : List α} (ht : l.Pairwise (fun a b => r a b = true ∨ r b a = true)) (hp : s.Perm l) (hs : s.Pairwise (fun a b => r b a = false)) : s = srtG r l := by
 have hsy : ∀ {x y : α}, (r x y = true ∨ r y x = true) → (r y x = true ∨ r x y = true) := fun h => h.symm
 have h2 : s.Pairwise (fun a b => r a b = true ∨ r b a = true) := (hp.pairwise_iff (fun h => h.symm)).2 ht
 have h3 : s.Pairwise (fun a b => r a b = true) := by
  refine List.Pairwise.imp₂ (fun a b h k => ?_) hs h2
  rcases k with k | k
  ·exact k
  ·rw [h] at k; cases k
 exact perm_uniq (R := fun a b => r a b = true) (fun a b h k => by have := htr a b a h k; rw [hir] at this; cases this) (hp.trans (srtG_perm r l).symm) h3 (srtG_sorted htr ht)
end Go.Proofs.YtpojeclokolkaaaGreatDoor.Law

open Go Go.Eng
namespace Go.Proofs.YtpojeclokolkaaaGreatDoor.Law
set_option linter.unusedVariables false
set_option linter.unusedSimpArgs false
instance (a b : Alert) : Decidable (lt a.Id b.Id) := by unfold lt; exact inferInstance
instance (a b : Alert) : Decidable (befA a b) := by unfold befA; exact inferInstance
instance (v : ByteArray) (l : List ByteArray) : Decidable (v ∈ l) := decidable_of_iff (l.any (fun x => decide (v = x)) = true) (by simp)
def refB (a o : Alert) (r : ByteArray) : Bool := decide (o.Id = r) && (decide (o.Sender = a.Sender) && decide (befA o a))
def cutB (a z : Alert) : Bool := decide (z.Id ∈ a.Refs) && (decide (z.Sender = a.Sender) && decide (befA z a))
def endV (l : List Alert) (z : Alert) : Int := l.foldl (fun m a => bif cutB a z then min m a.At else m) z.Until
def onB (l : List Alert) (t : Int) (z : Alert) : Bool := decide (z.Kind ≠ 3) && (decide (z.At ≤ t) && decide (t < endV l z))
def befR (a b : Alert) : Bool := decide (b.Weight < a.Weight) || (decide (a.Weight = b.Weight) && (decide (b.At < a.At) || (decide (a.At = b.At) && decide (lt a.Id b.Id))))
theorem befR_irr (a : Alert) : befR a a = false := by
 unfold befR
 rw [← Bool.not_eq_true]
 simp only [Bool.or_eq_true, Bool.and_eq_true, decide_eq_true_eq, not_or, not_and]
 exact ⟨Int.lt_irrefl _, fun _ => ⟨Int.lt_irrefl _, fun _ => lt_irr _⟩⟩
theorem befR_iff {a b : Alert} : befR a b = true ↔ b.Weight < a.Weight ∨ a.Weight = b.Weight ∧ (b.At < a.At ∨ a.At = b.At ∧ lt a.Id b.Id) := by
 unfold befR
 simp only [Bool.or_eq_true, Bool.and_eq_true, decide_eq_true_eq]
theorem befR_trans (a b c : Alert) (h : befR a b = true) (k : befR b c = true) : befR a c = true := by
 rw [befR_iff] at *
 rcases h with h | ⟨h, h2⟩ <;> rcases k with k | ⟨k, k2⟩
 ·exact .inl (by omega)
 ·exact .inl (by omega)
 ·exact .inl (by omega)
 ·refine .inr ⟨by omega, ?_⟩
  rcases h2 with h2 | ⟨h2, h3⟩ <;> rcases k2 with k2 | ⟨k2, k3⟩
  ·exact .inl (by omega)
  ·exact .inl (by omega)
  ·exact .inl (by omega)
  ·exact .inr ⟨by omega, lt_trans h3 k3⟩
theorem befR_tot {a b : Alert} (h : a.Id ≠ b.Id) : befR a b = true ∨ befR b a = true := by
 rw [befR_iff, befR_iff]
 rcases Int.lt_trichotomy a.Weight b.Weight with q | q | q
 ·exact .inr (.inl q)
 ·rcases Int.lt_trichotomy a.At b.At with w | w | w
  ·exact .inr (.inr ⟨q.symm, .inl w⟩)
  ·rcases lt_tri a.Id b.Id with e | e | e
   ·exact .inl (.inr ⟨q, .inr ⟨w, e⟩⟩)
   ·exact absurd e h
   ·exact .inr (.inr ⟨q.symm, .inr ⟨w.symm, e⟩⟩)
  ·exact .inl (.inr ⟨q, .inl w⟩)
 ·exact .inl (.inl q)
theorem nodup_tot {l : List Alert} (h : (l.map (·.Id)).Nodup) : l.Pairwise (fun a b => befR a b = true ∨ befR b a = true) := by
 have h2 : l.Pairwise (fun a b => a.Id ≠ b.Id) := by
  have := h
  unfold List.Nodup at this
  rwa [List.pairwise_map] at this
 exact h2.imp befR_tot
def rankL (l : List Alert) (px py t : Int) : List Alert := l.filter fun z => onB l t z && hasB z.Areas px py
def rankS (l : List Alert) (px py t : Int) : List Alert := srtG befR (rankL l px py t)
def shownL (l : List Alert) (px py t : Int) : ByteArray := match rankS l px py t with | [] => ⟨#[]⟩ | z :: _ => z.Id
theorem rankL_nodup {l : List Alert} (h : (l.map (·.Id)).Nodup) (px py t : Int) : ((rankL l px py t).map (·.Id)).Nodup := h.sublist ((List.filter_sublist (l := l)).map _)
theorem rank_is {l : List Alert} (h : (l.map (·.Id)).Nodup) (px py t : Int) {s : List Alert} (hp : s.Perm (rankL l px py t)) (hs : s.Pairwise (fun a b => befR b a = false)) : s = rankS l px py t :=
 srtG_is befR_irr befR_trans (nodup_tot (rankL_nodup h px py t)) hp hs
theorem shown_gap {l : List Alert} {px py e t : Int} (h : ∀ z ∈ l, (z.At ≤ e ∨ t < z.At) ∧ (endV l z ≤ e ∨ t < endV l z)) (het : e ≤ t) : shownL l px py t = shownL l px py e := by
 have : rankL l px py t = rankL l px py e := by
  unfold rankL
  refine List.filter_congr (fun z hz => ?_)
  have h1 : onB l t z = onB l e z := by
   obtain ⟨h1, h2⟩ := h z hz
   unfold onB
   have e1 : decide (z.At ≤ t) = decide (z.At ≤ e) := by rw [decide_eq_decide]; omega
   have e2 : decide (t < endV l z) = decide (e < endV l z) := by rw [decide_eq_decide]; omega
   rw [e1, e2]
  rw [h1]
 unfold shownL rankS
 rw [this]
end Go.Proofs.YtpojeclokolkaaaGreatDoor.Law

open Go Go.Eng
namespace Go.Proofs.YtpojeclokolkaaaGreatDoor.Law
set_option linter.unusedVariables false
set_option linter.unusedSimpArgs false
structure CA (l : List Alert) : Prop where
 ids : (l.map (·.Id)).Nodup
 len : l.length ≤ 12
 refs : ∀ x ∈ l, x.Refs.length ≤ 1000
 alen : ∀ x ∈ l, x.Areas.length ≤ 1000
 areas : ∀ x ∈ l, ∀ r ∈ x.Areas, Fine r
 at_ : ∀ x ∈ l, 0 ≤ x.At ∧ x.At ≤ 1000000000000
 until_ : ∀ x ∈ l, 0 ≤ x.Until ∧ x.Until ≤ 2000000000000
theorem RAlerts.ca {l : List Alert} {n : Nat} (h : RAlerts l n) (hn : n ≤ 12) : CA l := by
 refine ⟨h.ids, by have := h.len; omega, fun x hx => ?_, fun x hx => ?_, fun x hx r hr => ((h.right x hx).areas r hr).1, fun x hx => ?_, fun x hx => ?_⟩
 ·have := (h.right x hx).refsLen; omega
 ·have := (h.right x hx).alen; omega
 ·have := (h.right x hx).at_; omega
 ·have := (h.right x hx).at_; have := (h.right x hx).until_; omega
theorem nodup_id {l : List Alert} (h : (l.map (·.Id)).Nodup) {i j : Nat} {a b : Alert} (ha : l[i]? = some a) (hb : l[j]? = some b) (e : a.Id = b.Id) : i = j := by
 obtain ⟨h1, e1⟩ := List.getElem?_eq_some_iff.1 ha
 obtain ⟨h2, e2⟩ := List.getElem?_eq_some_iff.1 hb
 have hp := List.pairwise_iff_getElem.1 h
 rcases Nat.lt_trichotomy i j with q | q | q
 ·exact absurd (by rw [List.getElem_map, List.getElem_map, e1, e2]; exact e) (hp i j (by simpa using h1) (by simpa using h2) q)
 ·exact q
 ·exact absurd (by rw [List.getElem_map, List.getElem_map, e1, e2]; exact e.symm) (hp j i (by simpa using h2) (by simpa using h1) q)
theorem endV_snoc (l : List Alert) (a z : Alert) : endV (l ++ [a]) z = bif cutB a z then min (endV l z) a.At else endV l z := by
 unfold endV
 rw [List.foldl_append]; rfl
def cutJ (a : Alert) (j : Nat) (z : Alert) : Bool := decide (z.Id ∈ a.Refs.take j) && (decide (z.Sender = a.Sender) && decide (befA z a))
def endJ (l : List Alert) (k : Nat) (a : Alert) (j : Nat) (z : Alert) : Int := bif cutJ a j z then min (endV (l.take k) z) a.At else endV (l.take k) z
theorem endJ_0 (l : List Alert) (k : Nat) (a z : Alert) : endJ l k a 0 z = endV (l.take k) z := by
 unfold endJ cutJ
 rw [decide_eq_false (by simp)]; rfl
theorem endJ_all {l : List Alert} {k : Nat} {a : Alert} (h : l[k]? = some a) (z : Alert) : endJ l k a a.Refs.length z = endV (l.take (k + 1)) z := by
 have et : l.take (k + 1) = l.take k ++ [a] := by rw [List.take_add_one, h]; rfl
 rw [et, endV_snoc]
 unfold endJ cutJ cutB
 rw [List.take_length]
theorem refB_iff {a o : Alert} {r : ByteArray} : refB a o r = true ↔ o.Id = r ∧ o.Sender = a.Sender ∧ befA o a := by
 unfold refB
 simp only [Bool.and_eq_true, decide_eq_true_eq]
theorem cutJ_iff {a z : Alert} {j : Nat} : cutJ a j z = true ↔ z.Id ∈ a.Refs.take j ∧ z.Sender = a.Sender ∧ befA z a := by
 unfold cutJ
 simp only [Bool.and_eq_true, decide_eq_true_eq]
theorem cutJ_next {a z : Alert} {j : Nat} {r : ByteArray} (hr : a.Refs[j]? = some r) : cutJ a (j + 1) z = (cutJ a j z || refB a z r) := by
 have et : a.Refs.take (j + 1) = a.Refs.take j ++ [r] := by rw [List.take_add_one, hr]; rfl
 rw [Bool.eq_iff_iff, Bool.or_eq_true, cutJ_iff, cutJ_iff, refB_iff, et, List.mem_append, List.mem_singleton]
 constructor
 ·rintro ⟨h | h, k⟩
  ·exact .inl ⟨h, k⟩
  ·exact .inr ⟨h, k⟩
 ·rintro (⟨h, k⟩ | ⟨h, k⟩)
  ·exact ⟨.inl h, k⟩
  ·exact ⟨.inr h, k⟩
theorem endJ_next {l : List Alert} {k j : Nat} {a z : Alert} {r : ByteArray} (hr : a.Refs[j]? = some r) : endJ l k a (j + 1) z = bif refB a z r then min (endJ l k a j z) a.At else endJ l k a j z := by
 unfold endJ
 rw [cutJ_next hr]
 cases cutJ a j z <;> cases refB a z r <;> simp only [Bool.or_true, Bool.or_false, Bool.false_or, Bool.true_or, cond_true, cond_false]
 omega
theorem map_none {l : List Alert} {k j : Nat} {a : Alert} {r : ByteArray} (hr : a.Refs[j]? = some r) (h : l.any (fun o => refB a o r) = false) : l.map (endJ l k a (j + 1)) = l.map (endJ l k a j) := by
 refine List.map_congr_left (fun z hz => ?_)
 have : refB a z r = false := by
  rw [← Bool.not_eq_true]; intro e
  have : l.any (fun o => refB a o r) = true := List.any_eq_true.2 ⟨z, hz, e⟩
  rw [h] at this; cases this
 rw [endJ_next hr, this, cond_false]
theorem map_one {l : List Alert} (hid : (l.map (·.Id)).Nodup) {k j i : Nat} {a z : Alert} {r : ByteArray} (hr : a.Refs[j]? = some r) (hz : l[i]? = some z) (h : refB a z r = true) : l.map (endJ l k a (j + 1)) = (l.map (endJ l k a j)).set i (min (endJ l k a j z) a.At) := by
 refine List.ext_getElem? (fun n => ?_)
 rw [List.getElem?_map, List.getElem?_set]
 by_cases hin : i = n
 ·subst hin
  obtain ⟨h1, _⟩ := List.getElem?_eq_some_iff.1 hz
  rw [if_pos rfl, if_pos (by simpa using h1), hz, Option.map_some, endJ_next hr, h, cond_true]
 ·rw [if_neg hin, List.getElem?_map]
  cases hn : l[n]? with
  | none => rfl
  | some y =>
   rw [Option.map_some, Option.map_some, endJ_next hr]
   have : refB a y r = false := by
    rw [← Bool.not_eq_true]; intro e
    exact hin (nodup_id hid hz hn ((refB_iff.1 h).1.trans (refB_iff.1 e).1.symm))
   rw [this, cond_false]
theorem first_at {α : Type} {f : α → Option Bool} {p : α → Bool} {B : Nat → α → Unit → Option (Ctl Unit Int)} (hB : ∀ k x, B k x () = (f x).bind fun r => bif r then some (.ret (k : Int)) else some (.go ())) : ∀ (xs : List α) (k : Nat), (∀ x ∈ xs, f x = some (p x)) →
  (xs.any p = false ∧ forR B xs k () = some (.go ())) ∨ ∃ (j : Nat) (x : α), xs[j]? = some x ∧ p x = true ∧ (∀ (i : Nat) (y : α), i < j → xs[i]? = some y → p y = false) ∧ forR B xs k () = some (.ret ((k + j : Nat) : Int)) ∧ xs.any p = true
 | [], k, h => .inl ⟨rfl, rfl⟩
 | x :: xs, k, h => by
  have hx := h x (by simp)
  cases hp : p x with
  | true =>
   refine .inr ⟨0, x, rfl, hp, fun i y hi => absurd hi (Nat.not_lt_zero _), ?_, by rw [List.any_cons, hp]; rfl⟩
   rw [forR, hB, hx, hp]; rfl
  | false =>
   have e1 : forR B (x :: xs) k () = forR B xs (k + 1) () := by rw [forR, hB, hx, hp]; rfl
   rw [e1, List.any_cons, hp, Bool.false_or]
   rcases first_at hB xs (k + 1) (fun y hy => h y (by simp [hy])) with ⟨h1, h2⟩ | ⟨j, y, h1, h2, h3, h4, h5⟩
   ·exact .inl ⟨h1, h2⟩
   ·refine .inr ⟨j + 1, y, h1, h2, fun i z hi hz => ?_, by rw [h4]; congr 3; omega, h5⟩
    cases i with
    | zero => rw [List.getElem?_cons_zero, Option.some.injEq] at hz; rw [← hz]; exact hp
    | succ i => exact h3 i z (by omega) (by simpa using hz)
theorem minI_m (a b : Int) : minI a b = min a b := by unfold minI; split <;> omega
theorem compareA_eq (a b : Alert) : ∃ n, alert_compare a b = some n ∧ (n < 0 ↔ befA a b) := by
 refine ⟨_, by simp only [alert_compare, compare_eq, cmpInt_eq, or2_eq, Option.bind_some]; rfl, ?_⟩
 rw [or0_neg, cmpI_neg, cmpI_zero, cmpB_neg]; rfl
theorem find1_eq (a o : Alert) (r : ByteArray) : alert_find_1 o r a = some (refB a o r) := by
 obtain ⟨n, n1, n2⟩ := compareA_eq o a
 unfold alert_find_1 refB
 rw [sEq_dec, sEq_dec, n1]
 have : decide (n < 0) = decide (befA o a) := by rw [decide_eq_decide]; exact n2
 cases decide (o.Id = r) <;> cases decide (o.Sender = a.Sender) <;> simp [this]
theorem find_eq {l : List Alert} (hl : l.length ≤ 1000) (a : Alert) (r : ByteArray) : (alert_find l a r = some (-1) ∧ l.any (fun o => refB a o r) = false) ∨ ∃ (j : Nat) (z : Alert), alert_find l a r = some (j : Int) ∧ l[j]? = some z ∧ refB a z r = true := by
 unfold alert_find slices_IndexFunc_api_Alert_api_Alert
 rw [forL_eq (by omega)]
 rcases first_at (f := fun x0 => alert_find_1 x0 r a) (p := fun o => refB a o r) (B := fun k x s => slices_IndexFunc_api_Alert_api_Alert_L1 (fun x0 => alert_find_1 x0 r a) k x s) (fun k x => rfl) l 0 (fun x _ => find1_eq a x r) with ⟨h1, h2⟩ | ⟨j, x, h1, h2, _, h4, _⟩
 ·rw [h2]; exact .inl ⟨rfl, h1⟩
 ·rw [h4]; exact .inr ⟨j, x, by simp only [Option.bind_some, thenC, Nat.zero_add], h1, h2⟩
theorem ends_step {l : List Alert} (h : CA l) {k j : Nat} {a : Alert} {r : ByteArray} (hr : a.Refs[j]? = some r) : alert_ends_L2 l a j r (l.map (endJ l k a j)) = some (.go (l.map (endJ l k a (j + 1)))) := by
 have hl := h.len
 unfold alert_ends_L2
 rcases find_eq (Nat.le_trans hl (by decide)) a r with ⟨h1, h2⟩ | ⟨i, z, h1, h2, h3⟩
 ·rw [h1, Option.bind_some, decide_eq_false (by decide), cond_false, Option.bind_some, map_none hr h2]
 ·obtain ⟨hi, _⟩ := List.getElem?_eq_some_iff.1 h2
  have e1 : (l.map (endJ l k a j))[(0 + ((i : Int)).toNat)]? = some (endJ l k a j z) := by
   rw [show 0 + ((i : Int)).toNat = i by omega, List.getElem?_map, h2]; rfl
  have hin : inR (i : Int) (l.map (endJ l k a j)) = some () := inR_ok (by omega) (by rw [List.length_map]; omega)
  rw [h1, Option.bind_some, decide_eq_true (by omega), cond_true, hin, e1]
  simp only [Option.bind_some]
  rw [map_one h.ids hr h2 h3, minI_m, show 0 + ((i : Int)).toNat = i by omega]
theorem ends_eq {l : List Alert} (h : CA l) : alert_ends l = some (l.map (endV l)) := by
 have hl := h.len
 unfold alert_ends
 obtain ⟨t, t1, t2⟩ := forL_at (body := fun k x s => alert_ends_L1 k x s) (fun k s => s = (l.take k).map (·.Until)) (xs := l) (s := ([] : List Int)) (by omega) (fun k x s hx hs => by
  have et : l.take (k + 1) = l.take k ++ [x] := by rw [List.take_add_one, hx]; rfl
  have hk : (l.take k).length ≤ l.length := by rw [List.length_take]; exact Nat.min_le_right _ _
  unfold alert_ends_L1
  rw [hs, appL_ok _ _ (by simp only [List.length_map, List.length_cons, List.length_nil]; omega)]
  exact ⟨_, rfl, by rw [et, List.map_append]; rfl⟩) rfl
 rw [t1, t2, List.take_length]
 simp only [Option.bind_some, thenC]
 obtain ⟨u, u1, u2⟩ := forL_at (body := fun k x s => alert_ends_L3 l k x s) (fun k s => s = l.map (endV (l.take k))) (xs := l) (s := l.map (·.Until)) (by omega) (fun k x s hx hs => by
  have hrl := h.refs x (List.mem_of_getElem? hx)
  obtain ⟨v, v1, v2⟩ := forL_at (body := fun j r s => alert_ends_L2 l x j r s) (fun j s => s = l.map (endJ l k x j)) (xs := x.Refs) (s := s) (by omega) (fun j r s hr hs => by
   rw [hs]
   exact ⟨_, ends_step h hr, rfl⟩) (by rw [hs]; exact List.map_congr_left (fun z _ => (endJ_0 l k x z).symm))
  unfold alert_ends_L3
  rw [v1]
  exact ⟨v, rfl, by rw [v2]; exact List.map_congr_left (fun z _ => endJ_all hx z)⟩) rfl
 rw [u1, u2, List.take_length]
 rfl
theorem isOn_eq (l : List Alert) (a : Alert) (t : Int) : alert_isOn a (endV l a) t = some (onB l t a) := by
 unfold alert_isOn onB
 have e : (a.Kind != 3) = decide (a.Kind ≠ 3) := by rw [Bool.eq_iff_iff]; simp
 rw [e]
 cases decide (a.Kind ≠ 3) <;> cases decide (a.At ≤ t) <;> rfl
end Go.Proofs.YtpojeclokolkaaaGreatDoor.Law

