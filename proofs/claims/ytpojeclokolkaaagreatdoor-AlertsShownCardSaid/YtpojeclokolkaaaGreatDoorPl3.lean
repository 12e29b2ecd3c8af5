/-
  THE PLAIN LAW (part 3).
-/
import Derived.Test.YtpojeclokolkaaaGreatDoorPl2
import Derived.Test.YtpojeclokolkaaaGreatDoorDefs
open Go Go.Eng
namespace Go.Proofs.YtpojeclokolkaaaGreatDoor.Law
set_option linter.unusedVariables false
set_option linter.unusedSimpArgs false
end Go.Proofs.YtpojeclokolkaaaGreatDoor.Law

open Go Go.Eng
namespace Go.Proofs.YtpojeclokolkaaaGreatDoor.Law
set_option linter.unusedVariables false
set_option linter.unusedSimpArgs false
end Go.Proofs.YtpojeclokolkaaaGreatDoor.Law

open Go Go.Eng
namespace Go.Proofs.YtpojeclokolkaaaGreatDoor.Law
set_option linter.unusedVariables false
set_option linter.unusedSimpArgs false
end Go.Proofs.YtpojeclokolkaaaGreatDoor.Law

open Go Go.Eng
namespace Go.Proofs.YtpojeclokolkaaaGreatDoor.Law
set_option linter.unusedVariables false
set_option linter.unusedSimpArgs false
theorem rightRectF (s : Stream) {b : Int} (hs : Ok s b) (hb : b ≤ 900000) : ∃ r s', mk_Stream_RightRect s = some (r, s') ∧ Fine r ∧ (-2 ≤ r.X ∧ r.X ≤ 8 ∧ -2 ≤ r.Y ∧ r.Y ≤ 8 ∧ r.W ≤ 5 ∧ r.H ≤ 5) ∧ Ok s' (b + 4) := by
 unfold mk_Stream_RightRect
 obtain ⟨X, q1, c1, c2, c3, c4⟩ := range_ok s (-2) 8 hs (by omega) (by decide) (by decide) (by decide)
 obtain ⟨Y, q2, d1, d2, d3, d4⟩ := range_ok q1 (-2) 8 c4 (by omega) (by decide) (by decide) (by decide)
 obtain ⟨U, q3, e1, e2, e3, e4⟩ := range_ok q2 1 5 d4 (by omega) (by decide) (by decide) (by decide)
 obtain ⟨V, q4, f1, f2, f3, f4⟩ := range_ok q3 1 5 e4 (by omega) (by decide) (by decide) (by decide)
 simp only [c1, d1, e1, f1, Option.bind_some]
 refine ⟨_, _, rfl, ?_, by simp only []; omega, f4.mono (by omega)⟩
 unfold Fine
 simp only []; omega
theorem any_loop (f : Rect → Option Bool) (p : Rect → Bool) : ∀ (l : List Rect) (k : Nat), (∀ r ∈ l, f r = some (p r)) → (forR (fun k z s => slices_IndexFunc_api_Rect_api_Rect_L1 f k z s) l k () = some (.go ()) ∧ l.any p = false) ∨ ∃ j : Nat, forR (fun k z s => slices_IndexFunc_api_Rect_api_Rect_L1 f k z s) l k () = some (.ret (j : Int)) ∧ l.any p = true
 | [], k, _ => .inl ⟨rfl, rfl⟩
 | r :: l, k, h => by
  have hB : slices_IndexFunc_api_Rect_api_Rect_L1 f k r () = some (bif p r then .ret (k : Int) else .go ()) := by
   unfold slices_IndexFunc_api_Rect_api_Rect_L1
   rw [h r (by simp), Option.bind_some]
   cases p r <;> rfl
  rw [forR, hB, Option.bind_some, List.any_cons]
  cases p r with
  | true => exact .inr ⟨k, rfl, rfl⟩
  | false => exact any_loop f p l (k + 1) (fun r hr => h r (by simp [hr]))
theorem any_eq (f : Rect → Option Bool) (p : Rect → Bool) {l : List Rect} (h : ∀ r ∈ l, f r = some (p r)) (hl : l.length ≤ 1000000) : slices_ContainsFunc_api_Rect_api_Rect l f = some (l.any p) := by
 unfold slices_ContainsFunc_api_Rect_api_Rect slices_IndexFunc_api_Rect_api_Rect
 rw [forL_eq (by omega)]
 rcases any_loop f p l 0 h with ⟨h1, h2⟩ | ⟨j, h1, h2⟩
 ·rw [h1, h2]; rfl
 ·rw [h1, h2]
  simp only [Option.bind_some, thenC]
  have : decide ((j : Int) ≥ 0) = true := by simp
  rw [this]
end Go.Proofs.YtpojeclokolkaaaGreatDoor.Law

open Go Go.Eng
namespace Go.Proofs.YtpojeclokolkaaaGreatDoor.Law
set_option linter.unusedVariables false
set_option linter.unusedSimpArgs false
def loopF {σ ρ : Type} (s : σ) (body : σ → Option (Ctl σ ρ)) : Option (Ctl σ ρ) := iterN body 300 s
def Le {α : Type} (a b : Option α) : Prop := ∀ r, a = some r → b = some r
theorem Le.refl {α : Type} (a : Option α) : Le a a := fun _ h => h
theorem Le.bind {α β : Type} {a b : Option α} {f g : α → Option β} (h : Le a b) (k : ∀ x, Le (f x) (g x)) : Le (a.bind f) (b.bind g) := fun r e => by
 obtain ⟨x, h1, h2⟩ := Option.bind_eq_some_iff.1 e
 rw [h x h1]; exact k x r h2
theorem Le.cond {α : Type} {a b c d : Option α} {t : Bool} (h : Le a c) (k : Le b d) : Le (bif t then a else b) (bif t then c else d) := by
 cases t
 ·exact k
 ·exact h
theorem Le.thenC {σ ρ τ : Type} {o : Ctl σ ρ} {f f' : σ → Option τ} {g g' : ρ → Option τ} (h : ∀ x, Le (f x) (f' x)) (k : ∀ x, Le (g x) (g' x)) : Le (Go.Eng.thenC o f g) (Go.Eng.thenC o f' g') := by
 cases o
 ·exact h _
 ·exact Le.refl _
 ·exact k _
theorem Le.forR {α σ ρ : Type} {b b' : Nat → α → σ → Option (Ctl σ ρ)} (h : ∀ k x s, Le (b k x s) (b' k x s)) : ∀ (xs : List α) (k : Nat) (s : σ), Le (Go.Eng.forR b xs k s) (Go.Eng.forR b' xs k s)
 | [], k, s => Le.refl _
 | x :: xs, k, s => Le.bind (h k x s) (fun c => by
   cases c with
   | go s' => exact Le.forR h xs _ _
   | brk s' => exact Le.refl _
   | ret r => exact Le.refl _)
theorem Le.forL {α σ ρ : Type} {xs : List α} {s : σ} {b b' : Nat → α → σ → Option (Ctl σ ρ)} (h : ∀ k x s, Le (b k x s) (b' k x s)) : Le (Go.Eng.forL xs s b) (Go.Eng.forL xs s b') := by
 unfold Go.Eng.forL
 split
 ·exact Le.forR h xs 0 s
 ·exact Le.refl _
theorem Le.iterN {σ ρ : Type} {b b' : σ → Option (Ctl σ ρ)} (h : ∀ s, Le (b s) (b' s)) : ∀ (n : Nat) (s : σ), Le (Go.Eng.iterN b n s) (Go.Eng.iterN b' n s)
 | 0, s => Le.refl _
 | n + 1, s => Le.bind (h s) (fun c => by
   cases c with
   | go s' => exact Le.iterN h n s'
   | brk s' => exact Le.refl _
   | ret r => exact Le.refl _)
theorem Le.loop {σ ρ : Type} {s : σ} {b b' : σ → Option (Ctl σ ρ)} (h : ∀ s, Le (b s) (b' s)) : Le (loopF s b) (loopO s b') := fun r e => iter_loopO (Le.iterN h _ _ r e)
end Go.Proofs.YtpojeclokolkaaaGreatDoor.Law

open Go Go.Eng
namespace Go.Proofs.YtpojeclokolkaaaGreatDoor.Law
set_option linter.unusedVariables false
set_option linter.unusedSimpArgs false
set_option maxRecDepth 100000
def strings_trimRightByteF (s_1 : ByteArray) (c_2 : Int) : Option (ByteArray) :=
 (loopF s_1 (fun s => strings_trimRightByte_L1 c_2 s)).bind fun o_11 => thenC o_11 (fun s_8 => some s_8) (fun _ => none)
theorem strings_trimRightByte_le (s_1 : ByteArray) (c_2 : Int) : Le (strings_trimRightByteF s_1 c_2) (strings_trimRightByte s_1 c_2) := by
 unfold strings_trimRightByteF strings_trimRightByte
 repeat' (with_reducible first | exact Le.refl _ | refine Le.loop (fun _ => ?_) | refine Le.forL (fun _ _ _ => ?_) | refine Le.thenC (fun _ => ?_) (fun _ => ?_) | refine Le.cond ?_ ?_ | refine Le.bind ?_ (fun _ => ?_))
def strings_trimLeftByteF (s_1 : ByteArray) (c_2 : Int) : Option (ByteArray) :=
 (loopF s_1 (fun s => strings_trimLeftByte_L1 c_2 s)).bind fun o_11 => thenC o_11 (fun s_8 => some s_8) (fun _ => none)
theorem strings_trimLeftByte_le (s_1 : ByteArray) (c_2 : Int) : Le (strings_trimLeftByteF s_1 c_2) (strings_trimLeftByte s_1 c_2) := by
 unfold strings_trimLeftByteF strings_trimLeftByte
 repeat' (with_reducible first | exact Le.refl _ | refine Le.loop (fun _ => ?_) | refine Le.forL (fun _ _ _ => ?_) | refine Le.thenC (fun _ => ?_) (fun _ => ?_) | refine Le.cond ?_ ?_ | refine Le.bind ?_ (fun _ => ?_))
def strings_TrimF (s_1 : ByteArray) (cutset_2 : ByteArray) : Option (ByteArray) :=
 (bif (sEq s_1 (⟨#[]⟩ : ByteArray)) then some true else some (sEq cutset_2 (⟨#[]⟩ : ByteArray))).bind fun v_3 => bif v_3 then some s_1 else (bif ((cutset_2.size : Int) == 1) then (idxS cutset_2 0).bind fun b_10 => some (decide ((b_10.toNat : Int) < 128)) else some false).bind fun v_7 => bif v_7 then (idxS cutset_2 0).bind fun b_13 => (strings_trimRightByteF s_1 (b_13.toNat : Int)).bind fun r_15 => (idxS cutset_2 0).bind fun b_17 => (strings_trimLeftByteF r_15 (b_17.toNat : Int)).bind fun r_19 => some r_19 else none
theorem strings_Trim_le (s_1 : ByteArray) (cutset_2 : ByteArray) : Le (strings_TrimF s_1 cutset_2) (strings_Trim s_1 cutset_2) := by
 unfold strings_TrimF strings_Trim
 repeat' (with_reducible first | exact Le.refl _ | exact strings_trimRightByte_le _ _ | exact strings_trimLeftByte_le _ _ | refine Le.loop (fun _ => ?_) | refine Le.forL (fun _ _ _ => ?_) | refine Le.thenC (fun _ => ?_) (fun _ => ?_) | refine Le.cond ?_ ?_ | refine Le.bind ?_ (fun _ => ?_))
def kit_IsPlainF (s_1 : ByteArray) : Option (Bool) :=
 (loopF 0 (fun s => kit_IsPlain_L1 s_1 s)).bind fun o_10 => thenC o_10 (fun s_7 => ((unicode_utf8_ValidString s_1).bind fun r_23 => bif r_23 then (strings_TrimF s_1 (⟨#[32]⟩ : ByteArray)).bind fun r_26 => bif (sEq r_26 s_1) then (strings_Contains s_1 (⟨#[32, 32]⟩ : ByteArray)).bind fun r_29 => some (!r_29) else some false else some false).bind fun v_21 => some v_21) (fun r => some r)
theorem kit_IsPlain_le (s_1 : ByteArray) : Le (kit_IsPlainF s_1) (kit_IsPlain s_1) := by
 unfold kit_IsPlainF kit_IsPlain
 repeat' (with_reducible first | exact Le.refl _ | exact strings_Trim_le _ _ | refine Le.loop (fun _ => ?_) | refine Le.forL (fun _ _ _ => ?_) | refine Le.thenC (fun _ => ?_) (fun _ => ?_) | refine Le.cond ?_ ?_ | refine Le.bind ?_ (fun _ => ?_))
theorem kit_IsPlainF_le (s : ByteArray) : Le (kit_IsPlainF s) (kit_IsPlain s) := kit_IsPlain_le s
end Go.Proofs.YtpojeclokolkaaaGreatDoor.Law

open Go Go.Eng
namespace Go.Proofs.YtpojeclokolkaaaGreatDoor.Law
set_option linter.unusedVariables false
set_option linter.unusedSimpArgs false
set_option maxRecDepth 100000
def idL : List ByteArray := [⟨#[97, 97]⟩, ⟨#[97, 98]⟩, ⟨#[97, 99]⟩, ⟨#[97, 100]⟩, ⟨#[97, 101]⟩, ⟨#[97, 102]⟩]
def refL : List ByteArray := [⟨#[97, 97]⟩, ⟨#[97, 98]⟩, ⟨#[97, 99]⟩, ⟨#[97, 100]⟩, ⟨#[122, 122]⟩]
def zyS : ByteArray := ⟨#[122, 121]⟩
def wxS : ByteArray := ⟨#[119, 120]⟩
def fireS : ByteArray := ⟨#[102, 105, 114, 101]⟩
def floodS : ByteArray := ⟨#[102, 108, 111, 111, 100]⟩
def mallS : ByteArray := ⟨#[102, 105, 114, 101, 32, 105, 110, 32, 116, 104, 101, 32, 109, 97, 108, 108]⟩
def overS : ByteArray := ⟨#[111, 118, 101, 114]⟩
def SmallR (r : Rect) : Prop := Fine r ∧ (-2 ≤ r.X ∧ r.X ≤ 8 ∧ -2 ≤ r.Y ∧ r.Y ≤ 8 ∧ r.W ≤ 5 ∧ r.H ≤ 5)
structure RightA (x : Alert) : Prop where
 id : x.Id ∈ idL
 sender : x.Sender = wxS ∨ x.Sender = fireS
 kind : 1 ≤ x.Kind ∧ x.Kind ≤ 3
 refs : x.Refs.Sublist refL ∨ x.Refs = [zyS]
 noId : ∀ r ∈ x.Refs, r ≠ x.Id
 new : x.Kind = 1 ↔ x.Refs = []
 at_ : 0 ≤ x.At ∧ x.At ≤ 30
 until_ : x.At + 1 ≤ x.Until ∧ x.Until ≤ x.At + 50
 weight : 1 ≤ x.Weight ∧ x.Weight ≤ 9
 areas : ∀ r ∈ x.Areas, SmallR r
 alen : x.Areas.length ≤ 2
 cancel : x.Kind = 3 ↔ x.Areas = []
 text : x.Text = floodS ∨ x.Text = mallS ∨ x.Kind = 3 ∧ (x.Text = ⟨#[]⟩ ∨ x.Text = overS)
theorem idL_key : ∀ k ∈ idL, keyB k = true ∧ Nat.ble k.size 1000 = true := by
 intro k hk
 simp only [idL, List.mem_cons, List.not_mem_nil, or_false] at hk
 rcases hk with rfl | rfl | rfl | rfl | rfl | rfl <;> exact ⟨by kernel_rfl, rfl⟩
theorem idL_byte : ∀ k ∈ idL, byteAt k 0 = 97 := by
 intro k hk
 simp only [idL, List.mem_cons, List.not_mem_nil, or_false] at hk
 rcases hk with rfl | rfl | rfl | rfl | rfl | rfl <;> rfl
theorem refL_key : ∀ k ∈ refL, keyB k = true ∧ Nat.ble k.size 1000 = true := by
 intro k hk
 simp only [refL, List.mem_cons, List.not_mem_nil, or_false] at hk
 rcases hk with rfl | rfl | rfl | rfl | rfl <;> exact ⟨by kernel_rfl, rfl⟩
theorem idL_rise : idL.Pairwise lt := by
 unfold idL
 simp only [List.pairwise_cons, List.mem_cons, List.not_mem_nil, or_false, forall_eq_or_imp, forall_eq]
 refine ⟨⟨lt_lit (by kernel_rfl), lt_lit (by kernel_rfl), lt_lit (by kernel_rfl), lt_lit (by kernel_rfl), lt_lit (by kernel_rfl)⟩, ⟨lt_lit (by kernel_rfl), lt_lit (by kernel_rfl), lt_lit (by kernel_rfl), lt_lit (by kernel_rfl)⟩, ⟨lt_lit (by kernel_rfl), lt_lit (by kernel_rfl), lt_lit (by kernel_rfl)⟩, ⟨lt_lit (by kernel_rfl), lt_lit (by kernel_rfl)⟩, lt_lit (by kernel_rfl), fun a h => (by cases h), List.Pairwise.nil⟩
theorem RightA.refsLen {x : Alert} (h : RightA x) : x.Refs.length ≤ 5 := by
 rcases h.refs with hs | hs
 ·exact hs.length_le
 ·rw [hs]; decide
theorem refs_gen (id : ByteArray) (s : Stream) {b : Int} (hs : Ok s b) (hb : b ≤ 800000) :
  ∃ l s', forL ([(⟨#[97, 97]⟩ : ByteArray), (⟨#[97, 98]⟩ : ByteArray), (⟨#[97, 99]⟩ : ByteArray), (⟨#[97, 100]⟩ : ByteArray), (⟨#[122, 122]⟩ : ByteArray)] : List ByteArray) (([] : List ByteArray), s.L, s.f_at) (fun k x s => mk_Stream_RightAlerts_L1 id k x s) = some (.go (l, s'.L, s'.f_at)) ∧ l.Sublist refL ∧ (∀ r ∈ l, r ≠ id) ∧ Ok s' (b + 10) := by
 obtain ⟨t, t1, t2, t3, t4⟩ := forL_at (body := fun k x s => mk_Stream_RightAlerts_L1 id k x s) (xs := refL) (s := (([] : List ByteArray), s.L, s.f_at)) (fun k t => t.1.Sublist (refL.take k) ∧ (∀ r ∈ t.1, r ≠ id) ∧ Ok ⟨t.2.1, t.2.2⟩ (b + k)) (by decide) (fun k x t hx ⟨i1, i2, i3⟩ => by
  have hk : k < refL.length := (List.getElem?_eq_some_iff.1 hx).1
  have hk5 : k < 5 := hk
  have et : refL.take (k + 1) = refL.take k ++ [x] := by rw [List.take_add_one, hx]; rfl
  have hlen : t.1.length ≤ 5 := Nat.le_trans i1.length_le (by rw [List.length_take]; exact Nat.min_le_right _ _)
  unfold mk_Stream_RightAlerts_L1
  rw [sNe_dec]
  by_cases he : x = id
  ·rw [decide_eq_true he]
   exact ⟨_, rfl, by rw [et]; exact i1.trans (List.sublist_append_left _ _), i2, i3.mono (by omega)⟩
  ·obtain ⟨f, s1, c1, c2⟩ := flip_ok _ 3 i3 (by omega) (by decide) (by decide)
   rw [decide_eq_false he]
   simp only [Bool.not_false, cond_true, c1, Option.bind_some]
   cases f with
   | true =>
    rw [cond_true, appL_ok _ _ (by simp; omega)]
    refine ⟨_, rfl, by rw [et]; exact i1.append (List.Sublist.refl _), fun r hr => ?_, c2.mono (by omega)⟩
    rcases List.mem_append.1 hr with hr | hr
    ·exact i2 r hr
    ·rw [List.mem_singleton.1 hr]; exact he
   | false => exact ⟨_, rfl, by rw [et]; exact i1.trans (List.sublist_append_left _ _), i2, c2.mono (by omega)⟩) ⟨List.Sublist.refl _, fun r hr => (by cases hr), hs.mono (by omega)⟩
 exact ⟨t.1, ⟨t.2.1, t.2.2⟩, t1, by simpa using t2, t3, t4.mono (by show b + ((5 : Nat) : Int) ≤ b + 10; omega)⟩
theorem areas_gen (n : Int) (hn : 1 ≤ n ∧ n ≤ 2) (s : Stream) {b : Int} (hs : Ok s b) (hb : b ≤ 800000) :
  ∃ l s', forL (List.range n.toNat) (([] : List Rect), s.L, s.f_at) (fun k x s => mk_Stream_RightAlerts_L2 k x s) = some (.go (l, s'.L, s'.f_at)) ∧ (l.length : Int) = n ∧ (∀ r ∈ l, SmallR r) ∧ Ok s' (b + 10) := by
 obtain ⟨t, t1, t2, t3, t4⟩ := forL_inv (body := fun k x s => mk_Stream_RightAlerts_L2 k x s) (s := (([] : List Rect), s.L, s.f_at)) (xs := List.range n.toNat) (fun j t => t.1.length = j ∧ (∀ r ∈ t.1, SmallR r) ∧ Ok ⟨t.2.1, t.2.2⟩ (b + 4 * j)) (by simp; omega) (fun j x t hx hj ⟨i1, i2, i3⟩ => by
  simp only [List.length_range] at hj
  obtain ⟨r, s1, c1, c2, c3, c4⟩ := rightRectF _ i3 (by omega)
  unfold mk_Stream_RightAlerts_L2
  rw [c1, Option.bind_some, appL_ok _ _ (by simp; omega)]
  refine ⟨_, rfl, by simp [i1], fun q hq => ?_, c4.mono (by omega)⟩
  rcases List.mem_append.1 hq with hq | hq
  ·exact i2 q hq
  ·rw [List.mem_singleton.1 hq]; exact ⟨c2, c3⟩) ⟨rfl, fun r hr => (by cases hr), hs.mono (by omega)⟩
 rw [List.length_range] at t2 t4
 exact ⟨t.1, ⟨t.2.1, t.2.2⟩, t1, by omega, t3, t4.mono (by omega)⟩
theorem one_alert (id : ByteArray) (hid : id ∈ idL) (k : Nat) (l0 : List Alert) (hl : l0.length ≤ 100) (s : Stream) {b : Int} (hs : Ok s b) (hb : b ≤ 700000) :
  ∃ x s', mk_Stream_RightAlerts_L3 k id (l0, s.L, s.f_at) = some (.go (l0 ++ [x], s'.L, s'.f_at)) ∧ RightA x ∧ x.Id = id ∧ Ok s' (b + 40) := by
 obtain ⟨sd, s1, a1, a2, a3⟩ := some_ok s [(⟨#[119, 120]⟩ : ByteArray), (⟨#[119, 120]⟩ : ByteArray), (⟨#[102, 105, 114, 101]⟩ : ByteArray)] hs (by omega) (by simp) (by simp)
 obtain ⟨kd, s2, b1, b2, b3⟩ := pick_ok s1 [1, 1, 2, 2, 3] a3 (by omega) (by simp) (by simp)
 obtain ⟨n5, s3, c1, c2, c3, c4⟩ := range_ok s2 0 6 b3 (by omega) (by decide) (by decide) (by decide)
 obtain ⟨wt, s4, d1, d2, d3⟩ := pick_ok s3 [1, 5, 5, 9] c4 (by omega) (by simp) (by simp)
 obtain ⟨tx, s5, e1, e2, e3⟩ := some_ok s4 [(⟨#[102, 108, 111, 111, 100]⟩ : ByteArray), (⟨#[102, 105, 114, 101, 32, 105, 110, 32, 116, 104, 101, 32, 109, 97, 108, 108]⟩ : ByteArray)] d3 (by omega) (by simp) (by simp)
 obtain ⟨un, s6, f1, f2, f3⟩ := pick_ok s5 [1, 10, 20, 50] e3 (by omega) (by simp) (by simp)
 have hsd : sd = wxS ∨ sd = fireS := by
  simp only [List.mem_cons, List.not_mem_nil, or_false] at a2
  rcases a2 with h | h | h
  ·exact .inl h
  ·exact .inl h
  ·exact .inr h
 have hkd : kd = 1 ∨ kd = 2 ∨ kd = 3 := by
  simp only [List.mem_cons, List.not_mem_nil, or_false] at b2; omega
 have hwt : 1 ≤ wt ∧ wt ≤ 9 := by
  simp only [List.mem_cons, List.not_mem_nil, or_false] at d2; omega
 have hun : 1 ≤ un ∧ un ≤ 50 := by
  simp only [List.mem_cons, List.not_mem_nil, or_false] at f2; omega
 have htx : tx = floodS ∨ tx = mallS := by
  simp only [List.mem_cons, List.not_mem_nil, or_false] at e2; exact e2
 obtain ⟨rf, s7, g1, g2, g3, g4, g5⟩ : ∃ rf s7, (bif kd != 1 then (forL ([(⟨#[97, 97]⟩ : ByteArray), (⟨#[97, 98]⟩ : ByteArray), (⟨#[97, 99]⟩ : ByteArray), (⟨#[97, 100]⟩ : ByteArray), (⟨#[122, 122]⟩ : ByteArray)] : List ByteArray) (([] : List ByteArray), s6.L, s6.f_at) (fun k x s => mk_Stream_RightAlerts_L1 id k x s)).bind fun o_56 => thenC o_56 (fun s_50 => bif ((s_50.1.length : Int) == 0) then some (s_50.2.1, s_50.2.2, ([(⟨#[122, 121]⟩ : ByteArray)] : List ByteArray)) else some (s_50.2.1, s_50.2.2, s_50.1)) (fun _ => none) else some (s6.L, s6.f_at, ([] : List ByteArray))) = some (Stream.L s7, Stream.f_at s7, rf) ∧ (rf.Sublist refL ∨ rf = [zyS]) ∧ (∀ r ∈ rf, r ≠ id) ∧ (kd = 1 ↔ rf = []) ∧ Ok s7 (b + 20) := by
  by_cases h1 : kd = 1
  ·rw [h1]
   exact ⟨[], s6, rfl, .inl (List.nil_sublist _), fun r hr => (by cases hr), ⟨fun _ => rfl, fun _ => rfl⟩, f3.mono (by omega)⟩
  ·have : (kd != 1) = true := by simpa using h1
   rw [this, cond_true]
   obtain ⟨l, s7, g1, g2, g3, g4⟩ := refs_gen id s6 f3 (by omega)
   rw [g1]
   simp only [Option.bind_some, thenC]
   by_cases hl0 : l = []
   ·subst hl0
    refine ⟨[zyS], s7, rfl, .inr rfl, fun r hr e => ?_, ⟨fun h => absurd h h1, fun h => (by cases h)⟩, g4.mono (by omega)⟩
    rw [List.mem_singleton.1 hr] at e
    rw [← e] at hid
    have := idL_byte _ hid
    exact absurd this (by decide)
   ·have : ((l.length : Int) == 0) = false := by
     rw [beq_eq_false_iff_ne]
     intro e; exact hl0 (List.eq_nil_of_length_eq_zero (by omega))
    rw [this, cond_false]
    exact ⟨l, s7, rfl, .inl g2, g3, ⟨fun h => absurd h h1, fun h => absurd h hl0⟩, g4.mono (by omega)⟩
 obtain ⟨ar, tx2, s8, j1, j2, j3, j4, j5, j6⟩ : ∃ ar tx2 s8, (bif kd == 3 then (mk_Stream_Some (⟨Stream.L s7, Stream.f_at s7⟩ : Stream) ([(⟨#[]⟩ : ByteArray), (⟨#[111, 118, 101, 114]⟩ : ByteArray)] : List ByteArray)).bind fun r_79 => some (([] : List Rect), r_79.2.L, r_79.2.f_at, r_79.1) else (mk_Stream_Range (⟨Stream.L s7, Stream.f_at s7⟩ : Stream) 1 2).bind fun r_82 => (forL (List.range (r_82.1).toNat) (([] : List Rect), r_82.2.L, r_82.2.f_at) (fun k x s => mk_Stream_RightAlerts_L2 k x s)).bind fun o_95 => thenC o_95 (fun s_90 => some (s_90.1, s_90.2.1, s_90.2.2, tx)) (fun _ => none)) = some (ar, Stream.L s8, Stream.f_at s8, tx2) ∧ (∀ r ∈ ar, SmallR r) ∧ ar.length ≤ 2 ∧ (kd = 3 ↔ ar = []) ∧ (tx2 = floodS ∨ tx2 = mallS ∨ kd = 3 ∧ (tx2 = ⟨#[]⟩ ∨ tx2 = overS)) ∧ Ok s8 (b + 40) := by
  have e7 : (⟨Stream.L s7, Stream.f_at s7⟩ : Stream) = s7 := rfl
  rw [e7]
  by_cases h3 : kd = 3
  ·have : (kd == 3) = true := by simpa using h3
   rw [this, cond_true]
   obtain ⟨t2, s8, q1, q2, q3⟩ := some_ok s7 [(⟨#[]⟩ : ByteArray), (⟨#[111, 118, 101, 114]⟩ : ByteArray)] g5 (by omega) (by simp) (by simp)
   rw [q1]
   simp only [List.mem_cons, List.not_mem_nil, or_false] at q2
   exact ⟨[], t2, s8, rfl, fun r hr => (by cases hr), by decide, ⟨fun _ => rfl, fun _ => h3⟩, .inr (.inr ⟨h3, q2⟩), q3.mono (by omega)⟩
  ·have : (kd == 3) = false := by simpa using h3
   rw [this, cond_false]
   obtain ⟨m, s8, q1, q2, q3, q4⟩ := range_ok s7 1 2 g5 (by omega) (by decide) (by decide) (by decide)
   obtain ⟨ar, s9, r1, r2, r3, r4⟩ := areas_gen m ⟨q2, q3⟩ s8 q4 (by omega)
   rw [q1, Option.bind_some, r1]
   refine ⟨ar, tx, s9, rfl, r3, by omega, ⟨fun h => absurd h h3, fun h => ?_⟩, htx.imp (fun h => h) .inl, r4.mono (by omega)⟩
   rw [h] at r2; simp at r2; omega
 refine ⟨⟨id, sd, kd, rf, n5 * 5, n5 * 5 + un, wt, ar, tx2⟩, s8, ?_, ⟨hid, hsd, by simp only []; omega, g2, g3, g4, by simp only []; omega, by simp only []; omega, hwt, j2, j3, j4, j5⟩, rfl, j6⟩
 unfold mk_Stream_RightAlerts_L3
 have e0 : (⟨s.L, s.f_at⟩ : Stream) = s := rfl
 simp only [e0, a1, b1, c1, d1, e1, f1, g1, j1, Option.bind_some]
 rw [appL_ok _ _ (by simp; omega), w64_id (n := n5 * 5) (by omega), w64_id (n := n5 * 5 + un) (by omega)]; rfl
def befA (a b : Alert) : Prop := a.At < b.At ∨ a.At = b.At ∧ lt a.Id b.Id
open Classical in
theorem order_eq {a b : Alert} (ha : RightA a) (hb : RightA b) : mk_alertOrder a b = some (bif a.At != b.At then a.At - b.At else bif sLt a.Id b.Id then -1 else 1) := by
 have h1 := ha.at_
 have h2 := hb.at_
 unfold mk_alertOrder
 cases a.At != b.At with
 | true => rw [cond_true, cond_true, w64_id (by omega)]
 | false =>
  rw [cond_false, cond_false]
  cases sLt a.Id b.Id <;> rfl
theorem order_neg {a b : Alert} : (bif a.At != b.At then a.At - b.At else bif sLt a.Id b.Id then (-1 : Int) else 1) < 0 ↔ befA a b := by
 unfold befA
 by_cases h : a.At = b.At
 ·have : (a.At != b.At) = false := by simpa using h
  rw [this, cond_false]
  cases hl : sLt a.Id b.Id with
  | true =>
   rw [cond_true]
   exact ⟨fun _ => .inr ⟨h, (sLt_iff _ _).1 hl⟩, fun _ => by decide⟩
  | false =>
   rw [cond_false]
   refine ⟨fun h => absurd h (by decide), fun hb => ?_⟩
   rcases hb with hb | hb
   ·omega
   ·rw [(sLt_iff _ _).2 hb.2] at hl; cases hl
 ·have : (a.At != b.At) = true := by simpa using h
  rw [this, cond_true]
  refine ⟨fun k => .inl (by omega), fun hb => ?_⟩
  rcases hb with hb | hb
  ·omega
  ·exact absurd hb.1 h
theorem befA_irr (a : Alert) : ¬ befA a a := fun h => by
 rcases h with h | h
 ·omega
 ·exact lt_irr _ h.2
theorem befA_trans {a b c : Alert} (h : befA a b) (k : befA b c) : befA a c := by
 rcases h with h | h <;> rcases k with k | k
 ·exact .inl (by omega)
 ·exact .inl (by omega)
 ·exact .inl (by omega)
 ·exact .inr ⟨h.1.trans k.1, lt_trans h.2 k.2⟩
theorem befA_tri (a b : Alert) (hid : a.Id ≠ b.Id) : befA a b ∨ befA b a := by
 rcases Int.lt_trichotomy a.At b.At with h | h | h
 ·exact .inl (.inl h)
 ·rcases lt_tri a.Id b.Id with k | k | k
  ·exact .inl (.inr ⟨h, k⟩)
  ·exact absurd k hid
  ·exact .inr (.inr ⟨h.symm, k⟩)
 ·exact .inr (.inl h)
theorem befA_ntrans {a b c : Alert} (h : ¬ befA a b) (k : ¬ befA b c) : ¬ befA a c := fun hc => by
 unfold befA at *
 simp only [not_or, not_and] at h k
 rcases hc with hc | hc
 ·rcases Int.lt_trichotomy a.At b.At with q | q | q
  ·exact h.1 q
  ·rcases Int.lt_trichotomy b.At c.At with r | r | r
   ·exact k.1 r
   ·omega
   ·omega
  ·have := k.1; omega
 ·have h1 := h.1
  have k1 := k.1
  have e1 : a.At = b.At := by omega
  have e2 : b.At = c.At := by omega
  have h2 := h.2 e1
  have k2 := k.2 e2
  rcases lt_tri a.Id b.Id with q | q | q
  ·exact h2 q
  ·rw [q] at hc; exact k2 hc.2
  ·rcases lt_tri b.Id c.Id with r | r | r
   ·exact k2 r
   ·rw [← r] at hc; exact h2 hc.2
   ·exact lt_irr _ (lt_trans (lt_trans hc.2 r) q)
structure RAlerts (l : List Alert) (n : Nat) : Prop where
 right : ∀ x ∈ l, RightA x
 rise : l.Pairwise befA
 ids : (l.map (·.Id)).Nodup
 len : l.length ≤ n
theorem rightAlerts (most : Int) (hm : 0 ≤ most ∧ most ≤ 6) (s : Stream) {b : Int} (hs : Ok s b) (hb : b ≤ 600000) : ∃ l s', mk_Stream_RightAlerts s most = some (l, s') ∧ RAlerts l most.toNat ∧ Ok s' (b + 250) := by
 obtain ⟨n, s1, a1, a2, a3, a4⟩ := range_ok s 0 most hs (by omega) (by omega) (by decide) (by omega)
 have hsub : subL idL 0 n = some (idL.take n.toNat) := by
  unfold subL
  have h6 : idL.length = 6 := rfl
  rw [if_pos (by rw [h6]; omega)]
  simp
 obtain ⟨t, t1, t2, t3, t4⟩ := forL_at (body := fun k x s => mk_Stream_RightAlerts_L3 k x s) (xs := idL.take n.toNat) (s := (([] : List Alert), s1.L, s1.f_at)) (fun k t => t.1.map (·.Id) = idL.take k ∧ (∀ x ∈ t.1, RightA x) ∧ Ok ⟨t.2.1, t.2.2⟩ (b + 1 + 40 * k)) (by rw [List.length_take]; show min n.toNat 6 ≤ _; omega) (fun k x t hx ⟨i1, i2, i3⟩ => by
  have hk : k < (idL.take n.toNat).length := (List.getElem?_eq_some_iff.1 hx).1
  rw [List.length_take] at hk
  have hk6 : k < 6 := by have : idL.length = 6 := rfl; omega
  have hx' : idL[k]? = some x := by rw [List.getElem?_take_of_lt (by omega)] at hx; exact hx
  have hlen : t.1.length ≤ 6 := by
   have := congrArg List.length i1
   rw [List.length_map, List.length_take] at this
   omega
  obtain ⟨y, s2, c1, c2, c3, c4⟩ := one_alert x (List.mem_of_getElem? hx') k t.1 (by omega) ⟨t.2.1, t.2.2⟩ i3 (by omega)
  refine ⟨_, c1, ?_, fun z hz => ?_, c4.mono (by omega)⟩
  ·rw [List.map_append, i1, List.take_add_one, hx']
   simp [c3]
  ·rcases List.mem_append.1 hz with hz | hz
   ·exact i2 z hz
   ·rw [List.mem_singleton.1 hz]; exact c2) ⟨rfl, fun x hx => (by cases hx), a4.mono (by omega)⟩
 have hnd : (t.1.map (·.Id)).Nodup := by
  rw [t2]
  exact (idL_rise.sublist (List.take_sublist _ _)).imp (fun h e => by rw [e] at h; exact lt_irr _ h)
 have hlen : t.1.length ≤ most.toNat := by
  have := congrArg List.length t2
  rw [List.length_map, List.length_take, List.length_take] at this
  omega
 obtain ⟨r, r1, r2, r3⟩ := sort12 (cmp := mk_alertOrder) (S := slices_SortFunc_api_Alert_api_Alert_v1) (fun a b => bif a.At != b.At then a.At - b.At else bif sLt a.Id b.Id then -1 else 1) (fun _ => rfl) (xs := t.1) (by omega) (fun x hx y hy => order_eq (t3 x hx) (t3 y hy))
  (fun x y h k => befA_irr x (befA_trans (order_neg.1 h) (order_neg.1 k))) (fun x y z h k q => befA_ntrans (fun e => h (order_neg.2 e)) (fun e => k (order_neg.2 e)) (order_neg.1 q))
 have hrl : r.length = t.1.length := r2.length_eq
 have hids : (r.map (·.Id)).Nodup := (r2.map (·.Id)).nodup_iff.2 hnd
 refine ⟨r, ⟨t.2.1, t.2.2⟩, ?_, ⟨fun x hx => t3 x (r2.mem_iff.1 hx), ?_, hids, by omega⟩, t4.mono (by
  have : (idL.take n.toNat).length ≤ 6 := by rw [List.length_take]; exact Nat.min_le_right _ _
  omega)⟩
 ·unfold mk_Stream_RightAlerts
  have e1 : subL ([(⟨#[97, 97]⟩ : ByteArray), (⟨#[97, 98]⟩ : ByteArray), (⟨#[97, 99]⟩ : ByteArray), (⟨#[97, 100]⟩ : ByteArray), (⟨#[97, 101]⟩ : ByteArray), (⟨#[97, 102]⟩ : ByteArray)] : List ByteArray) 0 n = some (idL.take n.toNat) := hsub
  simp only [a1, Option.bind_some, e1, t1, thenC]
  have e2 : slices_SortFunc_api_Alert_api_Alert_v1 t.1 = some r := r1
  have e3 : sameL r t.1 = some () := by unfold sameL; rw [if_pos hrl]
  rw [e2, Option.bind_some, e3]; rfl
 ·refine List.pairwise_iff_getElem.2 (fun i j hi hj hij => ?_)
  have h1 := List.pairwise_iff_getElem.1 r3 i j hi hj hij
  have h2 : r[i].Id ≠ r[j].Id := fun e => by
   have := List.pairwise_iff_getElem.1 hids i j (by simpa using hi) (by simpa using hj) hij
   rw [List.getElem_map, List.getElem_map] at this
   exact this e
  rcases befA_tri r[i] r[j] h2 with h | h
  ·exact h
  ·exact absurd (order_neg.2 h) h1
end Go.Proofs.YtpojeclokolkaaaGreatDoor.Law

open Go Go.Eng
namespace Go.Proofs.YtpojeclokolkaaaGreatDoor.Law
set_option linter.unusedVariables false
set_option linter.unusedSimpArgs false
theorem eqS_eq {a b : ByteArray} (h : (a == b) = true) : a = b := by
 obtain ⟨x⟩ := a
 obtain ⟨y⟩ := b
 have h1 : (x == y) = true := h
 rw [eq_of_beq h1]
structure RightPo (p : Post) : Prop where
 key : kit_IsKey p.Player = some true
 x : -1000 ≤ p.X ∧ p.X ≤ 1000
 y : -1000 ≤ p.Y ∧ p.Y ≤ 1000
end Go.Proofs.YtpojeclokolkaaaGreatDoor.Law

open Go Go.Eng
namespace Go.Proofs.YtpojeclokolkaaaGreatDoor.Law
set_option linter.unusedVariables false
set_option linter.unusedSimpArgs false
set_option maxRecDepth 100000
def poL : List ByteArray := [⟨#[112, 97]⟩, ⟨#[112, 98]⟩, ⟨#[112, 99]⟩]
theorem poL_key : ∀ k ∈ poL, kit_IsKey k = some true := by
 intro k hk
 simp only [poL, List.mem_cons, List.not_mem_nil, or_false] at hk
 rcases hk with rfl | rfl | rfl <;> rw [isKey_eq _ (by decide)] <;> exact congrArg some (by kernel_rfl)
structure RPosts (l : List Post) : Prop where
 right : ∀ p ∈ l, RightPo p
 sub : (l.map (·.Player)).Sublist poL
theorem RPosts.len {l : List Post} (h : RPosts l) : l.length ≤ 3 := by
 have h1 := h.sub.length_le
 rw [List.length_map] at h1
 exact h1
theorem rightPosts (s : Stream) {b : Int} (hs : Ok s b) (hb : b ≤ 800000) : ∃ l s', mk_Stream_RightPosts s = some (l, s') ∧ RPosts l ∧ Ok s' (b + 20) := by
 obtain ⟨t, t1, t2, t3, t4⟩ := forL_at (body := fun k x s => mk_Stream_RightPosts_L1 k x s) (xs := poL) (s := (([] : List Post), s.L, s.f_at)) (fun k t => (t.1.map (·.Player)).Sublist (poL.take k) ∧ (∀ p ∈ t.1, RightPo p) ∧ Ok ⟨t.2.1, t.2.2⟩ (b + 3 * k)) (by decide) (fun k x t hx ⟨i1, i2, i3⟩ => by
  have hk : k < 3 := (List.getElem?_eq_some_iff.1 hx).1
  have hlen : t.1.length ≤ 3 := by
   have := i1.length_le
   rw [List.length_map, List.length_take] at this
   exact Nat.le_trans this (Nat.min_le_right _ _)
  obtain ⟨n1, n2⟩ := sub_next hx i1
  obtain ⟨f, s1, c1, c2⟩ := flip_ok _ 5 i3 (by omega) (by decide) (by decide)
  unfold mk_Stream_RightPosts_L1
  simp only [c1, Option.bind_some]
  cases f with
  | true => exact ⟨_, rfl, n1, i2, c2.mono (by omega)⟩
  | false =>
   obtain ⟨px, s2, d1, d2, d3, d4⟩ := range_ok s1 (-2) 10 c2 (by omega) (by decide) (by decide) (by decide)
   obtain ⟨py, s3, e1, e2, e3, e4⟩ := range_ok s2 (-2) 10 d4 (by omega) (by decide) (by decide) (by decide)
   simp only [Bool.not_false, cond_true, d1, e1, Option.bind_some]
   rw [appL_ok _ _ (by simp; omega)]
   refine ⟨_, rfl, n2 ⟨x, px, py⟩ rfl, fun p hp => ?_, e4.mono (by omega)⟩
   rcases List.mem_append.1 hp with hp | hp
   ·exact i2 p hp
   ·rw [List.mem_singleton.1 hp]
    exact ⟨poL_key x (List.mem_of_getElem? hx), by simp only []; omega, by simp only []; omega⟩) ⟨List.Sublist.refl _, fun p hp => (by cases hp), hs.mono (by omega)⟩
 refine ⟨t.1, ⟨t.2.1, t.2.2⟩, ?_, ⟨t3, by rw [List.take_length] at t2; exact t2⟩, t4.mono (by show b + 3 * ((3 : Nat) : Int) ≤ b + 20; omega)⟩
 unfold mk_Stream_RightPosts
 have t1' : forL ([(⟨#[112, 97]⟩ : ByteArray), (⟨#[112, 98]⟩ : ByteArray), (⟨#[112, 99]⟩ : ByteArray)] : List ByteArray) (([] : List Post), s.L, s.f_at) (fun k x s => mk_Stream_RightPosts_L1 k x s) = some (.go t) := t1
 rw [t1']; rfl
end Go.Proofs.YtpojeclokolkaaaGreatDoor.Law

open Go Go.Eng
namespace Go.Proofs.YtpojeclokolkaaaGreatDoor.Law
set_option linter.unusedVariables false
set_option linter.unusedSimpArgs false
theorem rightRect_ok (s : Stream) {b : Int} (hs : Ok s b) (hb : b ≤ 900000) : ∃ r s', mk_Stream_RightRect s = some (r, s') ∧ Ok s' (b + 4) := by
 unfold mk_Stream_RightRect
 obtain ⟨x, s1, a1, a2, a3, a4⟩ := range_ok s (-2) 8 hs (by omega) (by omega) (by omega) (by omega)
 obtain ⟨y, s2, b1, b2, b3, b4⟩ := range_ok s1 (-2) 8 a4 (by omega) (by omega) (by omega) (by omega)
 obtain ⟨w, s3, c1, c2, c3, c4⟩ := range_ok s2 1 5 b4 (by omega) (by omega) (by omega) (by omega)
 obtain ⟨h, s4, d1, d2, d3, d4⟩ := range_ok s3 1 5 c4 (by omega) (by omega) (by omega) (by omega)
 simp only [a1, b1, c1, d1, Option.bind_some]
 exact ⟨_, _, rfl, d4.mono (by omega)⟩
theorem rect_ok (s : Stream) {b : Int} (hs : Ok s b) (hb : b ≤ 800000) : ∃ r s', mk_Stream_Rect s = some (r, s') ∧ Ok s' (b + 10) := by
 unfold mk_Stream_Rect
 obtain ⟨r, s1, a1, a2⟩ := rightRect_ok s hs (by omega)
 obtain ⟨c, s2, b1, b2⟩ := flip_ok s1 20 a2 (by omega) (by decide) (by decide)
 simp only [a1, b1, Option.bind_some]
 cases c with
 | false => exact ⟨_, _, rfl, b2.mono (by omega)⟩
 | true =>
  obtain ⟨k, s3, c1, c2, c3, c4⟩ := next_ok s2 3 b2 (by omega) (by decide) (by decide)
  simp only [cond_true, c1, Option.bind_some]
  cases h0 : k == 0 with
  | true =>
   obtain ⟨v, s4, d1, d2⟩ := odd_ok s3 (-100000) 99999 c4 (by omega) (by decide) (by decide) (by decide)
   simp only [cond_true, d1, Option.bind_some]
   exact ⟨_, _, rfl, d2.mono (by omega)⟩
  | false =>
   cases h1 : k == 1 with
   | true =>
    obtain ⟨v, s4, d1, d2⟩ := odd_ok s3 1 200000 c4 (by omega) (by decide) (by decide) (by decide)
    obtain ⟨u, s5, e1, e2⟩ := odd_ok s4 1 5 d2 (by omega) (by decide) (by decide) (by decide)
    simp only [cond_true, cond_false, d1, e1, Option.bind_some]
    exact ⟨_, _, rfl, e2.mono (by omega)⟩
   | false =>
    obtain ⟨v, s4, d1, _, d2⟩ := pick_ok s3 [(-100000), 99999] c4 (by omega) (by simp) (by simp)
    obtain ⟨u, s5, e1, _, e2⟩ := pick_ok s4 [1, 2, 200000] d2 (by omega) (by simp) (by simp)
    simp only [cond_false, d1, e1, Option.bind_some]
    exact ⟨_, _, rfl, e2.mono (by omega)⟩
end Go.Proofs.YtpojeclokolkaaaGreatDoor.Law

open Go Go.Eng
namespace Go.Proofs.YtpojeclokolkaaaGreatDoor.Law
set_option linter.unusedVariables false
set_option linter.unusedSimpArgs false
set_option maxRecDepth 100000
theorem odd_bd (s : Stream) (lo hi : Int) {b : Int} (hs : Ok s b) (hb : b ≤ 900000) (h : lo ≤ hi) (h1 : -1000000000000 ≤ lo) (h2 : hi ≤ 1000000000000) : ∃ r s', mk_Stream_Odd s lo hi = some (r, s') ∧ (-1100000000000 ≤ r ∧ r ≤ 1100000000000) ∧ Ok s' (b + 2) := by
 unfold mk_Stream_Odd
 obtain ⟨c, s1, a1, a2⟩ := flip_ok s 12 hs (by omega) (by decide) (by decide)
 simp only [a1, Option.bind_some]
 cases c with
 | true =>
  obtain ⟨k, s2, b1, b2, b3⟩ := pick_ok s1 [(w64 (lo - 1)), (w64 (hi + 1)), lo, hi, (-1099511627776), 1099511627776] a2 (by omega) (by simp) (by simp)
  rw [w64_id (n := lo - 1) (by omega), w64_id (n := hi + 1) (by omega)] at b1 b2
  rw [cond_true, w64_id (n := lo - 1) (by omega), w64_id (n := hi + 1) (by omega), b1, Option.bind_some]
  refine ⟨k, s2, rfl, ?_, b3.mono (by omega)⟩
  simp only [List.mem_cons, List.not_mem_nil, or_false] at b2
  omega
 | false =>
  obtain ⟨k, s2, b1, b2, b3, b4⟩ := range_ok s1 lo hi a2 (by omega) h h1 h2
  rw [cond_false, b1, Option.bind_some]
  exact ⟨k, s2, rfl, by omega, b4.mono (by omega)⟩
theorem rects2_ok (s : Stream) {b : Int} (hs : Ok s b) (hb : b ≤ 500000) : ∃ l s', mk_Stream_Rects s 2 = some (l, s') ∧ l.length ≤ 2 ∧ Ok s' (b + 50) := by
 unfold mk_Stream_Rects
 obtain ⟨k, s1, a1, a2, a3, a4⟩ := range_ok s 0 2 hs (by omega) (by decide) (by decide) (by decide)
 rw [a1, Option.bind_some]
 have hlr : (List.range k.toNat).length = k.toNat := by simp
 obtain ⟨t, t1, t2, t3⟩ := forL_inv (body := fun k x s => mk_Stream_Rects_L1 k x s) (s := (([] : List Rect), s1.L, s1.f_at)) (fun j t => t.1.length = j ∧ Ok ⟨t.2.1, t.2.2⟩ (b + 1 + 20 * j)) (xs := List.range k.toNat) (by rw [hlr]; omega) (fun j x t _ hj ⟨i1, i2⟩ => by
  rw [hlr] at hj
  unfold mk_Stream_Rects_L1
  obtain ⟨r, s2, c1, c2⟩ := rightRect_ok _ i2 (by omega)
  obtain ⟨f, s3, d1, d2⟩ := flip_ok s2 60 c2 (by omega) (by decide) (by decide)
  simp only [c1, d1, Option.bind_some]
  cases f with
  | false =>
   simp only [cond_false, Option.bind_some]
   rw [appL_ok _ _ (by simp; omega)]
   exact ⟨_, rfl, by simp [i1], d2.mono (by omega)⟩
  | true =>
   obtain ⟨q, s4, e1, e2⟩ := rect_ok s3 d2 (by omega)
   simp only [cond_true, e1, Option.bind_some]
   rw [appL_ok _ _ (by simp; omega)]
   exact ⟨_, rfl, by simp [i1], e2.mono (by omega)⟩) ⟨rfl, a4.mono (by omega)⟩
 rw [hlr] at t2 t3
 rw [t1]
 exact ⟨t.1, ⟨t.2.1, t.2.2⟩, rfl, by omega, t3.mono (by omega)⟩
def ShA (s : ByteArray) : Prop := s.size ≤ 1000
theorem shA_lit {s : ByteArray} (h : Nat.ble s.size 1000 = true) : ShA s := Nat.le_of_ble_eq_true h
def txtL : List ByteArray := [⟨#[]⟩, overS, floodS, mallS, ⟨#[32, 120]⟩, ⟨#[97, 32, 32, 98]⟩, ⟨#[10]⟩, ⟨#[255]⟩]
structure GA (x : Alert) : Prop where
 id : ShA x.Id
 sender : ShA x.Sender
 refs : ∀ r ∈ x.Refs, ShA r
 rlen : x.Refs.length ≤ 5
 alen : x.Areas.length ≤ 2
 at_ : -1100000000000 ≤ x.At ∧ x.At ≤ 1100000000000
 until_ : -1100000000000 ≤ x.Until ∧ x.Until ≤ 1100000000000
 text : x.Text ∈ txtL
theorem RightA.ga {x : Alert} (h : RightA x) : GA x := by
 have h1 := h.at_
 have h2 := h.until_
 refine ⟨(idL_key _ h.id).2 |> shA_lit, ?_, fun r hr => ?_, h.refsLen, h.alen, by omega, by omega, ?_⟩
 ·rcases h.sender with e | e <;> rw [e] <;> exact shA_lit rfl
 ·rcases h.refs with hs | hs
  ·exact shA_lit (refL_key r (hs.subset hr)).2
  ·rw [hs] at hr; rw [List.mem_singleton.1 hr]; exact shA_lit rfl
 ·unfold txtL
  rcases h.text with e | e | ⟨_, e | e⟩ <;> rw [e] <;> simp
theorem set_all {α : Type} {p : α → Prop} {xs : List α} {i : Nat} {a : α} (h : ∀ x ∈ xs, p x) (ha : p a) : ∀ x ∈ xs.set i a, p x := fun x hx => by
 rcases List.mem_or_eq_of_mem_set hx with h1 | h1
 ·exact h x h1
 ·rw [h1]; exact ha
theorem set_get {α : Type} {xs : List α} {i : Nat} {a : α} (h : i < xs.length) : (xs.set i a)[i]? = some a := by simp [h]
def GAs (l : List Alert) : Prop := (∀ x ∈ l, GA x) ∧ l.length ≤ 6
theorem alerts_gen (s : Stream) {b : Int} (hs : Ok s b) (hb : b ≤ 100000) : ∃ l s', mk_Stream_Alerts s 6 = some (l, s') ∧ GAs l ∧ Ok s' (b + 400) := by
 obtain ⟨l, s1, a1, a2, a3⟩ := rightAlerts 6 (by decide) s hs (by omega)
 have hl : l.length ≤ 6 := a2.len
 have hg : ∀ x ∈ l, GA x := fun x hx => (a2.right x hx).ga
 unfold mk_Stream_Alerts
 rw [a1, Option.bind_some]
 simp only []
 by_cases h0 : (l.length : Int) > 0
 ·obtain ⟨f, s2, b1, b2⟩ := flip_ok s1 10 a3 (by omega) (by decide) (by decide)
  rw [decide_eq_true h0, cond_true, b1, Option.bind_some, Option.bind_some]
  simp only []
  cases f with
  | false => exact ⟨l, s2, rfl, ⟨hg, hl⟩, b2.mono (by omega)⟩
  | true =>
   rw [cond_true]
   obtain ⟨i, s3, c1, c2, c3, c4⟩ := next_ok s2 (l.length : Int) b2 (by omega) (by omega) (by omega)
   have e0 : (⟨s2.L, s2.f_at⟩ : Stream) = s2 := rfl
   rw [e0, c1, Option.bind_some]
   simp only []
   rw [inR_ok (by omega) (by omega), Option.bind_some]
   obtain ⟨k, s4, d1, d2, d3, d4⟩ := next_ok s3 6 c4 (by omega) (by decide) (by decide)
   rw [d1, Option.bind_some]
   simp only []
   have hi : 0 + i.toNat < l.length := by omega
   have hx : l[0 + i.toNat]? = some l[0 + i.toNat] := List.getElem?_eq_getElem hi
   have hgx := hg _ (List.getElem_mem hi)
   generalize l[0 + i.toNat] = x at hx hgx
   have two : ∀ (y z : Alert) (s : Stream) {c : Int}, GA z → Ok s c → c ≤ b + 400 → ∃ l' s', some ((l.set (0 + i.toNat) y).set (0 + i.toNat) z, (⟨s.L, s.f_at⟩ : Stream)) = some (l', s') ∧ GAs l' ∧ Ok s' (b + 400) := fun y z s c hz hs hc => by
    refine ⟨_, _, rfl, ?_, hs.mono hc⟩
    rw [List.set_set]
    exact ⟨set_all hg hz, by rw [List.length_set]; exact hl⟩
   have one : ∀ (z : Alert) (s : Stream) {c : Int}, GA z → Ok s c → c ≤ b + 400 → ∃ l' s', some (l.set (0 + i.toNat) z, (⟨s.L, s.f_at⟩ : Stream)) = some (l', s') ∧ GAs l' ∧ Ok s' (b + 400) := fun z s c hz hs hc =>
    ⟨_, _, rfl, ⟨set_all hg hz, by rw [List.length_set]; exact hl⟩, hs.mono hc⟩
   cases k0 : k == 0 with
   | true =>
    rw [cond_true, hx, Option.bind_some]
    obtain ⟨u, s5, e1, e2, e3⟩ := some_ok s4 [x.Id, (⟨#[]⟩ : ByteArray), (⟨#[97, 97]⟩ : ByteArray)] d4 (by omega) (by simp) (by simp)
    obtain ⟨v, s6, f1, f2, f3⟩ := some_ok s5 [(⟨#[119, 120]⟩ : ByteArray), (⟨#[65]⟩ : ByteArray)] e3 (by omega) (by simp) (by simp)
    rw [e1, Option.bind_some]
    simp only []
    rw [f1]
    simp only [Option.bind_some]
    rw [set_get hi]
    simp only [Option.bind_some]
    refine two _ _ s6 ⟨?_, ?_, hgx.refs, hgx.rlen, hgx.alen, hgx.at_, hgx.until_, hgx.text⟩ f3 (by omega)
    ·simp only [List.mem_cons, List.not_mem_nil, or_false] at e2
     rcases e2 with rfl | rfl | rfl
     ·exact hgx.id
     ·exact shA_lit rfl
     ·exact shA_lit rfl
    ·simp only [List.mem_cons, List.not_mem_nil, or_false] at f2
     rcases f2 with rfl | rfl <;> exact shA_lit rfl
   | false =>
   rw [cond_false]
   cases k1 : k == 1 with
   | true =>
    obtain ⟨u, s5, e1, e2, e3⟩ := odd_bd s4 1 3 d4 (by omega) (by decide) (by decide) (by decide)
    rw [cond_true, e1, hx]
    simp only [Option.bind_some]
    exact one _ s5 ⟨hgx.id, hgx.sender, hgx.refs, hgx.rlen, hgx.alen, hgx.at_, hgx.until_, hgx.text⟩ e3 (by omega)
   | false =>
   rw [cond_false]
   cases k2 : k == 2 with
   | true =>
    rw [cond_true, hx, Option.bind_some]
    obtain ⟨u, s5, e1, e2, e3, e4⟩ := next_ok s4 5 d4 (by omega) (by decide) (by decide)
    rw [e1, Option.bind_some]
    simp only []
    obtain ⟨y, y1, y2⟩ := idx_mem (l := ([([] : List ByteArray), ([(⟨#[97, 98]⟩ : ByteArray), (⟨#[97, 97]⟩ : ByteArray)] : List ByteArray), ([x.Id] : List ByteArray), ([(⟨#[65]⟩ : ByteArray)] : List ByteArray), ([(⟨#[97, 97]⟩ : ByteArray), (⟨#[122, 122]⟩ : ByteArray)] : List ByteArray)] : List (List ByteArray))) (r := u) e2 (by simp; omega)
    rw [y1]
    simp only [Option.bind_some]
    have hy : (∀ r ∈ y, ShA r) ∧ y.length ≤ 5 := by
     simp only [List.mem_cons, List.not_mem_nil, or_false] at y2
     rcases y2 with rfl | rfl | rfl | rfl | rfl
     ·exact ⟨fun r hr => (by cases hr), by simp⟩
     ·refine ⟨fun r hr => ?_, by simp⟩
      simp only [List.mem_cons, List.not_mem_nil, or_false] at hr
      rcases hr with rfl | rfl <;> exact shA_lit rfl
     ·refine ⟨fun r hr => ?_, by simp⟩
      rw [List.mem_singleton.1 hr]; exact hgx.id
     ·refine ⟨fun r hr => ?_, by simp⟩
      rw [List.mem_singleton.1 hr]; exact shA_lit rfl
     ·refine ⟨fun r hr => ?_, by simp⟩
      simp only [List.mem_cons, List.not_mem_nil, or_false] at hr
      rcases hr with rfl | rfl <;> exact shA_lit rfl
    exact one _ s5 ⟨hgx.id, hgx.sender, hy.1, hy.2, hgx.alen, hgx.at_, hgx.until_, hgx.text⟩ e4 (by omega)
   | false =>
   rw [cond_false]
   cases k3 : k == 3 with
   | true =>
    obtain ⟨u, s5, e1, e2, e3⟩ := odd_bd s4 0 30 d4 (by omega) (by decide) (by decide) (by decide)
    obtain ⟨v, s6, f1, f2, f3⟩ := odd_bd s5 0 60 e3 (by omega) (by decide) (by decide) (by decide)
    rw [cond_true, e1, Option.bind_some]
    simp only []
    rw [f1, hx]
    simp only [Option.bind_some]
    rw [set_get hi]
    simp only [Option.bind_some]
    exact two _ _ s6 ⟨hgx.id, hgx.sender, hgx.refs, hgx.rlen, hgx.alen, e2, f2, hgx.text⟩ f3 (by omega)
   | false =>
   rw [cond_false]
   cases k4 : k == 4 with
   | true =>
    obtain ⟨u, s5, e1, e2, e3⟩ := rects2_ok s4 d4 (by omega)
    obtain ⟨v, s6, f1, f2, f3⟩ := odd_bd s5 1 9 e3 (by omega) (by decide) (by decide) (by decide)
    rw [cond_true, e1, Option.bind_some]
    simp only []
    rw [f1, hx]
    simp only [Option.bind_some]
    rw [set_get hi]
    simp only [Option.bind_some]
    exact two _ _ s6 ⟨hgx.id, hgx.sender, hgx.refs, hgx.rlen, e2, hgx.at_, hgx.until_, hgx.text⟩ f3 (by omega)
   | false =>
    obtain ⟨u, s5, e1, e2, e3⟩ := some_ok s4 [(⟨#[]⟩ : ByteArray), (⟨#[32, 120]⟩ : ByteArray), (⟨#[97, 32, 32, 98]⟩ : ByteArray), (⟨#[10]⟩ : ByteArray), (⟨#[255]⟩ : ByteArray)] d4 (by omega) (by simp) (by simp)
    rw [cond_false, e1, hx]
    simp only [Option.bind_some]
    refine one _ s5 ⟨hgx.id, hgx.sender, hgx.refs, hgx.rlen, hgx.alen, hgx.at_, hgx.until_, ?_⟩ e3 (by omega)
    simp only [List.mem_cons, List.not_mem_nil, or_false] at e2
    unfold txtL
    rcases e2 with rfl | rfl | rfl | rfl | rfl <;> simp
 ·rw [decide_eq_false h0, cond_false, Option.bind_some]
  exact ⟨l, s1, rfl, ⟨hg, hl⟩, a3.mono (by omega)⟩
structure GP (p : Post) : Prop where
 player : ShA p.Player
def GPs (l : List Post) : Prop := (∀ x ∈ l, GP x) ∧ l.length ≤ 3
theorem posts_gen (s : Stream) {b : Int} (hs : Ok s b) (hb : b ≤ 200000) : ∃ l s', mk_Stream_Posts s = some (l, s') ∧ GPs l ∧ Ok s' (b + 50) := by
 obtain ⟨l, s1, a1, a2, a3⟩ := rightPosts s hs (by omega)
 have hl : l.length ≤ 3 := a2.len
 have hg : ∀ x ∈ l, GP x := fun x hx => ⟨by
  have : x.Player ∈ poL := a2.sub.subset (List.mem_map.2 ⟨x, hx, rfl⟩)
  simp only [poL, List.mem_cons, List.not_mem_nil, or_false] at this
  rcases this with e | e | e <;> rw [e] <;> exact shA_lit rfl⟩
 unfold mk_Stream_Posts
 rw [a1, Option.bind_some]
 simp only []
 by_cases h0 : (l.length : Int) > 0
 ·obtain ⟨f, s2, b1, b2⟩ := flip_ok s1 15 a3 (by omega) (by decide) (by decide)
  rw [decide_eq_true h0, cond_true, b1, Option.bind_some, Option.bind_some]
  simp only []
  cases f with
  | false => exact ⟨l, s2, rfl, ⟨hg, hl⟩, b2.mono (by omega)⟩
  | true =>
   rw [cond_true]
   obtain ⟨i, s3, c1, c2, c3, c4⟩ := next_ok s2 (l.length : Int) b2 (by omega) (by omega) (by omega)
   have e0 : (⟨s2.L, s2.f_at⟩ : Stream) = s2 := rfl
   rw [e0, c1, Option.bind_some]
   simp only []
   rw [inR_ok (by omega) (by omega), Option.bind_some]
   have hi : 0 + i.toNat < l.length := by omega
   have hx : l[0 + i.toNat]? = some l[0 + i.toNat] := List.getElem?_eq_getElem hi
   have hgx := hg _ (List.getElem_mem hi)
   generalize l[0 + i.toNat] = x at hx hgx
   obtain ⟨u, s5, e1, e2, e3⟩ := some_ok s3 [x.Player, (⟨#[]⟩ : ByteArray), (⟨#[112, 97]⟩ : ByteArray)] c4 (by omega) (by simp) (by simp)
   obtain ⟨v, s6, f1, f2, f3⟩ := odd_bd s5 (-100000) 100000 e3 (by omega) (by decide) (by decide) (by decide)
   rw [hx, Option.bind_some, e1, Option.bind_some]
   simp only []
   rw [f1]
   simp only [Option.bind_some]
   rw [set_get hi]
   simp only [Option.bind_some]
   refine ⟨_, _, rfl, ?_, f3.mono (by omega)⟩
   rw [List.set_set]
   refine ⟨set_all hg ⟨?_⟩, by rw [List.length_set]; exact hl⟩
   simp only [List.mem_cons, List.not_mem_nil, or_false] at e2
   rcases e2 with rfl | rfl | rfl
   ·exact hgx.player
   ·exact shA_lit rfl
   ·exact shA_lit rfl
 ·rw [decide_eq_false h0, cond_false, Option.bind_some]
  exact ⟨l, s1, rfl, ⟨hg, hl⟩, a3.mono (by omega)⟩
end Go.Proofs.YtpojeclokolkaaaGreatDoor.Law

open Go Go.Eng
namespace Go.Proofs.YtpojeclokolkaaaGreatDoor.Law
set_option linter.unusedVariables false
set_option linter.unusedSimpArgs false
def Tiles (f : Int → ByteArray) (T : Int) : Int → List Slot_ → Prop
  | F, [] => F = T
  | F, x :: r => x.Time.From = F ∧ F < x.Time.To ∧ x.Time.To ≤ T ∧ (∀ t, F ≤ t → t < x.Time.To → f t = x.Entry) ∧ (∀ y, r.head? = some y → y.Entry ≠ x.Entry) ∧ Tiles f T x.Time.To r
def addS (id : ByteArray) (F T : Int) : List Slot_ → List Slot_
  | [] => [⟨⟨F, T⟩, id⟩]
  | [x] => if x.Entry = id then [⟨⟨x.Time.From, T⟩, x.Entry⟩] else [x, ⟨⟨F, T⟩, id⟩]
  | x :: y :: r => x :: addS id F T (y :: r)
theorem addS_head (id : ByteArray) (F T : Int) : ∀ (y : Slot_) (r : List Slot_), ∃ z, (addS id F T (y :: r)).head? = some z ∧ z.Entry = y.Entry
  | y, [] => by
    unfold addS
    split
    · exact ⟨_, rfl, rfl⟩
    · exact ⟨_, rfl, rfl⟩
  | y, z :: r => ⟨y, rfl, rfl⟩
theorem Tiles.add {f : Int → ByteArray} {id : ByteArray} {F T : Int} (hT : F < T) (hf : ∀ t, F ≤ t → t < T → f t = id) : ∀ (out : List Slot_) (F0 : Int), Tiles f F F0 out → Tiles f T F0 (addS id F T out)
  | [], F0, h => by
    unfold Tiles at h
    subst h
    unfold addS Tiles
    exact ⟨rfl, hT, Int.le_refl _, hf, fun y hy => (by cases hy), (by unfold Tiles; rfl)⟩
  | [x], F0, h => by
    unfold Tiles at h
    obtain ⟨h1, h2, h3, h4, h5, h6⟩ := h
    unfold Tiles at h6
    unfold addS
    by_cases he : x.Entry = id
    · rw [if_pos he]
      unfold Tiles
      refine ⟨h1, (by show F0 < T; omega), Int.le_refl _, fun t t1 t2 => ?_, fun y hy => (by cases hy), (by unfold Tiles; rfl)⟩
      by_cases ht : t < F
      · exact h4 t t1 (by omega)
      · exact (hf t (by omega) t2).trans he.symm
    · rw [if_neg he]
      unfold Tiles
      refine ⟨h1, h2, by omega, h4, fun y hy => ?_, ?_⟩
      · rw [← Option.some.inj hy]; exact fun e => he e.symm
      · unfold Tiles
        exact ⟨h6.symm, (by show x.Time.To < T; omega), Int.le_refl _, fun t t1 t2 => hf t (by omega) t2, fun y hy => (by cases hy), (by unfold Tiles; rfl)⟩
  | x :: y :: r, F0, h => by
    unfold Tiles at h
    obtain ⟨h1, h2, h3, h4, h5, h6⟩ := h
    have ih := Tiles.add hT hf (y :: r) _ h6
    unfold addS
    unfold Tiles
    refine ⟨h1, h2, by omega, h4, fun z hz => ?_, ih⟩
    obtain ⟨z', e1, e2⟩ := addS_head id F T y r
    rw [e1] at hz
    rw [← Option.some.inj hz, e2]
    exact h5 y rfl
theorem perm_uniq {α : Type} {R : α → α → Prop} (has : ∀ a b, R a b → ¬ R b a) {a b : List α} (h : a.Perm b) (ha : a.Pairwise R) (hb : b.Pairwise R) : a = b :=
  List.Perm.eq_of_pairwise (fun x y _ _ h1 h2 => absurd h2 (has x y h1)) ha hb h
end Go.Proofs.YtpojeclokolkaaaGreatDoor.Law

open Go Go.Eng
namespace Go.Proofs.YtpojeclokolkaaaGreatDoor.Law
set_option linter.unusedVariables false
set_option linter.unusedSimpArgs false
def insG {α : Type} (r : α → α → Bool) (x : α) : List α → List α
 | [] => [x]
 | y :: l => bif r x y then x :: y :: l else y :: insG r x l
def srtG {α : Type} (r : α → α → Bool) : List α → List α
 | [] => []
 | x :: l => insG r x (srtG r l)
theorem insG_perm {α : Type} (r : α → α → Bool) (x : α) : ∀ l, (insG r x l).Perm (x :: l)
 | [] => .refl _
 | y :: l => by
  unfold insG
  cases r x y with
  | true => exact .refl _
  | false => exact ((insG_perm r x l).cons y).trans (List.Perm.swap x y l)
theorem srtG_perm {α : Type} (r : α → α → Bool) : ∀ l, (srtG r l).Perm l
 | [] => .refl _
 | x :: l => (insG_perm r x _).trans ((srtG_perm r l).cons x)
theorem insG_sorted {α : Type} {r : α → α → Bool} (htr : ∀ a b c, r a b = true → r b c = true → r a c = true) {x : α} : ∀ {l : List α}, (∀ y ∈ l, r x y = true ∨ r y x = true) → l.Pairwise (fun a b => r a b = true) → (insG r x l).Pairwise (fun a b => r a b = true)
 | [], _, _ => List.pairwise_singleton _ _
 | y :: l, h, hp => by
  obtain ⟨p1, p2⟩ := List.pairwise_cons.1 hp
  unfold insG
  cases hxy : r x y with
  | true =>
   refine List.pairwise_cons.2 ⟨fun z hz => ?_, hp⟩
   rcases List.mem_cons.1 hz with rfl | hz
   ·exact hxy
   ·exact htr _ _ _ hxy (p1 z hz)
  | false =>
   refine List.pairwise_cons.2 ⟨fun z hz => ?_, insG_sorted htr (fun z hz => h z (List.mem_cons_of_mem _ hz)) p2⟩
   rcases List.mem_cons.1 ((insG_perm r x l).mem_iff.1 hz) with rfl | hz
   ·exact (h y List.mem_cons_self).resolve_left (by rw [hxy]; exact Bool.false_ne_true)
   ·exact p1 z hz
theorem srtG_sorted {α : Type} {r : α → α → Bool} (htr : ∀ a b c, r a b = true → r b c = true → r a c = true) : ∀ {l : List α}, l.Pairwise (fun a b => r a b = true ∨ r b a = true) → (srtG r l).Pairwise (fun a b => r a b = true)
 | [], _ => .nil
 | x :: l, h => by
  obtain ⟨p1, p2⟩ := List.pairwise_cons.1 h
  exact insG_sorted htr (fun y hy => p1 y ((srtG_perm r l).mem_iff.1 hy)) (srtG_sorted htr p2)
theorem srtG_is {α : Type} {r : α → α → Bool} (hir : ∀ a, r a a = false) (htr : ∀ a b c, r a b = true → r b c = true → r a c = true) {l s : List α} (ht : l.Pairwise (fun a b => r a b = true ∨ r b a = true)) (hp : s.Perm l) (hs : s.Pairwise (fun a b => r b a = false)) : s = srtG r l := by
 have hsy : ∀ {x y : α}, (r x y = true ∨ r y x = true) → (r y x = true ∨ r x y = true) := fun h => h.symm
 have h2 : s.Pairwise (fun a b => r a b = true ∨ r b a = true) := (hp.pairwise_iff (fun h => h.symm)).2 ht
 have h3 : s.Pairwise (fun a b => r a b = true) := by
  refine List.Pairwise.imp₂ (fun a b h k => ?_) hs h2
  rcases k with k | k
  ·exact k
  ·rw [h] at k; cases k
 exact perm_uniq (R := fun a b => r a b = true) (fun a b h k => by have := htr a b a h k; rw [hir] at this; cases this) (hp.trans (srtG_perm r l).symm) h3 (srtG_sorted htr ht)
end Go.Proofs.YtpojeclokolkaaaGreatDoor.Law

