import Derived.Test.YtipcgokielgnhaaGreatDoorCkMap
/-
  PLAIN LAW: ClocksPutRight is true of every stream.
-/
open Go Go.Eng
namespace Go.Proofs.YtipcgokielgnhaaGreatDoor.Law
set_option linter.unusedVariables false
set_option linter.unusedSimpArgs false

def ofB (p : ByteArray) (b : Beat) : Bool := decide (b.Player = p)
def gK (b : Beat) : Beat_ := ⟨b.At, b.Clock⟩
theorem beatsOf_eq (l : List Beat) (p : ByteArray) (back : Bool) (hl : l.length ≤ 1000000) : proof_beatsOf l p back = some ((l.filter (ofB p)).map (bif back then gK else gB)) := by
 have run : ∀ (xs : List Beat) (k : Nat) (acc : List Beat_), acc.length + xs.length ≤ 1000000 → forR (fun k x s => proof_beatsOf_L1 p back k x s) xs k acc = some (.go (acc ++ (xs.filter (ofB p)).map (bif back then gK else gB))) := by
  intro xs
  induction xs with
  | nil => intro k acc _; simp [forR]
  | cons x xs ih =>
   intro k acc hlen
   simp only [List.length_cons] at hlen
   have hst : proof_beatsOf_L1 p back k x acc = some (.go (acc ++ (bif ofB p x then [(bif back then gK else gB) x] else []))) := by
    have hsn : sNe x.Player p = !ofB p x := sNe_dec _ _
    unfold proof_beatsOf_L1
    rw [hsn]
    cases ofB p x with
    | false => simp
    | true =>
     simp only [Bool.not_true, cond_false, cond_true]
     cases back with
     | true => simp only [cond_true, appL_ok acc [_] (show acc.length + 1 ≤ _ by omega), Option.bind_some]; rfl
     | false => simp only [cond_false, appL_ok acc [_] (show acc.length + 1 ≤ _ by omega), Option.bind_some]; rfl
   rw [forR, hst, Option.bind_some]
   simp only
   rw [ih _ _ (by cases ofB p x <;> simp <;> omega), List.filter_cons]
   cases ofB p x <;> simp
 unfold proof_beatsOf
 rw [forL_eq (by omega), run l 0 [] (by simpa using hl), Option.bind_some, thenC_go, List.nil_append]
def namedF (p : ByteArray) : Int := bif keyB p then 0 else 5
def momF (n : Int) : Int := bif momB n then 0 else 1
theorem bnd_of {l : List Beat} {p : ByteArray} (h : ∀ x ∈ l, momB x.At = true ∧ momB x.Clock = true) (back : Bool) : BndM ((l.filter (ofB p)).map (bif back then gK else gB)) := by
 intro y hy
 obtain ⟨x, hx, rfl⟩ := List.mem_map.1 hy
 obtain ⟨h1, h2⟩ := h x (List.mem_filter.1 hx).1
 cases back with
 | true => exact ⟨momB_t h1, momB_t h2⟩
 | false => exact ⟨momB_t h2, momB_t h1⟩
theorem asked_eq (l : List Beat) (p : ByteArray) (n : Int) (back : Bool) (hs : ∀ x ∈ l, GoodB x) (hl : l.length ≤ 1000000) (hp : Short p) :
  ∃ k, (or0 (beatsF l) (or0 (namedF p) (momF n)) = 0 → Cut ((l.filter (ofB p)).map (bif back then gK else gB)) n k) ∧
   proof_asked l p n back = some (bif or0 (beatsF l) (or0 (namedF p) (momF n)) == 0 then mapV ((l.filter (ofB p)).map (bif back then gK else gB)) n k else (0, or0 (beatsF l) (or0 (namedF p) (momF n)))) := by
 obtain ⟨k, hk⟩ := cut_ex ((l.filter (ofB p)).map (bif back then gK else gB)) n
 refine ⟨k, fun _ => hk, ?_⟩
 unfold proof_asked
 simp only [beatsK l hs hl, Option.bind_some, isKey_eq p (by unfold Short at hp; omega), isMoment_eq, beatsOf_eq l p back hl]
 cases hb : beatsF l == 0 with
 | false =>
  have h1 : (beatsF l != 0) = true := by simp [bne, hb]
  have h2 : or0 (beatsF l) (or0 (namedF p) (momF n)) = beatsF l := by unfold or0; rw [hb]; rfl
  simp only [h1, cond_true, h2, hb, cond_false]
 | true =>
  have h1 : (beatsF l != 0) = false := by simp [bne, hb]
  have h0 : beatsF l = 0 := eq_of_beq hb
  have h2 : or0 (beatsF l) (or0 (namedF p) (momF n)) = or0 (namedF p) (momF n) := by rw [h0]; rfl
  simp only [h1, cond_false, h2]
  unfold namedF momF or0
  cases keyB p with
  | false => rfl
  | true =>
   simp only [Bool.not_true, cond_false, cond_true]
   cases hm : momB n with
   | false => rfl
   | true =>
    simp only [Bool.not_true, cond_false, cond_true]
    have hlen : (l.filter (ofB p)).length ≤ 1000000 := Nat.le_trans (List.length_filter_le _ _) hl
    rw [mapped_eq hk (bnd_of (beatsF_0 h0).2 back) (momB_t hm) (by simpa using hlen)]
    rfl
theorem eta2 {α β : Type} (o : Option (α × β)) : (o.bind fun r => some (r.1, r.2)) = o := by cases o <;> rfl
theorem rightA (b : List Beat) (p : ByteArray) (n : Int) : proof_Right b p n = proof_asked b p n false := eta2 _
theorem shownA (b : List Beat) (p : ByteArray) (n : Int) : proof_Shown b p n = proof_asked b p n true := eta2 _
end Go.Proofs.YtipcgokielgnhaaGreatDoor.Law

