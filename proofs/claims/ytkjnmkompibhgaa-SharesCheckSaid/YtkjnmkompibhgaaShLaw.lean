import Derived.Test.YtkjnmkompibhgaaShBs
/-
  PLAIN LAW: SharesCheck is true of every stream.
-/
open Go Go.Eng
namespace Go.Proofs.Ytkjnmkompibhgaa.Law
set_option linter.unusedVariables false
set_option linter.unusedSimpArgs false

/-! ### shares that are made -/
def GoodH (x : Share) : Prop := Short x.Campaign ∧ Short x.Spot
theorem shares_ok (s : Stream) (xs : List Spot) (cs : List Campaign) (hx : ∀ y ∈ xs, GoodS y) (hc : ∀ y ∈ cs, GoodC y) (h1 : xs.length ≤ 5) (h2 : cs.length ≤ 4) {b : Int} (hs : Ok s b) (hb : b ≤ 700000) :
    ∃ ys s', mk_Stream_Shares s xs cs = some (ys, s') ∧ ys.length ≤ 20 := by
  unfold mk_Stream_Shares
  obtain ⟨t, g1, g2, g3⟩ := forL_inv (body := fun k x s => mk_Stream_Shares_L2 xs k x s) (fun k s => Ok ⟨s.2.1, s.2.2⟩ (b + 20 * k) ∧ s.1.length ≤ 5 * k)
    (xs := cs) (s := (([] : List Share), s.L, s.f_at)) (by omega) (fun k x t hxm hk ⟨i1, i2⟩ => by
      obtain ⟨u, m1, m2, m3⟩ := forL_inv (body := fun k y s => mk_Stream_Shares_L1 x k y s) (fun j s => Ok ⟨s.2.1, s.2.2⟩ (b + 20 * k + 3 * j) ∧ s.1.length ≤ 5 * k + j)
        (xs := xs) (s := (t.1, t.2.1, t.2.2)) (by omega) (fun j y v hym hj ⟨j1, j2⟩ => by
          have hj5 : j < 5 := by omega
          obtain ⟨c, s1, a1, a2⟩ := flip_ok _ 2 j1 (by omega) (by decide) (by decide)
          have hsu := suitsR x y (by have := (hc x hxm).2.2.1; omega) (by have := (hx y hym).2.1; omega)
          obtain ⟨w, s2, e1, e2⟩ : ∃ (w : Bool) (s2 : Stream), ((mk_Stream_Flip (⟨v.2.1, v.2.2⟩ : Stream) 2).bind fun r_33 => bif r_33.1 then (ref_SuitsOf x y).bind fun r_37 => bif r_37 then some (true, r_33.2.L, r_33.2.f_at) else (mk_Stream_Flip r_33.2 12).bind fun r_40 => some (r_40.1, r_40.2.L, r_40.2.f_at) else some (false, r_33.2.L, r_33.2.f_at)) = some (w, s2.L, s2.f_at) ∧ Ok s2 (b + 20 * k + 3 * j + 2) := by
            rw [a1, Option.bind_some]
            cases c with
            | false => exact ⟨false, s1, rfl, a2.mono (by omega)⟩
            | true =>
              simp only [cond_true, hsu, Option.bind_some]
              cases suitB x y with
              | true => exact ⟨true, s1, rfl, a2.mono (by omega)⟩
              | false =>
                obtain ⟨d, s2, b1, b2⟩ := flip_ok s1 12 a2 (by omega) (by decide) (by decide)
                exact ⟨d, s2, by simp only [cond_false, b1, Option.bind_some], b2.mono (by omega)⟩
          unfold mk_Stream_Shares_L1
          rw [e1, Option.bind_some]
          cases w with
          | false => exact ⟨_, rfl, e2.mono (by omega), by show v.1.length ≤ _; omega⟩
          | true =>
            have e3 : (⟨s2.L, s2.f_at⟩ : Stream) = s2 := rfl
            obtain ⟨p, s3, p1, _, p2⟩ := pick_ok s2 [1, 1, 1, 2, 0] e2 (by omega) (by simp) (by simp)
            simp only [cond_true, e3, p1, Option.bind_some, appL_ok v.1 [_] (show v.1.length + [_].length ≤ _ by simp; omega)]
            exact ⟨_, rfl, p2.mono (by omega), by simp; omega⟩) ⟨by simpa using i1, by simpa using i2⟩
      simp only [mk_Stream_Shares_L2, m1, Option.bind_some, thenC_go]
      exact ⟨_, rfl, m2.mono (by omega), by show u.1.length ≤ 5 * (k + 1); omega⟩) ⟨by simpa using hs, by simp⟩
  rw [g1, Option.bind_some, thenC_go]
  have hlen : t.1.length ≤ 20 := by omega
  have hok : Ok ⟨t.2.1, t.2.2⟩ (b + 80) := g2.mono (by omega)
  obtain ⟨w, s2, e1, e2, e3⟩ : ∃ (w : Bool) (s2 : Stream), (bif decide ((t.1.length : Int) > 0) then (mk_Stream_Flip (⟨t.2.1, t.2.2⟩ : Stream) 12).bind fun r_56 => some (r_56.1, r_56.2.L, r_56.2.f_at) else some (false, t.2.1, t.2.2)) = some (w, s2.L, s2.f_at) ∧ Ok s2 (b + 81) ∧ (w = true → 0 < t.1.length) := by
    cases hd : decide ((t.1.length : Int) > 0) with
    | true =>
      obtain ⟨c, s2, k1, k2⟩ := flip_ok _ 12 hok (by omega) (by decide) (by decide)
      simp only [decide_eq_true_eq] at hd
      exact ⟨c, s2, by simp only [cond_true, k1, Option.bind_some], k2.mono (by omega), fun _ => by omega⟩
    | false => exact ⟨false, ⟨t.2.1, t.2.2⟩, rfl, hok.mono (by omega), fun h => by cases h⟩
  rw [e1, Option.bind_some]
  cases w with
  | false => exact ⟨_, _, rfl, hlen⟩
  | true =>
    have hpos := e3 rfl
    have e4 : (⟨s2.L, s2.f_at⟩ : Stream) = s2 := rfl
    obtain ⟨i, s3, k1, k2, k3, k4⟩ := next_ok s2 t.1.length e2 (by omega) (by omega) (by omega)
    have hi : 0 + i.toNat < t.1.length := by omega
    have hset : ∀ a, 0 + i.toNat < (t.1.set (0 + i.toNat) a).length := fun a => by simpa using hi
    obtain ⟨p, s4, n1, n2, n3⟩ := some_ok s3 [t.1[0 + i.toNat].Campaign, (⟨#[110, 111, 110, 101]⟩ : ByteArray)] k4 (by omega) (by simp) (by simp)
    obtain ⟨q, s5, n4, n5, n6⟩ := some_ok s4 [t.1[0 + i.toNat].Spot, (⟨#[110, 111, 110, 101]⟩ : ByteArray), (⟨#[115, 97]⟩ : ByteArray)] n3 (by omega) (by simp) (by simp)
    simp only [cond_true, e4, k1, Option.bind_some, inR_ok k2 k3, get_at hi, n1, n4, set_at hi, set_at (hset _), List.set_set]
    exact ⟨_, _, rfl, by simpa using hlen⟩

/-! ### the fault of a share -/
def searchB (a : List ByteArray) : Bool := true
theorem campAt_eq (l : List Campaign) (t : ByteArray) (hr : RisesK Campaign.Key l) (hl : l.length ≤ 1000) : ∃ i : Int, booking_campAt l t = some (i, (findI Campaign.Key t l).isSome) ∧ ∀ j, findI Campaign.Key t l = some j → i = (j : Int) := by
  obtain ⟨i, h1, h2⟩ := bsf_eq (key := Campaign.Key) (cmp := fun x0 x1 => booking_campAt_1 x0 x1) (fun _ _ => rfl) l t hr hl
  refine ⟨i, ?_, h2⟩
  have h3 : slices_BinarySearchFunc_api_Campaign_api_Campaign_string l t (fun x0 x1 => booking_campAt_1 x0 x1) = _ := h1
  unfold booking_campAt
  rw [h3, Option.bind_some]
theorem spotAt_eq (l : List Spot) (t : ByteArray) (hr : RisesK Spot.Key l) (hl : l.length ≤ 1000) : ∃ i : Int, booking_spotAt l t = some (i, (findI Spot.Key t l).isSome) ∧ ∀ j, findI Spot.Key t l = some j → i = (j : Int) := by
  obtain ⟨i, h1, h2⟩ := bsf_eq (key := Spot.Key) (cmp := fun x0 x1 => booking_spotAt_1 x0 x1) (fun _ _ => rfl) l t hr hl
  refine ⟨i, ?_, h2⟩
  have h3 : slices_BinarySearchFunc_api_Spot_api_Spot_string l t (fun x0 x1 => booking_spotAt_1 x0 x1) = _ := h1
  unfold booking_spotAt
  rw [h3, Option.bind_some]
theorem campIx (l : List Campaign) (x : Share) (hl : l.length ≤ 1000) : slices_IndexFunc_api_Campaign_api_Campaign l (fun x0 => ref_SharesFault_1 x0 x) = some (match findI Campaign.Key x.Campaign l with | some j => (j : Int) | none => -1) :=
  ifF_eq (key := Campaign.Key) (t := x.Campaign) l (fun y _ => by show some (sEq y.Key x.Campaign) = _; rw [sEq_dec]) (by omega)
theorem spotIx (l : List Spot) (x : Share) (hl : l.length ≤ 1000) : slices_IndexFunc_api_Spot_api_Spot l (fun x0 => ref_SharesFault_2 x0 x) = some (match findI Spot.Key x.Spot l with | some j => (j : Int) | none => -1) :=
  ifF_eq (key := Spot.Key) (t := x.Spot) l (fun y _ => by show some (sEq y.Key x.Spot) = _; rw [sEq_dec]) (by omega)
theorem out1_eq (n hi : Int) : kit_Outside n 1 hi = some (decide (n < 1) || decide (n > hi)) := by
  unfold kit_Outside
  cases decide (n < 1) <;> cases decide (n > hi) <;> rfl
theorem in1_eq (n hi : Int) : ref_in n 1 hi = some (!(decide (n < 1) || decide (n > hi))) := by
  unfold ref_in
  have e1 : decide ((1 : Int) ≤ n) = !decide (n < 1) := by rw [Bool.eq_iff_iff]; simp
  have e2 : decide (n ≤ hi) = !decide (n > hi) := by rw [Bool.eq_iff_iff]; simp
  rw [e1, e2]
  cases decide (n < 1) <;> cases decide (n > hi) <;> rfl
/-- Is a pair of keys behind another one, in order? -/
def notBehind (a b x y : ByteArray) : Bool := sLt x a || (sEq x a && sLe y b)
theorem cmpS_eq (a b : ByteArray) : cmp_Compare_string a b = some (cmpB a b) := by
  have hn : ∀ x, cmp_isNaN_string x = some false := fun x => by unfold cmp_isNaN_string; rw [sNe_dec]; simp
  unfold cmp_Compare_string
  simp only [hn, Option.bind_some, cond_false]
  rcases cmpB_spec a b with ⟨h, k⟩ | ⟨h, k⟩ | ⟨h, k⟩
  · rw [(sLt_iff a b).2 h, k]; rfl
  · have h1 : sLt a b = false := by rw [← Bool.not_eq_true, sLt_iff, h]; exact lt_irr _
    have h2 : sGt a b = false := by rw [← Bool.not_eq_true, sGt_iff, h]; exact lt_irr _
    rw [h1, h2, k]; rfl
  · have h1 : sLt a b = false := by rw [← Bool.not_eq_true, sLt_iff]; exact fun h' => lt_irr _ (lt_trans h h')
    rw [h1, (sGt_iff a b).2 h, k]; rfl
theorem pair_cmp (a b x y : ByteArray) : ∃ r, slices_Compare_string_string ([a, b] : List ByteArray) ([x, y] : List ByteArray) = some r ∧ decide (r ≥ 0) = notBehind a b x y := by
  unfold slices_Compare_string_string
  rw [forL_eq (by simp)]
  have d1 : decide (((0 : Nat) : Int) ≥ (([x, y] : List ByteArray).length : Int)) = false := by simp
  have d2 : decide (((0 + 1 : Nat) : Int) ≥ (([x, y] : List ByteArray).length : Int)) = false := by simp
  have i1 : idx ([x, y] : List ByteArray) ((0 : Nat) : Int) = some x := rfl
  have i2 : idx ([x, y] : List ByteArray) ((0 + 1 : Nat) : Int) = some y := rfl
  simp only [forR, slices_Compare_string_string_L1, d1, d2, cond_false, i1, i2, Option.bind_some, cmpS_eq]
  rcases cmpB_spec a x with ⟨h, k⟩ | ⟨h, k⟩ | ⟨h, k⟩
  · rw [k]
    have h1 : sLt x a = false := by rw [← Bool.not_eq_true, sLt_iff]; exact fun h' => lt_irr _ (lt_trans h h')
    have h2 : sEq x a = false := by rw [sEq_dec]; exact decide_eq_false (fun e => lt_irr _ (e ▸ h))
    exact ⟨_, rfl, by unfold notBehind; rw [h1, h2]; rfl⟩
  · rw [k]
    have h1 : sLt x a = false := by rw [← Bool.not_eq_true, sLt_iff, h]; exact lt_irr _
    have h2 : sEq x a = true := (sEq_iff _ _).2 h.symm
    simp only [show ((0 : Int) != 0) = false from rfl, cond_false, Option.bind_some]
    rcases cmpB_spec b y with ⟨g, k2⟩ | ⟨g, k2⟩ | ⟨g, k2⟩
    · rw [k2]
      have h3 : sLe y b = false := by rw [← Bool.not_eq_true, sLe_iff]; exact fun h' => h' g
      exact ⟨_, rfl, by unfold notBehind; rw [h1, h2, h3]; rfl⟩
    · rw [k2]
      have h3 : sLe y b = true := (sLe_iff _ _).2 (by rw [g]; exact lt_irr _)
      refine ⟨0, rfl, by unfold notBehind; rw [h1, h2, h3]; rfl⟩
    · rw [k2]
      have h3 : sLe y b = true := (sLe_iff _ _).2 (fun h' => lt_irr _ (lt_trans g h'))
      refine ⟨1, rfl, by unfold notBehind; rw [h1, h2, h3]; rfl⟩
  · rw [k]
    have h1 : sLt x a = true := (sLt_iff _ _).2 h
    exact ⟨_, rfl, by unfold notBehind; rw [h1]; rfl⟩
def behindF (s : List Share) (k : Nat) (x : Share) : Bool := if k = 0 then false else match s[k - 1]? with | some y => notBehind y.Campaign y.Spot x.Campaign x.Spot | none => false
def shareF (xs : List Spot) (cs : List Campaign) (s : List Share) (k : Nat) (x : Share) : Int :=
  match findI Campaign.Key x.Campaign cs, findI Spot.Key x.Spot xs with
  | some i, some j => match cs[i]?, xs[j]? with
    | some c, some y => bif !suitB c y then 16 else bif decide (x.Many < 1) || decide (x.Many > c.Most) then 1 else bif behindF s k x then 7 else 0
    | _, _ => 8
  | _, _ => 8
theorem shareK (xs : List Spot) (cs : List Campaign) (s : List Share) (k : Nat) (x : Share) (hx : s[k]? = some x) (hl : s.length ≤ 1000000) (h1 : spotsF xs = 0) (h2 : campsF cs = 0) (hc : ∀ y ∈ cs, GoodC y) :
    booking_shareFault xs cs s (k : Int) = some (shareF xs cs s k x) := by
  obtain ⟨r1, l1⟩ := spots_rise h1
  obtain ⟨r2, l2⟩ := camps_rise h2
  obtain ⟨ci, c1, c2⟩ := campAt_eq cs x.Campaign r2 (by omega)
  obtain ⟨si, s1, s2⟩ := spotAt_eq xs x.Spot r1 (by omega)
  unfold booking_shareFault shareF
  simp only [idx_nat, hx, Option.bind_some, c1, s1]
  cases hf1 : findI Campaign.Key x.Campaign cs with
  | none => rfl
  | some i =>
    cases hf2 : findI Spot.Key x.Spot xs with
    | none => rfl
    | some j =>
      obtain ⟨hi, _⟩ := findI_some hf1
      obtain ⟨hj, _⟩ := findI_some hf2
      rw [c2 i hf1, s2 j hf2]
      simp only [Option.isSome_some, Bool.not_true, cond_false, Option.bind_some, idx_nat, List.getElem?_eq_getElem hi, List.getElem?_eq_getElem hj,
        suitsK cs[i] xs[j] (by have := (hc _ (List.getElem_mem hi)).2.2.1; omega) (spotsF_0 h1 _ (List.getElem_mem hj)), out1_eq]
      cases suitB cs[i] xs[j] with
      | false => rfl
      | true =>
        simp only [Bool.not_true, cond_false]
        cases (decide (x.Many < 1) || decide (x.Many > cs[i].Most)) with
        | true => rfl
        | false =>
          simp only [cond_false]
          have hbeh : (bif (decide ((k : Int) > 0)) then (idx s (w64 ((k : Int) - 1))).bind fun y_31 => bif (sLt x.Campaign y_31.Campaign) then some true else (idx s (w64 ((k : Int) - 1))).bind fun y_34 => bif (sEq x.Campaign y_34.Campaign) then (idx s (w64 ((k : Int) - 1))).bind fun y_37 => some (sLe x.Spot y_37.Spot) else some false else some false) = some (behindF s k x) := by
            by_cases hk : 0 < k
            · obtain ⟨y, g1, g2⟩ := idx_prev hx hk (by omega)
              have hd : decide ((k : Int) > 0) = true := by simp; omega
              simp only [hd, cond_true, g1, Option.bind_some, behindF, if_neg (show ¬ k = 0 by omega), g2, notBehind]
              cases sLt x.Campaign y.Campaign <;> cases sEq x.Campaign y.Campaign <;> simp
            · have hk0 : k = 0 := by omega
              subst hk0; rfl
          rw [hbeh, Option.bind_some]
          cases behindF s k x <;> rfl
theorem stepR (xs : List Spot) (cs : List Campaign) (s : List Share) (k : Nat) (x : Share) (u : List (ByteArray × Int) × List (ByteArray × Int)) (hx : s[k]? = some x) (hl : s.length ≤ 1000000) (l1 : xs.length ≤ 60) (l2 : cs.length ≤ 30) (hg : ∀ y ∈ xs, GoodS y) (hc : ∀ y ∈ cs, GoodC y) :
    ref_SharesFault_L1 cs xs s k x u = some (bif shareF xs cs s k x != 0 then .ret (shareF xs cs s k x) else .go ((mSet eqS u.1 x.Spot (w64 (((mGet eqS u.1 x.Spot).getD 0) + x.Many))), (mSet eqS u.2 x.Campaign (w64 (((mGet eqS u.2 x.Campaign).getD 0) + x.Many))))) := by
  unfold ref_SharesFault_L1 shareF
  simp only [campIx cs x (by omega), spotIx xs x (by omega), Option.bind_some]
  cases hf1 : findI Campaign.Key x.Campaign cs with
  | none => rfl
  | some i =>
    have e1 : decide ((i : Int) < 0) = false := by simp
    cases hf2 : findI Spot.Key x.Spot xs with
    | none => simp only [e1, cond_false, Option.bind_some]; rfl
    | some j =>
      have e2 : decide ((j : Int) < 0) = false := by simp
      obtain ⟨hi, _⟩ := findI_some hf1
      obtain ⟨hj, _⟩ := findI_some hf2
      simp only [e1, e2, cond_false, Option.bind_some, idx_nat, List.getElem?_eq_getElem hi, List.getElem?_eq_getElem hj,
        suitsR cs[i] xs[j] (by have := (hc _ (List.getElem_mem hi)).2.2.1; omega) (by have := (hg _ (List.getElem_mem hj)).2.1; omega), in1_eq, Bool.not_not]
      cases suitB cs[i] xs[j] with
      | false => rfl
      | true =>
        simp only [Bool.not_true, cond_false]
        cases (decide (x.Many < 1) || decide (x.Many > cs[i].Most)) with
        | true => rfl
        | false =>
          simp only [cond_false]
          have hbeh : (bif (decide ((k : Int) > 0)) then (idx s (w64 ((k : Int) - 1))).bind fun y_43 => (idx s (w64 ((k : Int) - 1))).bind fun y_45 => (slices_Compare_string_string ([y_43.Campaign, y_45.Spot] : List ByteArray) ([x.Campaign, x.Spot] : List ByteArray)).bind fun r_47 => some (decide (r_47 ≥ 0)) else some false) = some (behindF s k x) := by
            by_cases hk : 0 < k
            · obtain ⟨y, g1, g2⟩ := idx_prev hx hk (by omega)
              have hd : decide ((k : Int) > 0) = true := by simp; omega
              obtain ⟨r, p1, p2⟩ := pair_cmp y.Campaign y.Spot x.Campaign x.Spot
              simp only [hd, cond_true, g1, Option.bind_some, behindF, if_neg (show ¬ k = 0 by omega), g2, p1, p2]
            · have hk0 : k = 0 := by omega
              subst hk0; rfl
          rw [hbeh, Option.bind_some]
          cases behindF s k x <;> rfl
theorem stepK (xs : List Spot) (cs : List Campaign) (s : List Share) (k : Nat) (x : Share) (u : List (ByteArray × Int) × List (ByteArray × Int)) (hx : s[k]? = some x) (hl : s.length ≤ 1000000) (h1 : spotsF xs = 0) (h2 : campsF cs = 0) (hc : ∀ y ∈ cs, GoodC y) :
    booking_CheckShares_L1 xs cs s k x u = some (bif shareF xs cs s k x != 0 then .ret (shareF xs cs s k x) else .go ((mSet eqS u.1 x.Spot (w64 (((mGet eqS u.1 x.Spot).getD 0) + x.Many))), (mSet eqS u.2 x.Campaign (w64 (((mGet eqS u.2 x.Campaign).getD 0) + x.Many))))) := by
  unfold booking_CheckShares_L1
  rw [shareK xs cs s k x hx hl h1 h2 hc, Option.bind_some]
  cases (shareF xs cs s k x != 0) <;> rfl

/-- Two loops over the same list whose rounds are the same. -/
theorem forR_same {α σ ρ : Type} {b1 b2 : Nat → α → σ → Option (Ctl σ ρ)} (l : List α) : ∀ (xs : List α) (k : Nat) (s : σ), l.drop k = xs → (∀ k x s, l[k]? = some x → b1 k x s = b2 k x s) → forR b1 xs k s = forR b2 xs k s
  | [], k, s, _, _ => rfl
  | x :: xs, k, s, hd, h => by
    rw [forR, forR, h k x s (drop_get hd)]
    congr 1
    funext c
    cases c with
    | go s' => exact forR_same l xs (k + 1) s' (drop_next hd) h
    | brk s' => rfl
    | ret r => rfl
def fullS (xs : List Spot) (m : List (ByteArray × Int)) : Bool := xs.any fun x => decide (((mGet eqS m x.Key).getD 0) > x.Room)
def fullC (cs : List Campaign) (m : List (ByteArray × Int)) : Bool := cs.any fun c => decide (((mGet eqS m c.Key).getD 0) > c.Goal)
theorem any_loop {α : Type} {body : Nat → α → Unit → Option (Ctl Unit Int)} {p : α → Bool} {r : Int} (hb : ∀ k x, body k x () = some (bif p x then .ret r else .go ())) : ∀ (xs : List α) (k : Nat), forR body xs k () = some (bif xs.any p then .ret r else .go ())
  | [], k => rfl
  | x :: xs, k => by
    rw [forR, hb, Option.bind_some, List.any_cons]
    cases p x with
    | true => rfl
    | false => simp only [cond_false, Bool.false_or]; exact any_loop hb xs (k + 1)
theorem checkShares_eq (xs : List Spot) (cs : List Campaign) (s : List Share) (hg : ∀ y ∈ xs, GoodS y) (hc : ∀ y ∈ cs, GoodC y) (l1 : xs.length ≤ 60) (l2 : cs.length ≤ 30) (hl : s.length ≤ 1800) :
    (or0 (spotsF xs) (campsF cs) = 0 → ∃ o, ref_SharesFault xs cs s = some o ∧ booking_CheckShares xs cs s = some o) ∧
    (or0 (spotsF xs) (campsF cs) ≠ 0 → booking_CheckShares xs cs s = some (or0 (spotsF xs) (campsF cs))) := by
  have hlarge : decide ((s.length : Int) > 1800) = false := by simp; omega
  refine ⟨fun h0 => ?_, fun h0 => ?_⟩
  · have h1 : spotsF xs = 0 := by
      unfold or0 at h0
      cases h2 : spotsF xs == 0 with
      | true => exact eq_of_beq h2
      | false => rw [h2] at h0; exact h0
    have h2 : campsF cs = 0 := by
      unfold or0 at h0
      rw [h1] at h0; exact h0
    have hsame : forR (fun k x u => booking_CheckShares_L1 xs cs s k x u) s 0 (([] : List (ByteArray × Int)), ([] : List (ByteArray × Int))) = forR (fun k x u => ref_SharesFault_L1 cs xs s k x u) s 0 (([] : List (ByteArray × Int)), ([] : List (ByteArray × Int))) :=
      forR_same s s 0 _ rfl (fun k x u hx => by rw [stepK xs cs s k x u hx (by omega) h1 h2 hc, stepR xs cs s k x u hx (by omega) l1 l2 hg hc])
    have hrun : ∃ o, forR (fun k x u => ref_SharesFault_L1 cs xs s k x u) s 0 (([] : List (ByteArray × Int)), ([] : List (ByteArray × Int))) = some o ∧ ∀ u, o ≠ .brk u := by
      have key : ∀ (ys : List Share) (k : Nat) (u : List (ByteArray × Int) × List (ByteArray × Int)), s.drop k = ys → ∃ o, forR (fun k x u => ref_SharesFault_L1 cs xs s k x u) ys k u = some o ∧ ∀ u, o ≠ .brk u := by
        intro ys
        induction ys with
        | nil => exact fun k u _ => ⟨_, rfl, fun u h => by cases h⟩
        | cons x ys ih =>
          intro k u hd
          rw [forR, stepR xs cs s k x u (drop_get hd) (by omega) l1 l2 hg hc, Option.bind_some]
          cases (shareF xs cs s k x != 0) with
          | true => exact ⟨_, rfl, fun u h => by cases h⟩
          | false => exact ih (k + 1) _ (drop_next hd)
      exact key s 0 _ rfl
    obtain ⟨o, ho, hnb⟩ := hrun
    have hK : booking_CheckShares xs cs s = thenC o (fun s_17 => ((slices_ContainsFunc_api_Spot_api_Spot xs (fun x0 => booking_CheckShares_1 x0 s_17.1)).bind fun r_28 => bif r_28 then some true else (slices_ContainsFunc_api_Campaign_api_Campaign cs (fun x0 => booking_CheckShares_2 x0 s_17.2)).bind fun r_32 => some r_32).bind fun v_26 => bif v_26 then some 12 else some 0) (fun r => some r) := by
      unfold booking_CheckShares
      rw [both_eq xs cs hg hc (by omega) (by omega), Option.bind_some, h0, hlarge, forL_eq (by omega), hsame, ho]
      rfl
    have hR : ref_SharesFault xs cs s = thenC o (fun s_12 => (forL xs () (fun k x s => ref_SharesFault_L2 s_12 k x s)).bind fun o_58 => thenC o_58 (fun s_55 => (forL cs () (fun k x s => ref_SharesFault_L3 s_12 k x s)).bind fun o_70 => thenC o_70 (fun s_67 => some 0) (fun r => some r)) (fun r => some r)) (fun r => some r) := by
      unfold ref_SharesFault
      rw [hlarge, forL_eq (by omega), ho]
      rfl
    cases o with
    | ret r => exact ⟨r, hR, hK⟩
    | brk u => exact absurd rfl (hnb u)
    | go u =>
      refine ⟨bif fullS xs u.1 then 12 else bif fullC cs u.2 then 12 else 0, ?_, ?_⟩
      · rw [hR, thenC_go, forL_eq (by omega), any_loop (p := fun x => decide (((mGet eqS u.1 x.Key).getD 0) > x.Room)) (r := 12) (fun k x => by unfold ref_SharesFault_L2; cases decide (((mGet eqS u.1 x.Key).getD 0) > x.Room) <;> rfl), Option.bind_some]
        unfold fullS fullC
        cases (xs.any fun x => decide (((mGet eqS u.1 x.Key).getD 0) > x.Room)) with
        | true => rfl
        | false =>
          simp only [cond_false, thenC_go]
          rw [forL_eq (by omega), any_loop (p := fun x : Campaign => decide (((mGet eqS u.2 x.Key).getD 0) > x.Goal)) (r := 12) (fun k x => by unfold ref_SharesFault_L3; cases decide (((mGet eqS u.2 x.Key).getD 0) > x.Goal) <;> rfl), Option.bind_some]
          cases (cs.any fun x => decide (((mGet eqS u.2 x.Key).getD 0) > x.Goal)) <;> rfl
      · obtain ⟨r1, a1, a2⟩ := ifAny (f := fun x0 => booking_CheckShares_1 x0 u.1) (p := fun x => decide (((mGet eqS u.1 x.Key).getD 0) > x.Room)) xs (fun x _ => rfl) (by omega)
        obtain ⟨r2, b1, b2⟩ := ifAny (f := fun x0 => booking_CheckShares_2 x0 u.2) (p := fun x : Campaign => decide (((mGet eqS u.2 x.Key).getD 0) > x.Goal)) cs (fun x _ => rfl) (by omega)
        have a3 : slices_ContainsFunc_api_Spot_api_Spot xs (fun x0 => booking_CheckShares_1 x0 u.1) = some (fullS xs u.1) := by
          unfold slices_ContainsFunc_api_Spot_api_Spot fullS
          have : slices_IndexFunc_api_Spot_api_Spot xs (fun x0 => booking_CheckShares_1 x0 u.1) = some r1 := a1
          rw [this, Option.bind_some, a2]
        have b3 : slices_ContainsFunc_api_Campaign_api_Campaign cs (fun x0 => booking_CheckShares_2 x0 u.2) = some (fullC cs u.2) := by
          unfold slices_ContainsFunc_api_Campaign_api_Campaign fullC
          have : slices_IndexFunc_api_Campaign_api_Campaign cs (fun x0 => booking_CheckShares_2 x0 u.2) = some r2 := b1
          rw [this, Option.bind_some, b2]
        rw [hK, thenC_go, a3, Option.bind_some, b3]
        cases fullS xs u.1 <;> cases fullC cs u.2 <;> rfl
  · unfold booking_CheckShares
    rw [both_eq xs cs hg hc (by omega) (by omega), Option.bind_some]
    have : (or0 (spotsF xs) (campsF cs) != 0) = true := by simpa using h0
    rw [this]; rfl

theorem sharesCheck (l : List Int) : law_SharesCheck l = some true := by
  obtain ⟨x, c, e, s', h1, h2, h3, h4, h5, h6, h7⟩ := office_ok ⟨l, 0⟩ ⟨Int.le_refl _, Int.le_refl _⟩
  obtain ⟨y, s2, g1, g2⟩ := shares_ok s' x c h2 h4 h3 h5 h7 (by decide)
  obtain ⟨k1, k2⟩ := checkShares_eq x c y h2 h4 (by omega) (by omega) (by omega)
  simp only [law_SharesCheck, h1, g1, Option.bind_some]
  rw [h6]
  cases he : or0 (spotsF x) (campsF c) == 0 with
  | true =>
    obtain ⟨o, r1, r2⟩ := k1 (eq_of_beq he)
    simp only [cond_true, r1, r2, Option.bind_some, beq_self_eq_true, booked_ok]
  | false =>
    have := k2 (by simpa using he)
    simp only [cond_false, this, Option.bind_some, beq_self_eq_true, cond_true, booked_ok]
end Go.Proofs.Ytkjnmkompibhgaa.Law
