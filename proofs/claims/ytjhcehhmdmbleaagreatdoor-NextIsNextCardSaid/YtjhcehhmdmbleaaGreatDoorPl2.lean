/-
  THE PLAIN LAW (part 2).
-/
import Derived.Test.YtjhcehhmdmbleaaGreatDoorPl1
import Derived.Test.YtjhcehhmdmbleaaGreatDoorDefs
import Derived.Test.YtjhcehhmdmbleaaGreatDoorEng5
open Go Go.Eng
namespace Go.Proofs.YtjhcehhmdmbleaaGreatDoor.Law
set_option linter.unusedVariables false
set_option linter.unusedSimpArgs false
theorem Aq {σ ρ : Type} {body : σ → Option (Ctl σ ρ)} (I : Nat → σ → Prop) (N : Nat) (hgo : ∀ k s, k < N → I k s → ∃ s', body s = some (.go s') ∧ I (k + 1) s') (hbrk : ∀ s, I N s → body s = some (.brk s)) {s : σ} (h0 : I 0 s) : ∃ s', fD s body = some (.go s') ∧ I N s' := by
  have key : ∀ (n k : Nat) (s : σ), k + n = N → I k s → ∃ s', iterN body (n + 1) s = some (.go s') ∧ I N s' := by
    intro n
    induction n with
    | zero => intro k s hk hI
              have e : k = N := by omega
              subst e
              exact ⟨s, by simp only [iterN, hbrk s hI, Option.bind_some], hI⟩
    | succ n ih => intro k s hk hI
                   obtain ⟨s', e, hI'⟩ := hgo k s (by omega) hI
                   obtain ⟨r, er, hr⟩ := ih (k + 1) s' (by omega) hI'
                   refine ⟨r, ?_, hr⟩
                   rw [iterN, e, Option.bind_some]; exact er
  obtain ⟨s', e, hI⟩ := key N 0 s (by omega) h0
  exact ⟨s', gD e, hI⟩
def iO (f : Int → ByteArray) (T : Int) : Int → List Slot_ → Prop
  | F, [] => F = T
  | F, x :: r => x.Time.From = F ∧ F < x.Time.To ∧ x.Time.To ≤ T ∧ (∀ t, F ≤ t → t < x.Time.To → f t = x.Entry) ∧ (∀ y, r.head? = some y → y.Entry ≠ x.Entry) ∧ iO f T x.Time.To r
theorem iO.le {f : Int → ByteArray} {T : Int} : ∀ {l : List Slot_} {F : Int}, iO f T F l → F ≤ T
  | [], F, h => by unfold iO at h; omega
  | x :: r, F, h => by unfold iO at h; omega
def vU (id : ByteArray) (F T : Int) : List Slot_ → List Slot_
  | [] => [⟨⟨F, T⟩, id⟩]
  | [x] => if x.Entry = id then [⟨⟨x.Time.From, T⟩, x.Entry⟩] else [x, ⟨⟨F, T⟩, id⟩]
  | x :: y :: r => x :: vU id F T (y :: r)
theorem KP (id : ByteArray) (F T : Int) : ∀ (y : Slot_) (r : List Slot_), ∃ z, (vU id F T (y :: r)).head? = some z ∧ z.Entry = y.Entry
  | y, [] => by
    unfold vU
    split
    · exact ⟨_, rfl, rfl⟩
    · exact ⟨_, rfl, rfl⟩
  | y, z :: r => ⟨y, rfl, rfl⟩
theorem iO.add {f : Int → ByteArray} {id : ByteArray} {F T : Int} (hT : F < T) (hf : ∀ t, F ≤ t → t < T → f t = id) : ∀ (out : List Slot_) (F0 : Int), iO f F F0 out → iO f T F0 (vU id F T out)
  | [], F0, h => by
    unfold iO at h
    subst h
    unfold vU iO
    exact ⟨rfl, hT, Int.le_refl _, hf, fun y hy => (by cases hy), (by unfold iO; rfl)⟩
  | [x], F0, h => by
    unfold iO at h
    obtain ⟨h1, h2, h3, h4, h5, h6⟩ := h
    unfold iO at h6
    unfold vU
    by_cases he : x.Entry = id
    · rw [if_pos he]
      unfold iO
      refine ⟨h1, (by show F0 < T; omega), Int.le_refl _, fun t t1 t2 => ?_, fun y hy => (by cases hy), (by unfold iO; rfl)⟩
      by_cases ht : t < F
      · exact h4 t t1 (by omega)
      · exact (hf t (by omega) t2).trans he.symm
    · rw [if_neg he]
      unfold iO
      refine ⟨h1, h2, by omega, h4, fun y hy => ?_, ?_⟩
      · rw [← Option.some.inj hy]; exact fun e => he e.symm
      · unfold iO
        exact ⟨h6.symm, (by show x.Time.To < T; omega), Int.le_refl _, fun t t1 t2 => hf t (by omega) t2, fun y hy => (by cases hy), (by unfold iO; rfl)⟩
  | x :: y :: r, F0, h => by
    unfold iO at h
    obtain ⟨h1, h2, h3, h4, h5, h6⟩ := h
    have ih := iO.add hT hf (y :: r) _ h6
    unfold vU
    unfold iO
    refine ⟨h1, h2, by omega, h4, fun z hz => ?_, ih⟩
    obtain ⟨z', e1, e2⟩ := KP id F T y r
    rw [e1] at hz
    rw [← Option.some.inj hz, e2]
    exact h5 y rfl
theorem G8 (id : ByteArray) (F T : Int) : ∀ (out : List Slot_) (n : Nat) (x : Slot_), out.length = n + 1 → out[n]? = some x → x.Entry = id → vU id F T out = out.set n ⟨⟨x.Time.From, T⟩, x.Entry⟩
  | [], n, x, h, _, _ => by simp at h
  | [y], 0, x, _, hx, he => by
    simp only [List.getElem?_cons_zero, Option.some.injEq] at hx
    subst hx
    unfold vU
    rw [if_pos he]; rfl
  | [y], n + 1, x, h, _, _ => by simp at h
  | y :: z :: r, 0, x, h, _, _ => by simp at h
  | y :: z :: r, n + 1, x, h, hx, he => by
    unfold vU
    rw [G8 id F T (z :: r) n x (by simpa using h) (by simpa using hx) he]; rfl
theorem GX (id : ByteArray) (F T : Int) : ∀ (out : List Slot_), (∀ (n : Nat) (x : Slot_), out.length = n + 1 → out[n]? = some x → x.Entry ≠ id) → vU id F T out = out ++ [⟨⟨F, T⟩, id⟩]
  | [], _ => rfl
  | [y], h => by
    unfold vU
    rw [if_neg (h 0 y rfl rfl)]; rfl
  | y :: z :: r, h => by
    unfold vU
    rw [GX id F T (z :: r) (fun n x h1 h2 => h (n + 1) x (by simp only [List.length_cons] at *; omega) (by simpa using h2))]; rfl
theorem G7 (id : ByteArray) (F T : Int) : ∀ (out : List Slot_), (vU id F T out).length ≤ out.length + 1
  | [] => by simp [vU]
  | [y] => by unfold vU; split <;> simp
  | y :: z :: r => by
    have := G7 id F T (z :: r)
    unfold vU
    simp only [List.length_cons] at *; omega
theorem Mi {E : List Int} (hE : E.Pairwise (· < ·)) {i : Nat} {a b : Int} (ha : E[i]? = some a) (hb : E[i + 1]? = some b) {x : Int} (hx : x ∈ E) : x ≤ a ∨ b ≤ x := by
  obtain ⟨j, hj, rfl⟩ := List.getElem_of_mem hx
  obtain ⟨h1, e1⟩ := List.getElem?_eq_some_iff.1 ha
  obtain ⟨h2, e2⟩ := List.getElem?_eq_some_iff.1 hb
  have hp := List.pairwise_iff_getElem.1 hE
  by_cases hji : j < i
  · left; have := hp j i hj h1 hji; omega
  · by_cases hji2 : j = i
    · subst hji2; left; omega
    · by_cases hj3 : j = i + 1
      · subst hj3; right; omega
      · right; have := hp (i + 1) j h2 hj (by omega); omega
theorem KS {E : List Int} (hE : E.Pairwise (· < ·)) {i : Nat} {a b : Int} (ha : E[i]? = some a) (hb : E[i + 1]? = some b) : a < b := by
  obtain ⟨h1, e1⟩ := List.getElem?_eq_some_iff.1 ha
  obtain ⟨h2, e2⟩ := List.getElem?_eq_some_iff.1 hb
  have := List.pairwise_iff_getElem.1 hE i (i + 1) h1 h2 (by omega)
  omega
theorem KN {E : List Int} (hE : E.Pairwise (· < ·)) {F T : Int} (hF : F ∈ E) (hT : T ∈ E) (hin : ∀ x ∈ E, F ≤ x ∧ x ≤ T) : E[0]? = some F ∧ E[E.length - 1]? = some T := by
  have hp := List.pairwise_iff_getElem.1 hE
  obtain ⟨i, hi, ei⟩ := List.getElem_of_mem hF
  obtain ⟨j, hj, ej⟩ := List.getElem_of_mem hT
  constructor
  · rw [List.getElem?_eq_getElem (by omega)]
    by_cases h0 : i = 0
    · subst h0; rw [ei]
    · have h1 := hp 0 i (by omega) hi (by omega)
      have h2 := (hin E[0] (List.getElem_mem _)).1
      omega
  · rw [List.getElem?_eq_getElem (by omega)]
    by_cases h0 : j = E.length - 1
    · subst h0; rw [ej]
    · have h1 := hp j (E.length - 1) hj (by omega) (by omega)
      have h2 := (hin E[E.length - 1] (List.getElem_mem _)).2
      omega
theorem KL {α : Type} {R : α → α → Prop} (has : ∀ a b, R a b → ¬ R b a) {a b : List α} (h : a.Perm b) (ha : a.Pairwise R) (hb : b.Pairwise R) : a = b :=
  List.Perm.eq_of_pairwise (fun x y _ _ h1 h2 => absurd h2 (has x y h1)) ha hb h
end Go.Proofs.YtjhcehhmdmbleaaGreatDoor.Law

open Go Go.Eng
namespace Go.Proofs.YtjhcehhmdmbleaaGreatDoor.Law
set_option linter.unusedVariables false
set_option linter.unusedSimpArgs false
def Kr {α:Type} (r:α→α→Bool) (x:α):List α→List α
 | [] => [x]
 | y::l=>bif r x y then x::y::l else y::Kr r x l
def Ji {α:Type} (r:α→α→Bool):List α→List α
 | [] => []
 | x::l=>Kr r x (Ji r l)
theorem Aa {α:Type} (r:α→α→Bool) (x:α):∀ l,(Kr r x l).Perm (x::l)
 | [] => .refl _
 | y::l=>by
  unfold Kr
  cases r x y with
  | true=>exact .refl _
  | false=>exact ((Aa r x l).cons y).trans (List.Perm.swap x y l)
theorem xG {α:Type} (r:α→α→Bool):∀ l,(Ji r l).Perm l
 | [] => .refl _
 | x::l=>(Aa r x _).trans ((xG r l).cons x)
theorem Bn {α:Type} {r:α→α→Bool} (htr:∀ a b c,r a b=true→r b c=true→r a c=true) {x:α}:∀ {l:List α},(∀ y∈l,r x y=true∨r y x=true)→l.Pairwise (fun a b=>r a b=true)→(Kr r x l).Pairwise (fun a b=>r a b=true)
 | [],_,_=>List.pairwise_singleton _ _
 | y::l,h,hp=>by
  obtain ⟨p1,p2⟩:=List.pairwise_cons.1 hp
  unfold Kr
  cases hxy:r x y with
  | true =>
   refine List.pairwise_cons.2 ⟨fun z hz => ?_,hp⟩
   rcases List.mem_cons.1 hz with rfl | hz
   ·exact hxy
   ·exact htr _ _ _ hxy (p1 z hz)
  | false =>
   refine List.pairwise_cons.2 ⟨fun z hz => ?_,Bn htr (fun z hz=>h z (List.mem_cons_of_mem _ hz)) p2⟩
   rcases List.mem_cons.1 ((Aa r x l).mem_iff.1 hz)with rfl | hz
   ·exact (h y List.mem_cons_self).resolve_left (by rw [hxy]; exact Bool.false_ne_true)
   ·exact p1 z hz
theorem wN {α:Type} {r:α→α→Bool} (htr:∀ a b c,r a b=true→r b c=true→r a c=true):∀ {l:List α},l.Pairwise (fun a b=>r a b=true∨r b a=true)→(Ji r l).Pairwise (fun a b=>r a b=true)
 | [],_ => .nil
 | x::l,h=>by
  obtain ⟨p1,p2⟩:=List.pairwise_cons.1 h
  exact Bn htr (fun y hy=>p1 y ((xG r l).mem_iff.1 hy)) (wN htr p2)
theorem srtG_is {α:Type} {r:α→α→Bool} (hir:∀ a,r a a=false) (htr:∀ a b c,r a b=true→r b c=true→r a c=true) {l s:List α} (ht:l.Pairwise (fun a b=>r a b=true∨r b a=true)) (hp:s.Perm l) (hs:s.Pairwise (fun a b=>r b a=false)):s=Ji r l:=by
 have hsy:∀ {x y:α},(r x y=true∨r y x=true)→(r y x=true∨r x y=true):=fun h=>h.symm
 have h2:s.Pairwise (fun a b=>r a b=true∨r b a=true):=(hp.pairwise_iff (fun h=>h.symm)).2 ht
 have h3:s.Pairwise (fun a b=>r a b=true):=by
  refine List.Pairwise.imp₂ (fun a b h k => ?_) hs h2
  rcases k with k | k
  ·exact k
  ·rw [h]at k; cases k
 exact KL (R:=fun a b=>r a b=true) (fun a b h k=>by have:=htr a b a h k; rw [hir]at this; cases this) (hp.trans (xG r l).symm) h3 (wN htr ht)
theorem Kg {α:Type} {r:α→α→Bool} (hir:∀ a,r a a=false) (htr:∀ a b c,r a b=true→r b c=true→r a c=true) {l:List α} (ht:l.Pairwise (fun a b=>r a b=true∨r b a=true)) {x:α} (hx:x∈l) (hm:∀ y∈l,r y x=false):∃ t,Ji r l=x::t:=by
 have hs:=wN htr ht
 have hp:=xG r l
 cases h:Ji r l with
 | nil=>rw [h]at hp; have:=hp.symm.mem_iff.1 hx; cases this
 | cons y t =>
  rw [h]at hp hs
  rcases List.mem_cons.1 (hp.mem_iff.2 hx)with e | e
  ·exact⟨t,by rw [e]⟩
  ·have h1:=(List.pairwise_cons.1 hs).1 x e
   rw [hm y (hp.mem_iff.1 List.mem_cons_self)]at h1; cases h1
end Go.Proofs.YtjhcehhmdmbleaaGreatDoor.Law

open Go Go.Eng
namespace Go.Proofs.YtjhcehhmdmbleaaGreatDoor.Law
set_option linter.unusedVariables false
set_option linter.unusedSimpArgs false
def zh (e:Entry) (z t d:Int):Bool := !e.Gone && (decide (e.First≤d) && (decide (d≤e.Last) && (FK e d && (decide (tF e z d≤t) && decide (t < tF e z d + sj e * 60000)))))
theorem lg {e:Entry} {z t d:Int}:zh e z t d=true↔e.Gone=false∧e.First≤d∧d≤e.Last∧FK e d=true∧tF e z d≤t∧t < tF e z d + sj e * 60000:=by
 unfold zh
 simp only [Bool.and_eq_true,decide_eq_true_eq,Bool.not_eq_true']
theorem Jr (e:Entry) (z:Int) {d d':Int} (h:d < d'):tF e z d + 86400000≤tF e z d':=by unfold tF; omega
theorem Hy {e:Entry} (h:Right e) {z t d d':Int} (h1:zh e z t d=true) (h2:zh e z t d'=true):d=d':=by
 obtain ⟨_,_,_,_,a1,a2⟩:=lg.1 h1
 obtain ⟨_,_,_,_,b1,b2⟩:=lg.1 h2
 have hm:=Dp e h
 rcases Int.lt_trichotomy d d' with q | q | q
 ·have:=Jr e z q; omega
 ·exact q
 ·have:=Jr e z q; omega
def Ee (z t:Int):Int:=(t + z * 60000) / 86400000
def D6 (e:Entry) (z t:Int):Option Int :=
 bif zh e z t (Ee z t - 1)then some (tF e z (Ee z t - 1))else bif zh e z t (Ee z t)then some (tF e z (Ee z t))else none
theorem LY {e:Entry} (h:Right e) {z t d:Int} (h1:zh e z t d=true):d=Ee z t - 1∨d=Ee z t:=by
 obtain ⟨_,_,_,_,a1,a2⟩:=lg.1 h1
 have hm:=Dp e h
 have hf:=h.from_
 unfold tF at a1 a2
 unfold Ee
 omega
theorem tZ {e:Entry} (h:Right e) {z t b:Int}:D6 e z t=some b ↔ ∃ d,zh e z t d=true∧b=tF e z d:=by
 unfold D6
 constructor
 ·intro hb
  cases h1:zh e z t (Ee z t - 1)with
  | true=>rw [h1,cond_true,Option.some.injEq]at hb; exact⟨_,h1,hb.symm⟩
  | false =>
   rw [h1,cond_false]at hb
   cases h2:zh e z t (Ee z t)with
   | true=>rw [h2,cond_true,Option.some.injEq]at hb; exact⟨_,h2,hb.symm⟩
   | false=>rw [h2,cond_false]at hb; cases hb
 ·rintro ⟨d,hd,rfl⟩
  rcases LY h hd with e1 | e1
  ·rw [← e1,hd,cond_true]
  ·cases h1:zh e z t (Ee z t - 1)with
   | true=>have:=Hy h hd h1; omega
   | false=>rw [cond_false,← e1,hd,cond_true]
def sO (x y:Entry×Int):Bool:=decide (y.1.Prio < x.1.Prio) || (decide (x.1.Prio=y.1.Prio) && (decide (y.2 < x.2) || (decide (x.2=y.2) && sLt y.1.Key x.1.Key)))
theorem tN {x y:Entry×Int}:sO x y=true↔y.1.Prio < x.1.Prio∨x.1.Prio=y.1.Prio∧(y.2 < x.2∨x.2=y.2∧lt y.1.Key x.1.Key):=by
 unfold sO
 simp only [Bool.or_eq_true,Bool.and_eq_true,decide_eq_true_eq,rP]
theorem wM (x:Entry×Int):sO x x=false:=by
 rw [← Bool.not_eq_true,tN]
 rintro (h | ⟨_,h | ⟨_,h⟩⟩)
 ·omega
 ·omega
 ·exact qc _ h
theorem uu (a b c:Entry×Int) (h:sO a b=true) (k:sO b c=true):sO a c=true:=by
 rw [tN]at *
 rcases h with h | ⟨h,h2⟩ <;> rcases k with k | ⟨k,k2⟩
 ·exact .inl (by omega)
 ·exact .inl (by omega)
 ·exact .inl (by omega)
 ·refine .inr ⟨by omega,?_⟩
  rcases h2 with h2 | ⟨h2,h3⟩ <;> rcases k2 with k2 | ⟨k2,k3⟩
  ·exact .inl (by omega)
  ·exact .inl (by omega)
  ·exact .inl (by omega)
  ·exact .inr ⟨by omega,lt_trans k3 h3⟩
theorem Ms {x y:Entry×Int} (h:x.1.Key≠y.1.Key):sO x y=true∨sO y x=true:=by
 rw [tN,tN]
 rcases Int.lt_trichotomy x.1.Prio y.1.Prio with q | q | q
 ·exact .inr (.inl q)
 ·rcases Int.lt_trichotomy x.2 y.2 with w | w | w
  ·exact .inr (.inr ⟨q.symm,.inl w⟩)
  ·rcases Dh x.1.Key y.1.Key with e | e | e
   ·exact .inr (.inr ⟨q.symm,.inr ⟨w.symm,e⟩⟩)
   ·exact absurd e h
   ·exact .inl (.inr ⟨q,.inr ⟨w,e⟩⟩)
  ·exact .inl (.inr ⟨q,.inl w⟩)
 ·exact .inl (.inl q)
theorem G9 {α β:Type} {f g:α→Option β}:∀ {l:List α},(∀ x∈l,f x=g x)→l.filterMap f=l.filterMap g
 | [],_=>rfl
 | x::l,h=>by
  rw [List.filterMap_cons,List.filterMap_cons,h x (by simp),G9 (fun y hy=>h y (by simp [hy]))]
def x9 (p:Player) (t:Int) (e:Entry):Option (Entry×Int):=bif yA e p then (D6 e p.Zone t).map (fun b=>(e,b))else none
def kS (l:List Entry) (p:Player) (t:Int):List (Entry×Int):=l.filterMap (x9 p t)
def vH (l:List Entry) (p:Player) (t:Int):List (Entry×Int):=Ji sO (kS l p t)
def kG (l:List Entry) (p:Player) (t:Int):ByteArray:=match vH l p t with | []=>⟨#[]⟩ | x::_=>x.1.Key
theorem yV {p:Player} {t:Int} {e:Entry} {x:Entry×Int} (h:x9 p t e=some x):x.1=e∧yA e p=true∧D6 e p.Zone t=some x.2:=by
 unfold x9 at h
 cases hf:yA e p with
 | false=>rw [hf,cond_false]at h; cases h
 | true =>
  rw [hf,cond_true]at h
  cases hb:D6 e p.Zone t with
  | none=>rw [hb]at h; cases h
  | some b=>rw [hb,Option.map_some,Option.some.injEq]at h; rw [← h]; exact⟨rfl,rfl,rfl⟩
theorem Ff {l:List Entry} {p:Player} {t:Int} {x:Entry×Int}:x∈kS l p t↔x.1∈l∧yA x.1 p=true∧D6 x.1 p.Zone t=some x.2:=by
 unfold kS
 rw [List.mem_filterMap]
 constructor
 ·rintro ⟨e,he,h⟩
  obtain ⟨h1,h2,h3⟩:=yV h
  rw [h1]; exact⟨he,h2,h3⟩
 ·rintro ⟨h1,h2,h3⟩
  refine⟨x.1,h1,?_⟩
  unfold x9
  rw [h2,h3]; rfl
theorem Ey {l:List Entry} (h:(l.map (·.Key)).Nodup) (p:Player) (t:Int):(kS l p t).Pairwise (fun a b=>sO a b=true∨sO b a=true):=by
 have h2:l.Pairwise (fun a b=>a.Key≠b.Key):=by
  have:=h
  unfold List.Nodup at this
  rwa [List.pairwise_map]at this
 unfold kS
 rw [List.pairwise_filterMap]
 refine h2.imp (fun {a b} hab x hx y hy => ?_)
 obtain ⟨e1,_⟩:=yV hx
 obtain ⟨e2,_⟩:=yV hy
 exact Ms (by rw [e1,e2]; exact hab)
theorem KH (l:List Entry) (p:Player) (t:Int):(kS l p t).length≤l.length:=List.length_filterMap_le _ _
theorem IE {l:List Entry} (h:(l.map (·.Key)).Nodup) (p:Player) (t:Int) {x:Entry×Int} (hx:x∈kS l p t) (hm:∀ y∈kS l p t,sO y x=false):kG l p t=x.1.Key:=by
 obtain ⟨r,e⟩:=Kg wM uu (Ey h p t) hx hm
 unfold kG vH
 rw [e]
theorem IQ {l:List Entry} {p:Player} {t:Int} (h:kS l p t = []):kG l p t=⟨#[]⟩:=by
 unfold kG vH
 rw [h]; rfl
theorem key_gap {l:List Entry} (hr:∀ e∈l,Right e) {p:Player} {a t:Int} (hat:a≤t)
  (h:∀ e∈l,yA e p=true → ∀ d,e.Gone=false→e.First≤d→d≤e.Last→FK e d=true→(tF e p.Zone d≤a∨t < tF e p.Zone d)∧(tF e p.Zone d + sj e * 60000≤a∨t < tF e p.Zone d + sj e * 60000)):kG l p t=kG l p a:=by
 have key:∀ e∈l,x9 p t e=x9 p a e:=fun e he=>by
  unfold x9
  cases hf:yA e p with
  | false=>rfl
  | true =>
   rw [cond_true,cond_true]
   have hb:D6 e p.Zone t=D6 e p.Zone a:=by
    refine Option.ext (fun b => ?_)
    rw [tZ (hr e he),tZ (hr e he)]
    constructor
    ·rintro ⟨d,hd,rfl⟩
     obtain ⟨h1,h2,h3,h4,h5,h6⟩:=lg.1 hd
     obtain ⟨k1,k2⟩:=h e he hf d h1 h2 h3 h4
     exact⟨d,lg.2 ⟨h1,h2,h3,h4,by omega,by omega⟩,rfl⟩
    ·rintro ⟨d,hd,rfl⟩
     obtain ⟨h1,h2,h3,h4,h5,h6⟩:=lg.1 hd
     obtain ⟨k1,k2⟩:=h e he hf d h1 h2 h3 h4
     exact⟨d,lg.2 ⟨h1,h2,h3,h4,by omega,by omega⟩,rfl⟩
   rw [hb]
 have:kS l p t=kS l p a:=by
  unfold kS
  exact G9 key
 unfold kG vH
 rw [this]
theorem wo {p:Int→Bool} {f:Int→Window} {x:Window}:∀ (n:Nat) (d:Int),x∈collect p f n d ↔ ∃ y,d≤y∧y < d + n∧p y=true∧x=f y
 | 0,d=>by
  simp only [collect,List.not_mem_nil,false_iff]
  rintro ⟨y,h1,h2,_⟩; omega
 | n + 1,d=>by
  simp only [collect,List.mem_append,wo n (d + 1)]
  constructor
  ·rintro (h | ⟨y,h1,h2,h3⟩)
   ·cases hp:p d with
    | true=>rw [hp,cond_true,List.mem_singleton]at h; exact⟨d,by omega,by omega,hp,h⟩
    | false=>rw [hp]at h; cases h
   ·exact⟨y,by omega,by omega,h3⟩
  ·rintro ⟨y,h1,h2,h3,h4⟩
   by_cases hy:y=d
   ·subst hy; left; rw [h3,cond_true,h4]; exact List.mem_singleton.2 rfl
   ·right; exact⟨y,by omega,by omega,h3,h4⟩
theorem FB (a b:Int):ma a b=max a b:=by unfold ma; split <;> omega
theorem Cc (a b:Int):p9 a b=min a b:=by unfold p9; split <;> omega
theorem CZ {e:Entry} {z:Int} {w:Window} {d:Int}:pR e z w d=true↔e.Gone=false∧FK e d=true∧max (tF e z d) w.From < min (tF e z d + sj e * 60000) w.To:=by
 unfold pR
 simp only [Bool.and_eq_true,decide_eq_true_eq,Bool.not_eq_true',FB,Cc]
theorem xE {e:Entry} (h:Right e) {z:Int} {w x:Window}:x∈wants e z w ↔ ∃ d,e.First≤d∧d≤e.Last∧pR e z w d=true∧x=cutW w (tW e z d):=by
 have h1:=h.first
 unfold wants
 rw [wo]
 constructor
 ·rintro ⟨y,a,b,c⟩; exact⟨y,a,by omega,c⟩
 ·rintro ⟨y,a,b,c⟩; exact⟨y,a,by omega,c⟩
theorem MP {l:List Entry} (hr:∀ e∈l,Right e) {p:Player} {w:Window} {E:List Int} (hE:E.Pairwise (· < ·)) (hin:∀ x∈E,w.From≤x∧x≤w.To)
  (hw:∀ e∈l,yA e p=true → ∀ x∈wants e p.Zone w,x.From∈E∧x.To∈E) {i:Nat} {a b:Int} (ha:E[i]? = some a) (hb:E[i + 1]? = some b) {t:Int} (hat:a≤t) (htb:t < b):kG l p t=kG l p a:=by
 have a1:=hin a (List.mem_of_getElem? ha)
 have b1:=hin b (List.mem_of_getElem? hb)
 refine key_gap hr hat (fun e he hf d g1 g2 g3 g4 => ?_)
 have hm:=Dp e (hr e he)
 have key:∀ v:Int,(v=tF e p.Zone d∨v=tF e p.Zone d + sj e * 60000)→v≤a∨t < v:=fun v hv=>by
  by_cases q1:w.From < v
  ·by_cases q2:v < w.To
   ·have hp:pR e p.Zone w d=true:=CZ.2 ⟨g1,g4,by omega⟩
    obtain ⟨k1,k2⟩:=hw e he hf _ ((xE (hr e he)).2 ⟨d,g2,g3,hp,rfl⟩)
    unfold cutW tW at k1 k2
    simp only [FB,Cc]at k1 k2
    have hvE:v∈E:=by
     rcases hv with hv | hv
     ·rw [show max (tF e p.Zone d) w.From=v by omega]at k1; exact k1
     ·rw [show min (tF e p.Zone d + sj e * 60000) w.To=v by omega]at k2; exact k2
    rcases Mi hE ha hb hvE with h | h
    ·exact .inl h
    ·exact .inr (by omega)
   ·exact .inr (by omega)
  ·exact .inl (by omega)
 exact⟨key _ (.inl rfl),key _ (.inr rfl)⟩
end Go.Proofs.YtjhcehhmdmbleaaGreatDoor.Law

open Go Go.Eng
namespace Go.Proofs.YtjhcehhmdmbleaaGreatDoor.Law
set_option linter.unusedVariables false
set_option linter.unusedSimpArgs false
def tiL (e:Entry) (z:Int) (w:Window):List Window:=collect (pR e z w) (tW e z) (e.Last + 1 - e.First).toNat e.First
theorem timesK2 (e:Entry) (h:Right e) (z:Int) (w:Window) (hz : -1440≤z∧z≤1440) (hw:Ke w):fG e z w=some (tiL e z w):=by
 obtain ⟨w1,w2,w3⟩:=hw
 have hf:=h.first
 have hl:=h.last
 have hm:=Dp e h
 have hfr:=h.from_
 unfold fG
 cases hg:e.Gone with
 | true =>
  simp only [cond_true,Option.bind_some]
  unfold tiL
  rw [lc _ _ (fun x _ _=>by simp only [pR,hg,Bool.not_true,Bool.false_and])]
 | false =>
 simp only [cond_false,Option.bind_some]
 by_cases hlt:w.From≥w.To
 ·simp only [decide_eq_true hlt,cond_true]
  unfold tiL
  rw [lc _ _ (fun x _ _=>by
   have:decide (ma (tF e z x) w.From < p9 (tF e z x + sj e * 60000) w.To)=false:=decide_eq_false (by unfold ma p9; split <;> split <;> omega)
   simp only [pR,this,Bool.and_false])]
 ·simp only [decide_eq_false hlt,cond_false]
  rw [bE (n:=z * 60000) (by omega),bE (n:=w.From + z * 60000) (by omega)]
  obtain ⟨a,ha⟩:∃ a,(w.From + z * 60000).tdiv 86400000=a:=⟨_,rfl⟩
  obtain ⟨b,hb⟩:∃ b,(w.To + z * 60000).tdiv 86400000=b:=⟨_,rfl⟩
  have ha2:=tdivB _ _ ha
  have hb2:=tdivB _ _ hb
  rw [ha,bE (n:=a) (by omega),bE (n:=a - 2) (by omega)]
  obtain ⟨lo,hlo⟩:∃ lo,ma (a - 2) e.First=lo:=⟨_,rfl⟩
  obtain ⟨hi,hhi⟩:∃ hi,p9 (b + 1) e.Last=hi:=⟨_,rfl⟩
  have hlo2:e.First≤lo∧a - 2≤lo∧(lo=e.First∨lo=a - 2):=by unfold ma at hlo; split at hlo <;> omega
  have hhi2:hi≤e.Last∧hi≤b + 1∧(hi=e.Last∨hi=b + 1):=by unfold p9 at hhi; split at hhi <;> omega
  have hend:∀ d,decide (d≤p9 (w64 (w64 ((w64 (w.To + w64 (z * 60000))).tdiv 86400000) + 1)) e.Last)=decide (d≤hi):=fun d=>by
   rw [bE (n:=z * 60000) (by omega),bE (n:=w.To + z * 60000) (by omega),hb,bE (n:=b) (by omega),bE (n:=b + 1) (by omega),hhi]
  rw [hlo]
  obtain ⟨d',hd⟩:=KY (ρ:=Unit) (body:=fun s=>dM w z e s) (p:=pK e z w) (f:=tW e z) lo hi (by omega) (fun acc d h1 h2 h3=>by
    have hc:decide (d≤hi)=true:=decide_eq_true h2
    simp only [dM,hend,hc,cond_true,timeK e h z d hz (by omega),Option.bind_some,dayK e h d (by omega) (by omega),bE (n:=d + 1) (by omega),pK]
    cases FK e d with
    | false=>simp
    | true =>
     simp only [Bool.not_true,cond_false,Option.bind_some,Bool.true_and]
     by_cases hA:tF e z d < w.To
     ·have hA1:decide (tF e z d < w.To)=true:=decide_eq_true hA
      have hA2:decide ((tW e z d).From < w.To)=true:=decide_eq_true hA
      by_cases hB:tF e z d + sj e * 60000 > w.From
      ·have hB1:decide (tF e z d + sj e * 60000 > w.From)=true:=decide_eq_true hB
       have hB2:decide ((tW e z d).To > w.From)=true:=decide_eq_true hB
       simp only [hA1,hA2,hB1,hB2,cond_true,Bool.and_self,Option.bind_some,uL acc [tW e z d] (show acc.length + 1≤_ by omega)]
      ·have hB1:decide (tF e z d + sj e * 60000 > w.From)=false:=decide_eq_false hB
       have hB2:decide ((tW e z d).To > w.From)=false:=decide_eq_false hB
       simp only [hA1,hA2,hB1,hB2,cond_true,cond_false,Bool.and_false,Option.bind_some,List.append_nil]
     ·have hA1:decide (tF e z d < w.To)=false:=decide_eq_false hA
      have hA2:decide ((tW e z d).From < w.To)=false:=decide_eq_false hA
      simp only [hA1,hA2,cond_false,Bool.false_and,Option.bind_some,List.append_nil])
   (fun acc d h1=>by
    have hc:decide (d≤hi)=false:=decide_eq_false (by omega)
    simp only [dM,hend,hc,cond_false])
  rw [hd,Option.bind_some,qZ]
  unfold tiL
  rw [Bf (pR e z w) _ e.First e.Last lo hi (by omega) (by omega) (fun x x1 x2 hp => ?_)]
  ·congr 1
   refine yj _ _ (fun x x1 x2=>⟨?_,rfl⟩)
   simp only [pK,pR,hg,Bool.not_false,Bool.true_and]
   congr 1
   rw [Bool.eq_iff_iff,Bool.and_eq_true,decide_eq_true_eq,decide_eq_true_eq,decide_eq_true_eq]
   unfold ma p9
   split <;> split <;> omega
  ·simp only [pR,hg,Bool.not_false,Bool.true_and,Bool.and_eq_true,decide_eq_true_eq]at hp
   have hp2:=hp.2
   unfold tF at hp2
   unfold ma p9 at hp2
   split at hp2 <;> split at hp2 <;> omega
theorem JF {e:Entry} (h:Right e) (z:Int) (w:Window):(tiL e z w).length≤4001:=by
 have h1:=Bq (pR e z w) (tW e z) (e.Last + 1 - e.First).toNat e.First
 have h2:=h.first
 have h3:=h.last
 unfold tiL
 omega
theorem BU {e:Entry} (h:Right e) {z:Int} {w x:Window}:x∈tiL e z w ↔ ∃ d,e.First≤d∧d≤e.Last∧pR e z w d=true∧x=tW e z d:=by
 have h1:=h.first
 unfold tiL
 rw [wo]
 constructor
 ·rintro ⟨y,a,b,c⟩; exact⟨y,a,by omega,c⟩
 ·rintro ⟨y,a,b,c⟩; exact⟨y,a,by omega,c⟩
theorem tiL_one {e:Entry} (h:Right e) (z t:Int):tiL e z ⟨t,t + 1⟩=match D6 e z t with | some b => [⟨b,b + sj e * 60000⟩] | none => []:=by
 have hp:∀ d,e.First≤d→d≤e.Last→pR e z ⟨t,t + 1⟩ d=zh e z t d:=fun d h1 h2=>by
  have hm:=Dp e h
  rw [Bool.eq_iff_iff,CZ,lg]
  simp only []
  constructor
  ·rintro ⟨a,b,c⟩; exact⟨a,h1,h2,b,by omega,by omega⟩
  ·rintro ⟨a,_,_,b,c,d⟩; exact⟨a,b,by omega⟩
 have hf:=h.first
 cases hb:D6 e z t with
 | none =>
  unfold tiL
  rw [lc _ _ (fun x x1 x2=>by
   rw [hp x x1 (by omega)]
   cases hh:zh e z t x with
   | false=>rfl
   | true =>
    have:=(tZ h (z:=z) (t:=t) (b:=tF e z x)).2 ⟨x,hh,rfl⟩
    rw [hb]at this; cases this)]
 | some b =>
  obtain ⟨d,hd,rfl⟩:=(tZ h).1 hb
  obtain ⟨_,d1,d2,_⟩:=lg.1 hd
  unfold tiL
  rw [show (e.Last + 1 - e.First).toNat=(e.Last + 1 - e.First).toNat from rfl,Bf (pR e z ⟨t,t + 1⟩) (tW e z) e.First e.Last d d d1 d2 (fun x x1 x2 hx=>by
   rw [hp x x1 x2]at hx
   have:=Hy h hx hd
   omega)]
  rw [show (d + 1 - d).toNat=1 by omega]
  simp only [collect,hp d d1 d2,hd,cond_true,List.append_nil]
  rfl
def vY (p:Player) (w:Window) (e:Entry):List Span:=bif yA e p then (tiL e p.Zone w).map (fun t=>⟨some e,t⟩)else []
def kz (l:List Entry) (p:Player) (w:Window):List Span:=l.flatMap (vY p w)
structure CE (l:List Entry) (p:Player):Prop where
 right:∀ e∈l,Right e
 tags:∀ e∈l,e.Tags.length≤1000
 len:l.length≤4
 keys:(l.map (·.Key)).Nodup
 ne:∀ e∈l,e.Key≠⟨#[]⟩
 zone : -1440≤p.Zone∧p.Zone≤1440
 ptags:tagsF p.Tags=0
theorem Et {l:List Entry} {p:Player} (h:CE l p) (w:Window) {e:Entry} (he:e∈l):(vY p w e).length≤4001:=by
 unfold vY
 cases yA e p with
 | false=>exact Nat.zero_le _
 | true=>rw [cond_true,List.length_map]; exact JF (h.right e he) _ _
theorem Dc {α β:Type} {f:α→List β} {n:Nat}:∀ {l:List α},(∀ x∈l,(f x).length≤n)→(l.flatMap f).length≤l.length * n
 | [],_=>by simp
 | x::l,h=>by
  have h1:=h x (by simp)
  have h2:=Dc (l:=l) (fun y hy=>h y (by simp [hy]))
  rw [List.flatMap_cons,List.length_append,List.length_cons,Nat.add_mul]
  omega
theorem spans_eq {l:List Entry} {p:Player} (h:CE l p) {w:Window} (hw:Ke w):gp l p w=some (kz l p w):=by
 have hl:=h.len
 unfold gp
 obtain ⟨t,t1,t2⟩:=uM (body:=fun k x s=>gu p w l k x s) (fun k s=>s=kz (l.take k) p w) (xs:=l) (s:=([]:List Span)) (by omega) (fun k e s he hs=>by
  have et:l.take (k + 1)=l.take k ++ [e]:=by rw [List.take_add_one,he]; rfl
  have hm:=List.mem_of_getElem? he
  have hsl:s.length≤20000:=by
   rw [hs]
   have h1:=Dc (l:=l.take k) (f:=vY p w) (n:=4001) (fun x hx=>Et h w (List.mem_of_mem_take hx))
   have h2:(l.take k).length≤4:=by rw [List.length_take]; omega
   have h3:(l.take k).length * 4001≤4 * 4001:=Nat.mul_le_mul_right _ h2
   unfold kz
   omega
  have hn:kz (l.take (k + 1)) p w=s++vY p w e:=by
   rw [hs,et]
   unfold kz
   rw [List.flatMap_append]
   simp
  unfold gu
  rw [fitK e p (h.tags e hm) h.ptags,Option.bind_some]
  cases hf:yA e p with
  | false =>
   refine⟨s,rfl,?_⟩
   rw [hn]
   unfold vY
   rw [hf]; simp
  | true =>
   simp only [Bool.not_true,cond_false]
   rw [timesK2 e (h.right e hm) p.Zone w h.zone hw,Option.bind_some]
   have htl:=JF (h.right e hm) p.Zone w
   obtain ⟨u,u1,u2⟩:=uM (body:=fun j x s=>gq l k j x s) (fun j s'=>s'=s++((tiL e p.Zone w).take j).map (fun t=>(⟨some e,t⟩:Span))) (xs:=tiL e p.Zone w) (s:=s) (by omega) (fun j x s' hx hs'=>by
    have et2:(tiL e p.Zone w).take (j + 1)=(tiL e p.Zone w).take j ++ [x]:=by rw [List.take_add_one,hx]; rfl
    have hjl:((tiL e p.Zone w).take j).length≤4001:=by rw [List.length_take]; omega
    unfold gq
    rw [nZ,he,Option.bind_some,uL _ _ (by rw [hs',List.length_append,List.length_map]; simp only [List.length_cons,List.length_nil]; omega)]
    refine⟨_,rfl,?_⟩
    rw [et2,List.map_append,hs',List.append_assoc]; rfl) (by simp)
   rw [u1]
   refine⟨u,rfl,?_⟩
   rw [hn,u2,List.take_length]
   unfold vY
   rw [hf]; rfl) rfl
 rw [t1,t2,List.take_length]; rfl
end Go.Proofs.YtjhcehhmdmbleaaGreatDoor.Law

namespace Go.Eng
set_option linter.unusedVariables false
set_option linter.unusedSimpArgs false
def JI {α:Type} (cmp:α→α→Option Int) (a_2:Int) (s_21:(List α)×Int):Option (Ctl ((List α)×Int) (Unit)) :=
 (bif (decide (s_21.2 > a_2))then (inR s_21.2 s_21.1).bind fun _=>(s_21.1[(0 + (s_21.2).toNat)]?).bind fun e_30=>(inR (w64 (s_21.2 - 1)) s_21.1).bind fun _=>(s_21.1[(0 + ((w64 (s_21.2 - 1))).toNat)]?).bind fun e_33=>(cmp e_30 e_33).bind fun r_35=>some (decide (r_35 < 0))else some false).bind fun v_26=>bif v_26 then (inR (w64 (s_21.2 - 1)) s_21.1).bind fun _=>(s_21.1[(0 + ((w64 (s_21.2 - 1))).toNat)]?).bind fun e_39=>(inR s_21.2 s_21.1).bind fun _=>(s_21.1[(0 + (s_21.2).toNat)]?).bind fun e_42=>(inR s_21.2 s_21.1).bind fun _=>(s_21.1[(0 + (s_21.2).toNat)]?).bind fun e_45=>(inR (w64 (s_21.2 - 1)) (s_21.1.set (0 + (s_21.2).toNat) e_39)).bind fun _=>((s_21.1.set (0 + (s_21.2).toNat) e_39)[(0 + ((w64 (s_21.2 - 1))).toNat)]?).bind fun e_48=>some (.go (((s_21.1.set (0 + (s_21.2).toNat) e_39).set (0 + ((w64 (s_21.2 - 1))).toNat) e_42),(w64 (s_21.2 - 1))))else some (.brk (s_21.1,s_21.2))
noncomputable def Hl {α:Type} (cmp:α→α→Option Int) (b_3:Int) (a_2:Int) (s_10:(List α)×Int):Option (Ctl ((List α)×Int) (Unit)) :=
 bif (decide (s_10.2 < b_3))then (fD (s_10.1,s_10.2) (fun s=>JI cmp a_2 s)).bind fun o_24=>thenC o_24 (fun s_21=>some (.go (s_21.1,(w64 (s_10.2 + 1))))) (fun _=>none)else some (.brk (s_10.1,s_10.2))
noncomputable def Jc {α:Type} (cmp:α→α→Option Int) (data_1:(List α)) (a_2:Int) (b_3:Int):Option ((List α)) :=
 (fD (data_1,(w64 (a_2 + 1))) (fun s=>Hl cmp b_3 a_2 s)).bind fun o_13=>thenC o_13 (fun s_10=>some s_10.1) (fun _=>none)
noncomputable def LM {α:Type} (cmp:α→α→Option Int) (b_3:Int) (a_2:Int) (data_1:(List α)) (limit_4:Int) (s_11:Unit):Option (Ctl (Unit) ((List α))) :=
 bif (decide ((w64 (b_3 - a_2))≤12))then (Jc cmp data_1 a_2 b_3).bind fun r_17=>(jN r_17 data_1).bind fun _=>some (.ret r_17)else bif (limit_4 == 0)then none else none
noncomputable def Iu {α:Type} (cmp:α→α→Option Int) (data_1:(List α)) (a_2:Int) (b_3:Int) (limit_4:Int):Option ((List α)) :=
 (fD () (fun s=>LM cmp b_3 a_2 data_1 limit_4 s)).bind fun o_14=>thenC o_14 (fun s_11=>some data_1) (fun r=>some r)
theorem Jt {α:Type} (u v:α) (C:List α):∀ A:List α,((A++u::v::C).set (A.length + 1) u).set A.length v=A++v::u::C
 | []=>rfl
 | a::A=>by simp only [List.cons_append,List.length_cons,List.set_cons_succ,Jt u v C A]
theorem get_0 {α:Type} (u:α) (C A:List α):(A++u::C)[A.length]? = some u:=by simp
theorem get_1 {α:Type} (u v:α) (C A:List α):(A++u::v::C)[A.length + 1]? = some v:=by
 rw [List.getElem?_append_right (by omega)]; simp
theorem L9 {α:Type} (u v w:α) (C:List α):∀ A:List α,(A++u::v::C).set (A.length + 1) w=A++u::w::C
 | []=>rfl
 | a::A=>by simp only [List.cons_append,List.length_cons,List.set_cons_succ,L9 u v w C A]
theorem Jj {α:Type} {xs:List α} {i:Nat} (h:i < xs.length):inR (i:Int) xs=some ():=by
 unfold inR; rw [if_pos ⟨by omega,by simpa using h⟩]
section
variable {α:Type} {cmp:α→α→Option Int} {le:α→α→Prop} {p:α→Prop}
theorem insL1_s (u v:α) (A C:List α) {c:Int} (hc:cmp v u=some c) (hl:A.length≤1000000000):JI cmp 0 (A++u::v::C,((A.length + 1:Nat):Int))=some (bif decide (c < 0)then .go (A++v::u::C,(A.length:Int))else .brk (A++u::v::C,((A.length + 1:Nat):Int))):=by
 have hw:w64 (((A.length + 1:Nat):Int) - 1)=(A.length:Int):=by rw [CV _ (by omega)]; omega
 have h1:inR ((A.length + 1:Nat):Int) (A++u::v::C)=some ():=Jj (by simp)
 have h2:inR (A.length:Int) (A++u::v::C)=some ():=Jj (by simp)
 have h3:inR (A.length:Int) (A++u::u::C)=some ():=Jj (by simp)
 have hd:decide (((A.length + 1:Nat):Int) > 0)=true:=by simp <;> omega
 have e1:0 + ((A.length + 1:Nat):Int).toNat=A.length + 1:=by omega
 have e2:0 + ((A.length:Nat):Int).toNat=A.length:=by omega
 unfold JI
 simp only [hw,h1,h2,hd,e1,e2,get_0,get_1,Option.bind_some,hc,cond_true,L9,h3]
 cases decide (c < 0)with
 | false=>rfl
 | true =>
  simp only [cond_true]
  have:=Jt u v C A
  rw [L9]at this
  rw [this]
theorem ED (hc:∀ a b,p a→p b → ∃ c,cmp a b=some c∧(c < 0→le a b)∧(¬ c < 0→le b a)) (tr:∀ a b c,le a b→le b c→le a c) (v:α) (hv:p v) (R:List α):∀ (n:Nat) (A B:List α),A.length=n→n≤1000000000→(∀ a∈A,p a)→(A++B).Pairwise le→(∀ b∈B,le v b) →
  ∃ A' B',iterN (fun s=>JI cmp 0 s) (n + 1) (A++v::(B++R),(A.length:Int))=some (.go (A'++v::(B'++R),(A'.length:Int)))∧A'++B'=A++B∧(A'++v::B').Pairwise le
 | 0,A,B,hA,hn,hpa,hp,hb=>by
  have:A = []:=List.eq_nil_of_length_eq_zero hA
  subst this
  exact⟨[],B,by simp only [List.nil_append,List.length_nil,iterN,Option.bind]; rfl,rfl,by simpa using ⟨hb,hp⟩⟩
 | n + 1,A,B,hA,hn,hpa,hp,hb=>by
  rcases List.eq_nil_or_concat A with h | ⟨A0,u,h⟩
  ·rw [h]at hA; cases hA
  ·subst h
   simp only [List.concat_eq_append]at hA hp hpa ⊢
   have hA0:A0.length=n:=by simpa using hA
   have hl:(A0 ++ [u]).length=A0.length + 1:=by simp
   have e:A0 ++ [u]++v::(B++R)=A0++u::v::(B++R):=by simp
   obtain ⟨c,h1,h2,h3⟩:=hc v u hv (hpa u (by simp))
   rw [hl,e,iterN,insL1_s u v A0 (B++R) h1 (by omega),Option.bind_some]
   by_cases hcn:c < 0
   ·simp only [decide_eq_true hcn,cond_true]
    have hp':(A0++(u::B)).Pairwise le:=by simpa using hp
    obtain ⟨A',B',k1,k2,k3⟩:=ED hc tr v hv R n A0 (u::B) hA0 (by omega) (fun a ha=>hpa a (by simp [ha])) hp' (fun b hb'=>by
     rcases List.mem_cons.1 hb' with rfl | hb'
     ·exact h2 hcn
     ·exact hb b hb')
    refine⟨A',B',?_,by rw [k2]; simp,k3⟩
    rw [← k1]; simp
   ·simp only [decide_eq_false hcn,cond_false]
    refine⟨A0 ++ [u],B,by simp,rfl,?_⟩
    have huv:=h3 hcn
    rw [List.pairwise_append]at hp ⊢
    obtain ⟨p1,p2,p3⟩:=hp
    refine⟨p1,List.pairwise_cons.2 ⟨hb,p2⟩,fun a ha b hb' => ?_⟩
    rcases List.mem_cons.1 hb' with rfl | hb'
    ·rcases List.mem_append.1 ha with ha | ha
     ·rw [List.pairwise_append]at p1
      exact tr _ _ _ (p1.2.2 a ha u (by simp)) huv
     ·rw [List.mem_singleton]at ha; subst ha; exact huv
    ·exact p3 a ha b hb'
theorem Es (hc:∀ a b,p a→p b → ∃ c,cmp a b=some c∧(c < 0→le a b)∧(¬ c < 0→le b a)) (tr:∀ a b c,le a b→le b c→le a c):∀ (Q P:List α),P.length + Q.length≤1000000000→(∀ x∈P++Q,p x)→P.Pairwise le →
  ∃ s,iterN (fun s=>Hl cmp ((P.length + Q.length:Nat):Int) 0 s) (Q.length + 1) (P++Q,(P.length:Int))=some (.go (s,((P.length + Q.length:Nat):Int)))∧s.Perm (P++Q)∧s.Pairwise le
 | [],P,hl,hpx,hp=>by
  refine⟨P,?_,by simp,hp⟩
  have hd:decide ((P.length:Int) < ((P.length + ([]:List α).length:Nat):Int))=false:=by simp
  simp only [iterN,Hl,hd,cond_false,Option.bind_some,List.append_nil]
  simp
 | v::Q,P,hl,hpx,hp=>by
  simp only [List.length_cons]at hl
  have hd:decide ((P.length:Int) < ((P.length + (v::Q).length:Nat):Int))=true:=by simp only [decide_eq_true_eq,List.length_cons]; omega
  obtain ⟨A',B',k1,k2,k3⟩:=ED hc tr v (hpx v (by simp)) Q P.length P [] rfl (by omega) (fun a ha=>hpx a (by simp [ha])) (by simpa using hp) (fun b hb=>by cases hb)
  rw [List.nil_append]at k1
  have hlo:=gD k1
  rw [List.length_cons,iterN]
  have hw:w64 ((P.length:Int) + 1)=((A'++v::B').length:Int):=by
   have:=congrArg List.length k2
   simp only [List.length_append,List.length_nil]at this
   rw [CV _ (by omega)]; simp only [List.length_append,List.length_cons]; omega
  have h1:Hl cmp ((P.length + (Q.length + 1):Nat):Int) 0 (P++v::Q,(P.length:Int))=some (.go (A'++v::(B'++Q),((A'++v::B').length:Int))):=by
   have hd':decide ((P.length:Int) < ((P.length + (Q.length + 1):Nat):Int))=true:=hd
   unfold Hl
   simp only [hd',cond_true,hlo,Option.bind_some,thenC,hw]
  have hlen:(A'++v::B').length=P.length + 1:=by
   have:=congrArg List.length k2
   simp only [List.length_append,List.length_nil,List.length_cons]at this ⊢
   omega
  have hk:(A'++B').Perm P:=by rw [k2]; simp
  have hperm:(A'++v::B').Perm (P ++ [v]):=(List.perm_middle).trans ((List.Perm.cons v hk).trans (List.perm_append_comm (l₁ := [v]) (l₂:=P)))
  obtain ⟨s,m1,m2,m3⟩:=Es hc tr Q (A'++v::B') (by omega) (fun x hx=>by
   rcases List.mem_append.1 hx with hx | hx
   ·have:=hperm.mem_iff.1 hx
    exact hpx x (by rcases List.mem_append.1 this with h | h <;> simp_all)
   ·exact hpx x (by simp [hx])) k3
  rw [h1,Option.bind_some]
  have e:A'++v::(B'++Q)=(A'++v::B')++Q:=by simp
  have e2:P.length + (Q.length + 1)=(A'++v::B').length + Q.length:=by omega
  simp only
  rw [e,e2]
  refine⟨s,m1,m2.trans ?_,m3⟩
  have:=List.Perm.append_right Q hperm
  simpa using this
theorem pdq_ok (hc:∀ a b,p a→p b → ∃ c,cmp a b=some c∧(c < 0→le a b)∧(¬ c < 0→le b a)) (tr:∀ a b c,le a b→le b c→le a c) (l:List α) (hl:l.length≤12) (hpl:∀ x∈l,p x) (lim:Int):∃ s,Iu cmp l 0 (l.length:Int) lim=some s∧s.Perm l∧s.Pairwise le:=by
 have key:∃ s,Jc cmp l 0 (l.length:Int)=some s∧s.Perm l∧s.Pairwise le:=by
  unfold Jc
  have hw:w64 (0 + 1)=1:=rfl
  rw [hw]
  cases l with
  | nil=>exact⟨[],by rw [gD (n:=1) (o := .go ([],1)) rfl]; rfl,.nil,.nil⟩
  | cons v Q =>
   obtain ⟨s,m1,m2,m3⟩:=Es hc tr Q [v] (by simp only [List.length_cons,List.length_nil]at hl ⊢; omega) (fun x hx=>hpl x (by simpa using hx)) (List.pairwise_singleton _ _)
   have e:([v].length + Q.length:Nat)=(v::Q).length:=by simp only [List.length_cons,List.length_nil]; omega
   rw [e]at m1
   have:=gD m1
   refine⟨s,?_,m2,m3⟩
   show (fD (v::Q,1) _).bind _=_
   have e2:(([v]++Q,(([v]:List α).length:Int)):List α×Int)=(v::Q,1):=rfl
   rw [e2]at this
   rw [this]; rfl
 obtain ⟨s,h1,h2,h3⟩:=key
 refine⟨s,?_,h2,h3⟩
 have hsm:jN s l=some ():=by unfold jN; rw [if_pos h2.length_eq]
 have hd:decide (w64 ((l.length:Int) - 0)≤12)=true:=by
  have:(l.length:Int) - 0=l.length:=by omega
  rw [this,CV _ (by omega)]; simp; omega
 have:fD () (fun s=>LM cmp (l.length:Int) 0 l lim s)=some (.ret s):=by
  refine gD (n:=1) ?_
  simp only [iterN,LM,hd,cond_true,h1,hsm,Option.bind_some]
 unfold Iu
 rw [this]; rfl
end
end Go.Eng

open Go Go.Eng
namespace Go.Proofs.YtjhcehhmdmbleaaGreatDoor.Law
set_option linter.unusedVariables false
set_option linter.unusedSimpArgs false
theorem K5 (a b:ByteArray):(lt a b∧BB a b = -1)∨(a=b∧BB a b=0)∨(lt b a∧BB a b=1):=by
 have key:∀ (x y:List UInt8),(x < y∧Lib.compareBytes x y = -1)∨(x=y∧Lib.compareBytes x y=0)∨(y < x∧Lib.compareBytes x y=1):=by
  intro x
  induction x with
  | nil=>intro y; cases y with
   | nil=>exact .inr (.inl ⟨rfl,rfl⟩)
   | cons b y=>exact .inl ⟨by simp,rfl⟩
  | cons a x ih=>intro y; cases y with
   | nil=>exact .inr (.inr ⟨by simp,rfl⟩)
   | cons b y =>
    simp only [Lib.compareBytes,List.cons_lt_cons_iff,List.cons.injEq]
    by_cases h1:a < b
    ·exact .inl ⟨.inl h1,by rw [if_pos h1]⟩
    ·by_cases h2:b < a
     ·exact .inr (.inr ⟨.inl h2,by rw [if_neg h1,if_pos h2]⟩)
     ·have e:a=b:=UInt8.le_antisymm (UInt8.not_lt.1 h2) (UInt8.not_lt.1 h1)
      subst e
      rw [if_neg h1,if_neg h1]
      rcases ih y with⟨h,k⟩ | ⟨h,k⟩ | ⟨h,k⟩
      ·exact .inl ⟨.inr ⟨rfl,h⟩,k⟩
      ·exact .inr (.inl ⟨⟨rfl,h⟩,k⟩)
      ·exact .inr (.inr ⟨.inr ⟨rfl,h⟩,k⟩)
 unfold BB lt
 rw [toL,toL]
 rcases key a.data.toList b.data.toList with⟨h,k⟩ | ⟨h,k⟩ | ⟨h,k⟩
 ·exact .inl ⟨h,k⟩
 ·exact .inr (.inl ⟨Cf (by rw [toL,toL]; exact h),k⟩)
 ·exact .inr (.inr ⟨h,k⟩)
theorem I8 (a b:ByteArray):strings_Compare a b=some (BB a b):=rfl
def FY (a b:Int):Int:=if a < b then -1 else if a > b then 1 else 0
theorem Ep (a b:Int):cmp_Compare_int a b=some (FY a b):=by
 have e:∀ x:Int,(x != x)=false:=by simp
 unfold cmp_Compare_int cmp_isNaN_int FY
 simp only [e,Option.bind_some,cond_false]
 by_cases h:a < b
 ·simp only [decide_eq_true h,cond_true,if_pos h]
 ·by_cases h2:a > b
  ·simp only [decide_eq_false h,decide_eq_true h2,cond_true,cond_false,if_neg h,if_pos h2]
  ·simp only [decide_eq_false h,decide_eq_false h2,cond_false,if_neg h,if_neg h2]
theorem or3_eq (a b c:Int):ni [a,b,c]=some (or0 a (or0 b c)):=by
 unfold ni or0
 rw [rM (by simp)]
 simp only [forR,oW]
 cases ha:a == 0 with
 | false =>
  have:(a != 0)=true:=by simp [bne,ha]
  simp only [this,cond_true,cond_false,Option.bind_some,thenC]
 | true =>
  have:(a != 0)=false:=by simp [bne,ha]
  simp only [this,cond_true,cond_false,Option.bind_some]
  cases hb:b == 0 with
  | false =>
   have:(b != 0)=true:=by simp [bne,hb]
   simp only [this,cond_true,cond_false,Option.bind_some,thenC]
  | true =>
   have:(b != 0)=false:=by simp [bne,hb]
   simp only [this,cond_true,cond_false,Option.bind_some]
   cases hc:c == 0 with
   | false =>
    have:(c != 0)=true:=by simp [bne,hc]
    simp only [this,cond_true,Option.bind_some,thenC]
   | true =>
    have:(c != 0)=false:=by simp [bne,hc]
    simp only [this,cond_false,Option.bind_some,thenC]
    rw [eq_of_beq hc]
theorem JB {a b:Int}:or0 a b < 0↔a < 0∨a=0∧b < 0:=by
 unfold or0
 by_cases h:a=0
 ·subst h; simp
 ·have:(a == 0)=false:=by simpa using h
  rw [this,cond_false]; omega
theorem tC {a b:Int}:FY a b < 0↔a < b:=by
 unfold FY
 split
 ·omega
 ·split <;> omega
theorem EJ {a b:Int}:FY a b=0↔a=b:=by
 unfold FY
 split
 ·omega
 ·split <;> omega
theorem Mm {a b:ByteArray}:BB a b < 0↔lt a b:=by
 rcases K5 a b with⟨h,e⟩ | ⟨h,e⟩ | ⟨h,e⟩
 ·rw [e]; exact⟨fun _=>h,fun _=>by decide⟩
 ·rw [e,h]; exact⟨fun k=>absurd k (by decide),fun k=>absurd k (qc _)⟩
 ·rw [e]; exact⟨fun k=>absurd k (by decide),fun k=>absurd (lt_trans k h) (qc _)⟩
theorem lt_ntr {a b c:ByteArray} (h:¬ lt a b) (k:¬ lt b c):¬ lt a c:=fun q=>by
 rcases Dh a b with e | e | e
 ·exact h e
 ·rw [e]at q; exact k q
 ·exact k (lt_trans e q)
theorem len_ok:∀ n:Nat,n≤12 → ∃ k,iM (IntKind.u64.wrap (n:Int))=some k:=by
 have h:(List.range 13).all (fun n=>(iM (IntKind.u64.wrap (n:Int))).isSome)=true:=by kernel_rfl
 intro n hn
 have:=List.all_eq_true.1 h n (by simp; omega)
 exact Option.isSome_iff_exists.1 this
theorem sort12 {α:Type} {cmp:α→α→Option Int} (c:α→α→Int) {S:List α→Option (List α)} (hS:∀ x,S x=(iM (IntKind.u64.wrap (x.length:Int))).bind fun r_3=>(Iu cmp x 0 (x.length:Int) r_3).bind fun r_5=>(jN r_5 x).bind fun _=>some r_5)
  {xs:List α} (hl:xs.length≤12) (hF:∀ a∈xs,∀ b∈xs,cmp a b=some (c a b)) (has:∀ a b,c a b < 0 → ¬ c b a < 0) (hn:∀ a b d,¬ c a b < 0 → ¬ c b d < 0 → ¬ c a d < 0) :
  ∃ r,S xs=some r∧r.Perm xs∧r.Pairwise (fun a b => ¬ c b a < 0):=by
 obtain ⟨k,hk⟩:=len_ok xs.length hl
 obtain ⟨s,h1,h2,h3⟩:=pdq_ok (cmp:=cmp) (le:=fun a b => ¬ c b a < 0) (p:=(· ∈ xs)) (fun a b ha hb=>⟨c a b,hF a ha b hb,fun h=>has a b h,fun h=>h⟩) (fun a b d h k=>hn d b a k h) xs hl (fun x hx=>hx) k
 refine⟨s,?_,h2,h3⟩
 have hsm:jN s xs=some ():=by unfold jN; rw [if_pos h2.length_eq]
 rw [hS,hk,Option.bind_some,h1,Option.bind_some,hsm]; rfl
def jG (x:Entry×Int):Span:=⟨some x.1,⟨x.2,x.2 + sj x.1 * 60000⟩⟩
theorem KX {p:Player} {e:Entry} (h:Right e) (t:Int):vY p ⟨t,t + 1⟩ e=(x9 p t e).toList.map jG:=by
 unfold vY x9
 rw [tiL_one h]
 cases yA e p with
 | false=>rfl
 | true=>cases D6 e p.Zone t <;> rfl
theorem EH:∀ {l:List Entry} (p:Player) (t:Int),(∀ e∈l,Right e)→kz l p ⟨t,t + 1⟩=(kS l p t).map jG
 | [],p,t,_=>rfl
 | e::l,p,t,h=>by
  have ih:=EH (l:=l) p t (fun x hx=>h x (by simp [hx]))
  unfold kz kS at *
  rw [List.flatMap_cons,List.filterMap_cons,ih,KX (h e (by simp))]
  cases x9 p t e <;> rfl
def cE (x y:Entry×Int):Int:=or0 (FY y.1.Prio x.1.Prio) (or0 (FY y.2 x.2) (BB y.1.Key x.1.Key))
theorem wu {x y:Entry×Int}:cE x y < 0↔sO x y=true:=by
 unfold cE
 rw [JB,JB,tC,EJ,tC,EJ,Mm,tN]
 constructor
 ·rintro (h | ⟨h,k | ⟨k,q⟩⟩)
  ·exact .inl h
  ·exact .inr ⟨h.symm,.inl k⟩
  ·exact .inr ⟨h.symm,.inr ⟨k.symm,q⟩⟩
 ·rintro (h | ⟨h,k | ⟨k,q⟩⟩)
  ·exact .inl h
  ·exact .inr ⟨h.symm,.inl k⟩
  ·exact .inr ⟨h.symm,.inr ⟨k.symm,q⟩⟩
theorem Lg {a b c:Entry×Int} (h:¬ sO a b=true) (k:¬ sO b c=true):¬ sO a c=true:=by
 rw [tN]at *
 simp only [not_or,not_and]at h k
 rintro (q | ⟨q,q2 | ⟨q2,q3⟩⟩)
 ·omega
 ·have h2:=h.2
  have k2:=k.2
  by_cases e:a.1.Prio=b.1.Prio
  ·have:=(h2 e).1
   have:=(k2 (by omega)).1
   omega
  ·omega
 ·have h2:=h.2
  have k2:=k.2
  by_cases e:a.1.Prio=b.1.Prio
  ·have a1:=h2 e
   have a2:=k2 (by omega)
   by_cases e2:a.2=b.2
   ·exact lt_ntr (a2.2 (by omega)) (a1.2 e2) q3
   ·have:=a1.1
    have:=a2.1
    omega
  ·omega
def zeroE:Entry:=⟨⟨#[]⟩,⟨#[]⟩,0,0,0,0,0,[],0,0,0,[],false⟩
def pg (s:Span):Entry×Int:=(s.f_e.getD zeroE,s.f_time.From)
theorem Ba (x y:Entry×Int):eX (jG x) (jG y)=some (cE (pg (jG x)) (pg (jG y))):=by
 unfold eX
 show ((some y.1).bind fun y_5=>(some x.1).bind fun y_7=>_)=_
 simp only [Option.bind_some,Ep,jG,I8,or3_eq]; rfl
theorem Jq {l:List Entry} {p:Player} (h:CE l p) (t:Int):(kS l p t).length≤4:=Nat.le_trans (KH _ _ _) h.len
theorem on_eq {l:List Entry} {p:Player} (h:CE l p) {t:Int} (ht:0≤t∧t < 345686400000):pz l p t=some ((vH l p t).map jG):=by
 have hl:=Jq h t
 unfold pz
 rw [bE (n:=t + 1) (by omega),spans_eq h (w:=⟨t,t + 1⟩) ⟨by simp only []; omega,by simp only []; omega,by simp only []; omega⟩,Option.bind_some,EH p t h.right]
 obtain ⟨r,r1,r2,r3⟩:=sort12 (cmp:=eX) (S:=bZ) (fun a b=>cE (pg a) (pg b)) (fun _=>rfl) (xs:=(kS l p t).map jG) (by rw [List.length_map]; omega) (fun a ha b hb=>by
   obtain ⟨x,_,rfl⟩:=List.mem_map.1 ha
   obtain ⟨y,_,rfl⟩:=List.mem_map.1 hb
   exact Ba x y)
  (fun a b q1 q2=>by have:=uu _ _ _ (wu.1 q1) (wu.1 q2); rw [wM]at this; cases this)
  (fun a b c q1 q2 q3=>Lg (fun e=>q1 (wu.2 e)) (fun e=>q2 (wu.2 e)) (wu.1 q3))
 have e3:jN r ((kS l p t).map jG)=some ():=by unfold jN; rw [if_pos r2.length_eq]
 have hk:∀ x:Entry×Int,pg (jG x)=x:=fun x=>rfl
 have hm:(r.map pg).Perm (kS l p t):=by
  have:=r2.map pg
  rw [List.map_map]at this
  have e:(kS l p t).map (pg ∘ jG)=kS l p t:=List.map_id _
  rwa [e]at this
 have hs:r.map pg=vH l p t:=srtG_is wM uu (Ey h.keys p t) hm (by
  rw [List.pairwise_map]
  refine r3.imp (fun {a b} q => ?_)
  cases hb:sO (pg b) (pg a)with
  | false=>rfl
  | true=>exact absurd (wu.2 hb) q)
 have hr:r=(vH l p t).map jG:=by
  rw [← hs,List.map_map]
  have:∀ s∈r,(jG ∘ pg) s=s:=fun s hs'=>by
   obtain ⟨x,_,rfl⟩:=List.mem_map.1 (r2.mem_iff.1 hs')
   rfl
  rw [List.map_congr_left this,List.map_id']
 rw [r1,Option.bind_some,e3,Option.bind_some,hr]
theorem On_eq {l:List Entry} {p:Player} (h:CE l p) {t:Int} (ht:0≤t∧t < 345686400000) (hm:dD l p t=some 0):jB l p t=some (kG l p t,!(vH l p t).isEmpty,0):=by
 unfold jB
 rw [hm,Option.bind_some,bne_self_eq_false,cond_false,on_eq h ht,Option.bind_some]
 unfold kG
 cases vH l p t with
 | nil=>rfl
 | cons x r =>
  have:((((x::r).map jG).length:Int) == 0)=false:=by rw [beq_eq_false_iff_ne]; simp only [List.map_cons,List.length_cons]; omega
  rw [this,cond_false]; rfl
end Go.Proofs.YtjhcehhmdmbleaaGreatDoor.Law

open Go Go.Eng
namespace Go.Proofs.YtjhcehhmdmbleaaGreatDoor.Law
set_option linter.unusedVariables false
set_option linter.unusedSimpArgs false
end Go.Proofs.YtjhcehhmdmbleaaGreatDoor.Law

open Go Go.Eng
namespace Go.Proofs.YtjhcehhmdmbleaaGreatDoor.Law
set_option linter.unusedVariables false
set_option linter.unusedSimpArgs false
def dd:List Int→List Int
 | [] => []
 | [x] => [x]
 | x::y::l=>bif x == y then dd (y::l)else x::dd (y::l)
theorem JS (x:Int):∀ (l:List Int) (b:Int),l.getLast? = some b→dd (l ++ [x])=bif b == x then dd l else dd l ++ [x]
 | [],b,h=>by cases h
 | [a],b,h=>by
  simp only [List.getLast?_singleton,Option.some.injEq]at h
  subst h
  simp only [List.cons_append,List.nil_append,dd]
  cases hx:a == x with
  | true=>rw [eq_of_beq hx]
  | false=>rfl
 | a::c::l,b,h=>by
  have ih:=JS x (c::l) b (by rw [← h]; simp [List.getLast?_cons_cons])
  simp only [List.cons_append]at ih ⊢
  rw [dd,ih,dd]
  cases a == c <;> cases b == x <;> rfl
theorem JV (s:List Int) (p:Nat) (a b:Int) (hp:1≤p) (ha:s[p]? = some a) (hb:s[p - 1]? = some b):dd (s.take (p + 1))=bif b == a then dd (s.take p)else dd (s.take p) ++ [a]:=by
 have hlt:=(List.getElem?_eq_some_iff.1 ha).1
 have e:s.take (p + 1)=s.take p ++ [a]:=by rw [List.take_add_one,ha]; rfl
 rw [e]
 refine JS a _ b ?_
 rw [List.getLast?_eq_getElem?,List.length_take,List.getElem?_take,if_pos (by omega),← hb]
 congr 1; omega
theorem FJ (x:Int):∀ l:List Int,x∈dd l↔x∈l
 | []=>Iff.rfl
 | [a]=>Iff.rfl
 | a::b::l=>by
  rw [dd]
  cases h:a == b with
  | true =>
   rw [cond_true,FJ x (b::l),eq_of_beq h]; simp
  | false=>rw [cond_false,List.mem_cons,FJ x (b::l),List.mem_cons (a:=x) (b:=a)]
theorem Fh:∀ l:List Int,l.Pairwise (· ≤ ·)→(dd l).Pairwise (· < ·)
 | [],_ => .nil
 | [a],_=>List.pairwise_singleton _ _
 | a::b::l,h=>by
  rw [dd]
  obtain ⟨h1,h2⟩:=List.pairwise_cons.1 h
  cases hx:a == b with
  | true=>exact Fh (b::l) h2
  | false =>
   refine List.pairwise_cons.2 ⟨fun c hc => ?_,Fh (b::l) h2⟩
   have hc:=(FJ c (b::l)).1 hc
   have hab:a < b:=by
    have:=h1 b (by simp)
    have hne:a≠b:=by simpa using hx
    omega
   rcases List.mem_cons.1 hc with rfl | hc
   ·exact hab
   ·have:=(List.pairwise_cons.1 h2).1 c hc; omega
theorem MK:∀ l:List Int,(dd l).length≤l.length
 | []=>Nat.le_refl _
 | [a]=>Nat.le_refl _
 | a::b::l=>by
  have:=MK (b::l)
  rw [dd]
  cases a == b with
  | true=>rw [cond_true]; simp only [List.length_cons]at *; omega
  | false=>rw [cond_false]; simp only [List.length_cons]at *; omega
theorem LH {i:Int} {n:Nat} (h0:0≤i) (h1:i < n):inN i n=some ():=by unfold inN; rw [if_pos ⟨h0,by omega⟩]
theorem rQ {α:Type} {xs:List α} {i:Nat} (h:i < xs.length):inR (i:Int) xs=some ():=by
 unfold inR; rw [if_pos ⟨by omega,by simpa using h⟩]
theorem comp_L1 (s data:List Int) (k0 i2 k:Nat) (a b:Int) (hn:s.length≤1000000000) (hd:data.length=s.length) (h1:1≤i2) (hp:k0 + i2 < s.length) (hk:k < s.length) (ha:data[k0 + i2]? = some a) (hb:data[k0 + i2 - 1]? = some b) :
  bQ s (k0:Int) (data,(k:Int),(i2:Int))=some (.go (bif b == a then (data,(k:Int),((i2 + 1:Nat):Int))else (data.set k a,((k + 1:Nat):Int),((i2 + 1:Nat):Int)))):=by
 unfold bQ
 have e0:((s.length:Int).toNat - (k0:Int).toNat)=s.length - k0:=by omega
 have hc:decide ((i2:Int) < ((s.length - k0:Nat):Int))=true:=by simp; omega
 have hw:w64 ((i2:Int) - 1)=((i2 - 1:Nat):Int):=by rw [bE (by omega)]; omega
 have hw2:w64 ((i2:Int) + 1)=((i2 + 1:Nat):Int):=by rw [bE (by omega)]; omega
 have hw3:w64 ((k:Int) + 1)=((k + 1:Nat):Int):=by rw [bE (by omega)]; omega
 have i1:inN (i2:Int) (s.length - k0)=some ():=LH (by omega) (by omega)
 have i3:inN ((i2 - 1:Nat):Int) (s.length - k0)=some ():=LH (by omega) (by omega)
 have i4:inR (k:Int) data=some ():=rQ (by omega)
 have g1:(k0:Int).toNat + (i2:Int).toNat=k0 + i2:=by omega
 have g2:(k0:Int).toNat + ((i2 - 1:Nat):Int).toNat=k0 + i2 - 1:=by omega
 have g3:0 + (k:Int).toNat=k:=by omega
 have hkd:data[k]? = some data[k]:=List.getElem?_eq_getElem (by omega)
 simp only [e0,hc,cond_true,hw,hw2,hw3,i1,i3,i4,g1,g2,g3,Option.bind_some,ha,hb,hkd]
 have hne:(a != b) = !(b == a):=by rw [bne_comm]; rfl
 rw [hne]
 cases b == a <;> rfl
theorem yZ (s:List Int) (k0:Nat) (hn:s.length≤1000000000):∀ (m i2 k:Nat) (data:List Int),k0 + i2 + m=s.length→1≤i2→data.length=s.length→k≤k0 + i2 - 1→data.take k=dd (s.take (k0 + i2))→data.drop (k0 + i2 - 1)=s.drop (k0 + i2 - 1) →
  ∃ (data':List Int) (k':Nat),iterN (fun t=>bQ s (k0:Int) t) (m + 1) (data,(k:Int),(i2:Int))=some (.go (data',(k':Int),((s.length - k0:Nat):Int)))∧data'.length=s.length∧k'≤s.length∧data'.take k'=dd s
 | 0,i2,k,data,hm,h1,hd,hk,ht,hr=>by
  refine⟨data,k,?_,hd,by omega,?_⟩
  ·have e0:((s.length:Int).toNat - (k0:Int).toNat)=s.length - k0:=by omega
   have hc:decide ((i2:Int) < ((s.length - k0:Nat):Int))=false:=by simp; omega
   simp only [iterN,bQ,e0,hc,cond_false,Option.bind_some]
   rw [show s.length - k0=i2 by omega]
  ·rw [ht,show k0 + i2=s.length by omega,List.take_length]
 | m + 1,i2,k,data,hm,h1,hd,hk,ht,hr=>by
  have hp:k0 + i2 < s.length:=by omega
  have hga:data[k0 + i2]? = some s[k0 + i2]:=by
   have:=congrArg (fun l=>l[1]?) hr
   simp only [List.getElem?_drop]at this
   rw [show k0 + i2 - 1 + 1=k0 + i2 by omega]at this
   rw [this,List.getElem?_eq_getElem hp]
  have hgb:data[k0 + i2 - 1]? = some (s[k0 + i2 - 1]'(by omega)):=by
   have:=congrArg (fun l=>l[0]?) hr
   simp only [List.getElem?_drop,Nat.add_zero]at this
   rw [this,List.getElem?_eq_getElem (by omega)]
  have hdt:=JV s (k0 + i2) s[k0 + i2] (s[k0 + i2 - 1]'(by omega)) (by omega) (List.getElem?_eq_getElem hp) (List.getElem?_eq_getElem (by omega))
  rw [iterN,comp_L1 s data k0 i2 k _ _ hn hd h1 hp (by omega) hga hgb,Option.bind_some]
  cases hx:s[k0 + i2 - 1]'(by omega) == s[k0 + i2]with
  | true =>
   rw [hx,cond_true]at hdt
   simp only [cond_true]
   refine yZ s k0 hn m (i2 + 1) k data (by omega) (by omega) hd (by omega) (by rw [ht,← hdt]; rfl) ?_
   have:=congrArg (List.drop 1) hr
   simp only [List.drop_drop]at this
   rw [show k0 + i2 - 1 + 1=k0 + (i2 + 1) - 1 by omega]at this
   exact this
  | false =>
   rw [hx,cond_false]at hdt
   simp only [cond_false]
   have hkl:k < data.length:=by omega
   refine yZ s k0 hn m (i2 + 1) (k + 1) (data.set k s[k0 + i2]) (by omega) (by omega) (by simpa using hd) (by omega) ?_ ?_
   ·rw [List.take_add_one,List.getElem?_set_self hkl,List.take_set_of_le (Nat.le_refl _),ht]
    show _=dd (s.take (k0 + i2 + 1))
    rw [hdt]; rfl
   ·rw [List.drop_set_of_lt (by omega)]
    have:=congrArg (List.drop 1) hr
    simp only [List.drop_drop]at this
    rw [show k0 + i2 - 1 + 1=k0 + (i2 + 1) - 1 by omega]at this
    exact this
theorem Cw (s:List Int) (hn:s.length≤1000000000):∀ (m i:Nat),i + m=s.length→1≤i→dd (s.take i)=s.take i →
  (iterN (fun t=>aU s t) (m + 1) (i:Int)=some (.go (s.length:Int))∧dd s=s)∨iterN (fun t=>aU s t) (m + 1) (i:Int)=some (.ret (dd s))
 | 0,i,hm,h1,hd=>by
  refine .inl ⟨?_,?_⟩
  ·have hc:decide ((i:Int) < (s.length:Int))=false:=by simp; omega
   simp only [iterN,aU,hc,cond_false,Option.bind_some]
   rw [show i=s.length by omega]
  ·rw [show i=s.length by omega,List.take_length]at hd; exact hd
 | m + 1,i,hm,h1,hd=>by
  have hi:i < s.length:=by omega
  have hc:decide ((i:Int) < (s.length:Int))=true:=by simp; omega
  have hw:w64 ((i:Int) - 1)=((i - 1:Nat):Int):=by rw [bE (by omega)]; omega
  have hw2:w64 ((i:Int) + 1)=((i + 1:Nat):Int):=by rw [bE (by omega)]; omega
  have e1:0 + (i:Int).toNat=i:=by omega
  have e2:0 + ((i - 1:Nat):Int).toNat=i - 1:=by omega
  have hga:s[i]? = some s[i]:=List.getElem?_eq_getElem hi
  have hgb:s[i - 1]? = some (s[i - 1]'(by omega)):=List.getElem?_eq_getElem (by omega)
  have hdt:=JV s i s[i] (s[i - 1]'(by omega)) h1 hga hgb
  have i1:inR (i:Int) s=some ():=rQ hi
  have i2:inR ((i - 1:Nat):Int) s=some ():=rQ (by omega)
  rw [iterN]
  have hswap:(s[i] == s[i - 1]'(by omega))=(s[i - 1]'(by omega) == s[i]):=by rw [BEq.comm]
  cases hx:s[i - 1]'(by omega) == s[i]with
  | false =>
   have:aU s (i:Int)=some (.go ((i + 1:Nat):Int)):=by
    unfold aU
    simp only [hc,cond_true,hw,hw2,e1,e2,i1,i2,hga,hgb,Option.bind_some,hswap,hx,cond_false]
   rw [this,Option.bind_some]
   rw [hx,cond_false,hd]at hdt
   refine Cw s hn m (i + 1) (by omega) (by omega) ?_
   rw [hdt,List.take_add_one,hga]; rfl
  | true =>
   right
   rw [hx,cond_true,hd]at hdt
   obtain ⟨data',k',q1,q2,q3,q4⟩:=yZ s i hn (s.length - (i + 1)) 1 i s (by omega) (by omega) rfl (by omega) hdt.symm rfl
   have hlo:=gD q1
   have hne:neL s=some ():=by
    cases s with
    | nil=>simp at hi
    | cons a l=>rfl
   have hsr:pG s (i:Int) (s.length:Int)=some ():=by unfold pG; rw [if_pos ⟨by omega,by omega,by omega,by omega⟩]
   have hsr2:pG data' (k':Int) (data'.length:Int)=some ():=by unfold pG; rw [if_pos ⟨by omega,by omega,by omega,by omega⟩]
   have hlen:(data'.take k'++List.replicate (data'.length - k') (0:Int)++data'.drop (k' + (data'.length - k'))).length=data'.length:=by simp; omega
   have hsr3:pG (data'.take k'++List.replicate (data'.length - k') (0:Int)++data'.drop (k' + (data'.length - k'))) 0 (k':Int)=some ():=by unfold pG; rw [if_pos ⟨by omega,by omega,by omega,by rw [hlen]; omega⟩]
   have n1:((data'.length:Int)).toNat=data'.length:=by omega
   have n2:(k':Int).toNat=k':=by omega
   have:aU s (i:Int)=some (.ret (dd s)):=by
    unfold aU
    have one:((1:Nat):Int)=1:=rfl
    rw [one]at hlo
    simp only [hc,cond_true,hw,e1,e2,i1,i2,hga,hgb,Option.bind_some,hswap,hx,hne,hsr,hlo,thenC,hsr2,n1,n2,hsr3]
    congr 2
    show List.take k' (List.drop 0 _)=dd s
    rw [List.drop_zero,List.append_assoc,List.take_append_of_le_length (by rw [List.length_take]; omega),List.take_take,Nat.min_self,q4]
   rw [this]; rfl
theorem Iw (s:List Int) (hn:s.length≤1000000000):bS s=some (dd s):=by
 unfold bS
 by_cases h:(s.length:Int) < 2
 ·rw [decide_eq_true h,cond_true]
  match s,h with
  | [],_=>rfl
  | [a],_=>rfl
  | a::b::l,h=>simp at h; omega
 ·rw [decide_eq_false h,cond_false]
  have h1:dd (s.take 1)=s.take 1:=by
   match s with
   | []=>rfl
   | a::l=>rfl
  rcases Cw s hn (s.length - 1) 1 (by omega) (Nat.le_refl _) h1 with⟨h2,h3⟩ | h2
  ·have:=gD h2
   show (fD 1 _).bind _=_
   rw [show ((1:Nat):Int)=1 from rfl]at this
   rw [this,h3]; rfl
  ·have:=gD h2
   show (fD 1 _).bind _=_
   rw [show ((1:Nat):Int)=1 from rfl]at this
   rw [this]; rfl
theorem o7 (e:List Int) (hn:e.length≤1000000000):∃ s c,dC e=some s∧s.length=e.length∧bS s=some c∧c.Pairwise (· < ·)∧(∀ x,x∈c↔x∈e)∧c.length≤e.length:=by
 have hs:dC e=some (e.mergeSort fun x y=>decide (x≤y)):=by
  unfold dC He; rw [if_pos (by omega)]
 have hl:(e.mergeSort fun x y=>decide (x≤y)).length=e.length:=List.length_mergeSort e
 refine⟨_,_,hs,hl,Iw _ (by rw [hl]; exact hn),Fh _ ?_,fun x => ?_,by rw [← hl]; exact MK _⟩
 ·have:=List.pairwise_mergeSort (le:=fun (x y:Int)=>decide (x≤y)) (fun a b c=>by simp; omega) (fun a b=>by simp; omega) e
  exact this.imp (by simp)
 ·rw [FJ]; exact List.mem_mergeSort
end Go.Proofs.YtjhcehhmdmbleaaGreatDoor.Law

open Go Go.Eng
namespace Go.Proofs.YtjhcehhmdmbleaaGreatDoor.Law
set_option linter.unusedVariables false
set_option linter.unusedSimpArgs false
def putC (id:ByteArray) (a b:Int) (out:List Slot_):Option (List Slot_) :=
 (bif (decide ((w64 ((out.length:Int) - 1))≥0))then (inR (w64 ((out.length:Int) - 1)) out).bind fun _=>(out[(0 + ((w64 ((out.length:Int) - 1))).toNat)]?).bind fun e_81=>some (sEq e_81.Entry id)else some false).bind fun v_77 =>
 (bif v_77 then (inR (w64 ((out.length:Int) - 1)) out).bind fun _=>(out[(0 + ((w64 ((out.length:Int) - 1))).toNat)]?).bind fun e_90=>some (out.set (0 + ((w64 ((out.length:Int) - 1))).toNat) (⟨(⟨e_90.Time.From,b⟩:Window),e_90.Entry⟩:Slot_))
 else (oo out ([(⟨(⟨a,b⟩:Window),id⟩:Slot_)]:List Slot_)).bind fun a_96=>some a_96)
theorem putC_eq (id:ByteArray) (a b:Int) (out:List Slot_) (hl:out.length≤1000000):putC id a b out=some (vU id a b out):=by
 unfold putC
 cases ho:out.length with
 | zero =>
  have e:=List.eq_nil_of_length_eq_zero ho
  subst e
  rw [decide_eq_false (by decide)]; rfl
 | succ n =>
  have hw:w64 ((out.length:Int) - 1)=(n:Int):=by rw [bE (by omega)]; omega
  rw [← ho,hw,decide_eq_true (by omega),cond_true,CJ (by omega) (by omega)]
  have hn:n < out.length:=by omega
  have e1:out[(0 + ((n:Int)).toNat)]? = some out[n]:=by rw [show 0 + ((n:Int)).toNat=n by omega]; exact List.getElem?_eq_getElem hn
  rw [e1]
  simp only [Option.bind_some,FU]
  by_cases he:out[n].Entry=id
  ·rw [decide_eq_true he,cond_true,G8 id a b out n _ ho (List.getElem?_eq_getElem hn) he,show 0 + ((n:Int)).toNat=n by omega]
  ·rw [decide_eq_false he,cond_false,uL _ _ (by simp; omega),GX id a b out (fun m x h1 h2=>by
    obtain rfl:m=n:=by omega
    rw [List.getElem?_eq_getElem hn,Option.some.injEq]at h2
    rw [← h2]; exact he)]; rfl
structure EB (m:List Entry) (z:Int) (w:Window) (E:List Int):Prop where
 from_:w.From∈E
 to_:w.To∈E
 in_:∀ x∈E,w.From≤x∧x≤w.To
 has:∀ e∈m,∀ x∈wants e z w,x.From∈E∧x.To∈E
theorem LB {e:Entry} (h:Right e) {z:Int} {w x:Window} (hx:x∈wants e z w):w.From≤x.From∧x.From≤w.To∧w.From≤x.To∧x.To≤w.To:=by
 obtain ⟨d,_,_,hp,rfl⟩:=(xE h).1 hx
 obtain ⟨_,_,hp⟩:=CZ.1 hp
 unfold cutW tW
 simp only [FB,Cc]
 omega
end Go.Proofs.YtjhcehhmdmbleaaGreatDoor.Law

namespace Go.Eng
set_option linter.unusedVariables false
set_option linter.unusedSimpArgs false
def DY {α:Type} (f:α→Option Bool) (xs:List α) (k x:Nat) (s:Unit):Option (Ctl Unit Int) :=
 (inR (k:Int) xs).bind fun _=>(xs[(0 + ((k:Int)).toNat)]?).bind fun e=>(f e).bind fun r=>bif r then some (.ret (k:Int))else some (.go ())
def ixF {α:Type} (f:α→Option Bool) (xs:List α):Option Int :=
 (forL (List.range ((xs.length:Int)).toNat) () (fun k x s=>DY f xs k x s)).bind fun o=>thenC o (fun _=>some (-1)) (fun r=>some r)
def uZ {α:Type} (f:α→Option Bool) (s:List α×Int×Int):Option (Ctl (List α×Int×Int) Unit) :=
 bif (decide (s.2.2 < (s.1.length:Int)))then (inR s.2.2 s.1).bind fun _=>(s.1[(0 + (s.2.2).toNat)]?).bind fun e=>(f e).bind fun r=>(bif (!r)then (inR s.2.1 s.1).bind fun _=>(s.1[(0 + (s.2.1).toNat)]?).bind fun e_29=>some ((s.1.set (0 + (s.2.1).toNat) e),(w64 (s.2.1 + 1)))else some (s.1,s.2.1)).bind fun v=>some (.go (v.1,v.2,(w64 (s.2.2 + 1))))else some (.brk (s.1,s.2.1,s.2.2))
theorem rQ {α:Type} {xs:List α} {k:Nat} (h:k < xs.length):inR (k:Int) xs=some ():=by unfold inR; rw [if_pos ⟨by omega,by omega⟩]
theorem ixF_eq {α:Type} {f:α→Option Bool} {q:α→Bool} {xs:List α} (hf:∀ x∈xs,f x=some (q x)) (hl:xs.length≤1000000000) :
  (ixF f xs=some (-1) ∧ ∀ x∈xs,q x=false) ∨ ∃ (k:Nat) (h:k < xs.length),ixF f xs=some (k:Int)∧q xs[k]=true ∧ ∀ x∈xs.take k,q x=false:=by
 have run:∀ (ys:List Nat) (k:Nat),k + ys.length=xs.length→(∀ x∈xs.take k,q x=false) →
   (forR (fun k x s=>DY f xs k x s) ys k ()=some (.go ()) ∧ ∀ x∈xs,q x=false) ∨ ∃ (j:Nat) (h:j < xs.length),forR (fun k x s=>DY f xs k x s) ys k ()=some (.ret (j:Int))∧q xs[j]=true ∧ ∀ x∈xs.take j,q x=false:=by
  intro ys
  induction ys with
  | nil=>intro k h hq; exact .inl ⟨rfl,by rw [List.length_nil,Nat.add_zero]at h; rw [h,List.take_length]at hq; exact hq⟩
  | cons y ys ih =>
   intro k h hq
   simp only [List.length_cons]at h
   have hk:k < xs.length:=by omega
   have hst:DY f xs k y ()=some (bif q xs[k]then .ret (k:Int)else .go ()):=by
    unfold DY
    simp only [rQ hk,Option.bind_some,Int.toNat_natCast,Nat.zero_add,List.getElem?_eq_getElem hk,hf _ (List.getElem_mem hk)]
    cases q xs[k] <;> rfl
   rw [forR,hst,Option.bind_some]
   cases hqk:q xs[k]with
   | true=>exact .inr ⟨k,hk,rfl,hqk,hq⟩
   | false =>
    refine ih (k + 1) (by omega) (fun x hx => ?_)
    rw [List.take_succ_eq_append_getElem hk]at hx
    rcases List.mem_append.1 hx with hx | hx
    ·exact hq x hx
    ·rw [List.mem_singleton.1 hx]; exact hqk
 unfold ixF
 rw [Int.toNat_natCast,rM (by simp; omega)]
 rcases run (List.range xs.length) 0 (by simp) (by simp)with⟨h1,h2⟩ | ⟨k,hk,h1,h2,h3⟩
 ·exact .inl ⟨by rw [h1]; rfl,h2⟩
 ·exact .inr ⟨k,hk,by rw [h1]; rfl,h2,h3⟩
theorem filter_all {α:Type} {p:α→Bool} {xs:List α} (h:∀ x∈xs,p x=true):xs.filter p=xs:=List.filter_eq_self.2 h
theorem DV {α:Type} {f:α→Option Bool} {q:α→Bool} {xs:List α} (hf:∀ x∈xs,f x=some (q x)) (hl:xs.length≤1000000000) :
  ∀ (m:Nat) (l:List α) (i j:Nat),j + m=xs.length→i≤j→l.length=xs.length→l.take i=(xs.take j).filter (fun x => !q x)→l.drop j=xs.drop j →
   ∃ l' i',iterN (fun s=>uZ f s) (m + 1) (l,(i:Int),(j:Int))=some (.go (l',(i':Nat),(xs.length:Int)))∧i'≤xs.length∧l'.length=xs.length∧l'.take i'=xs.filter (fun x => !q x)
 | 0,l,i,j,hj,hij,hll,ht,hd=>by
  have hj':j=xs.length:=by omega
  subst hj'
  have hc:decide ((xs.length:Int) < (l.length:Int))=false:=by simp [hll]
  refine⟨l,i,?_,hij,hll,by rw [ht,List.take_length]⟩
  simp only [iterN,uZ,hc,cond_false,Option.bind_some]
 | m + 1,l,i,j,hj,hij,hll,ht,hd=>by
  have hjx:j < xs.length:=by omega
  have hjl:j < l.length:=by omega
  have hil:i < l.length:=by omega
  have hc:decide ((j:Int) < (l.length:Int))=true:=by simp; omega
  have he:l[j]=xs[j]:=by
   have h1:(l.drop j)[0]? = (xs.drop j)[0]? := by rw [hd]
   rw [List.getElem?_drop,List.getElem?_drop,Nat.add_zero,List.getElem?_eq_getElem hjl,List.getElem?_eq_getElem hjx]at h1
   exact Option.some.inj h1
  have w1:w64 ((j:Int) + 1)=((j + 1:Nat):Int):=by rw [bE (by omega)]; omega
  have w2:w64 ((i:Int) + 1)=((i + 1:Nat):Int):=by rw [bE (by omega)]; omega
  have hfe:=hf _ (List.getElem_mem hjx)
  have hdrop:(l.drop j).drop 1=(xs.drop j).drop 1:=by rw [hd]
  rw [List.drop_drop,List.drop_drop]at hdrop
  cases hq:q xs[j]with
  | false =>
   have hst:uZ f (l,(i:Int),(j:Int))=some (.go (l.set i xs[j],((i + 1:Nat):Int),((j + 1:Nat):Int))):=by
    simp only [uZ,hc,cond_true,rQ hjl,rQ hil,Option.bind_some,Int.toNat_natCast,Nat.zero_add,List.getElem?_eq_getElem hjl,List.getElem?_eq_getElem hil,he,hfe,hq,Bool.not_false,w1,w2]
   rw [iterN,hst,Option.bind_some]
   refine DV hf hl m (l.set i xs[j]) (i + 1) (j + 1) (by omega) (by omega) (by simpa using hll) ?_ ?_
   ·rw [List.take_succ_eq_append_getElem (by simpa using hil),List.take_set_of_le (Nat.le_refl _),ht,List.take_succ_eq_append_getElem hjx,List.filter_append]
    simp [hq]
   ·rw [List.drop_set_of_lt (by omega)]; exact hdrop
  | true =>
   have hst:uZ f (l,(i:Int),(j:Int))=some (.go (l,(i:Int),((j + 1:Nat):Int))):=by
    simp only [uZ,hc,cond_true,rQ hjl,Option.bind_some,Int.toNat_natCast,Nat.zero_add,List.getElem?_eq_getElem hjl,he,hfe,hq,Bool.not_true,cond_false,w1]
   rw [iterN,hst,Option.bind_some]
   refine DV hf hl m l i (j + 1) (by omega) (by omega) hll ?_ hdrop
   rw [ht,List.take_succ_eq_append_getElem hjx,List.filter_append]
   simp [hq]
end Go.Eng

