/-
  THE PLAIN LAW (part 2).
-/
import Derived.Test.YthcdokkcamcnmaaGreatDoorPl1
import Derived.Test.YthcdokkcamcnmaaGreatDoorDefs
import Derived.Test.YthcdokkcamcnmaaGreatDoorEng5
open Go Go.Eng
namespace Go.Proofs.YthcdokkcamcnmaaGreatDoor.Law
set_option linter.unusedVariables false
set_option linter.unusedSimpArgs false
theorem xD {σ ρ : Type} {body : σ->Option (Ctl σ ρ)} (I : Nat->σ->Prop) (N : Nat) (hgo : ∀k s, k<N->I k s->∃s', body s=some (.go s')/\I (k+1) s') (hbrk : ∀s, I N s->body s=some (.brk s)) {s : σ} (h0 : I 0 s) : ∃s', iI s body=some (.go s')/\I N s':=by
  have key : ∀(n k : Nat) (s : σ), k+n=N->I k s->∃s', fA body (n+1) s=some (.go s')/\I N s':=by
    intro n
    induction n with
    | zero => intro k s hk hI
              have e : k=N:=by omega
              subst e
              exact ⟨s, by simp only [fA, hbrk s hI, ob_], hI⟩
    | succ n ih => intro k s hk hI
                   obtain ⟨s', e, hI'⟩:=hgo k s (by omega) hI
                   obtain ⟨r, er, hr⟩:=ih (k+1) s' (by omega) hI'
                   refine ⟨r, ?_, hr⟩
                   rw [fA, e, ob_];exact er
  obtain ⟨s', e, hI⟩:=key N 0 s (by omega) h0
  exact ⟨s', iU e, hI⟩
def fP (f : Int->ByteArray) (T : Int) : Int->List Slot_->Prop
  | F, []=>F=T
  | F, x::r=>x.Time.From=F/\F<x.Time.To/\x.Time.To<=T/\(∀t, F<=t->t<x.Time.To->f t=x.Entry)/\(∀y, r.head? = some y->y.Entry ≠ x.Entry)/\fP f T x.Time.To r
theorem fP.le {f : Int->ByteArray} {T : Int} : ∀{l : List Slot_} {F : Int}, fP f T F l->F<=T
  | [], F, h=>by unfold fP at h;omega
  | x::r, F, h=>by unfold fP at h;omega
theorem fP.uniq {f : Int->ByteArray} {T : Int} : ∀{a b : List Slot_} {F : Int}, fP f T F a->fP f T F b->a=b
  | [], [], _, _, _=>rfl
  | [], y::b, F, h, k=>by unfold fP at h k;omega
  | x::a, [], F, h, k=>by unfold fP at h k;omega
  | x::a, y::b, F, h, k=>by
    unfold fP at h k
    obtain ⟨h1, h2, h3, h4, h5, h6⟩:=h
    obtain ⟨k1, k2, k3, k4, k5, k6⟩:=k
    have he : x.Entry=y.Entry:=(h4 F (Int.le_refl _) h2).symm.trans (k4 F (Int.le_refl _) k2)
    have ht : x.Time.To=y.Time.To:=by
      rcases Int.lt_trichotomy x.Time.To y.Time.To with q|q|q
      · cases a with
        | nil=>unfold fP at h6;omega
        | cons z a =>
          unfold fP at h6
          have e1:=h6.2.2.2.1 x.Time.To (Int.le_refl _) h6.2.1
          have e2:=k4 x.Time.To (by omega) q
          exact absurd (e1.symm.trans (e2.trans he.symm)) (h5 z rfl)
      · exact q
      · cases b with
        | nil=>unfold fP at k6;omega
        | cons z b =>
          unfold fP at k6
          have e1:=k6.2.2.2.1 y.Time.To (Int.le_refl _) k6.2.1
          have e2:=h4 y.Time.To (by omega) q
          exact absurd (e1.symm.trans (e2.trans he)) (k5 z rfl)
    have hx : x=y:=by
      obtain ⟨⟨xf, xt⟩, xe⟩:=x
      obtain ⟨⟨yf, yt⟩, ye⟩:=y
      simp only at h1 k1 he ht
      rw [h1, k1, he, ht]
    rw [ht] at h6
    rw [hx, fP.uniq h6 k6]
def vO (id : ByteArray) (F T : Int) : List Slot_->List Slot_
  | []=>[⟨⟨F, T⟩, id⟩]
  | [x]=>if x.Entry=id then [⟨⟨x.Time.From, T⟩, x.Entry⟩] else [x, ⟨⟨F, T⟩, id⟩]
  | x::y::r=>x::vO id F T (y::r)
theorem Lg (id : ByteArray) (F T : Int) : ∀(y : Slot_) (r : List Slot_), ∃z, (vO id F T (y::r)).head? = some z/\z.Entry=y.Entry
  | y, []=>by
    unfold vO
    split
    · exact ⟨_, rfl, rfl⟩
    · exact ⟨_, rfl, rfl⟩
  | y, z::r=>⟨y, rfl, rfl⟩
theorem fP.add {f : Int->ByteArray} {id : ByteArray} {F T : Int} (hT : F<T) (hf : ∀t, F<=t->t<T->f t=id) : ∀(out : List Slot_) (F0 : Int), fP f F F0 out->fP f T F0 (vO id F T out)
  | [], F0, h=>by
    unfold fP at h
    subst h
    unfold vO fP
    exact ⟨rfl, hT, Int.le_refl _, hf, λy hy=>(by cases hy), (by unfold fP;rfl)⟩
  | [x], F0, h=>by
    unfold fP at h
    obtain ⟨h1, h2, h3, h4, h5, h6⟩:=h
    unfold fP at h6
    unfold vO
    by_cases he : x.Entry=id
    · rw [if_pos he]
      unfold fP
      refine ⟨h1, (by show F0<T;omega), Int.le_refl _, λt t1 t2 => ?_, λy hy=>(by cases hy), (by unfold fP;rfl)⟩
      by_cases ht : t<F
      · exact h4 t t1 (by omega)
      · exact (hf t (by omega) t2).trans he.symm
    · rw [if_neg he]
      unfold fP
      refine ⟨h1, h2, by omega, h4, λy hy => ?_, ?_⟩
      · rw [<- Option.some.inj hy];exact λe=>he e.symm
      · unfold fP
        exact ⟨h6.symm, (by show x.Time.To<T;omega), Int.le_refl _, λt t1 t2=>hf t (by omega) t2, λy hy=>(by cases hy), (by unfold fP;rfl)⟩
  | x::y::r, F0, h=>by
    unfold fP at h
    obtain ⟨h1, h2, h3, h4, h5, h6⟩:=h
    have ih:=fP.add hT hf (y::r) _ h6
    unfold vO
    unfold fP
    refine ⟨h1, h2, by omega, h4, λz hz => ?_, ih⟩
    obtain ⟨z', e1, e2⟩:=Lg id F T y r
    rw [e1] at hz
    rw [<- Option.some.inj hz, e2]
    exact h5 y rfl
theorem Iu (id : ByteArray) (F T : Int) : ∀(out : List Slot_) (n : Nat) (x : Slot_), out.length=n+1->out[n]? = some x->x.Entry=id->vO id F T out=out.set n ⟨⟨x.Time.From, T⟩, x.Entry⟩
  | [], n, x, h, _, _=>by simp at h
  | [y], 0, x, _, hx, he=>by
    simp only [List.getElem?_cons_zero, so_] at hx
    subst hx
    unfold vO
    rw [if_pos he];rfl
  | [y], n+1, x, h, _, _=>by simp at h
  | y::z::r, 0, x, h, _, _=>by simp at h
  | y::z::r, n+1, x, h, hx, he=>by
    unfold vO
    rw [Iu id F T (z::r) n x (by simpa using h) (by simpa using hx) he];rfl
theorem I4 (id : ByteArray) (F T : Int) : ∀(out : List Slot_), (∀(n : Nat) (x : Slot_), out.length=n+1->out[n]? = some x->x.Entry ≠ id)->vO id F T out=out++[⟨⟨F, T⟩, id⟩]
  | [], _=>rfl
  | [y], h=>by
    unfold vO
    rw [if_neg (h 0 y rfl rfl)];rfl
  | y::z::r, h=>by
    unfold vO
    rw [I4 id F T (z::r) (λn x h1 h2=>h (n+1) x (by simp only [List.length_cons] at *;omega) (by simpa using h2))];rfl
theorem Du (id : ByteArray) (F T : Int) : ∀(out : List Slot_), (vO id F T out).length<=out.length+1
  | []=>by simp [vO]
  | [y]=>by unfold vO;split <;> simp
  | y::z::r=>by
    have:=Du id F T (z::r)
    unfold vO
    simp only [List.length_cons] at *;omega
theorem fP.at {f : Int->ByteArray} {T : Int} : ∀{l : List Slot_} {F : Int}, fP f T F l->(∀x ∈ l, F<=x.Time.From/\x.Time.From<x.Time.To/\x.Time.To<=T/\∀t, x.Time.From<=t->t<x.Time.To->f t=x.Entry)/\∀t, F<=t->t<T->∃x ∈ l, x.Time.From<=t/\t<x.Time.To
  | [], F, h=>by
    unfold fP at h
    exact ⟨λx hx=>(by cases hx), λt t1 t2=>by omega⟩
  | y::r, F, h=>by
    unfold fP at h
    obtain ⟨h1, h2, h3, h4, h5, h6⟩:=h
    obtain ⟨k1, k2⟩:=fP.at h6
    refine ⟨λx hx => ?_, λt t1 t2 => ?_⟩
    · rcases List.mem_cons.1 hx with rfl | hx
      · exact ⟨by omega, by omega, h3, λt t1 t2=>h4 t (by omega) t2⟩
      · obtain ⟨q1, q2, q3, q4⟩:=k1 x hx
        exact ⟨by omega, q2, q3, q4⟩
    · by_cases ht : t<y.Time.To
      · exact ⟨y, List.mem_cons_self, by omega, ht⟩
      · obtain ⟨x, hx, q⟩:=k2 t (by omega) t2
        exact ⟨x, List.mem_cons_of_mem _ hx, q⟩
theorem N9 {E : List Int} (hE : E.Pairwise (· < ·)) {i : Nat} {a b : Int} (ha : E[i]? = some a) (hb : E[i+1]? = some b) {x : Int} (hx : x ∈ E) : x<=a\/b<=x:=by
  obtain ⟨j, hj, rfl⟩:=List.getElem_of_mem hx
  obtain ⟨h1, e1⟩:=List.getElem?_eq_some_iff.1 ha
  obtain ⟨h2, e2⟩:=List.getElem?_eq_some_iff.1 hb
  have hp:=List.pairwise_iff_getElem.1 hE
  by_cases hji : j<i
  · left;have:=hp j i hj h1 hji;omega
  · by_cases hji2 : j=i
    · subst hji2;left;omega
    · by_cases hj3 : j=i+1
      · subst hj3;right;omega
      · right;have:=hp (i+1) j h2 hj (by omega);omega
theorem EZ {E : List Int} (hE : E.Pairwise (· < ·)) {i : Nat} {a b : Int} (ha : E[i]? = some a) (hb : E[i+1]? = some b) : a<b:=by
  obtain ⟨h1, e1⟩:=List.getElem?_eq_some_iff.1 ha
  obtain ⟨h2, e2⟩:=List.getElem?_eq_some_iff.1 hb
  have:=List.pairwise_iff_getElem.1 hE i (i+1) h1 h2 (by omega)
  omega
theorem Fz {E : List Int} (hE : E.Pairwise (· < ·)) {F T : Int} (hF : F ∈ E) (hT : T ∈ E) (hin : ∀x ∈ E, F<=x/\x<=T) : E[0]? = some F/\E[E.length-1]? = some T:=by
  have hp:=List.pairwise_iff_getElem.1 hE
  obtain ⟨i, hi, ei⟩:=List.getElem_of_mem hF
  obtain ⟨j, hj, ej⟩:=List.getElem_of_mem hT
  constructor
  · rw [List.getElem?_eq_getElem (by omega)]
    by_cases h0 : i=0
    · subst h0;rw [ei]
    · have h1:=hp 0 i (by omega) hi (by omega)
      have h2:=(hin E[0] (List.getElem_mem _)).1
      omega
  · rw [List.getElem?_eq_getElem (by omega)]
    by_cases h0 : j=E.length-1
    · subst h0;rw [ej]
    · have h1:=hp j (E.length-1) hj (by omega) (by omega)
      have h2:=(hin E[E.length-1] (List.getElem_mem _)).2
      omega
theorem Fj {α : Type} {R : α->α->Prop} (has : ∀a b, R a b->¬R b a) {a b : List α} (h : a.Perm b) (ha : a.Pairwise R) (hb : b.Pairwise R) : a=b :=
  List.Perm.eq_of_pairwise (λx y _ _ h1 h2=>absurd h2 (has x y h1)) ha hb h
end Go.Proofs.YthcdokkcamcnmaaGreatDoor.Law

open Go Go.Eng
namespace Go.Proofs.YthcdokkcamcnmaaGreatDoor.Law
set_option linter.unusedVariables false
set_option linter.unusedSimpArgs false
def Lv {α:Type} (r:α->α->Bool) (x:α):List α->List α
 | []=>[x]
 | y::l=>bif r x y then x::y::l else y::Lv r x l
def Kj {α:Type} (r:α->α->Bool):List α->List α
 | []=>[]
 | x::l=>Lv r x (Kj r l)
theorem Aq {α:Type} (r:α->α->Bool) (x:α):∀l,(Lv r x l).Perm (x::l)
 | [] => .refl _
 | y::l=>by
  unfold Lv
  cases r x y with
  | true=>exact .refl _
  | false=>exact ((Aq r x l).cons y).trans (List.Perm.swap x y l)
theorem uB {α:Type} (r:α->α->Bool):∀l,(Kj r l).Perm l
 | [] => .refl _
 | x::l=>(Aq r x _).trans ((uB r l).cons x)
theorem Bf {α:Type} {r:α->α->Bool} (htr:∀a b c,r a b=true->r b c=true->r a c=true) {x:α}:∀{l:List α},(∀y∈l,r x y=true\/r y x=true)->l.Pairwise (λa b=>r a b=true)->(Lv r x l).Pairwise (λa b=>r a b=true)
 | [],_,_=>List.pairwise_singleton _ _
 | y::l,h,hp=>by
  obtain ⟨p1,p2⟩:=List.pairwise_cons.1 hp
  unfold Lv
  cases hxy:r x y with
  | true =>
   refine List.pairwise_cons.2 ⟨λz hz => ?_,hp⟩
   rcases List.mem_cons.1 hz with rfl|hz
   ·exact hxy
   ·exact htr _ _ _ hxy (p1 z hz)
  | false =>
   refine List.pairwise_cons.2 ⟨λz hz => ?_,Bf htr (λz hz=>h z (List.mem_cons_of_mem _ hz)) p2⟩
   rcases List.mem_cons.1 ((Aq r x l).mem_iff.1 hz)with rfl|hz
   ·exact (h y List.mem_cons_self).resolve_left (by rw [hxy];exact Bool.false_ne_true)
   ·exact p1 z hz
theorem wN {α:Type} {r:α->α->Bool} (htr:∀a b c,r a b=true->r b c=true->r a c=true):∀{l:List α},l.Pairwise (λa b=>r a b=true\/r b a=true)->(Kj r l).Pairwise (λa b=>r a b=true)
 | [],_ => .nil
 | x::l,h=>by
  obtain ⟨p1,p2⟩:=List.pairwise_cons.1 h
  exact Bf htr (λy hy=>p1 y ((uB r l).mem_iff.1 hy)) (wN htr p2)
theorem srtG_is {α:Type} {r:α->α->Bool} (hir:∀a,r a a=false) (htr:∀a b c,r a b=true->r b c=true->r a c=true) {l s:List α} (ht:l.Pairwise (λa b=>r a b=true\/r b a=true)) (hp:s.Perm l) (hs:s.Pairwise (λa b=>r b a=false)):s=Kj r l:=by
 have hsy:∀{x y:α},(r x y=true\/r y x=true)->(r y x=true\/r x y=true):=λh=>h.symm
 have h2:s.Pairwise (λa b=>r a b=true\/r b a=true):=(hp.pairwise_iff (λh=>h.symm)).2 ht
 have h3:s.Pairwise (λa b=>r a b=true):=by
  refine List.Pairwise.imp₂ (λa b h k => ?_) hs h2
  rcases k with k|k
  ·exact k
  ·rw [h]at k;cases k
 exact Fj (R:=λa b=>r a b=true) (λa b h k=>by have:=htr a b a h k;rw [hir]at this;cases this) (hp.trans (uB r l).symm) h3 (wN htr ht)
theorem Mg {α:Type} {r:α->α->Bool} (hir:∀a,r a a=false) (htr:∀a b c,r a b=true->r b c=true->r a c=true) {l:List α} (ht:l.Pairwise (λa b=>r a b=true\/r b a=true)) {x:α} (hx:x∈l) (hm:∀y∈l,r y x=false):∃t,Kj r l=x::t:=by
 have hs:=wN htr ht
 have hp:=uB r l
 cases h:Kj r l with
 | nil=>rw [h]at hp;have:=hp.symm.mem_iff.1 hx;cases this
 | cons y t =>
  rw [h]at hp hs
  rcases List.mem_cons.1 (hp.mem_iff.2 hx)with e|e
  ·exact⟨t,by rw [e]⟩
  ·have h1:=(List.pairwise_cons.1 hs).1 x e
   rw [hm y (hp.mem_iff.1 List.mem_cons_self)]at h1;cases h1
end Go.Proofs.YthcdokkcamcnmaaGreatDoor.Law

open Go Go.Eng
namespace Go.Proofs.YthcdokkcamcnmaaGreatDoor.Law
set_option linter.unusedVariables false
set_option linter.unusedSimpArgs false
def vN (e:Entry) (z t d:Int):Bool := !e.Gone&&(decide (e.First<=d)&&(decide (d<=e.Last)&&(xM e d&&(decide (tF e z d<=t)&&decide (t<tF e z d+o7 e*60000)))))
theorem oJ {e:Entry} {z t d:Int}:vN e z t d=true↔e.Gone=false/\e.First<=d/\d<=e.Last/\xM e d=true/\tF e z d<=t/\t<tF e z d+o7 e*60000:=by
 unfold vN
 simp only [Bool.and_eq_true,decide_eq_true_eq,Bool.not_eq_true']
theorem KG (e:Entry) (z:Int) {d d':Int} (h:d<d'):tF e z d+86400000<=tF e z d':=by unfold tF;omega
theorem MW {e:Entry} (h:Right e) {z t d d':Int} (h1:vN e z t d=true) (h2:vN e z t d'=true):d=d':=by
 obtain ⟨_,_,_,_,a1,a2⟩:=oJ.1 h1
 obtain ⟨_,_,_,_,b1,b2⟩:=oJ.1 h2
 have hm:=D5 e h
 rcases Int.lt_trichotomy d d' with q|q|q
 ·have:=KG e z q;omega
 ·exact q
 ·have:=KG e z q;omega
def uP (z t:Int):Int:=(t+z*60000) / 86400000
def BU (e:Entry) (z t:Int):Option Int :=
 bif vN e z t (uP z t-1)then some (tF e z (uP z t-1))else bif vN e z t (uP z t)then some (tF e z (uP z t))else none
theorem MS {e:Entry} (h:Right e) {z t d:Int} (h1:vN e z t d=true):d=uP z t-1\/d=uP z t:=by
 obtain ⟨_,_,_,_,a1,a2⟩:=oJ.1 h1
 have hm:=D5 e h
 have hf:=h.from_
 unfold tF at a1 a2
 unfold uP
 omega
theorem zB {e:Entry} (h:Right e) {z t b:Int}:BU e z t=some b↔∃d,vN e z t d=true/\b=tF e z d:=by
 unfold BU
 constructor
 ·intro hb
  cases h1:vN e z t (uP z t-1)with
  | true=>rw [h1,cond_true,so_]at hb;exact⟨_,h1,hb.symm⟩
  | false =>
   rw [h1,cond_false]at hb
   cases h2:vN e z t (uP z t)with
   | true=>rw [h2,cond_true,so_]at hb;exact⟨_,h2,hb.symm⟩
   | false=>rw [h2,cond_false]at hb;cases hb
 ·rintro ⟨d,hd,rfl⟩
  rcases MS h hd with e1|e1
  ·rw [<- e1,hd,cond_true]
  ·cases h1:vN e z t (uP z t-1)with
   | true=>have:=MW h hd h1;omega
   | false=>rw [cond_false,<- e1,hd,cond_true]
def rD (x y:Entry×Int):Bool:=decide (y.1.Prio<x.1.Prio)||(decide (x.1.Prio=y.1.Prio)&&(decide (y.2<x.2)||(decide (x.2=y.2)&&sLt y.1.Key x.1.Key)))
theorem uw {x y:Entry×Int}:rD x y=true↔y.1.Prio<x.1.Prio\/x.1.Prio=y.1.Prio/\(y.2<x.2\/x.2=y.2/\lt y.1.Key x.1.Key):=by
 unfold rD
 simp only [Bool.or_eq_true,Bool.and_eq_true,decide_eq_true_eq,uT]
theorem wQ (x:Entry×Int):rD x x=false:=by
 rw [<- Bool.not_eq_true,uw]
 rintro (h|⟨_,h|⟨_,h⟩⟩)
 ·omega
 ·omega
 ·exact ow _ h
theorem uK (a b c:Entry×Int) (h:rD a b=true) (k:rD b c=true):rD a c=true:=by
 rw [uw]at *
 rcases h with h|⟨h,h2⟩ <;> rcases k with k|⟨k,k2⟩
 ·exact .inl (by omega)
 ·exact .inl (by omega)
 ·exact .inl (by omega)
 ·refine .inr ⟨by omega,?_⟩
  rcases h2 with h2|⟨h2,h3⟩ <;> rcases k2 with k2|⟨k2,k3⟩
  ·exact .inl (by omega)
  ·exact .inl (by omega)
  ·exact .inl (by omega)
  ·exact .inr ⟨by omega,lt_trans k3 h3⟩
theorem NB {x y:Entry×Int} (h:x.1.Key≠y.1.Key):rD x y=true\/rD y x=true:=by
 rw [uw,uw]
 rcases Int.lt_trichotomy x.1.Prio y.1.Prio with q|q|q
 ·exact .inr (.inl q)
 ·rcases Int.lt_trichotomy x.2 y.2 with w|w|w
  ·exact .inr (.inr ⟨q.symm,.inl w⟩)
  ·rcases DW x.1.Key y.1.Key with e|e|e
   ·exact .inr (.inr ⟨q.symm,.inr ⟨w.symm,e⟩⟩)
   ·exact absurd e h
   ·exact .inl (.inr ⟨q,.inr ⟨w,e⟩⟩)
  ·exact .inl (.inr ⟨q,.inl w⟩)
 ·exact .inl (.inl q)
theorem Ir {α β:Type} {f g:α->Option β}:∀{l:List α},(∀x∈l,f x=g x)->l.filterMap f=l.filterMap g
 | [],_=>rfl
 | x::l,h=>by
  rw [List.filterMap_cons,List.filterMap_cons,h x (by simp),Ir (λy hy=>h y (by simp [hy]))]
def Be (p:Player) (t:Int) (e:Entry):Option (Entry×Int):=bif pX e p then (BU e p.Zone t).map (λb=>(e,b))else none
def lL (l:List Entry) (p:Player) (t:Int):List (Entry×Int):=l.filterMap (Be p t)
def xW (l:List Entry) (p:Player) (t:Int):List (Entry×Int):=Kj rD (lL l p t)
def mh (l:List Entry) (p:Player) (t:Int):ByteArray:=match xW l p t with | []=>⟨#[]⟩ | x::_=>x.1.Key
theorem yY {p:Player} {t:Int} {e:Entry} {x:Entry×Int} (h:Be p t e=some x):x.1=e/\pX e p=true/\BU e p.Zone t=some x.2:=by
 unfold Be at h
 cases hf:pX e p with
 | false=>rw [hf,cond_false]at h;cases h
 | true =>
  rw [hf,cond_true]at h
  cases hb:BU e p.Zone t with
  | none=>rw [hb]at h;cases h
  | some b=>rw [hb,Option.map_some,so_]at h;rw [<- h];exact⟨rfl,rfl,rfl⟩
theorem xA {l:List Entry} {p:Player} {t:Int} {x:Entry×Int}:x∈lL l p t↔x.1∈l/\pX x.1 p=true/\BU x.1 p.Zone t=some x.2:=by
 unfold lL
 rw [List.mem_filterMap]
 constructor
 ·rintro ⟨e,he,h⟩
  obtain ⟨h1,h2,h3⟩:=yY h
  rw [h1];exact⟨he,h2,h3⟩
 ·rintro ⟨h1,h2,h3⟩
  refine⟨x.1,h1,?_⟩
  unfold Be
  rw [h2,h3];rfl
theorem FM {l:List Entry} (h:(l.map (·.Key)).Nodup) (p:Player) (t:Int):(lL l p t).Pairwise (λa b=>rD a b=true\/rD b a=true):=by
 have h2:l.Pairwise (λa b=>a.Key≠b.Key):=by
  have:=h
  unfold List.Nodup at this
  rwa [List.pairwise_map]at this
 unfold lL
 rw [List.pairwise_filterMap]
 refine h2.imp (λ{a b} hab x hx y hy => ?_)
 obtain ⟨e1,_⟩:=yY hx
 obtain ⟨e2,_⟩:=yY hy
 exact NB (by rw [e1,e2];exact hab)
theorem JZ {l:List Entry} (h:(l.map (·.Key)).Nodup) (p:Player) (t:Int) {x:Entry×Int} (hx:x∈lL l p t) (hm:∀y∈lL l p t,rD y x=false):mh l p t=x.1.Key:=by
 obtain ⟨r,e⟩:=Mg wQ uK (FM h p t) hx hm
 unfold mh xW
 rw [e]
theorem JG {l:List Entry} {p:Player} {t:Int} (h:lL l p t=[]):mh l p t=⟨#[]⟩:=by
 unfold mh xW
 rw [h];rfl
theorem key_gap {l:List Entry} (hr:∀e∈l,Right e) {p:Player} {a t:Int} (hat:a<=t)
  (h:∀e∈l,pX e p=true->∀d,e.Gone=false->e.First<=d->d<=e.Last->xM e d=true->(tF e p.Zone d<=a\/t<tF e p.Zone d)/\(tF e p.Zone d+o7 e*60000<=a\/t<tF e p.Zone d+o7 e*60000)):mh l p t=mh l p a:=by
 have key:∀e∈l,Be p t e=Be p a e:=λe he=>by
  unfold Be
  cases hf:pX e p with
  | false=>rfl
  | true =>
   rw [cond_true,cond_true]
   have hb:BU e p.Zone t=BU e p.Zone a:=by
    refine Option.ext (λb => ?_)
    rw [zB (hr e he),zB (hr e he)]
    constructor
    ·rintro ⟨d,hd,rfl⟩
     obtain ⟨h1,h2,h3,h4,h5,h6⟩:=oJ.1 hd
     obtain ⟨k1,k2⟩:=h e he hf d h1 h2 h3 h4
     exact⟨d,oJ.2 ⟨h1,h2,h3,h4,by omega,by omega⟩,rfl⟩
    ·rintro ⟨d,hd,rfl⟩
     obtain ⟨h1,h2,h3,h4,h5,h6⟩:=oJ.1 hd
     obtain ⟨k1,k2⟩:=h e he hf d h1 h2 h3 h4
     exact⟨d,oJ.2 ⟨h1,h2,h3,h4,by omega,by omega⟩,rfl⟩
   rw [hb]
 have:lL l p t=lL l p a:=by
  unfold lL
  exact Ir key
 unfold mh xW
 rw [this]
theorem wu {p:Int->Bool} {f:Int->Window} {x:Window}:∀(n:Nat) (d:Int),x∈collect p f n d↔∃y,d<=y/\y<d+n/\p y=true/\x=f y
 | 0,d=>by
  simp only [collect,List.not_mem_nil,false_iff]
  rintro ⟨y,h1,h2,_⟩;omega
 | n+1,d=>by
  simp only [collect,List.mem_append,wu n (d+1)]
  constructor
  ·rintro (h|⟨y,h1,h2,h3⟩)
   ·cases hp:p d with
    | true=>rw [hp,cond_true,List.mem_singleton]at h;exact⟨d,by omega,by omega,hp,h⟩
    | false=>rw [hp]at h;cases h
   ·exact⟨y,by omega,by omega,h3⟩
  ·rintro ⟨y,h1,h2,h3,h4⟩
   by_cases hy:y=d
   ·subst hy;left;rw [h3,cond_true,h4];exact List.mem_singleton.2 rfl
   ·right;exact⟨y,by omega,by omega,h3,h4⟩
theorem Gg (a b:Int):j5 a b=max a b:=by unfold j5;split <;> omega
theorem G7 (a b:Int):kG a b=min a b:=by unfold kG;split <;> omega
theorem Gb {e:Entry} {z:Int} {w:Window} {d:Int}:pR e z w d=true↔e.Gone=false/\xM e d=true/\max (tF e z d) w.From<min (tF e z d+o7 e*60000) w.To:=by
 unfold pR
 simp only [Bool.and_eq_true,decide_eq_true_eq,Bool.not_eq_true',Gg,G7]
theorem xG {e:Entry} (h:Right e) {z:Int} {w x:Window}:x∈wants e z w↔∃d,e.First<=d/\d<=e.Last/\pR e z w d=true/\x=cutW w (tW e z d):=by
 have h1:=h.first
 unfold wants
 rw [wu]
 constructor
 ·rintro ⟨y,a,b,c⟩;exact⟨y,a,by omega,c⟩
 ·rintro ⟨y,a,b,c⟩;exact⟨y,a,by omega,c⟩
theorem IE {l:List Entry} (hr:∀e∈l,Right e) {p:Player} {w:Window} {E:List Int} (hE:E.Pairwise (· < ·)) (hin:∀x∈E,w.From<=x/\x<=w.To)
  (hw:∀e∈l,pX e p=true->∀x∈wants e p.Zone w,x.From∈E/\x.To∈E) {i:Nat} {a b:Int} (ha:E[i]? = some a) (hb:E[i+1]? = some b) {t:Int} (hat:a<=t) (htb:t<b):mh l p t=mh l p a:=by
 have a1:=hin a (List.mem_of_getElem? ha)
 have b1:=hin b (List.mem_of_getElem? hb)
 refine key_gap hr hat (λe he hf d g1 g2 g3 g4 => ?_)
 have hm:=D5 e (hr e he)
 have key:∀v:Int,(v=tF e p.Zone d\/v=tF e p.Zone d+o7 e*60000)->v<=a\/t<v:=λv hv=>by
  by_cases q1:w.From<v
  ·by_cases q2:v<w.To
   ·have hp:pR e p.Zone w d=true:=Gb.2 ⟨g1,g4,by omega⟩
    obtain ⟨k1,k2⟩:=hw e he hf _ ((xG (hr e he)).2 ⟨d,g2,g3,hp,rfl⟩)
    unfold cutW tW at k1 k2
    simp only [Gg,G7]at k1 k2
    have hvE:v∈E:=by
     rcases hv with hv|hv
     ·rw [show max (tF e p.Zone d) w.From=v by omega]at k1;exact k1
     ·rw [show min (tF e p.Zone d+o7 e*60000) w.To=v by omega]at k2;exact k2
    rcases N9 hE ha hb hvE with h|h
    ·exact .inl h
    ·exact .inr (by omega)
   ·exact .inr (by omega)
  ·exact .inl (by omega)
 exact⟨key _ (.inl rfl),key _ (.inr rfl)⟩
end Go.Proofs.YthcdokkcamcnmaaGreatDoor.Law

open Go Go.Eng
namespace Go.Proofs.YthcdokkcamcnmaaGreatDoor.Law
set_option linter.unusedVariables false
set_option linter.unusedSimpArgs false
def tiL (e:Entry) (z:Int) (w:Window):List Window:=collect (pR e z w) (tW e z) (e.Last+1-e.First).toNat e.First
theorem timesK2 (e:Entry) (h:Right e) (z:Int) (w:Window) (hz : -1440<=z/\z<=1440) (hw:zl w):gK e z w=some (tiL e z w):=by
 obtain ⟨w1,w2,w3⟩:=hw
 have hf:=h.first
 have hl:=h.last
 have hm:=D5 e h
 have hfr:=h.from_
 unfold gK
 cases hg:e.Gone with
 | true =>
  simp only [cond_true,ob_]
  unfold tiL
  rw [kH _ _ (λx _ _=>by simp only [pR,hg,Bool.not_true,Bool.false_and])]
 | false =>
 simp only [cond_false,ob_]
 by_cases hlt:w.From>=w.To
 ·simp only [decide_eq_true hlt,cond_true]
  unfold tiL
  rw [kH _ _ (λx _ _=>by
   have:decide (j5 (tF e z x) w.From<kG (tF e z x+o7 e*60000) w.To)=false:=decide_eq_false (by unfold j5 kG;split <;> split <;> omega)
   simp only [pR,this,Bool.and_false])]
 ·simp only [decide_eq_false hlt,cond_false]
  rw [aP (n:=z*60000) (by omega),aP (n:=w.From+z*60000) (by omega)]
  obtain ⟨a,ha⟩:∃a,(w.From+z*60000).tdiv 86400000=a:=⟨_,rfl⟩
  obtain ⟨b,hb⟩:∃b,(w.To+z*60000).tdiv 86400000=b:=⟨_,rfl⟩
  have ha2:=Ip _ _ ha
  have hb2:=Ip _ _ hb
  rw [ha,aP (n:=a) (by omega),aP (n:=a-2) (by omega)]
  obtain ⟨lo,hlo⟩:∃lo,j5 (a-2) e.First=lo:=⟨_,rfl⟩
  obtain ⟨hi,hhi⟩:∃hi,kG (b+1) e.Last=hi:=⟨_,rfl⟩
  have hlo2:e.First<=lo/\a-2<=lo/\(lo=e.First\/lo=a-2):=by unfold j5 at hlo;split at hlo <;> omega
  have hhi2:hi<=e.Last/\hi<=b+1/\(hi=e.Last\/hi=b+1):=by unfold kG at hhi;split at hhi <;> omega
  have hend:∀d,decide (d<=kG (w64 (w64 ((w64 (w.To+w64 (z*60000))).tdiv 86400000)+1)) e.Last)=decide (d<=hi):=λd=>by
   rw [aP (n:=z*60000) (by omega),aP (n:=w.To+z*60000) (by omega),hb,aP (n:=b) (by omega),aP (n:=b+1) (by omega),hhi]
  rw [hlo]
  obtain ⟨d',hd⟩:=Au (ρ:=Unit) (body:=λs=>dL w z e s) (p:=pK e z w) (f:=tW e z) lo hi (by omega) (λacc d h1 h2 h3=>by
    have hc:decide (d<=hi)=true:=decide_eq_true h2
    simp only [dL,hend,hc,cond_true,timeK e h z d hz (by omega),ob_,dayK e h d (by omega) (by omega),aP (n:=d+1) (by omega),pK]
    cases xM e d with
    | false=>simp
    | true =>
     simp only [Bool.not_true,cond_false,ob_,Bool.true_and]
     by_cases hA:tF e z d<w.To
     ·have hA1:decide (tF e z d<w.To)=true:=decide_eq_true hA
      have hA2:decide ((tW e z d).From<w.To)=true:=decide_eq_true hA
      by_cases hB:tF e z d+o7 e*60000>w.From
      ·have hB1:decide (tF e z d+o7 e*60000>w.From)=true:=decide_eq_true hB
       have hB2:decide ((tW e z d).To>w.From)=true:=decide_eq_true hB
       simp only [hA1,hA2,hB1,hB2,cond_true,Bool.and_self,ob_,jS acc [tW e z d] (show acc.length+1<=_ by omega)]
      ·have hB1:decide (tF e z d+o7 e*60000>w.From)=false:=decide_eq_false hB
       have hB2:decide ((tW e z d).To>w.From)=false:=decide_eq_false hB
       simp only [hA1,hA2,hB1,hB2,cond_true,cond_false,Bool.and_false,ob_,List.append_nil]
     ·have hA1:decide (tF e z d<w.To)=false:=decide_eq_false hA
      have hA2:decide ((tW e z d).From<w.To)=false:=decide_eq_false hA
      simp only [hA1,hA2,cond_false,Bool.false_and,ob_,List.append_nil])
   (λacc d h1=>by
    have hc:decide (d<=hi)=false:=decide_eq_false (by omega)
    simp only [dL,hend,hc,cond_false])
  rw [hd,ob_,lT]
  unfold tiL
  rw [Bz (pR e z w) _ e.First e.Last lo hi (by omega) (by omega) (λx x1 x2 hp => ?_)]
  ·congr 1
   refine sM _ _ (λx x1 x2=>⟨?_,rfl⟩)
   simp only [pK,pR,hg,Bool.not_false,Bool.true_and]
   congr 1
   rw [Bool.eq_iff_iff,Bool.and_eq_true,decide_eq_true_eq,decide_eq_true_eq,decide_eq_true_eq]
   unfold j5 kG
   split <;> split <;> omega
  ·simp only [pR,hg,Bool.not_false,Bool.true_and,Bool.and_eq_true,decide_eq_true_eq]at hp
   have hp2:=hp.2
   unfold tF at hp2
   unfold j5 kG at hp2
   split at hp2 <;> split at hp2 <;> omega
theorem KA {e:Entry} (h:Right e) (z:Int) (w:Window):(tiL e z w).length<=4001:=by
 have h1:=sj (pR e z w) (tW e z) (e.Last+1-e.First).toNat e.First
 have h2:=h.first
 have h3:=h.last
 unfold tiL
 omega
theorem Ci {e:Entry} (h:Right e) {z:Int} {w x:Window}:x∈tiL e z w↔∃d,e.First<=d/\d<=e.Last/\pR e z w d=true/\x=tW e z d:=by
 have h1:=h.first
 unfold tiL
 rw [wu]
 constructor
 ·rintro ⟨y,a,b,c⟩;exact⟨y,a,by omega,c⟩
 ·rintro ⟨y,a,b,c⟩;exact⟨y,a,by omega,c⟩
def mY (p:Player) (w:Window) (e:Entry):List Span:=bif pX e p then (tiL e p.Zone w).map (λt=>⟨some e,t⟩)else []
def lg (l:List Entry) (p:Player) (w:Window):List Span:=l.flatMap (mY p w)
structure CE (l:List Entry) (p:Player):Prop where
 right:∀e∈l,Right e
 tags:∀e∈l,e.Tags.length<=1000
 len:l.length<=4
 keys:(l.map (·.Key)).Nodup
 ne:∀e∈l,e.Key≠⟨#[]⟩
 zone : -1440<=p.Zone/\p.Zone<=1440
 ptags:tagsF p.Tags=0
theorem EF {l:List Entry} {p:Player} (h:CE l p) (w:Window) {e:Entry} (he:e∈l):(mY p w e).length<=4001:=by
 unfold mY
 cases pX e p with
 | false=>exact Nat.zero_le _
 | true=>rw [cond_true,List.length_map];exact KA (h.right e he) _ _
theorem CX {α β:Type} {f:α->List β} {n:Nat}:∀{l:List α},(∀x∈l,(f x).length<=n)->(l.flatMap f).length<=l.length*n
 | [],_=>by simp
 | x::l,h=>by
  have h1:=h x (by simp)
  have h2:=CX (l:=l) (λy hy=>h y (by simp [hy]))
  rw [List.flatMap_cons,List.length_append,List.length_cons,Nat.add_mul]
  omega
theorem spans_eq {l:List Entry} {p:Player} (h:CE l p) {w:Window} (hw:zl w):iG l p w=some (lg l p w):=by
 have hl:=h.len
 unfold iG
 obtain ⟨t,t1,t2⟩:=og (body:=λk x s=>iE p w l k x s) (λk s=>s=lg (l.take k) p w) (xs:=l) (s:=([]:List Span)) (by omega) (λk e s he hs=>by
  have et:l.take (k+1)=l.take k++[e]:=by rw [List.take_add_one,he];rfl
  have hm:=List.mem_of_getElem? he
  have hsl:s.length<=20000:=by
   rw [hs]
   have h1:=CX (l:=l.take k) (f:=mY p w) (n:=4001) (λx hx=>EF h w (List.mem_of_mem_take hx))
   have h2:(l.take k).length<=4:=by rw [List.length_take];omega
   have h3:(l.take k).length*4001<=4*4001:=Nat.mul_le_mul_right _ h2
   unfold lg
   omega
  have hn:lg (l.take (k+1)) p w=s++mY p w e:=by
   rw [hs,et]
   unfold lg
   rw [List.flatMap_append]
   simp
  unfold iE
  rw [fitK e p (h.tags e hm) h.ptags,ob_]
  cases hf:pX e p with
  | false =>
   refine⟨s,rfl,?_⟩
   rw [hn]
   unfold mY
   rw [hf];simp
  | true =>
   simp only [Bool.not_true,cond_false]
   rw [timesK2 e (h.right e hm) p.Zone w h.zone hw,ob_]
   have htl:=KA (h.right e hm) p.Zone w
   obtain ⟨u,u1,u2⟩:=og (body:=λj x s=>iA l k j x s) (λj s'=>s'=s++((tiL e p.Zone w).take j).map (λt=>(⟨some e,t⟩:Span))) (xs:=tiL e p.Zone w) (s:=s) (by omega) (λj x s' hx hs'=>by
    have et2:(tiL e p.Zone w).take (j+1)=(tiL e p.Zone w).take j++[x]:=by rw [List.take_add_one,hx];rfl
    have hjl:((tiL e p.Zone w).take j).length<=4001:=by rw [List.length_take];omega
    unfold iA
    rw [jP,he,ob_,jS _ _ (by rw [hs',List.length_append,List.length_map];simp only [List.length_cons,List.length_nil];omega)]
    refine⟨_,rfl,?_⟩
    rw [et2,List.map_append,hs',List.append_assoc];rfl) (by simp)
   rw [u1]
   refine⟨u,rfl,?_⟩
   rw [hn,u2,List.take_length]
   unfold mY
   rw [hf];rfl) rfl
 rw [t1,t2,List.take_length];rfl
end Go.Proofs.YthcdokkcamcnmaaGreatDoor.Law

namespace Go.Eng
set_option linter.unusedVariables false
set_option linter.unusedSimpArgs false
def KP {α:Type} (cmp:α->α->Option Int) (a_2:Int) (s_21:(List α)×Int):Option (Ctl ((List α)×Int) (Unit)) :=
 (bif (decide (s_21.2>a_2))then (inR s_21.2 s_21.1).bind λ_=>(s_21.1[(0+(s_21.2).toNat)]?).bind λe_30=>(inR (w64 (s_21.2-1)) s_21.1).bind λ_=>(s_21.1[(0+((w64 (s_21.2-1))).toNat)]?).bind λe_33=>(cmp e_30 e_33).bind λr_35=>some (decide (r_35<0))else some false).bind λv_26=>bif v_26 then (inR (w64 (s_21.2-1)) s_21.1).bind λ_=>(s_21.1[(0+((w64 (s_21.2-1))).toNat)]?).bind λe_39=>(inR s_21.2 s_21.1).bind λ_=>(s_21.1[(0+(s_21.2).toNat)]?).bind λe_42=>(inR s_21.2 s_21.1).bind λ_=>(s_21.1[(0+(s_21.2).toNat)]?).bind λe_45=>(inR (w64 (s_21.2-1)) (s_21.1.set (0+(s_21.2).toNat) e_39)).bind λ_=>((s_21.1.set (0+(s_21.2).toNat) e_39)[(0+((w64 (s_21.2-1))).toNat)]?).bind λe_48=>some (.go (((s_21.1.set (0+(s_21.2).toNat) e_39).set (0+((w64 (s_21.2-1))).toNat) e_42),(w64 (s_21.2-1))))else some (.brk (s_21.1,s_21.2))
noncomputable def I8 {α:Type} (cmp:α->α->Option Int) (b_3:Int) (a_2:Int) (s_10:(List α)×Int):Option (Ctl ((List α)×Int) (Unit)) :=
 bif (decide (s_10.2<b_3))then (iI (s_10.1,s_10.2) (λs=>KP cmp a_2 s)).bind λo_24=>bv o_24 (λs_21=>some (.go (s_21.1,(w64 (s_10.2+1))))) (λ_=>none)else some (.brk (s_10.1,s_10.2))
noncomputable def JL {α:Type} (cmp:α->α->Option Int) (data_1:(List α)) (a_2:Int) (b_3:Int):Option ((List α)) :=
 (iI (data_1,(w64 (a_2+1))) (λs=>I8 cmp b_3 a_2 s)).bind λo_13=>bv o_13 (λs_10=>some s_10.1) (λ_=>none)
noncomputable def Nl {α:Type} (cmp:α->α->Option Int) (b_3:Int) (a_2:Int) (data_1:(List α)) (limit_4:Int) (s_11:Unit):Option (Ctl (Unit) ((List α))) :=
 bif (decide ((w64 (b_3-a_2))<=12))then (JL cmp data_1 a_2 b_3).bind λr_17=>(jZ r_17 data_1).bind λ_=>some (.ret r_17)else bif (limit_4==0)then none else none
noncomputable def Kh {α:Type} (cmp:α->α->Option Int) (data_1:(List α)) (a_2:Int) (b_3:Int) (limit_4:Int):Option ((List α)) :=
 (iI () (λs=>Nl cmp b_3 a_2 data_1 limit_4 s)).bind λo_14=>bv o_14 (λs_11=>some data_1) (λr=>some r)
theorem KY {α:Type} (u v:α) (C:List α):∀A:List α,((A++u::v::C).set (A.length+1) u).set A.length v=A++v::u::C
 | []=>rfl
 | a::A=>by simp only [List.cons_append,List.length_cons,List.set_cons_succ,KY u v C A]
theorem get_0 {α:Type} (u:α) (C A:List α):(A++u::C)[A.length]? = some u:=by simp
theorem get_1 {α:Type} (u v:α) (C A:List α):(A++u::v::C)[A.length+1]? = some v:=by
 rw [List.getElem?_append_right (by omega)];simp
theorem M8 {α:Type} (u v w:α) (C:List α):∀A:List α,(A++u::v::C).set (A.length+1) w=A++u::w::C
 | []=>rfl
 | a::A=>by simp only [List.cons_append,List.length_cons,List.set_cons_succ,M8 u v w C A]
theorem Kl {α:Type} {xs:List α} {i:Nat} (h:i<xs.length):inR (i:Int) xs=some ():=by
 unfold inR;rw [if_pos ⟨by omega,by simpa using h⟩]
section
variable {α:Type} {cmp:α->α->Option Int} {le:α->α->Prop} {p:α->Prop}
theorem insL1_s (u v:α) (A C:List α) {c:Int} (hc:cmp v u=some c) (hl:A.length<=1000000000):KP cmp 0 (A++u::v::C,((A.length+1:Nat):Int))=some (bif decide (c<0)then .go (A++v::u::C,(A.length:Int))else .brk (A++u::v::C,((A.length+1:Nat):Int))):=by
 have hw:w64 (((A.length+1:Nat):Int)-1)=(A.length:Int):=by rw [Dn _ (by omega)];omega
 have h1:inR ((A.length+1:Nat):Int) (A++u::v::C)=some ():=Kl (by simp)
 have h2:inR (A.length:Int) (A++u::v::C)=some ():=Kl (by simp)
 have h3:inR (A.length:Int) (A++u::u::C)=some ():=Kl (by simp)
 have hd:decide (((A.length+1:Nat):Int)>0)=true:=by simp <;> omega
 have e1:0+((A.length+1:Nat):Int).toNat=A.length+1:=by omega
 have e2:0+((A.length:Nat):Int).toNat=A.length:=by omega
 unfold KP
 simp only [hw,h1,h2,hd,e1,e2,get_0,get_1,ob_,hc,cond_true,M8,h3]
 cases decide (c<0)with
 | false=>rfl
 | true =>
  simp only [cond_true]
  have:=KY u v C A
  rw [M8]at this
  rw [this]
theorem FP (hc:∀a b,p a->p b->∃c,cmp a b=some c/\(c<0->le a b)/\(¬c<0->le b a)) (tr:∀a b c,le a b->le b c->le a c) (v:α) (hv:p v) (R:List α):∀(n:Nat) (A B:List α),A.length=n->n<=1000000000->(∀a∈A,p a)->(A++B).Pairwise le->(∀b∈B,le v b) ->
  ∃A' B',fA (λs=>KP cmp 0 s) (n+1) (A++v::(B++R),(A.length:Int))=some (.go (A'++v::(B'++R),(A'.length:Int)))/\A'++B'=A++B/\(A'++v::B').Pairwise le
 | 0,A,B,hA,hn,hpa,hp,hb=>by
  have:A=[]:=List.eq_nil_of_length_eq_zero hA
  subst this
  exact⟨[],B,by simp only [List.nil_append,List.length_nil,fA,Option.bind];rfl,rfl,by simpa using ⟨hb,hp⟩⟩
 | n+1,A,B,hA,hn,hpa,hp,hb=>by
  rcases List.eq_nil_or_concat A with h|⟨A0,u,h⟩
  ·rw [h]at hA;cases hA
  ·subst h
   simp only [List.concat_eq_append]at hA hp hpa ⊢
   have hA0:A0.length=n:=by simpa using hA
   have hl:(A0++[u]).length=A0.length+1:=by simp
   have e:A0++[u]++v::(B++R)=A0++u::v::(B++R):=by simp
   obtain ⟨c,h1,h2,h3⟩:=hc v u hv (hpa u (by simp))
   rw [hl,e,fA,insL1_s u v A0 (B++R) h1 (by omega),ob_]
   by_cases hcn:c<0
   ·simp only [decide_eq_true hcn,cond_true]
    have hp':(A0++(u::B)).Pairwise le:=by simpa using hp
    obtain ⟨A',B',k1,k2,k3⟩:=FP hc tr v hv R n A0 (u::B) hA0 (by omega) (λa ha=>hpa a (by simp [ha])) hp' (λb hb'=>by
     rcases List.mem_cons.1 hb' with rfl|hb'
     ·exact h2 hcn
     ·exact hb b hb')
    refine⟨A',B',?_,by rw [k2];simp,k3⟩
    rw [<- k1];simp
   ·simp only [decide_eq_false hcn,cond_false]
    refine⟨A0++[u],B,by simp,rfl,?_⟩
    have huv:=h3 hcn
    rw [List.pairwise_append]at hp ⊢
    obtain ⟨p1,p2,p3⟩:=hp
    refine⟨p1,List.pairwise_cons.2 ⟨hb,p2⟩,λa ha b hb' => ?_⟩
    rcases List.mem_cons.1 hb' with rfl|hb'
    ·rcases List.mem_append.1 ha with ha|ha
     ·rw [List.pairwise_append]at p1
      exact tr _ _ _ (p1.2.2 a ha u (by simp)) huv
     ·rw [List.mem_singleton]at ha;subst ha;exact huv
    ·exact p3 a ha b hb'
theorem EX (hc:∀a b,p a->p b->∃c,cmp a b=some c/\(c<0->le a b)/\(¬c<0->le b a)) (tr:∀a b c,le a b->le b c->le a c):∀(Q P:List α),P.length+Q.length<=1000000000->(∀x∈P++Q,p x)->P.Pairwise le ->
  ∃s,fA (λs=>I8 cmp ((P.length+Q.length:Nat):Int) 0 s) (Q.length+1) (P++Q,(P.length:Int))=some (.go (s,((P.length+Q.length:Nat):Int)))/\s.Perm (P++Q)/\s.Pairwise le
 | [],P,hl,hpx,hp=>by
  refine⟨P,?_,by simp,hp⟩
  have hd:decide ((P.length:Int)<((P.length+([]:List α).length:Nat):Int))=false:=by simp
  simp only [fA,I8,hd,cond_false,ob_,List.append_nil]
  simp
 | v::Q,P,hl,hpx,hp=>by
  simp only [List.length_cons]at hl
  have hd:decide ((P.length:Int)<((P.length+(v::Q).length:Nat):Int))=true:=by simp only [decide_eq_true_eq,List.length_cons];omega
  obtain ⟨A',B',k1,k2,k3⟩:=FP hc tr v (hpx v (by simp)) Q P.length P [] rfl (by omega) (λa ha=>hpx a (by simp [ha])) (by simpa using hp) (λb hb=>by cases hb)
  rw [List.nil_append]at k1
  have hlo:=iU k1
  rw [List.length_cons,fA]
  have hw:w64 ((P.length:Int)+1)=((A'++v::B').length:Int):=by
   have:=congrArg List.length k2
   simp only [List.length_append,List.length_nil]at this
   rw [Dn _ (by omega)];simp only [List.length_append,List.length_cons];omega
  have h1:I8 cmp ((P.length+(Q.length+1):Nat):Int) 0 (P++v::Q,(P.length:Int))=some (.go (A'++v::(B'++Q),((A'++v::B').length:Int))):=by
   have hd':decide ((P.length:Int)<((P.length+(Q.length+1):Nat):Int))=true:=hd
   unfold I8
   simp only [hd',cond_true,hlo,ob_,bv,hw]
  have hlen:(A'++v::B').length=P.length+1:=by
   have:=congrArg List.length k2
   simp only [List.length_append,List.length_nil,List.length_cons]at this ⊢
   omega
  have hk:(A'++B').Perm P:=by rw [k2];simp
  have hperm:(A'++v::B').Perm (P++[v]):=(List.perm_middle).trans ((List.Perm.cons v hk).trans (List.perm_append_comm (l₁:=[v]) (l₂:=P)))
  obtain ⟨s,m1,m2,m3⟩:=EX hc tr Q (A'++v::B') (by omega) (λx hx=>by
   rcases List.mem_append.1 hx with hx|hx
   ·have:=hperm.mem_iff.1 hx
    exact hpx x (by rcases List.mem_append.1 this with h | h <;> simp_all)
   ·exact hpx x (by simp [hx])) k3
  rw [h1,ob_]
  have e:A'++v::(B'++Q)=(A'++v::B')++Q:=by simp
  have e2:P.length+(Q.length+1)=(A'++v::B').length+Q.length:=by omega
  simp only
  rw [e,e2]
  refine⟨s,m1,m2.trans ?_,m3⟩
  have:=List.Perm.append_right Q hperm
  simpa using this
theorem pdq_ok (hc:∀a b,p a->p b->∃c,cmp a b=some c/\(c<0->le a b)/\(¬c<0->le b a)) (tr:∀a b c,le a b->le b c->le a c) (l:List α) (hl:l.length<=12) (hpl:∀x∈l,p x) (lim:Int):∃s,Kh cmp l 0 (l.length:Int) lim=some s/\s.Perm l/\s.Pairwise le:=by
 have key:∃s,JL cmp l 0 (l.length:Int)=some s/\s.Perm l/\s.Pairwise le:=by
  unfold JL
  have hw:w64 (0+1)=1:=rfl
  rw [hw]
  cases l with
  | nil=>exact⟨[],by rw [iU (n:=1) (o := .go ([],1)) rfl];rfl,.nil,.nil⟩
  | cons v Q =>
   obtain ⟨s,m1,m2,m3⟩:=EX hc tr Q [v] (by simp only [List.length_cons,List.length_nil]at hl ⊢;omega) (λx hx=>hpl x (by simpa using hx)) (List.pairwise_singleton _ _)
   have e:([v].length+Q.length:Nat)=(v::Q).length:=by simp only [List.length_cons,List.length_nil];omega
   rw [e]at m1
   have:=iU m1
   refine⟨s,?_,m2,m3⟩
   show (iI (v::Q,1) _).bind _=_
   have e2:(([v]++Q,(([v]:List α).length:Int)):List α×Int)=(v::Q,1):=rfl
   rw [e2]at this
   rw [this];rfl
 obtain ⟨s,h1,h2,h3⟩:=key
 refine⟨s,?_,h2,h3⟩
 have hsm:jZ s l=some ():=by unfold jZ;rw [if_pos h2.length_eq]
 have hd:decide (w64 ((l.length:Int)-0)<=12)=true:=by
  have:(l.length:Int)-0=l.length:=by omega
  rw [this,Dn _ (by omega)];simp;omega
 have:iI () (λs=>Nl cmp (l.length:Int) 0 l lim s)=some (.ret s):=by
  refine iU (n:=1) ?_
  simp only [fA,Nl,hd,cond_true,h1,hsm,ob_]
 unfold Kh
 rw [this];rfl
end
end Go.Eng

open Go Go.Eng
namespace Go.Proofs.YthcdokkcamcnmaaGreatDoor.Law
set_option linter.unusedVariables false
set_option linter.unusedSimpArgs false
theorem Mo (a b:ByteArray):(lt a b/\zg a b = -1)\/(a=b/\zg a b=0)\/(lt b a/\zg a b=1):=by
 have key:∀(x y:List UInt8),(x<y/\Lib.compareBytes x y = -1)\/(x=y/\Lib.compareBytes x y=0)\/(y<x/\Lib.compareBytes x y=1):=by
  intro x
  induction x with
  | nil=>intro y;cases y with
   | nil=>exact .inr (.inl ⟨rfl,rfl⟩)
   | cons b y=>exact .inl ⟨by simp,rfl⟩
  | cons a x ih=>intro y;cases y with
   | nil=>exact .inr (.inr ⟨by simp,rfl⟩)
   | cons b y =>
    simp only [Lib.compareBytes,List.cons_lt_cons_iff,List.cons.injEq]
    by_cases h1:a<b
    ·exact .inl ⟨.inl h1,by rw [if_pos h1]⟩
    ·by_cases h2:b<a
     ·exact .inr (.inr ⟨.inl h2,by rw [if_neg h1,if_pos h2]⟩)
     ·have e:a=b:=UInt8.le_antisymm (UInt8.not_lt.1 h2) (UInt8.not_lt.1 h1)
      subst e
      rw [if_neg h1,if_neg h1]
      rcases ih y with⟨h,k⟩|⟨h,k⟩|⟨h,k⟩
      ·exact .inl ⟨.inr ⟨rfl,h⟩,k⟩
      ·exact .inr (.inl ⟨⟨rfl,h⟩,k⟩)
      ·exact .inr (.inr ⟨.inr ⟨rfl,h⟩,k⟩)
 unfold zg lt
 rw [toL,toL]
 rcases key a.data.toList b.data.toList with⟨h,k⟩|⟨h,k⟩|⟨h,k⟩
 ·exact .inl ⟨h,k⟩
 ·exact .inr (.inl ⟨y7 (by rw [toL,toL];exact h),k⟩)
 ·exact .inr (.inr ⟨h,k⟩)
theorem yP (a b:ByteArray):strings_Compare a b=some (zg a b):=rfl
def mR (a b:Int):Int:=if a<b then -1 else if a>b then 1 else 0
theorem xE (a b:Int):cmp_Compare_int a b=some (mR a b):=by
 have e:∀x:Int,(x != x)=false:=by simp
 unfold cmp_Compare_int cmp_isNaN_int mR
 simp only [e,ob_,cond_false]
 by_cases h:a<b
 ·simp only [decide_eq_true h,cond_true,if_pos h]
 ·by_cases h2:a>b
  ·simp only [decide_eq_false h,decide_eq_true h2,cond_true,cond_false,if_neg h,if_pos h2]
  ·simp only [decide_eq_false h,decide_eq_false h2,cond_false,if_neg h,if_neg h2]
theorem or3_eq (a b c:Int):qN [a,b,c]=some (or0 a (or0 b c)):=by
 unfold qN or0
 rw [fe (by simp)]
 simp only [eP,pJ]
 cases ha:a==0 with
 | false =>
  have:(a != 0)=true:=by simp [bne,ha]
  simp only [this,cond_true,cond_false,ob_,bv]
 | true =>
  have:(a != 0)=false:=by simp [bne,ha]
  simp only [this,cond_true,cond_false,ob_]
  cases hb:b==0 with
  | false =>
   have:(b != 0)=true:=by simp [bne,hb]
   simp only [this,cond_true,cond_false,ob_,bv]
  | true =>
   have:(b != 0)=false:=by simp [bne,hb]
   simp only [this,cond_true,cond_false,ob_]
   cases hc:c==0 with
   | false =>
    have:(c != 0)=true:=by simp [bne,hc]
    simp only [this,cond_true,ob_,bv]
   | true =>
    have:(c != 0)=false:=by simp [bne,hc]
    simp only [this,cond_false,ob_,bv]
    rw [eq_of_beq hc]
theorem zK {a b:Int}:or0 a b<0↔a<0\/a=0/\b<0:=by
 unfold or0
 by_cases h:a=0
 ·subst h;simp
 ·have:(a==0)=false:=by simpa using h
  rw [this,cond_false];omega
theorem Iq {a b:Int}:or0 a b=0↔a=0/\b=0:=by
 unfold or0
 by_cases h:a=0
 ·subst h;simp
 ·have:(a==0)=false:=by simpa using h
  rw [this,cond_false];omega
theorem ul {a b:Int}:mR a b<0↔a<b:=by
 unfold mR
 split
 ·omega
 ·split <;> omega
theorem ER {a b:Int}:mR a b=0↔a=b:=by
 unfold mR
 split
 ·omega
 ·split <;> omega
theorem qV {a b:ByteArray}:zg a b<0↔lt a b:=by
 rcases Mo a b with⟨h,e⟩|⟨h,e⟩|⟨h,e⟩
 ·rw [e];exact⟨λ_=>h,λ_=>by decide⟩
 ·rw [e,h];exact⟨λk=>absurd k (by decide),λk=>absurd k (ow _)⟩
 ·rw [e];exact⟨λk=>absurd k (by decide),λk=>absurd (lt_trans k h) (ow _)⟩
theorem N8 {a b c:ByteArray} (h:¬lt a b) (k:¬lt b c):¬lt a c:=λq=>by
 rcases DW a b with e|e|e
 ·exact h e
 ·rw [e]at q;exact k q
 ·exact k (lt_trans e q)
theorem len_ok:∀n:Nat,n<=12->∃k,jU (IntKind.u64.wrap (n:Int))=some k:=by
 have h:(List.range 13).all (λn=>(jU (IntKind.u64.wrap (n:Int))).isSome)=true:=by kernel_rfl
 intro n hn
 have:=List.all_eq_true.1 h n (by simp;omega)
 exact Option.isSome_iff_exists.1 this
theorem MK {α:Type} {cmp:α->α->Option Int} (c:α->α->Int) {S:List α->Option (List α)} (hS:∀x,S x=(jU (IntKind.u64.wrap (x.length:Int))).bind λr_3=>(Kh cmp x 0 (x.length:Int) r_3).bind λr_5=>(jZ r_5 x).bind λ_=>some r_5)
  {xs:List α} (hl:xs.length<=12) (hF:∀a∈xs,∀b∈xs,cmp a b=some (c a b)) (has:∀a b,c a b<0->¬c b a<0) (hn:∀a b d,¬c a b<0->¬c b d<0->¬c a d<0) :
  ∃r,S xs=some r/\r.Perm xs/\r.Pairwise (λa b=>¬c b a<0):=by
 obtain ⟨k,hk⟩:=len_ok xs.length hl
 obtain ⟨s,h1,h2,h3⟩:=pdq_ok (cmp:=cmp) (le:=λa b=>¬c b a<0) (p:=(· ∈ xs)) (λa b ha hb=>⟨c a b,hF a ha b hb,λh=>has a b h,λh=>h⟩) (λa b d h k=>hn d b a k h) xs hl (λx hx=>hx) k
 refine⟨s,?_,h2,h3⟩
 have hsm:jZ s xs=some ():=by unfold jZ;rw [if_pos h2.length_eq]
 rw [hS,hk,ob_,h1,ob_,hsm];rfl
def qP (x:Entry×Int):Span:=⟨some x.1,⟨x.2,x.2+o7 x.1*60000⟩⟩
def cE (x y:Entry×Int):Int:=or0 (mR y.1.Prio x.1.Prio) (or0 (mR y.2 x.2) (zg y.1.Key x.1.Key))
theorem Kb {x y:Entry×Int}:cE x y<0↔rD x y=true:=by
 unfold cE
 rw [zK,zK,ul,ER,ul,ER,qV,uw]
 constructor
 ·rintro (h|⟨h,k|⟨k,q⟩⟩)
  ·exact .inl h
  ·exact .inr ⟨h.symm,.inl k⟩
  ·exact .inr ⟨h.symm,.inr ⟨k.symm,q⟩⟩
 ·rintro (h|⟨h,k|⟨k,q⟩⟩)
  ·exact .inl h
  ·exact .inr ⟨h.symm,.inl k⟩
  ·exact .inr ⟨h.symm,.inr ⟨k.symm,q⟩⟩
theorem MF {a b c:Entry×Int} (h:¬rD a b=true) (k:¬rD b c=true):¬rD a c=true:=by
 rw [uw]at *
 simp only [not_or,not_and]at h k
 rintro (q|⟨q,q2|⟨q2,q3⟩⟩)
 ·omega
 ·have h2:=h.2
  have k2:=k.2
  by_cases e:a.1.Prio=b.1.Prio
  ·have:=(h2 e).1
   have:=(k2 (by omega)).1
   omega
  ·omega
 ·have h2:=h.2
  have k2:=k.2
  by_cases e:a.1.Prio=b.1.Prio
  ·have a1:=h2 e
   have a2:=k2 (by omega)
   by_cases e2:a.2=b.2
   ·exact N8 (a2.2 (by omega)) (a1.2 e2) q3
   ·have:=a1.1
    have:=a2.1
    omega
  ·omega
def zeroE:Entry:=⟨⟨#[]⟩,⟨#[]⟩,0,0,0,0,0,[],0,0,0,[],false⟩
def xO (s:Span):Entry×Int:=(s.f_e.getD zeroE,s.f_time.From)
theorem Ht (x y:Entry×Int):iV (qP x) (qP y)=some (cE (xO (qP x)) (xO (qP y))):=by
 unfold iV
 show ((some y.1).bind λy_5=>(some x.1).bind λy_7=>_)=_
 simp only [ob_,xE,qP,yP,or3_eq];rfl
end Go.Proofs.YthcdokkcamcnmaaGreatDoor.Law

open Go Go.Eng
namespace Go.Proofs.YthcdokkcamcnmaaGreatDoor.Law
set_option linter.unusedVariables false
set_option linter.unusedSimpArgs false
theorem timeR2 (e:Entry) (h:Right e) (z d:Int) (hz : -1440<=z/\z<=1440) (hd : -100<=d/\d<=100000):mo e z d=some (tW e z d):=by
 have h1:=h.from_
 have h2:=h.to_
 unfold mo tW tF o7
 by_cases hc:e.To<=e.From
 ·simp only [decide_eq_true hc,cond_true,ob_,if_pos (show e.To-e.From<=0 by omega)]
  rw [aP (n:=e.To+1440) (by omega),aP (n:=d*86400000) (by omega),aP (n:=z*60000) (by omega),aP (n:=d*86400000-z*60000) (by omega),aP (n:=e.From*60000) (by omega),aP (n:=(e.To+1440)*60000) (by omega),aP (by omega),aP (by omega)]
  congr 2 <;> omega
 ·simp only [decide_eq_false hc,cond_false,ob_,if_neg (show ¬e.To-e.From<=0 by omega)]
  rw [aP (n:=d*86400000) (by omega),aP (n:=z*60000) (by omega),aP (n:=d*86400000-z*60000) (by omega),aP (n:=e.From*60000) (by omega),aP (n:=e.To*60000) (by omega),aP (by omega),aP (by omega)]
  congr 2 <;> omega
theorem MG (a b c d:Int):iy [a,b] [c,d]=some (or0 (mR a c) (mR b d)):=by
 unfold iy or0
 rw [fe (by simp)]
 have f1:dI [c,d] 0 a ()=some (bif mR a c != 0 then .ret (mR a c)else .go ()):=by
  unfold dI
  rw [decide_eq_false (by simp),cond_false]
  show ((some c).bind λy_14=>_)=_
  rw [ob_,xE,ob_]
  cases mR a c != 0 <;> rfl
 have f2:dI [c,d] (0+1) b ()=some (bif mR b d != 0 then .ret (mR b d)else .go ()):=by
  unfold dI
  rw [decide_eq_false (by simp),cond_false]
  show ((some d).bind λy_14=>_)=_
  rw [ob_,xE,ob_]
  cases mR b d != 0 <;> rfl
 simp only [eP,f1,f2,ob_]
 cases ha:mR a c==0 with
 | false =>
  have:(mR a c != 0)=true:=by simp [bne,ha]
  rw [this];rfl
 | true =>
  have:(mR a c != 0)=false:=by simp [bne,ha]
  rw [this]
  simp only [cond_false,cond_true]
  cases hb:mR b d==0 with
  | false =>
   have:(mR b d != 0)=true:=by simp [bne,hb]
   rw [this];rfl
  | true =>
   have:(mR b d != 0)=false:=by simp [bne,hb]
   rw [this,eq_of_beq hb];rfl
theorem Nn {x:Int} (hx : -10000000000000<=x/\x<=10000000000000):uy x 86400000=some (x / 86400000):=by
 obtain ⟨q,hq⟩:∃q,x.tdiv 86400000=q:=⟨_,rfl⟩
 have hb:=Ip x q hq
 have hm:x.tmod 86400000=x-86400000*q:=by
  have:=Int.mul_tdiv_add_tmod x 86400000
  rw [hq]at this;omega
 unfold uy BM Kc
 simp only [show ¬(86400000:Int)=0 by decide,if_false,ob_,hm,hq]
 have hqb : -1000000<=q/\q<=1000000:=by omega
 have hw:IntKind.i64.wrap q=q:=aP (by omega)
 simp only [hw]
 by_cases h:x-86400000*q<0
 ·rw [decide_eq_true h,cond_true,aP (n:=q-1) (by omega)]
  congr 1
  omega
 ·rw [decide_eq_false h,cond_false]
  congr 1
  omega
theorem dayR2 {e:Entry} (h:Right e) (d:Int):mJ e d=some (decide (e.First<=d)&&(decide (d<=e.Last)&&xM e d)):=by
 by_cases h1:e.First<=d
 ·by_cases h2:d<=e.Last
  ·rw [dayR e h d h1 h2,decide_eq_true h1,decide_eq_true h2];rfl
  ·unfold mJ kL
   rw [decide_eq_true h1,decide_eq_false h2];rfl
 ·unfold mJ kL
  rw [decide_eq_false h1];rfl
def oQ (e:Entry) (z t:Int):Int×Bool:=match BU e z t with | some b=>(b,true) | none=>(0,false)
theorem EQ {e:Entry} (h:Right e) {z t d:Int} (hz : -1440<=z/\z<=1440) (hd : -100<=d/\d<=100000) (k:Nat):oD e z t k d ()=some (bif vN e z t d then .ret (tF e z d,true)else .go ()):=by
 unfold oD
 rw [timeR2 e h z d hz hd,ob_,dayR2 h]
 have e1:(bif (!e.Gone)then (some (decide (e.First<=d)&&(decide (d<=e.Last)&&xM e d))).bind λr_23=>bif r_23 then bif (decide ((tW e z d).From<=t))then some (decide (t<(tW e z d).To))else some false else some false else some false)=some (vN e z t d):=by
  unfold vN tW
  simp only [ob_]
  cases e.Gone with
  | true=>rfl
  | false =>
   cases decide (e.First<=d)with
   | false=>rfl
   | true =>
    cases decide (d<=e.Last)with
    | false=>rfl
    | true =>
     cases xM e d with
     | false=>rfl
     | true=>cases decide (tF e z d<=t) <;> rfl
 rw [e1,ob_]
 unfold tW
 cases vN e z t d <;> rfl
theorem Cw {e:Entry} (h:Right e) {z t:Int} (hz : -1440<=z/\z<=1440) (ht:0<=t/\t<=1000000000000):oZ e z t=some (oQ e z t):=by
 unfold oZ
 rw [aP (n:=z*60000) (by omega),aP (n:=t+z*60000) (by omega),Nn (by omega),ob_]
 have hq:(t+z*60000) / 86400000=uP z t:=rfl
 rw [hq]
 have hd : -2<=uP z t/\uP z t<=20000:=by unfold uP;omega
 rw [aP (n:=uP z t-1) (by omega),fe (by simp)]
 simp only [eP,EQ h hz (t:=t) (d:=uP z t-1) (by omega) 0,EQ h hz (t:=t) (d:=uP z t) (by omega) (0+1)]
 unfold oQ BU
 cases vN e z t (uP z t-1)with
 | true=>rfl
 | false=>cases vN e z t (uP z t) <;> rfl
def cW2 (p:Player) (t:Int) (a b:Entry):Int:=bif or0 (mR b.Prio a.Prio) (mR (oQ b p.Zone t).1 (oQ a p.Zone t).1) != 0 then or0 (mR b.Prio a.Prio) (mR (oQ b p.Zone t).1 (oQ a p.Zone t).1)else zg b.Key a.Key
theorem wY {p:Player} {t:Int} {a b:Entry}:cW2 p t a b<0↔rD (a,(oQ a p.Zone t).1) (b,(oQ b p.Zone t).1)=true:=by
 rw [<- Kb]
 unfold cW2 cE
 by_cases h:or0 (mR b.Prio a.Prio) (mR (oQ b p.Zone t).1 (oQ a p.Zone t).1)=0
 ·obtain ⟨h1,h2⟩:=Iq.1 h
  rw [h,h1,h2];exact Iff.rfl
 ·have:(or0 (mR b.Prio a.Prio) (mR (oQ b p.Zone t).1 (oQ a p.Zone t).1) != 0)=true:=by simpa using h
  rw [this,cond_true,zK,zK,zK]
  constructor
  ·rintro (q|⟨q,q2⟩)
   ·exact .inl q
   ·exact .inr ⟨q,.inl q2⟩
  ·rintro (q|⟨q,q2|⟨q2,q3⟩⟩)
   ·exact .inl q
   ·exact .inr ⟨q,q2⟩
   ·exact absurd (Iq.2 ⟨q,q2⟩) h
theorem whyC_eq {p:Player} {t:Int} (hz : -1440<=p.Zone/\p.Zone<=1440) (ht:0<=t/\t<=1000000000000) {a b:Entry} (ha:Right a) (hb:Right b):nN a b p t=some (cW2 p t a b):=by
 unfold nN cW2
 rw [Cw ha hz ht,Cw hb hz ht,ob_,ob_,MG,ob_,yP]
 cases or0 (mR b.Prio a.Prio) (mR (oQ b p.Zone t).1 (oQ a p.Zone t).1) != 0 <;> rfl
def FR (l:List Entry) (p:Player) (t:Int):List Entry:=l.filter λe=>(oQ e p.Zone t).2&&pX e p
theorem NT (l:List Entry) (p:Player) (t:Int):(lL l p t).map (·.1)=FR l p t/\∀x∈lL l p t,x=(x.1,(oQ x.1 p.Zone t).1):=by
 constructor
 ·unfold lL FR
  induction l with
  | nil=>rfl
  | cons e l ih =>
   rw [List.filterMap_cons,List.filter_cons,<- ih]
   unfold Be oQ
   cases hf:pX e p with
   | false=>cases BU e p.Zone t <;> rfl
   | true=>cases BU e p.Zone t <;> rfl
 ·intro x hx
  obtain ⟨_,_,h3⟩:=xA.1 hx
  unfold oQ
  rw [h3]
theorem Ob {l:List Entry} {p:Player} (h:CE l p) {t:Int} (ht:0<=t/\t<=1000000000000):uD l p t=some ((xW l p t).map (·.1)):=by
 have hl:=h.len
 obtain ⟨m1,m2⟩:=NT l p t
 unfold uD
 obtain ⟨u,u1,u2⟩:=og (body:=λk x s=>oO p t k x s) (λk s=>s=FR (l.take k) p t) (xs:=l) (s:=([]:List Entry)) (by omega) (λk e s he hs=>by
  have et:l.take (k+1)=l.take k++[e]:=by rw [List.take_add_one,he];rfl
  have hm:=List.mem_of_getElem? he
  have hsl:s.length<=4:=by
   rw [hs]
   refine Nat.le_trans (List.length_filter_le _ _) ?_
   rw [List.length_take];omega
  have hf:FR (l.take (k+1)) p t=s++(bif (oQ e p.Zone t).2&&pX e p then [e]else []):=by
   rw [hs,et]
   unfold FR
   rw [List.filter_append]
   congr 1
  unfold oO
  rw [Cw (h.right e hm) h.zone ht,ob_,fitR e p (h.tags e hm) (by have:=(Lc h.ptags).1;omega),hf]
  cases (oQ e p.Zone t).2 with
  | false=>exact⟨_,rfl,by simp⟩
  | true =>
   cases pX e p with
   | false=>exact⟨_,rfl,by simp⟩
   | true =>
    simp only [ob_,cond_true,Bool.and_true]
    rw [jS _ _ (by simp only [List.length_cons,List.length_nil];omega)]
    exact⟨_,rfl,rfl⟩) rfl
 rw [u1,u2,List.take_length]
 simp only [ob_,bv]
 have hml:(FR l p t).length<=4:=Nat.le_trans (List.length_filter_le _ _) hl
 have hmm:∀e∈FR l p t,e∈l:=λe he=>(List.mem_filter.1 he).1
 obtain ⟨r,r1,r2,r3⟩:=MK (cmp:=λa b=>nN a b p t) (S:=λx=>dQ x p t) (cW2 p t) (λ_=>rfl) (xs:=FR l p t) (by omega) (λa ha b hb=>whyC_eq h.zone ht (h.right a (hmm a ha)) (h.right b (hmm b hb)))
  (λa b q1 q2=>by have:=uK _ _ _ (wY.1 q1) (wY.1 q2);rw [wQ]at this;cases this)
  (λa b c q1 q2 q3=>MF (λe=>q1 (wY.2 e)) (λe=>q2 (wY.2 e)) (wY.1 q3))
 have e3:jZ r (FR l p t)=some ():=by unfold jZ;rw [if_pos r2.length_eq]
 have hp:(r.map λe=>(e,(oQ e p.Zone t).1)).Perm (lL l p t):=by
  have h1:=r2.map λe=>(e,(oQ e p.Zone t).1)
  rw [<- m1,List.map_map]at h1
  have h2:(lL l p t).map ((λe=>(e,(oQ e p.Zone t).1)) ∘ (·.1))=lL l p t:=by
   have:∀x∈lL l p t,((λe=>(e,(oQ e p.Zone t).1)) ∘ (·.1)) x=x:=λx hx=>(m2 x hx).symm
   rw [List.map_congr_left this,List.map_id']
  rwa [h2]at h1
 have hs:(r.map λe=>(e,(oQ e p.Zone t).1))=xW l p t:=srtG_is wQ uK (FM h.keys p t) hp (by
  rw [List.pairwise_map]
  refine r3.imp (λ{a b} q => ?_)
  cases hb:rD (b,(oQ b p.Zone t).1) (a,(oQ a p.Zone t).1)with
  | false=>rfl
  | true=>exact absurd (wY.2 hb) q)
 have hr:r=(xW l p t).map (·.1):=by
  rw [<- hs,List.map_map]
  have:∀e∈r,((·.1) ∘ λe=>(e,(oQ e p.Zone t).1)) e=e:=λe _=>rfl
  rw [List.map_congr_left this,List.map_id']
 rw [r1,ob_,e3,ob_,hr]
theorem onOf_eq {l:List Entry} {p:Player} (h:CE l p) {t:Int} (ht:0<=t/\t<=1000000000000):∃e,vX l p t=some e/\e.Key=mh l p t:=by
 unfold vX
 rw [Ob h ht,ob_]
 unfold mh
 cases xW l p t with
 | nil=>exact⟨_,rfl,rfl⟩
 | cons x r =>
  rw [decide_eq_true (by simp only [List.map_cons,List.length_cons];omega),cond_true]
  exact⟨x.1,rfl,rfl⟩
end Go.Proofs.YthcdokkcamcnmaaGreatDoor.Law

open Go Go.Eng
namespace Go.Proofs.YthcdokkcamcnmaaGreatDoor.Law
set_option linter.unusedVariables false
set_option linter.unusedSimpArgs false
def dd:List Int->List Int
 | []=>[]
 | [x]=>[x]
 | x::y::l=>bif x==y then dd (y::l)else x::dd (y::l)
theorem Ku (x:Int):∀(l:List Int) (b:Int),l.getLast? = some b->dd (l++[x])=bif b==x then dd l else dd l++[x]
 | [],b,h=>by cases h
 | [a],b,h=>by
  simp only [List.getLast?_singleton,so_]at h
  subst h
  simp only [List.cons_append,List.nil_append,dd]
  cases hx:a==x with
  | true=>rw [eq_of_beq hx]
  | false=>rfl
 | a::c::l,b,h=>by
  have ih:=Ku x (c::l) b (by rw [<- h];simp [List.getLast?_cons_cons])
  simp only [List.cons_append]at ih ⊢
  rw [dd,ih,dd]
  cases a==c <;> cases b==x <;> rfl
theorem KS (s:List Int) (p:Nat) (a b:Int) (hp:1<=p) (ha:s[p]? = some a) (hb:s[p-1]? = some b):dd (s.take (p+1))=bif b==a then dd (s.take p)else dd (s.take p)++[a]:=by
 have hlt:=(List.getElem?_eq_some_iff.1 ha).1
 have e:s.take (p+1)=s.take p++[a]:=by rw [List.take_add_one,ha];rfl
 rw [e]
 refine Ku a _ b ?_
 rw [List.getLast?_eq_getElem?,List.length_take,List.getElem?_take,if_pos (by omega),<- hb]
 congr 1;omega
theorem Gu (x:Int):∀l:List Int,x∈dd l↔x∈l
 | []=>Iff.rfl
 | [a]=>Iff.rfl
 | a::b::l=>by
  rw [dd]
  cases h:a==b with
  | true =>
   rw [cond_true,Gu x (b::l),eq_of_beq h];simp
  | false=>rw [cond_false,List.mem_cons,Gu x (b::l),List.mem_cons (a:=x) (b:=a)]
theorem Ga:∀l:List Int,l.Pairwise (· <= ·)->(dd l).Pairwise (· < ·)
 | [],_ => .nil
 | [a],_=>List.pairwise_singleton _ _
 | a::b::l,h=>by
  rw [dd]
  obtain ⟨h1,h2⟩:=List.pairwise_cons.1 h
  cases hx:a==b with
  | true=>exact Ga (b::l) h2
  | false =>
   refine List.pairwise_cons.2 ⟨λc hc => ?_,Ga (b::l) h2⟩
   have hc:=(Gu c (b::l)).1 hc
   have hab:a<b:=by
    have:=h1 b (by simp)
    have hne:a≠b:=by simpa using hx
    omega
   rcases List.mem_cons.1 hc with rfl|hc
   ·exact hab
   ·have:=(List.pairwise_cons.1 h2).1 c hc;omega
theorem NW:∀l:List Int,(dd l).length<=l.length
 | []=>Nat.le_refl _
 | [a]=>Nat.le_refl _
 | a::b::l=>by
  have:=NW (b::l)
  rw [dd]
  cases a==b with
  | true=>rw [cond_true];simp only [List.length_cons]at *;omega
  | false=>rw [cond_false];simp only [List.length_cons]at *;omega
theorem Mr {i:Int} {n:Nat} (h0:0<=i) (h1:i<n):inN i n=some ():=by unfold inN;rw [if_pos ⟨h0,by omega⟩]
theorem rY {α:Type} {xs:List α} {i:Nat} (h:i<xs.length):inR (i:Int) xs=some ():=by
 unfold inR;rw [if_pos ⟨by omega,by simpa using h⟩]
theorem comp_L1 (s data:List Int) (k0 i2 k:Nat) (a b:Int) (hn:s.length<=1000000000) (hd:data.length=s.length) (h1:1<=i2) (hp:k0+i2<s.length) (hk:k<s.length) (ha:data[k0+i2]? = some a) (hb:data[k0+i2-1]? = some b) :
  bW s (k0:Int) (data,(k:Int),(i2:Int))=some (.go (bif b==a then (data,(k:Int),((i2+1:Nat):Int))else (data.set k a,((k+1:Nat):Int),((i2+1:Nat):Int)))):=by
 unfold bW
 have e0:((s.length:Int).toNat-(k0:Int).toNat)=s.length-k0:=by omega
 have hc:decide ((i2:Int)<((s.length-k0:Nat):Int))=true:=by simp;omega
 have hw:w64 ((i2:Int)-1)=((i2-1:Nat):Int):=by rw [aP (by omega)];omega
 have hw2:w64 ((i2:Int)+1)=((i2+1:Nat):Int):=by rw [aP (by omega)];omega
 have hw3:w64 ((k:Int)+1)=((k+1:Nat):Int):=by rw [aP (by omega)];omega
 have i1:inN (i2:Int) (s.length-k0)=some ():=Mr (by omega) (by omega)
 have i3:inN ((i2-1:Nat):Int) (s.length-k0)=some ():=Mr (by omega) (by omega)
 have i4:inR (k:Int) data=some ():=rY (by omega)
 have g1:(k0:Int).toNat+(i2:Int).toNat=k0+i2:=by omega
 have g2:(k0:Int).toNat+((i2-1:Nat):Int).toNat=k0+i2-1:=by omega
 have g3:0+(k:Int).toNat=k:=by omega
 have hkd:data[k]? = some data[k]:=List.getElem?_eq_getElem (by omega)
 simp only [e0,hc,cond_true,hw,hw2,hw3,i1,i3,i4,g1,g2,g3,ob_,ha,hb,hkd]
 have hne:(a != b) = !(b==a):=by rw [bne_comm];rfl
 rw [hne]
 cases b==a <;> rfl
theorem yD (s:List Int) (k0:Nat) (hn:s.length<=1000000000):∀(m i2 k:Nat) (data:List Int),k0+i2+m=s.length->1<=i2->data.length=s.length->k<=k0+i2-1->data.take k=dd (s.take (k0+i2))->data.drop (k0+i2-1)=s.drop (k0+i2-1) ->
  ∃(data':List Int) (k':Nat),fA (λt=>bW s (k0:Int) t) (m+1) (data,(k:Int),(i2:Int))=some (.go (data',(k':Int),((s.length-k0:Nat):Int)))/\data'.length=s.length/\k'<=s.length/\data'.take k'=dd s
 | 0,i2,k,data,hm,h1,hd,hk,ht,hr=>by
  refine⟨data,k,?_,hd,by omega,?_⟩
  ·have e0:((s.length:Int).toNat-(k0:Int).toNat)=s.length-k0:=by omega
   have hc:decide ((i2:Int)<((s.length-k0:Nat):Int))=false:=by simp;omega
   simp only [fA,bW,e0,hc,cond_false,ob_]
   rw [show s.length-k0=i2 by omega]
  ·rw [ht,show k0+i2=s.length by omega,List.take_length]
 | m+1,i2,k,data,hm,h1,hd,hk,ht,hr=>by
  have hp:k0+i2<s.length:=by omega
  have hga:data[k0+i2]? = some s[k0+i2]:=by
   have:=congrArg (λl=>l[1]?) hr
   simp only [List.getElem?_drop]at this
   rw [show k0+i2-1+1=k0+i2 by omega]at this
   rw [this,List.getElem?_eq_getElem hp]
  have hgb:data[k0+i2-1]? = some (s[k0+i2-1]'(by omega)):=by
   have:=congrArg (λl=>l[0]?) hr
   simp only [List.getElem?_drop,Nat.add_zero]at this
   rw [this,List.getElem?_eq_getElem (by omega)]
  have hdt:=KS s (k0+i2) s[k0+i2] (s[k0+i2-1]'(by omega)) (by omega) (List.getElem?_eq_getElem hp) (List.getElem?_eq_getElem (by omega))
  rw [fA,comp_L1 s data k0 i2 k _ _ hn hd h1 hp (by omega) hga hgb,ob_]
  cases hx:s[k0+i2-1]'(by omega)==s[k0+i2]with
  | true =>
   rw [hx,cond_true]at hdt
   simp only [cond_true]
   refine yD s k0 hn m (i2+1) k data (by omega) (by omega) hd (by omega) (by rw [ht,<- hdt];rfl) ?_
   have:=congrArg (List.drop 1) hr
   simp only [List.drop_drop]at this
   rw [show k0+i2-1+1=k0+(i2+1)-1 by omega]at this
   exact this
  | false =>
   rw [hx,cond_false]at hdt
   simp only [cond_false]
   have hkl:k<data.length:=by omega
   refine yD s k0 hn m (i2+1) (k+1) (data.set k s[k0+i2]) (by omega) (by omega) (by simpa using hd) (by omega) ?_ ?_
   ·rw [List.take_add_one,List.getElem?_set_self hkl,List.take_set_of_le (Nat.le_refl _),ht]
    show _=dd (s.take (k0+i2+1))
    rw [hdt];rfl
   ·rw [List.drop_set_of_lt (by omega)]
    have:=congrArg (List.drop 1) hr
    simp only [List.drop_drop]at this
    rw [show k0+i2-1+1=k0+(i2+1)-1 by omega]at this
    exact this
theorem CS (s:List Int) (hn:s.length<=1000000000):∀(m i:Nat),i+m=s.length->1<=i->dd (s.take i)=s.take i ->
  (fA (λt=>bB s t) (m+1) (i:Int)=some (.go (s.length:Int))/\dd s=s)\/fA (λt=>bB s t) (m+1) (i:Int)=some (.ret (dd s))
 | 0,i,hm,h1,hd=>by
  refine .inl ⟨?_,?_⟩
  ·have hc:decide ((i:Int)<(s.length:Int))=false:=by simp;omega
   simp only [fA,bB,hc,cond_false,ob_]
   rw [show i=s.length by omega]
  ·rw [show i=s.length by omega,List.take_length]at hd;exact hd
 | m+1,i,hm,h1,hd=>by
  have hi:i<s.length:=by omega
  have hc:decide ((i:Int)<(s.length:Int))=true:=by simp;omega
  have hw:w64 ((i:Int)-1)=((i-1:Nat):Int):=by rw [aP (by omega)];omega
  have hw2:w64 ((i:Int)+1)=((i+1:Nat):Int):=by rw [aP (by omega)];omega
  have e1:0+(i:Int).toNat=i:=by omega
  have e2:0+((i-1:Nat):Int).toNat=i-1:=by omega
  have hga:s[i]? = some s[i]:=List.getElem?_eq_getElem hi
  have hgb:s[i-1]? = some (s[i-1]'(by omega)):=List.getElem?_eq_getElem (by omega)
  have hdt:=KS s i s[i] (s[i-1]'(by omega)) h1 hga hgb
  have i1:inR (i:Int) s=some ():=rY hi
  have i2:inR ((i-1:Nat):Int) s=some ():=rY (by omega)
  rw [fA]
  have hswap:(s[i]==s[i-1]'(by omega))=(s[i-1]'(by omega)==s[i]):=by rw [BEq.comm]
  cases hx:s[i-1]'(by omega)==s[i]with
  | false =>
   have:bB s (i:Int)=some (.go ((i+1:Nat):Int)):=by
    unfold bB
    simp only [hc,cond_true,hw,hw2,e1,e2,i1,i2,hga,hgb,ob_,hswap,hx,cond_false]
   rw [this,ob_]
   rw [hx,cond_false,hd]at hdt
   refine CS s hn m (i+1) (by omega) (by omega) ?_
   rw [hdt,List.take_add_one,hga];rfl
  | true =>
   right
   rw [hx,cond_true,hd]at hdt
   obtain ⟨data',k',q1,q2,q3,q4⟩:=yD s i hn (s.length-(i+1)) 1 i s (by omega) (by omega) rfl (by omega) hdt.symm rfl
   have hlo:=iU q1
   have hne:neL s=some ():=by
    cases s with
    | nil=>simp at hi
    | cons a l=>rfl
   have hsr:qI s (i:Int) (s.length:Int)=some ():=by unfold qI;rw [if_pos ⟨by omega,by omega,by omega,by omega⟩]
   have hsr2:qI data' (k':Int) (data'.length:Int)=some ():=by unfold qI;rw [if_pos ⟨by omega,by omega,by omega,by omega⟩]
   have hlen:(data'.take k'++List.replicate (data'.length-k') (0:Int)++data'.drop (k'+(data'.length-k'))).length=data'.length:=by simp;omega
   have hsr3:qI (data'.take k'++List.replicate (data'.length-k') (0:Int)++data'.drop (k'+(data'.length-k'))) 0 (k':Int)=some ():=by unfold qI;rw [if_pos ⟨by omega,by omega,by omega,by rw [hlen];omega⟩]
   have n1:((data'.length:Int)).toNat=data'.length:=by omega
   have n2:(k':Int).toNat=k':=by omega
   have:bB s (i:Int)=some (.ret (dd s)):=by
    unfold bB
    have one:((1:Nat):Int)=1:=rfl
    rw [one]at hlo
    simp only [hc,cond_true,hw,e1,e2,i1,i2,hga,hgb,ob_,hswap,hx,hne,hsr,hlo,bv,hsr2,n1,n2,hsr3]
    congr 2
    show List.take k' (List.drop 0 _)=dd s
    rw [List.drop_zero,List.append_assoc,List.take_append_of_le_length (by rw [List.length_take];omega),List.take_take,Nat.min_self,q4]
   rw [this];rfl
theorem JC (s:List Int) (hn:s.length<=1000000000):dH s=some (dd s):=by
 unfold dH
 by_cases h:(s.length:Int)<2
 ·rw [decide_eq_true h,cond_true]
  match s,h with
  | [],_=>rfl
  | [a],_=>rfl
  | a::b::l,h=>simp at h;omega
 ·rw [decide_eq_false h,cond_false]
  have h1:dd (s.take 1)=s.take 1:=by
   match s with
   | []=>rfl
   | a::l=>rfl
  rcases CS s hn (s.length-1) 1 (by omega) (Nat.le_refl _) h1 with⟨h2,h3⟩|h2
  ·have:=iU h2
   show (iI 1 _).bind _=_
   rw [show ((1:Nat):Int)=1 from rfl]at this
   rw [this,h3];rfl
  ·have:=iU h2
   show (iI 1 _).bind _=_
   rw [show ((1:Nat):Int)=1 from rfl]at this
   rw [this];rfl
theorem oU (e:List Int) (hn:e.length<=1000000000):∃s c,fZ e=some s/\s.length=e.length/\dH s=some c/\c.Pairwise (· < ·)/\(∀x,x∈c↔x∈e)/\c.length<=e.length:=by
 have hs:fZ e=some (e.mergeSort λx y=>decide (x<=y)):=by
  unfold fZ KV;rw [if_pos (by omega)]
 have hl:(e.mergeSort λx y=>decide (x<=y)).length=e.length:=List.length_mergeSort e
 refine⟨_,_,hs,hl,JC _ (by rw [hl];exact hn),Ga _ ?_,λx => ?_,by rw [<- hl];exact NW _⟩
 ·have:=List.pairwise_mergeSort (le:=λ(x y:Int)=>decide (x<=y)) (λa b c=>by simp;omega) (λa b=>by simp;omega) e
  exact this.imp (by simp)
 ·rw [Gu];exact List.mem_mergeSort
end Go.Proofs.YthcdokkcamcnmaaGreatDoor.Law

open Go Go.Eng
namespace Go.Proofs.YthcdokkcamcnmaaGreatDoor.Law
set_option linter.unusedVariables false
set_option linter.unusedSimpArgs false
def LZ (id:ByteArray) (a b:Int) (out:List Slot_):Option (List Slot_) :=
 (bif (decide ((w64 ((out.length:Int)-1))>=0))then (inR (w64 ((out.length:Int)-1)) out).bind λ_=>(out[(0+((w64 ((out.length:Int)-1))).toNat)]?).bind λe_81=>some (sEq e_81.Entry id)else some false).bind λv_77 =>
 (bif v_77 then (inR (w64 ((out.length:Int)-1)) out).bind λ_=>(out[(0+((w64 ((out.length:Int)-1))).toNat)]?).bind λe_90=>some (out.set (0+((w64 ((out.length:Int)-1))).toNat) (⟨(⟨e_90.Time.From,b⟩:Window),e_90.Entry⟩:Slot_))
 else (kW out ([(⟨(⟨a,b⟩:Window),id⟩:Slot_)]:List Slot_)).bind λa_96=>some a_96)
theorem KF (id:ByteArray) (a b:Int) (out:List Slot_) (hl:out.length<=1000000):LZ id a b out=some (vO id a b out):=by
 unfold LZ
 cases ho:out.length with
 | zero =>
  have e:=List.eq_nil_of_length_eq_zero ho
  subst e
  rw [decide_eq_false (by decide)];rfl
 | succ n =>
  have hw:w64 ((out.length:Int)-1)=(n:Int):=by rw [aP (by omega)];omega
  rw [<- ho,hw,decide_eq_true (by omega),cond_true,yh (by omega) (by omega)]
  have hn:n<out.length:=by omega
  have e1:out[(0+((n:Int)).toNat)]? = some out[n]:=by rw [show 0+((n:Int)).toNat=n by omega];exact List.getElem?_eq_getElem hn
  rw [e1]
  simp only [ob_,zq]
  by_cases he:out[n].Entry=id
  ·rw [decide_eq_true he,cond_true,Iu id a b out n _ ho (List.getElem?_eq_getElem hn) he,show 0+((n:Int)).toNat=n by omega]
  ·rw [decide_eq_false he,cond_false,jS _ _ (by simp;omega),I4 id a b out (λm x h1 h2=>by
    obtain rfl:m=n:=by omega
    rw [List.getElem?_eq_getElem hn,so_]at h2
    rw [<- h2];exact he)];rfl
theorem IL {f:Int->ByteArray} {E:List Int} {F T:Int} (c:Nat) (hc:c<=1) (hE:E.Pairwise (· < ·)) (hl:E.length<=1000000) (h0:E[0]? = some F) (hT:E[E.length-1]? = some T)
  (hf:∀(i:Nat) (a b:Int),E[i]? = some a->E[i+1]? = some b->∀t,a<=t->t<b->f t=f a)
  {body:(List Slot_×Int)->Option (Ctl (List Slot_×Int) Unit)} (hgo:∀(i:Nat) (out:List Slot_) (a b:Int),E[i]? = some a->E[i+1]? = some b->body (out,((i+c:Nat):Int))=(LZ (f a) a b out).bind λv=>some (.go (v,w64 (((i+c:Nat):Int)+1))))
  (hbrk:∀(i:Nat) (out:List Slot_),i+1=E.length->body (out,((i+c:Nat):Int))=some (.brk (out,((i+c:Nat):Int)))):∃out i,iI (([]:List Slot_),((c:Nat):Int)) body=some (.go (out,i))/\fP f T F out/\out.length<=E.length:=by
 have hlen:0<E.length:=(List.getElem?_eq_some_iff.1 h0).1
 obtain ⟨s,s1,s2⟩:=xD (body:=body) (λk s=>s.2=((k+c:Nat):Int)/\s.1.length<=k/\∃a,E[k]? = some a/\fP f a F s.1) (E.length-1) (λk s hk ⟨i1,i2,a,i3,i4⟩=>by
  obtain ⟨out,n⟩:=s
  simp only at i1 i2 i4
  subst i1
  have hb:E[k+1]? = some E[k+1]:=List.getElem?_eq_getElem (by omega)
  rw [hgo k out a _ i3 hb,KF _ _ _ _ (by omega)]
  refine⟨_,rfl,by simp only [];rw [aP (by omega)];omega,?_,_,hb,?_⟩
  ·simp only []
   have:=Du (f a) a E[k+1] out
   omega
  ·exact fP.add (EZ hE i3 hb) (λt t1 t2=>hf k a _ i3 hb t t1 t2) out F i4) (λs ⟨i1,i2,a,i3,i4⟩=>by
  obtain ⟨out,n⟩:=s
  simp only at i1
  subst i1
  exact hbrk _ out (by omega)) (s:=(([]:List Slot_),((c:Nat):Int))) ⟨by simp,Nat.le_refl _,F,h0,by unfold fP;rfl⟩
 obtain ⟨_,i2,a,i3,i4⟩:=s2
 rw [hT,so_]at i3
 exact⟨s.1,s.2,s1,by rw [i3];exact i4,by omega⟩
structure EB (m:List Entry) (z:Int) (w:Window) (E:List Int):Prop where
 from_:w.From∈E
 to_:w.To∈E
 in_:∀x∈E,w.From<=x/\x<=w.To
 has:∀e∈m,∀x∈wants e z w,x.From∈E/\x.To∈E
theorem Ha {e:Entry} (h:Right e) {z:Int} {w x:Window} (hx:x∈wants e z w):w.From<=x.From/\x.From<=w.To/\w.From<=x.To/\x.To<=w.To:=by
 obtain ⟨d,_,_,hp,rfl⟩:=(xG h).1 hx
 obtain ⟨_,_,hp⟩:=Gb.1 hp
 unfold cutW tW
 simp only [Gg,G7]
 omega
theorem Jq {e:Entry} (h:Right e) (z:Int) (w:Window):(wants e z w).length<=4001:=by
 have h1:=sj (pR e z w) (λd=>cutW w (tW e z d)) (e.Last+1-e.First).toNat e.First
 have h2:=h.first
 have h3:=h.last
 unfold wants
 omega
theorem Il {l:List Entry} {p:Player} (h:CE l p) {w:Window} {k:Nat} {e:Entry} (he:l[k]? = some e) {E:List Int} (hE:EB (l.take k) p.Zone w E) (hl:E.length<=2+8002*k) (hk:k<=4):∃E',lD p.Zone w k e E=some (.go E')/\EB (l.take (k+1)) p.Zone w E'/\E'.length<=2+8002*(k+1):=by
 have et:l.take (k+1)=l.take k++[e]:=by rw [List.take_add_one,he];rfl
 have hm:=List.mem_of_getElem? he
 have hr:=h.right e hm
 have hwl:=Jq hr p.Zone w
 unfold lD
 rw [Nq e hr p.Zone w h.zone,ob_]
 obtain ⟨u,u1,u2,u3,u4,u5⟩:=og (body:=λj x s=>nA j x s) (λj s=>(∀x∈E,x∈s)/\(∀x∈s,w.From<=x/\x<=w.To)/\(∀x∈(wants e p.Zone w).take j,x.From∈s/\x.To∈s)/\s.length=E.length+2*j) (xs:=wants e p.Zone w) (s:=E) (by omega) (λj x s hx ⟨i1,i2,i3,i4⟩=>by
  have et2:(wants e p.Zone w).take (j+1)=(wants e p.Zone w).take j++[x]:=by rw [List.take_add_one,hx];rfl
  have hj:j<(wants e p.Zone w).length:=(List.getElem?_eq_some_iff.1 hx).1
  obtain ⟨b1,b2,b3,b4⟩:=Ha hr (List.mem_of_getElem? hx)
  unfold nA
  rw [jS _ _ (by simp only [List.length_cons,List.length_nil];omega)]
  refine⟨_,rfl,λy hy=>List.mem_append_left _ (i1 y hy),λy hy => ?_,λy hy => ?_,?_⟩
  ·rcases List.mem_append.1 hy with hy|hy
   ·exact i2 y hy
   ·simp only [List.mem_cons,List.not_mem_nil,or_false]at hy
    rcases hy with rfl|rfl <;> omega
  ·rw [et2]at hy
   rcases List.mem_append.1 hy with hy|hy
   ·exact⟨List.mem_append_left _ (i3 y hy).1,List.mem_append_left _ (i3 y hy).2⟩
   ·rw [List.mem_singleton.1 hy]
    exact⟨List.mem_append_right _ (by simp),List.mem_append_right _ (by simp)⟩
  ·rw [List.length_append];simp only [List.length_cons,List.length_nil];omega) ⟨λx hx=>hx,hE.in_,λx hx=>(by cases hx),rfl⟩
 rw [u1]
 refine⟨u,rfl,⟨u2 _ hE.from_,u2 _ hE.to_,u3,λe' he' x hx => ?_⟩,by omega⟩
 rw [et]at he'
 rcases List.mem_append.1 he' with he'|he'
 ·exact⟨u2 _ (hE.has e' he' x hx).1,u2 _ (hE.has e' he' x hx).2⟩
 ·rw [List.mem_singleton.1 he']at hx
  rw [List.take_length]at u4
  exact u4 x hx
theorem LU {l:List Entry} {p:Player} (h:CE l p) {w:Window} (hw:w.From<=w.To):∃C,qW l p.Zone w=some C/\C.Pairwise (· < ·)/\EB l p.Zone w C/\C.length<=40000:=by
 have hl:=h.len
 unfold qW
 obtain ⟨E,e1,e2,e3⟩:=og (body:=λk x s=>lD p.Zone w k x s) (λk s=>EB (l.take k) p.Zone w s/\s.length<=2+8002*k) (xs:=l) (s:=([w.From,w.To]:List Int)) (by omega) (λk e s he ⟨i1,i2⟩=>by
  have hk:k<l.length:=(List.getElem?_eq_some_iff.1 he).1
  exact Il h he i1 i2 (by omega)) ⟨⟨by simp,by simp,λx hx=>by
   simp only [List.mem_cons,List.not_mem_nil,or_false]at hx
   rcases hx with rfl|rfl <;> omega,λe he=>(by cases he)⟩,by simp⟩
 rw [List.take_length]at e2
 have hel:E.length<=40000:=by
  have:8002*l.length<=8002*4:=Nat.mul_le_mul_left _ hl
  omega
 rw [e1]
 simp only [ob_,bv]
 have hne:neL E=some ():=by
  unfold neL
  have:=List.ne_nil_of_mem e2.from_
  first | rw [if_pos this] | (cases E with | nil=>exact absurd rfl this | cons a E=>rfl)
 obtain ⟨s,C,c1,c2,c3,c4,c5,c6⟩:=oU E (by omega)
 have c2':jZ s E=some ():=by unfold jZ;rw [if_pos c2]
 rw [hne,ob_,c1,ob_,c2',ob_,c3,ob_]
 refine⟨C,rfl,c4,⟨(c5 _).2 e2.from_,(c5 _).2 e2.to_,λx hx=>e2.in_ x ((c5 x).1 hx),λe he x hx => ?_⟩,by omega⟩
 obtain ⟨a,b⟩:=e2.has e he x hx
 exact⟨(c5 _).2 a,(c5 _).2 b⟩
theorem GY {l:List Entry} {p:Player} (h:CE l p) {w:Window} (hw:w.From<=w.To) (hb:0<=w.From/\w.To<=1000000000000):∃t,ic l p w=some t/\fP (mh l p) w.To w.From t/\t.length<=40000:=by
 obtain ⟨C,c1,c2,c3,c4⟩:=LU h hw
 obtain ⟨d1,d2⟩:=Fz c2 c3.from_ c3.to_ c3.in_
 unfold ic
 rw [c1,ob_]
 obtain ⟨out,i,o1,o2,o3⟩:=IL (f:=mh l p) 1 (Nat.le_refl _) c2 (by omega) d1 d2 (λi a b ha hb' t t1 t2=>IE h.right c2 c3.in_ (λe he _ x hx=>c3.has e he x hx) ha hb' t1 t2)
  (body:=λs=>jo C l p s) (λi out a b ha hb'=>by
   have hi:i+1<C.length:=(List.getElem?_eq_some_iff.1 hb').1
   have a1:=c3.in_ a (List.mem_of_getElem? ha)
   obtain ⟨e,e1,e2⟩:=onOf_eq h (t:=a) (by omega)
   unfold jo
   simp only []
   have w1:w64 (((i+1:Nat):Int)-1)=(i:Int):=by rw [aP (by omega)];omega
   rw [decide_eq_true (by omega),cond_true,w1,jP,ha,ob_,e1,ob_,jP,hb',e2]
   simp only [ob_]
   unfold LZ
   generalize (bif decide (w64 ((out.length:Int)-1)>=0)then _ else _:Option Bool)=c
   cases c with
   | none=>rfl
   | some c =>
    cases c with
    | false =>
     simp only [ob_,cond_false]
     cases kW out [_] <;> rfl
    | true =>
     simp only [ob_,cond_true]
     cases inR (w64 ((out.length:Int)-1)) out with
     | none=>rfl
     | some u =>
      simp only [ob_]
      cases out[(0+((w64 ((out.length:Int)-1))).toNat)]? <;> rfl) (λi out hi=>by
   unfold jo
   simp only []
   rw [decide_eq_false (by omega),cond_false])
 rw [show ((1:Nat):Int)=1 from rfl]at o1
 rw [o1]
 exact⟨out,rfl,o2,by omega⟩
end Go.Proofs.YthcdokkcamcnmaaGreatDoor.Law

namespace Go.Eng
set_option linter.unusedVariables false
set_option linter.unusedSimpArgs false
def DL {α:Type} (f:α->Option Bool) (xs:List α) (k x:Nat) (s:Unit):Option (Ctl Unit Int) :=
 (inR (k:Int) xs).bind λ_=>(xs[(0+((k:Int)).toNat)]?).bind λe=>(f e).bind λr=>bif r then some (.ret (k:Int))else some (.go ())
def ixF {α:Type} (f:α->Option Bool) (xs:List α):Option Int :=
 (je (List.range ((xs.length:Int)).toNat) () (λk x s=>DL f xs k x s)).bind λo=>bv o (λ_=>some (-1)) (λr=>some r)
def uY {α:Type} (f:α->Option Bool) (s:List α×Int×Int):Option (Ctl (List α×Int×Int) Unit) :=
 bif (decide (s.2.2<(s.1.length:Int)))then (inR s.2.2 s.1).bind λ_=>(s.1[(0+(s.2.2).toNat)]?).bind λe=>(f e).bind λr=>(bif (!r)then (inR s.2.1 s.1).bind λ_=>(s.1[(0+(s.2.1).toNat)]?).bind λe_29=>some ((s.1.set (0+(s.2.1).toNat) e),(w64 (s.2.1+1)))else some (s.1,s.2.1)).bind λv=>some (.go (v.1,v.2,(w64 (s.2.2+1))))else some (.brk (s.1,s.2.1,s.2.2))
theorem rY {α:Type} {xs:List α} {k:Nat} (h:k<xs.length):inR (k:Int) xs=some ():=by unfold inR;rw [if_pos ⟨by omega,by omega⟩]
theorem ixF_eq {α:Type} {f:α->Option Bool} {q:α->Bool} {xs:List α} (hf:∀x∈xs,f x=some (q x)) (hl:xs.length<=1000000000) :
  (ixF f xs=some (-1)/\∀x∈xs,q x=false)\/∃(k:Nat) (h:k<xs.length),ixF f xs=some (k:Int)/\q xs[k]=true/\∀x∈xs.take k,q x=false:=by
 have run:∀(ys:List Nat) (k:Nat),k+ys.length=xs.length->(∀x∈xs.take k,q x=false) ->
   (eP (λk x s=>DL f xs k x s) ys k ()=some (.go ())/\∀x∈xs,q x=false)\/∃(j:Nat) (h:j<xs.length),eP (λk x s=>DL f xs k x s) ys k ()=some (.ret (j:Int))/\q xs[j]=true/\∀x∈xs.take j,q x=false:=by
  intro ys
  induction ys with
  | nil=>intro k h hq;exact .inl ⟨rfl,by rw [List.length_nil,Nat.add_zero]at h;rw [h,List.take_length]at hq;exact hq⟩
  | cons y ys ih =>
   intro k h hq
   simp only [List.length_cons]at h
   have hk:k<xs.length:=by omega
   have hst:DL f xs k y ()=some (bif q xs[k]then .ret (k:Int)else .go ()):=by
    unfold DL
    simp only [rY hk,ob_,Int.toNat_natCast,Nat.zero_add,List.getElem?_eq_getElem hk,hf _ (List.getElem_mem hk)]
    cases q xs[k] <;> rfl
   rw [eP,hst,ob_]
   cases hqk:q xs[k]with
   | true=>exact .inr ⟨k,hk,rfl,hqk,hq⟩
   | false =>
    refine ih (k+1) (by omega) (λx hx => ?_)
    rw [List.take_succ_eq_append_getElem hk]at hx
    rcases List.mem_append.1 hx with hx|hx
    ·exact hq x hx
    ·rw [List.mem_singleton.1 hx];exact hqk
 unfold ixF
 rw [Int.toNat_natCast,fe (by simp;omega)]
 rcases run (List.range xs.length) 0 (by simp) (by simp)with⟨h1,h2⟩|⟨k,hk,h1,h2,h3⟩
 ·exact .inl ⟨by rw [h1];rfl,h2⟩
 ·exact .inr ⟨k,hk,by rw [h1];rfl,h2,h3⟩
theorem filter_all {α:Type} {p:α->Bool} {xs:List α} (h:∀x∈xs,p x=true):xs.filter p=xs:=List.filter_eq_self.2 h
theorem CB {α:Type} {f:α->Option Bool} {q:α->Bool} {xs:List α} (hf:∀x∈xs,f x=some (q x)) (hl:xs.length<=1000000000) :
  ∀(m:Nat) (l:List α) (i j:Nat),j+m=xs.length->i<=j->l.length=xs.length->l.take i=(xs.take j).filter (λx => !q x)->l.drop j=xs.drop j ->
   ∃l' i',fA (λs=>uY f s) (m+1) (l,(i:Int),(j:Int))=some (.go (l',(i':Nat),(xs.length:Int)))/\i'<=xs.length/\l'.length=xs.length/\l'.take i'=xs.filter (λx => !q x)
 | 0,l,i,j,hj,hij,hll,ht,hd=>by
  have hj':j=xs.length:=by omega
  subst hj'
  have hc:decide ((xs.length:Int)<(l.length:Int))=false:=by simp [hll]
  refine⟨l,i,?_,hij,hll,by rw [ht,List.take_length]⟩
  simp only [fA,uY,hc,cond_false,ob_]
 | m+1,l,i,j,hj,hij,hll,ht,hd=>by
  have hjx:j<xs.length:=by omega
  have hjl:j<l.length:=by omega
  have hil:i<l.length:=by omega
  have hc:decide ((j:Int)<(l.length:Int))=true:=by simp;omega
  have he:l[j]=xs[j]:=by
   have h1:(l.drop j)[0]? = (xs.drop j)[0]? := by rw [hd]
   rw [List.getElem?_drop,List.getElem?_drop,Nat.add_zero,List.getElem?_eq_getElem hjl,List.getElem?_eq_getElem hjx]at h1
   exact Option.some.inj h1
  have w1:w64 ((j:Int)+1)=((j+1:Nat):Int):=by rw [aP (by omega)];omega
  have w2:w64 ((i:Int)+1)=((i+1:Nat):Int):=by rw [aP (by omega)];omega
  have hfe:=hf _ (List.getElem_mem hjx)
  have hdrop:(l.drop j).drop 1=(xs.drop j).drop 1:=by rw [hd]
  rw [List.drop_drop,List.drop_drop]at hdrop
  cases hq:q xs[j]with
  | false =>
   have hst:uY f (l,(i:Int),(j:Int))=some (.go (l.set i xs[j],((i+1:Nat):Int),((j+1:Nat):Int))):=by
    simp only [uY,hc,cond_true,rY hjl,rY hil,ob_,Int.toNat_natCast,Nat.zero_add,List.getElem?_eq_getElem hjl,List.getElem?_eq_getElem hil,he,hfe,hq,Bool.not_false,w1,w2]
   rw [fA,hst,ob_]
   refine CB hf hl m (l.set i xs[j]) (i+1) (j+1) (by omega) (by omega) (by simpa using hll) ?_ ?_
   ·rw [List.take_succ_eq_append_getElem (by simpa using hil),List.take_set_of_le (Nat.le_refl _),ht,List.take_succ_eq_append_getElem hjx,List.filter_append]
    simp [hq]
   ·rw [List.drop_set_of_lt (by omega)];exact hdrop
  | true =>
   have hst:uY f (l,(i:Int),(j:Int))=some (.go (l,(i:Int),((j+1:Nat):Int))):=by
    simp only [uY,hc,cond_true,rY hjl,ob_,Int.toNat_natCast,Nat.zero_add,List.getElem?_eq_getElem hjl,he,hfe,hq,Bool.not_true,cond_false,w1]
   rw [fA,hst,ob_]
   refine CB hf hl m l i (j+1) (by omega) (by omega) hll ?_ hdrop
   rw [ht,List.take_succ_eq_append_getElem hjx,List.filter_append]
   simp [hq]
end Go.Eng

