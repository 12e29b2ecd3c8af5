/-
  THE PLAIN LAW (part 2).
-/
import Derived.Test.YtadpbmfnnlkdlabGreatDoorPl1
import Derived.Test.YtadpbmfnnlkdlabGreatDoorDefs
import Derived.Test.YtadpbmfnnlkdlabGreatDoorEng5
open Go Go.Eng
namespace Go.Proofs.YtadpbmfnnlkdlabGreatDoor.Law
set_option linter.unusedVariables false
set_option linter.unusedSimpArgs false
theorem DT {σ ρ : Type} {body : σ->Option (Ctl σ ρ)} (I : Nat->σ->Prop) (N : Nat) (hgo : ∀k s, k<N->I k s->∃s', body s=some (.go s')/\I (k+1) s') (hbrk : ∀s, I N s->body s=some (.brk s)) {s : σ} (h0 : I 0 s) : ∃s', iV s body=some (.go s')/\I N s':=by
  have key : ∀(n k : Nat) (s : σ), k+n=N->I k s->∃s', iterN body (n+1) s=some (.go s')/\I N s':=by
    intro n
    induction n with
    | zero => intro k s hk hI
              have e : k=N:=by omega
              subst e
              exact ⟨s, by simp only [iterN, hbrk s hI, ob_], hI⟩
    | succ n ih => intro k s hk hI
                   obtain ⟨s', e, hI'⟩:=hgo k s (by omega) hI
                   obtain ⟨r, er, hr⟩:=ih (k+1) s' (by omega) hI'
                   refine ⟨r, ?_, hr⟩
                   rw [iterN, e, ob_];exact er
  obtain ⟨s', e, hI⟩:=key N 0 s (by omega) h0
  exact ⟨s', kC e, hI⟩
def lQ (f : Int->ByteArray) (T : Int) : Int->List Slot_->Prop
  | F, []=>F=T
  | F, x::r=>x.Time.From=F/\F<x.Time.To/\x.Time.To<=T/\(∀t, F<=t->t<x.Time.To->f t=x.Entry)/\(∀y, r.head? = some y->y.Entry ≠ x.Entry)/\lQ f T x.Time.To r
theorem lQ.le {f : Int->ByteArray} {T : Int} : ∀{l : List Slot_} {F : Int}, lQ f T F l->F<=T
  | [], F, h=>by unfold lQ at h;omega
  | x::r, F, h=>by unfold lQ at h;omega
def yR (id : ByteArray) (F T : Int) : List Slot_->List Slot_
  | []=>[⟨⟨F, T⟩, id⟩]
  | [x]=>if x.Entry=id then [⟨⟨x.Time.From, T⟩, x.Entry⟩] else [x, ⟨⟨F, T⟩, id⟩]
  | x::y::r=>x::yR id F T (y::r)
theorem OI (id : ByteArray) (F T : Int) : ∀(y : Slot_) (r : List Slot_), ∃z, (yR id F T (y::r)).head? = some z/\z.Entry=y.Entry
  | y, []=>by
    unfold yR
    split
    · exact ⟨_, rfl, rfl⟩
    · exact ⟨_, rfl, rfl⟩
  | y, z::r=>⟨y, rfl, rfl⟩
theorem lQ.add {f : Int->ByteArray} {id : ByteArray} {F T : Int} (hT : F<T) (hf : ∀t, F<=t->t<T->f t=id) : ∀(out : List Slot_) (F0 : Int), lQ f F F0 out->lQ f T F0 (yR id F T out)
  | [], F0, h=>by
    unfold lQ at h
    subst h
    unfold yR lQ
    exact ⟨rfl, hT, Int.le_refl _, hf, λy hy=>(by cases hy), (by unfold lQ;rfl)⟩
  | [x], F0, h=>by
    unfold lQ at h
    obtain ⟨h1, h2, h3, h4, h5, h6⟩:=h
    unfold lQ at h6
    unfold yR
    by_cases he : x.Entry=id
    · rw [if_pos he]
      unfold lQ
      refine ⟨h1, (by show F0<T;omega), Int.le_refl _, λt t1 t2 => ?_, λy hy=>(by cases hy), (by unfold lQ;rfl)⟩
      by_cases ht : t<F
      · exact h4 t t1 (by omega)
      · exact (hf t (by omega) t2).trans he.symm
    · rw [if_neg he]
      unfold lQ
      refine ⟨h1, h2, by omega, h4, λy hy => ?_, ?_⟩
      · rw [<- Option.some.inj hy];exact λe=>he e.symm
      · unfold lQ
        exact ⟨h6.symm, (by show x.Time.To<T;omega), Int.le_refl _, λt t1 t2=>hf t (by omega) t2, λy hy=>(by cases hy), (by unfold lQ;rfl)⟩
  | x::y::r, F0, h=>by
    unfold lQ at h
    obtain ⟨h1, h2, h3, h4, h5, h6⟩:=h
    have ih:=lQ.add hT hf (y::r) _ h6
    unfold yR
    unfold lQ
    refine ⟨h1, h2, by omega, h4, λz hz => ?_, ih⟩
    obtain ⟨z', e1, e2⟩:=OI id F T y r
    rw [e1] at hz
    rw [<- Option.some.inj hz, e2]
    exact h5 y rfl
theorem K7 (id : ByteArray) (F T : Int) : ∀(out : List Slot_) (n : Nat) (x : Slot_), out.length=n+1->out[n]? = some x->x.Entry=id->yR id F T out=out.set n ⟨⟨x.Time.From, T⟩, x.Entry⟩
  | [], n, x, h, _, _=>by simp at h
  | [y], 0, x, _, hx, he=>by
    simp only [List.getElem?_cons_zero, so_] at hx
    subst hx
    unfold yR
    rw [if_pos he];rfl
  | [y], n+1, x, h, _, _=>by simp at h
  | y::z::r, 0, x, h, _, _=>by simp at h
  | y::z::r, n+1, x, h, hx, he=>by
    unfold yR
    rw [K7 id F T (z::r) n x (by simpa using h) (by simpa using hx) he];rfl
theorem KR (id : ByteArray) (F T : Int) : ∀(out : List Slot_), (∀(n : Nat) (x : Slot_), out.length=n+1->out[n]? = some x->x.Entry ≠ id)->yR id F T out=out++[⟨⟨F, T⟩, id⟩]
  | [], _=>rfl
  | [y], h=>by
    unfold yR
    rw [if_neg (h 0 y rfl rfl)];rfl
  | y::z::r, h=>by
    unfold yR
    rw [KR id F T (z::r) (λn x h1 h2=>h (n+1) x (by simp only [List.length_cons] at *;omega) (by simpa using h2))];rfl
theorem Lp (id : ByteArray) (F T : Int) : ∀(out : List Slot_), (yR id F T out).length<=out.length+1
  | []=>by simp [yR]
  | [y]=>by unfold yR;split <;> simp
  | y::z::r=>by
    have:=Lp id F T (z::r)
    unfold yR
    simp only [List.length_cons] at *;omega
theorem PO {E : List Int} (hE : E.Pairwise (· < ·)) {i : Nat} {a b : Int} (ha : E[i]? = some a) (hb : E[i+1]? = some b) {x : Int} (hx : x ∈ E) : x<=a\/b<=x:=by
  obtain ⟨j, hj, rfl⟩:=List.getElem_of_mem hx
  obtain ⟨h1, e1⟩:=List.getElem?_eq_some_iff.1 ha
  obtain ⟨h2, e2⟩:=List.getElem?_eq_some_iff.1 hb
  have hp:=List.pairwise_iff_getElem.1 hE
  by_cases hji : j<i
  · left;have:=hp j i hj h1 hji;omega
  · by_cases hji2 : j=i
    · subst hji2;left;omega
    · by_cases hj3 : j=i+1
      · subst hj3;right;omega
      · right;have:=hp (i+1) j h2 hj (by omega);omega
theorem OJ {E : List Int} (hE : E.Pairwise (· < ·)) {i : Nat} {a b : Int} (ha : E[i]? = some a) (hb : E[i+1]? = some b) : a<b:=by
  obtain ⟨h1, e1⟩:=List.getElem?_eq_some_iff.1 ha
  obtain ⟨h2, e2⟩:=List.getElem?_eq_some_iff.1 hb
  have:=List.pairwise_iff_getElem.1 hE i (i+1) h1 h2 (by omega)
  omega
theorem Om {E : List Int} (hE : E.Pairwise (· < ·)) {F T : Int} (hF : F ∈ E) (hT : T ∈ E) (hin : ∀x ∈ E, F<=x/\x<=T) : E[0]? = some F/\E[E.length-1]? = some T:=by
  have hp:=List.pairwise_iff_getElem.1 hE
  obtain ⟨i, hi, ei⟩:=List.getElem_of_mem hF
  obtain ⟨j, hj, ej⟩:=List.getElem_of_mem hT
  constructor
  · rw [List.getElem?_eq_getElem (by omega)]
    by_cases h0 : i=0
    · subst h0;rw [ei]
    · have h1:=hp 0 i (by omega) hi (by omega)
      have h2:=(hin E[0] (List.getElem_mem _)).1
      omega
  · rw [List.getElem?_eq_getElem (by omega)]
    by_cases h0 : j=E.length-1
    · subst h0;rw [ej]
    · have h1:=hp j (E.length-1) hj (by omega) (by omega)
      have h2:=(hin E[E.length-1] (List.getElem_mem _)).2
      omega
theorem Oe {α : Type} {R : α->α->Prop} (has : ∀a b, R a b->¬R b a) {a b : List α} (h : a.Perm b) (ha : a.Pairwise R) (hb : b.Pairwise R) : a=b :=
  List.Perm.eq_of_pairwise (λx y _ _ h1 h2=>absurd h2 (has x y h1)) ha hb h
end Go.Proofs.YtadpbmfnnlkdlabGreatDoor.Law

open Go Go.Eng
namespace Go.Proofs.YtadpbmfnnlkdlabGreatDoor.Law
set_option linter.unusedVariables false
set_option linter.unusedSimpArgs false
def OC {α:Type} (r:α->α->Bool) (x:α):List α->List α
 | []=>[x]
 | y::l=>bif r x y then x::y::l else y::OC r x l
def LX {α:Type} (r:α->α->Bool):List α->List α
 | []=>[]
 | x::l=>OC r x (LX r l)
theorem Dz {α:Type} (r:α->α->Bool) (x:α):∀l,(OC r x l).Perm (x::l)
 | [] => .refl _
 | y::l=>by
  unfold OC
  cases r x y with
  | true=>exact .refl _
  | false=>exact ((Dz r x l).cons y).trans (List.Perm.swap x y l)
theorem wM {α:Type} (r:α->α->Bool):∀l,(LX r l).Perm l
 | [] => .refl _
 | x::l=>(Dz r x _).trans ((wM r l).cons x)
theorem Eg {α:Type} {r:α->α->Bool} (htr:∀a b c,r a b=true->r b c=true->r a c=true) {x:α}:∀{l:List α},(∀y∈l,r x y=true\/r y x=true)->l.Pairwise (λa b=>r a b=true)->(OC r x l).Pairwise (λa b=>r a b=true)
 | [],_,_=>List.pairwise_singleton _ _
 | y::l,h,hp=>by
  obtain ⟨p1,p2⟩:=List.pairwise_cons.1 hp
  unfold OC
  cases hxy:r x y with
  | true =>
   refine List.pairwise_cons.2 ⟨λz hz => ?_,hp⟩
   rcases List.mem_cons.1 hz with rfl|hz
   ·exact hxy
   ·exact htr _ _ _ hxy (p1 z hz)
  | false =>
   refine List.pairwise_cons.2 ⟨λz hz => ?_,Eg htr (λz hz=>h z (List.mem_cons_of_mem _ hz)) p2⟩
   rcases List.mem_cons.1 ((Dz r x l).mem_iff.1 hz)with rfl|hz
   ·exact (h y List.mem_cons_self).resolve_left (by rw [hxy];exact Bool.false_ne_true)
   ·exact p1 z hz
theorem zm {α:Type} {r:α->α->Bool} (htr:∀a b c,r a b=true->r b c=true->r a c=true):∀{l:List α},l.Pairwise (λa b=>r a b=true\/r b a=true)->(LX r l).Pairwise (λa b=>r a b=true)
 | [],_ => .nil
 | x::l,h=>by
  obtain ⟨p1,p2⟩:=List.pairwise_cons.1 h
  exact Eg htr (λy hy=>p1 y ((wM r l).mem_iff.1 hy)) (zm htr p2)
theorem srtG_is {α:Type} {r:α->α->Bool} (hir:∀a,r a a=false) (htr:∀a b c,r a b=true->r b c=true->r a c=true) {l s:List α} (ht:l.Pairwise (λa b=>r a b=true\/r b a=true)) (hp:s.Perm l) (hs:s.Pairwise (λa b=>r b a=false)):s=LX r l:=by
 have hsy:∀{x y:α},(r x y=true\/r y x=true)->(r y x=true\/r x y=true):=λh=>h.symm
 have h2:s.Pairwise (λa b=>r a b=true\/r b a=true):=(hp.pairwise_iff (λh=>h.symm)).2 ht
 have h3:s.Pairwise (λa b=>r a b=true):=by
  refine List.Pairwise.imp₂ (λa b h k => ?_) hs h2
  rcases k with k|k
  ·exact k
  ·rw [h]at k;cases k
 exact Oe (R:=λa b=>r a b=true) (λa b h k=>by have:=htr a b a h k;rw [hir]at this;cases this) (hp.trans (wM r l).symm) h3 (zm htr ht)
theorem OE {α:Type} {r:α->α->Bool} (hir:∀a,r a a=false) (htr:∀a b c,r a b=true->r b c=true->r a c=true) {l:List α} (ht:l.Pairwise (λa b=>r a b=true\/r b a=true)) {x:α} (hx:x∈l) (hm:∀y∈l,r y x=false):∃t,LX r l=x::t:=by
 have hs:=zm htr ht
 have hp:=wM r l
 cases h:LX r l with
 | nil=>rw [h]at hp;have:=hp.symm.mem_iff.1 hx;cases this
 | cons y t =>
  rw [h]at hp hs
  rcases List.mem_cons.1 (hp.mem_iff.2 hx)with e|e
  ·exact⟨t,by rw [e]⟩
  ·have h1:=(List.pairwise_cons.1 hs).1 x e
   rw [hm y (hp.mem_iff.1 List.mem_cons_self)]at h1;cases h1
end Go.Proofs.YtadpbmfnnlkdlabGreatDoor.Law

open Go Go.Eng
namespace Go.Proofs.YtadpbmfnnlkdlabGreatDoor.Law
set_option linter.unusedVariables false
set_option linter.unusedSimpArgs false
def Cn (e:Entry) (z t d:Int):Bool := !e.Gone&&(decide (e.First<=d)&&(decide (d<=e.Last)&&(J5 e d&&(decide (tF e z d<=t)&&decide (t<tF e z d+vT e*60000)))))
theorem nA {e:Entry} {z t d:Int}:Cn e z t d=true↔e.Gone=false/\e.First<=d/\d<=e.Last/\J5 e d=true/\tF e z d<=t/\t<tF e z d+vT e*60000:=by
 unfold Cn
 simp only [Bool.and_eq_true,decide_eq_true_eq,Bool.not_eq_true']
theorem NI (e:Entry) (z:Int) {d d':Int} (h:d<d'):tF e z d+86400000<=tF e z d':=by unfold tF;omega
theorem KW {e:Entry} (h:Right e) {z t d d':Int} (h1:Cn e z t d=true) (h2:Cn e z t d'=true):d=d':=by
 obtain ⟨_,_,_,_,a1,a2⟩:=nA.1 h1
 obtain ⟨_,_,_,_,b1,b2⟩:=nA.1 h2
 have hm:=Gj e h
 rcases Int.lt_trichotomy d d' with q|q|q
 ·have:=NI e z q;omega
 ·exact q
 ·have:=NI e z q;omega
def H5 (z t:Int):Int:=(t+z*60000) / 86400000
def Fz (e:Entry) (z t:Int):Option Int :=
 bif Cn e z t (H5 z t-1)then some (tF e z (H5 z t-1))else bif Cn e z t (H5 z t)then some (tF e z (H5 z t))else none
theorem Qg {e:Entry} (h:Right e) {z t d:Int} (h1:Cn e z t d=true):d=H5 z t-1\/d=H5 z t:=by
 obtain ⟨_,_,_,_,a1,a2⟩:=nA.1 h1
 have hm:=Gj e h
 have hf:=h.from_
 unfold tF at a1 a2
 unfold H5
 omega
theorem xD {e:Entry} (h:Right e) {z t b:Int}:Fz e z t=some b↔∃d,Cn e z t d=true/\b=tF e z d:=by
 unfold Fz
 constructor
 ·intro hb
  cases h1:Cn e z t (H5 z t-1)with
  | true=>rw [h1,cond_true,so_]at hb;exact⟨_,h1,hb.symm⟩
  | false =>
   rw [h1,cond_false]at hb
   cases h2:Cn e z t (H5 z t)with
   | true=>rw [h2,cond_true,so_]at hb;exact⟨_,h2,hb.symm⟩
   | false=>rw [h2,cond_false]at hb;cases hb
 ·rintro ⟨d,hd,rfl⟩
  rcases Qg h hd with e1|e1
  ·rw [<- e1,hd,cond_true]
  ·cases h1:Cn e z t (H5 z t-1)with
   | true=>have:=KW h hd h1;omega
   | false=>rw [cond_false,<- e1,hd,cond_true]
def wh (x y:Entry×Int):Bool:=decide (y.1.Prio<x.1.Prio)||(decide (x.1.Prio=y.1.Prio)&&(decide (y.2<x.2)||(decide (x.2=y.2)&&sLt y.1.Key x.1.Key)))
theorem wY {x y:Entry×Int}:wh x y=true↔y.1.Prio<x.1.Prio\/x.1.Prio=y.1.Prio/\(y.2<x.2\/x.2=y.2/\lt y.1.Key x.1.Key):=by
 unfold wh
 simp only [Bool.or_eq_true,Bool.and_eq_true,decide_eq_true_eq,vP]
theorem yU (x:Entry×Int):wh x x=false:=by
 rw [<- Bool.not_eq_true,wY]
 rintro (h|⟨_,h|⟨_,h⟩⟩)
 ·omega
 ·omega
 ·exact su _ h
theorem xI (a b c:Entry×Int) (h:wh a b=true) (k:wh b c=true):wh a c=true:=by
 rw [wY]at *
 rcases h with h|⟨h,h2⟩ <;> rcases k with k|⟨k,k2⟩
 ·exact .inl (by omega)
 ·exact .inl (by omega)
 ·exact .inl (by omega)
 ·refine .inr ⟨by omega,?_⟩
  rcases h2 with h2|⟨h2,h3⟩ <;> rcases k2 with k2|⟨k2,k3⟩
  ·exact .inl (by omega)
  ·exact .inl (by omega)
  ·exact .inl (by omega)
  ·exact .inr ⟨by omega,lt_trans k3 h3⟩
theorem Pp {x y:Entry×Int} (h:x.1.Key≠y.1.Key):wh x y=true\/wh y x=true:=by
 rw [wY,wY]
 rcases Int.lt_trichotomy x.1.Prio y.1.Prio with q|q|q
 ·exact .inr (.inl q)
 ·rcases Int.lt_trichotomy x.2 y.2 with w|w|w
  ·exact .inr (.inr ⟨q.symm,.inl w⟩)
  ·rcases F6 x.1.Key y.1.Key with e|e|e
   ·exact .inr (.inr ⟨q.symm,.inr ⟨w.symm,e⟩⟩)
   ·exact absurd e h
   ·exact .inl (.inr ⟨q,.inr ⟨w,e⟩⟩)
  ·exact .inl (.inr ⟨q,.inl w⟩)
 ·exact .inl (.inl q)
theorem KF {α β:Type} {f g:α->Option β}:∀{l:List α},(∀x∈l,f x=g x)->l.filterMap f=l.filterMap g
 | [],_=>rfl
 | x::l,h=>by
  rw [List.filterMap_cons,List.filterMap_cons,h x (by simp),KF (λy hy=>h y (by simp [hy]))]
def AJ (p:Player) (t:Int) (e:Entry):Option (Entry×Int):=bif Bh e p then (Fz e p.Zone t).map (λb=>(e,b))else none
def lV (l:List Entry) (p:Player) (t:Int):List (Entry×Int):=l.filterMap (AJ p t)
def rZ (l:List Entry) (p:Player) (t:Int):List (Entry×Int):=LX wh (lV l p t)
def rO (l:List Entry) (p:Player) (t:Int):ByteArray:=match rZ l p t with | []=>⟨#[]⟩ | x::_=>x.1.Key
theorem BH {p:Player} {t:Int} {e:Entry} {x:Entry×Int} (h:AJ p t e=some x):x.1=e/\Bh e p=true/\Fz e p.Zone t=some x.2:=by
 unfold AJ at h
 cases hf:Bh e p with
 | false=>rw [hf,cond_false]at h;cases h
 | true =>
  rw [hf,cond_true]at h
  cases hb:Fz e p.Zone t with
  | none=>rw [hb]at h;cases h
  | some b=>rw [hb,Option.map_some,so_]at h;rw [<- h];exact⟨rfl,rfl,rfl⟩
theorem Iw {l:List Entry} {p:Player} {t:Int} {x:Entry×Int}:x∈lV l p t↔x.1∈l/\Bh x.1 p=true/\Fz x.1 p.Zone t=some x.2:=by
 unfold lV
 rw [List.mem_filterMap]
 constructor
 ·rintro ⟨e,he,h⟩
  obtain ⟨h1,h2,h3⟩:=BH h
  rw [h1];exact⟨he,h2,h3⟩
 ·rintro ⟨h1,h2,h3⟩
  refine⟨x.1,h1,?_⟩
  unfold AJ
  rw [h2,h3];rfl
theorem Ig {l:List Entry} (h:(l.map (·.Key)).Nodup) (p:Player) (t:Int):(lV l p t).Pairwise (λa b=>wh a b=true\/wh b a=true):=by
 have h2:l.Pairwise (λa b=>a.Key≠b.Key):=by
  have:=h
  unfold List.Nodup at this
  rwa [List.pairwise_map]at this
 unfold lV
 rw [List.pairwise_filterMap]
 refine h2.imp (λ{a b} hab x hx y hy => ?_)
 obtain ⟨e1,_⟩:=BH hx
 obtain ⟨e2,_⟩:=BH hy
 exact Pp (by rw [e1,e2];exact hab)
theorem Og (l:List Entry) (p:Player) (t:Int):(lV l p t).length<=l.length:=List.length_filterMap_le _ _
theorem Mf {l:List Entry} (h:(l.map (·.Key)).Nodup) (p:Player) (t:Int) {x:Entry×Int} (hx:x∈lV l p t) (hm:∀y∈lV l p t,wh y x=false):rO l p t=x.1.Key:=by
 obtain ⟨r,e⟩:=OE yU xI (Ig h p t) hx hm
 unfold rO rZ
 rw [e]
theorem MZ {l:List Entry} {p:Player} {t:Int} (h:lV l p t=[]):rO l p t=⟨#[]⟩:=by
 unfold rO rZ
 rw [h];rfl
theorem key_gap {l:List Entry} (hr:∀e∈l,Right e) {p:Player} {a t:Int} (hat:a<=t)
  (h:∀e∈l,Bh e p=true->∀d,e.Gone=false->e.First<=d->d<=e.Last->J5 e d=true->(tF e p.Zone d<=a\/t<tF e p.Zone d)/\(tF e p.Zone d+vT e*60000<=a\/t<tF e p.Zone d+vT e*60000)):rO l p t=rO l p a:=by
 have key:∀e∈l,AJ p t e=AJ p a e:=λe he=>by
  unfold AJ
  cases hf:Bh e p with
  | false=>rfl
  | true =>
   rw [cond_true,cond_true]
   have hb:Fz e p.Zone t=Fz e p.Zone a:=by
    refine Option.ext (λb => ?_)
    rw [xD (hr e he),xD (hr e he)]
    constructor
    ·rintro ⟨d,hd,rfl⟩
     obtain ⟨h1,h2,h3,h4,h5,h6⟩:=nA.1 hd
     obtain ⟨k1,k2⟩:=h e he hf d h1 h2 h3 h4
     exact⟨d,nA.2 ⟨h1,h2,h3,h4,by omega,by omega⟩,rfl⟩
    ·rintro ⟨d,hd,rfl⟩
     obtain ⟨h1,h2,h3,h4,h5,h6⟩:=nA.1 hd
     obtain ⟨k1,k2⟩:=h e he hf d h1 h2 h3 h4
     exact⟨d,nA.2 ⟨h1,h2,h3,h4,by omega,by omega⟩,rfl⟩
   rw [hb]
 have:lV l p t=lV l p a:=by
  unfold lV
  exact KF key
 unfold rO rZ
 rw [this]
theorem zF {p:Int->Bool} {f:Int->Window} {x:Window}:∀(n:Nat) (d:Int),x∈collect p f n d↔∃y,d<=y/\y<d+n/\p y=true/\x=f y
 | 0,d=>by
  simp only [collect,List.not_mem_nil,false_iff]
  rintro ⟨y,h1,h2,_⟩;omega
 | n+1,d=>by
  simp only [collect,List.mem_append,zF n (d+1)]
  constructor
  ·rintro (h|⟨y,h1,h2,h3⟩)
   ·cases hp:p d with
    | true=>rw [hp,cond_true,List.mem_singleton]at h;exact⟨d,by omega,by omega,hp,h⟩
    | false=>rw [hp]at h;cases h
   ·exact⟨y,by omega,by omega,h3⟩
  ·rintro ⟨y,h1,h2,h3,h4⟩
   by_cases hy:y=d
   ·subst hy;left;rw [h3,cond_true,h4];exact List.mem_singleton.2 rfl
   ·right;exact⟨y,by omega,by omega,h3,h4⟩
theorem JH (a b:Int):ol a b=max a b:=by unfold ol;split <;> omega
theorem J6 (a b:Int):u7 a b=min a b:=by unfold u7;split <;> omega
theorem Ga {e:Entry} {z:Int} {w:Window} {d:Int}:pR e z w d=true↔e.Gone=false/\J5 e d=true/\max (tF e z d) w.From<min (tF e z d+vT e*60000) w.To:=by
 unfold pR
 simp only [Bool.and_eq_true,decide_eq_true_eq,Bool.not_eq_true',JH,J6]
theorem zP {e:Entry} (h:Right e) {z:Int} {w x:Window}:x∈wants e z w↔∃d,e.First<=d/\d<=e.Last/\pR e z w d=true/\x=cutW w (tW e z d):=by
 have h1:=h.first
 unfold wants
 rw [zF]
 constructor
 ·rintro ⟨y,a,b,c⟩;exact⟨y,a,by omega,c⟩
 ·rintro ⟨y,a,b,c⟩;exact⟨y,a,by omega,c⟩
theorem QX {l:List Entry} (hr:∀e∈l,Right e) {p:Player} {w:Window} {E:List Int} (hE:E.Pairwise (· < ·)) (hin:∀x∈E,w.From<=x/\x<=w.To)
  (hw:∀e∈l,Bh e p=true->∀x∈wants e p.Zone w,x.From∈E/\x.To∈E) {i:Nat} {a b:Int} (ha:E[i]? = some a) (hb:E[i+1]? = some b) {t:Int} (hat:a<=t) (htb:t<b):rO l p t=rO l p a:=by
 have a1:=hin a (List.mem_of_getElem? ha)
 have b1:=hin b (List.mem_of_getElem? hb)
 refine key_gap hr hat (λe he hf d g1 g2 g3 g4 => ?_)
 have hm:=Gj e (hr e he)
 have key:∀v:Int,(v=tF e p.Zone d\/v=tF e p.Zone d+vT e*60000)->v<=a\/t<v:=λv hv=>by
  by_cases q1:w.From<v
  ·by_cases q2:v<w.To
   ·have hp:pR e p.Zone w d=true:=Ga.2 ⟨g1,g4,by omega⟩
    obtain ⟨k1,k2⟩:=hw e he hf _ ((zP (hr e he)).2 ⟨d,g2,g3,hp,rfl⟩)
    unfold cutW tW at k1 k2
    simp only [JH,J6]at k1 k2
    have hvE:v∈E:=by
     rcases hv with hv|hv
     ·rw [show max (tF e p.Zone d) w.From=v by omega]at k1;exact k1
     ·rw [show min (tF e p.Zone d+vT e*60000) w.To=v by omega]at k2;exact k2
    rcases PO hE ha hb hvE with h|h
    ·exact .inl h
    ·exact .inr (by omega)
   ·exact .inr (by omega)
  ·exact .inl (by omega)
 exact⟨key _ (.inl rfl),key _ (.inr rfl)⟩
end Go.Proofs.YtadpbmfnnlkdlabGreatDoor.Law

open Go Go.Eng
namespace Go.Proofs.YtadpbmfnnlkdlabGreatDoor.Law
set_option linter.unusedVariables false
set_option linter.unusedSimpArgs false
def tiL (e:Entry) (z:Int) (w:Window):List Window:=collect (pR e z w) (tW e z) (e.Last+1-e.First).toNat e.First
theorem timesK2 (e:Entry) (h:Right e) (z:Int) (w:Window) (hz : -1440<=z/\z<=1440) (hw:Na w):gG e z w=some (tiL e z w):=by
 obtain ⟨w1,w2,w3⟩:=hw
 have hf:=h.first
 have hl:=h.last
 have hm:=Gj e h
 have hfr:=h.from_
 unfold gG
 cases hg:e.Gone with
 | true =>
  simp only [cond_true,ob_]
  unfold tiL
  rw [mK _ _ (λx _ _=>by simp only [pR,hg,Bool.not_true,Bool.false_and])]
 | false =>
 simp only [cond_false,ob_]
 by_cases hlt:w.From>=w.To
 ·simp only [decide_eq_true hlt,cond_true]
  unfold tiL
  rw [mK _ _ (λx _ _=>by
   have:decide (ol (tF e z x) w.From<u7 (tF e z x+vT e*60000) w.To)=false:=decide_eq_false (by unfold ol u7;split <;> split <;> omega)
   simp only [pR,this,Bool.and_false])]
 ·simp only [decide_eq_false hlt,cond_false]
  rw [bW (n:=z*60000) (by omega),bW (n:=w.From+z*60000) (by omega)]
  obtain ⟨a,ha⟩:∃a,(w.From+z*60000).tdiv 86400000=a:=⟨_,rfl⟩
  obtain ⟨b,hb⟩:∃b,(w.To+z*60000).tdiv 86400000=b:=⟨_,rfl⟩
  have ha2:=tdivB _ _ ha
  have hb2:=tdivB _ _ hb
  rw [ha,bW (n:=a) (by omega),bW (n:=a-2) (by omega)]
  obtain ⟨lo,hlo⟩:∃lo,ol (a-2) e.First=lo:=⟨_,rfl⟩
  obtain ⟨hi,hhi⟩:∃hi,u7 (b+1) e.Last=hi:=⟨_,rfl⟩
  have hlo2:e.First<=lo/\a-2<=lo/\(lo=e.First\/lo=a-2):=by unfold ol at hlo;split at hlo <;> omega
  have hhi2:hi<=e.Last/\hi<=b+1/\(hi=e.Last\/hi=b+1):=by unfold u7 at hhi;split at hhi <;> omega
  have hend:∀d,decide (d<=u7 (w64 (w64 ((w64 (w.To+w64 (z*60000))).tdiv 86400000)+1)) e.Last)=decide (d<=hi):=λd=>by
   rw [bW (n:=z*60000) (by omega),bW (n:=w.To+z*60000) (by omega),hb,bW (n:=b) (by omega),bW (n:=b+1) (by omega),hhi]
  rw [hlo]
  obtain ⟨d',hd⟩:=OU (ρ:=Unit) (body:=λs=>eB w z e s) (p:=pK e z w) (f:=tW e z) lo hi (by omega) (λacc d h1 h2 h3=>by
    have hc:decide (d<=hi)=true:=decide_eq_true h2
    simp only [eB,hend,hc,cond_true,timeK e h z d hz (by omega),ob_,dayK e h d (by omega) (by omega),bW (n:=d+1) (by omega),pK]
    cases J5 e d with
    | false=>simp
    | true =>
     simp only [Bool.not_true,cond_false,ob_,Bool.true_and]
     by_cases hA:tF e z d<w.To
     ·have hA1:decide (tF e z d<w.To)=true:=decide_eq_true hA
      have hA2:decide ((tW e z d).From<w.To)=true:=decide_eq_true hA
      by_cases hB:tF e z d+vT e*60000>w.From
      ·have hB1:decide (tF e z d+vT e*60000>w.From)=true:=decide_eq_true hB
       have hB2:decide ((tW e z d).To>w.From)=true:=decide_eq_true hB
       simp only [hA1,hA2,hB1,hB2,cond_true,Bool.and_self,ob_,mh acc [tW e z d] (show acc.length+1<=_ by omega)]
      ·have hB1:decide (tF e z d+vT e*60000>w.From)=false:=decide_eq_false hB
       have hB2:decide ((tW e z d).To>w.From)=false:=decide_eq_false hB
       simp only [hA1,hA2,hB1,hB2,cond_true,cond_false,Bool.and_false,ob_,List.append_nil]
     ·have hA1:decide (tF e z d<w.To)=false:=decide_eq_false hA
      have hA2:decide ((tW e z d).From<w.To)=false:=decide_eq_false hA
      simp only [hA1,hA2,cond_false,Bool.false_and,ob_,List.append_nil])
   (λacc d h1=>by
    have hc:decide (d<=hi)=false:=decide_eq_false (by omega)
    simp only [eB,hend,hc,cond_false])
  rw [hd,ob_,uH]
  unfold tiL
  rw [Ed (pR e z w) _ e.First e.Last lo hi (by omega) (by omega) (λx x1 x2 hp => ?_)]
  ·congr 1
   refine AX _ _ (λx x1 x2=>⟨?_,rfl⟩)
   simp only [pK,pR,hg,Bool.not_false,Bool.true_and]
   congr 1
   rw [Bool.eq_iff_iff,Bool.and_eq_true,decide_eq_true_eq,decide_eq_true_eq,decide_eq_true_eq]
   unfold ol u7
   split <;> split <;> omega
  ·simp only [pR,hg,Bool.not_false,Bool.true_and,Bool.and_eq_true,decide_eq_true_eq]at hp
   have hp2:=hp.2
   unfold tF at hp2
   unfold ol u7 at hp2
   split at hp2 <;> split at hp2 <;> omega
theorem M4 {e:Entry} (h:Right e) (z:Int) (w:Window):(tiL e z w).length<=4001:=by
 have h1:=Ef (pR e z w) (tW e z) (e.Last+1-e.First).toNat e.First
 have h2:=h.first
 have h3:=h.last
 unfold tiL
 omega
theorem EZ {e:Entry} (h:Right e) {z:Int} {w x:Window}:x∈tiL e z w↔∃d,e.First<=d/\d<=e.Last/\pR e z w d=true/\x=tW e z d:=by
 have h1:=h.first
 unfold tiL
 rw [zF]
 constructor
 ·rintro ⟨y,a,b,c⟩;exact⟨y,a,by omega,c⟩
 ·rintro ⟨y,a,b,c⟩;exact⟨y,a,by omega,c⟩
theorem tiL_one {e:Entry} (h:Right e) (z t:Int):tiL e z ⟨t,t+1⟩=match Fz e z t with | some b=>[⟨b,b+vT e*60000⟩] | none=>[]:=by
 have hp:∀d,e.First<=d->d<=e.Last->pR e z ⟨t,t+1⟩ d=Cn e z t d:=λd h1 h2=>by
  have hm:=Gj e h
  rw [Bool.eq_iff_iff,Ga,nA]
  simp only []
  constructor
  ·rintro ⟨a,b,c⟩;exact⟨a,h1,h2,b,by omega,by omega⟩
  ·rintro ⟨a,_,_,b,c,d⟩;exact⟨a,b,by omega⟩
 have hf:=h.first
 cases hb:Fz e z t with
 | none =>
  unfold tiL
  rw [mK _ _ (λx x1 x2=>by
   rw [hp x x1 (by omega)]
   cases hh:Cn e z t x with
   | false=>rfl
   | true =>
    have:=(xD h (z:=z) (t:=t) (b:=tF e z x)).2 ⟨x,hh,rfl⟩
    rw [hb]at this;cases this)]
 | some b =>
  obtain ⟨d,hd,rfl⟩:=(xD h).1 hb
  obtain ⟨_,d1,d2,_⟩:=nA.1 hd
  unfold tiL
  rw [show (e.Last+1-e.First).toNat=(e.Last+1-e.First).toNat from rfl,Ed (pR e z ⟨t,t+1⟩) (tW e z) e.First e.Last d d d1 d2 (λx x1 x2 hx=>by
   rw [hp x x1 x2]at hx
   have:=KW h hx hd
   omega)]
  rw [show (d+1-d).toNat=1 by omega]
  simp only [collect,hp d d1 d2,hd,cond_true,List.append_nil]
  rfl
def yY (p:Player) (w:Window) (e:Entry):List Span:=bif Bh e p then (tiL e p.Zone w).map (λt=>⟨some e,t⟩)else []
def lU (l:List Entry) (p:Player) (w:Window):List Span:=l.flatMap (yY p w)
structure CE (l:List Entry) (p:Player):Prop where
 right:∀e∈l,Right e
 tags:∀e∈l,e.Tags.length<=1000
 len:l.length<=4
 keys:(l.map (·.Key)).Nodup
 ne:∀e∈l,e.Key≠⟨#[]⟩
 zone : -1440<=p.Zone/\p.Zone<=1440
 ptags:tagsF p.Tags=0
theorem IB {l:List Entry} {p:Player} (h:CE l p) (w:Window) {e:Entry} (he:e∈l):(yY p w e).length<=4001:=by
 unfold yY
 cases Bh e p with
 | false=>exact Nat.zero_le _
 | true=>rw [cond_true,List.length_map];exact M4 (h.right e he) _ _
theorem FE {α β:Type} {f:α->List β} {n:Nat}:∀{l:List α},(∀x∈l,(f x).length<=n)->(l.flatMap f).length<=l.length*n
 | [],_=>by simp
 | x::l,h=>by
  have h1:=h x (by simp)
  have h2:=FE (l:=l) (λy hy=>h y (by simp [hy]))
  rw [List.flatMap_cons,List.length_append,List.length_cons,Nat.add_mul]
  omega
theorem spans_eq {l:List Entry} {p:Player} (h:CE l p) {w:Window} (hw:Na w):iy l p w=some (lU l p w):=by
 have hl:=h.len
 unfold iy
 obtain ⟨t,t1,t2⟩:=qd (body:=λk x s=>iA p w l k x s) (λk s=>s=lU (l.take k) p w) (xs:=l) (s:=([]:List Span)) (by omega) (λk e s he hs=>by
  have et:l.take (k+1)=l.take k++[e]:=by rw [List.take_add_one,he];rfl
  have hm:=List.mem_of_getElem? he
  have hsl:s.length<=20000:=by
   rw [hs]
   have h1:=FE (l:=l.take k) (f:=yY p w) (n:=4001) (λx hx=>IB h w (List.mem_of_mem_take hx))
   have h2:(l.take k).length<=4:=by rw [List.length_take];omega
   have h3:(l.take k).length*4001<=4*4001:=Nat.mul_le_mul_right _ h2
   unfold lU
   omega
  have hn:lU (l.take (k+1)) p w=s++yY p w e:=by
   rw [hs,et]
   unfold lU
   rw [List.flatMap_append]
   simp
  unfold iA
  rw [fitK e p (h.tags e hm) h.ptags,ob_]
  cases hf:Bh e p with
  | false =>
   refine⟨s,rfl,?_⟩
   rw [hn]
   unfold yY
   rw [hf];simp
  | true =>
   simp only [Bool.not_true,cond_false]
   rw [timesK2 e (h.right e hm) p.Zone w h.zone hw,ob_]
   have htl:=M4 (h.right e hm) p.Zone w
   obtain ⟨u,u1,u2⟩:=qd (body:=λj x s=>iB l k j x s) (λj s'=>s'=s++((tiL e p.Zone w).take j).map (λt=>(⟨some e,t⟩:Span))) (xs:=tiL e p.Zone w) (s:=s) (by omega) (λj x s' hx hs'=>by
    have et2:(tiL e p.Zone w).take (j+1)=(tiL e p.Zone w).take j++[x]:=by rw [List.take_add_one,hx];rfl
    have hjl:((tiL e p.Zone w).take j).length<=4001:=by rw [List.length_take];omega
    unfold iB
    rw [mG,he,ob_,mh _ _ (by rw [hs',List.length_append,List.length_map];simp only [List.length_cons,List.length_nil];omega)]
    refine⟨_,rfl,?_⟩
    rw [et2,List.map_append,hs',List.append_assoc];rfl) (by simp)
   rw [u1]
   refine⟨u,rfl,?_⟩
   rw [hn,u2,List.take_length]
   unfold yY
   rw [hf];rfl) rfl
 rw [t1,t2,List.take_length];rfl
end Go.Proofs.YtadpbmfnnlkdlabGreatDoor.Law

namespace Go.Eng
set_option linter.unusedVariables false
set_option linter.unusedSimpArgs false
section
variable {α:Type} {cmp:α->α->Option Int} {le:α->α->Prop} {p:α->Prop}
end
end Go.Eng

open Go Go.Eng
namespace Go.Proofs.YtadpbmfnnlkdlabGreatDoor.Law
set_option linter.unusedVariables false
set_option linter.unusedSimpArgs false
theorem Oh (a b:ByteArray):(lt a b/\EC a b = -1)\/(a=b/\EC a b=0)\/(lt b a/\EC a b=1):=by
 have key:∀(x y:List UInt8),(x<y/\Lib.compareBytes x y = -1)\/(x=y/\Lib.compareBytes x y=0)\/(y<x/\Lib.compareBytes x y=1):=by
  intro x
  induction x with
  | nil=>intro y;cases y with
   | nil=>exact .inr (.inl ⟨rfl,rfl⟩)
   | cons b y=>exact .inl ⟨by simp,rfl⟩
  | cons a x ih=>intro y;cases y with
   | nil=>exact .inr (.inr ⟨by simp,rfl⟩)
   | cons b y =>
    simp only [Lib.compareBytes,List.cons_lt_cons_iff,List.cons.injEq]
    by_cases h1:a<b
    ·exact .inl ⟨.inl h1,by rw [if_pos h1]⟩
    ·by_cases h2:b<a
     ·exact .inr (.inr ⟨.inl h2,by rw [if_neg h1,if_pos h2]⟩)
     ·have e:a=b:=UInt8.le_antisymm (UInt8.not_lt.1 h2) (UInt8.not_lt.1 h1)
      subst e
      rw [if_neg h1,if_neg h1]
      rcases ih y with⟨h,k⟩|⟨h,k⟩|⟨h,k⟩
      ·exact .inl ⟨.inr ⟨rfl,h⟩,k⟩
      ·exact .inr (.inl ⟨⟨rfl,h⟩,k⟩)
      ·exact .inr (.inr ⟨.inr ⟨rfl,h⟩,k⟩)
 unfold EC lt
 rw [toL,toL]
 rcases key a.data.toList b.data.toList with⟨h,k⟩|⟨h,k⟩|⟨h,k⟩
 ·exact .inl ⟨h,k⟩
 ·exact .inr (.inl ⟨BP (by rw [toL,toL];exact h),k⟩)
 ·exact .inr (.inr ⟨h,k⟩)
theorem ME (a b:ByteArray):strings_Compare a b=some (EC a b):=rfl
def JO (a b:Int):Int:=if a<b then -1 else if a>b then 1 else 0
theorem IA (a b:Int):cmp_Compare_int a b=some (JO a b):=by
 have e:∀x:Int,(x != x)=false:=by simp
 unfold cmp_Compare_int cmp_isNaN_int JO
 simp only [e,ob_,cond_false]
 by_cases h:a<b
 ·simp only [decide_eq_true h,cond_true,if_pos h]
 ·by_cases h2:a>b
  ·simp only [decide_eq_false h,decide_eq_true h2,cond_true,cond_false,if_neg h,if_pos h2]
  ·simp only [decide_eq_false h,decide_eq_false h2,cond_false,if_neg h,if_neg h2]
theorem or3_eq (a b c:Int):o8 [a,b,c]=some (or0 a (or0 b c)):=by
 unfold o8 or0
 rw [qi (by simp)]
 simp only [forR,rq]
 cases ha:a==0 with
 | false =>
  have:(a != 0)=true:=by simp [bne,ha]
  simp only [this,cond_true,cond_false,ob_,thenC]
 | true =>
  have:(a != 0)=false:=by simp [bne,ha]
  simp only [this,cond_true,cond_false,ob_]
  cases hb:b==0 with
  | false =>
   have:(b != 0)=true:=by simp [bne,hb]
   simp only [this,cond_true,cond_false,ob_,thenC]
  | true =>
   have:(b != 0)=false:=by simp [bne,hb]
   simp only [this,cond_true,cond_false,ob_]
   cases hc:c==0 with
   | false =>
    have:(c != 0)=true:=by simp [bne,hc]
    simp only [this,cond_true,ob_,thenC]
   | true =>
    have:(c != 0)=false:=by simp [bne,hc]
    simp only [this,cond_false,ob_,thenC]
    rw [eq_of_beq hc]
theorem NB {a b:Int}:or0 a b<0↔a<0\/a=0/\b<0:=by
 unfold or0
 by_cases h:a=0
 ·subst h;simp
 ·have:(a==0)=false:=by simpa using h
  rw [this,cond_false];omega
theorem xq {a b:Int}:JO a b<0↔a<b:=by
 unfold JO
 split
 ·omega
 ·split <;> omega
theorem Ip {a b:Int}:JO a b=0↔a=b:=by
 unfold JO
 split
 ·omega
 ·split <;> omega
theorem O6 {a b:ByteArray}:EC a b<0↔lt a b:=by
 rcases Oh a b with⟨h,e⟩|⟨h,e⟩|⟨h,e⟩
 ·rw [e];exact⟨λ_=>h,λ_=>by decide⟩
 ·rw [e,h];exact⟨λk=>absurd k (by decide),λk=>absurd k (su _)⟩
 ·rw [e];exact⟨λk=>absurd k (by decide),λk=>absurd (lt_trans k h) (su _)⟩
theorem lt_ntr {a b c:ByteArray} (h:¬lt a b) (k:¬lt b c):¬lt a c:=λq=>by
 rcases F6 a b with e|e|e
 ·exact h e
 ·rw [e]at q;exact k q
 ·exact k (lt_trans e q)
def jQ (x:Entry×Int):Span:=⟨some x.1,⟨x.2,x.2+vT x.1*60000⟩⟩
theorem N9 {p:Player} {e:Entry} (h:Right e) (t:Int):yY p ⟨t,t+1⟩ e=(AJ p t e).toList.map jQ:=by
 unfold yY AJ
 rw [tiL_one h]
 cases Bh e p with
 | false=>rfl
 | true=>cases Fz e p.Zone t <;> rfl
theorem I7:∀{l:List Entry} (p:Player) (t:Int),(∀e∈l,Right e)->lU l p ⟨t,t+1⟩=(lV l p t).map jQ
 | [],p,t,_=>rfl
 | e::l,p,t,h=>by
  have ih:=I7 (l:=l) p t (λx hx=>h x (by simp [hx]))
  unfold lU lV at *
  rw [List.flatMap_cons,List.filterMap_cons,ih,N9 (h e (by simp))]
  cases AJ p t e <;> rfl
def cE (x y:Entry×Int):Int:=or0 (JO y.1.Prio x.1.Prio) (or0 (JO y.2 x.2) (EC y.1.Key x.1.Key))
theorem vZ {x y:Entry×Int}:cE x y<0↔wh x y=true:=by
 unfold cE
 rw [NB,NB,xq,Ip,xq,Ip,O6,wY]
 constructor
 ·rintro (h|⟨h,k|⟨k,q⟩⟩)
  ·exact .inl h
  ·exact .inr ⟨h.symm,.inl k⟩
  ·exact .inr ⟨h.symm,.inr ⟨k.symm,q⟩⟩
 ·rintro (h|⟨h,k|⟨k,q⟩⟩)
  ·exact .inl h
  ·exact .inr ⟨h.symm,.inl k⟩
  ·exact .inr ⟨h.symm,.inr ⟨k.symm,q⟩⟩
theorem Ph {a b c:Entry×Int} (h:¬wh a b=true) (k:¬wh b c=true):¬wh a c=true:=by
 rw [wY]at *
 simp only [not_or,not_and]at h k
 rintro (q|⟨q,q2|⟨q2,q3⟩⟩)
 ·omega
 ·have h2:=h.2
  have k2:=k.2
  by_cases e:a.1.Prio=b.1.Prio
  ·have:=(h2 e).1
   have:=(k2 (by omega)).1
   omega
  ·omega
 ·have h2:=h.2
  have k2:=k.2
  by_cases e:a.1.Prio=b.1.Prio
  ·have a1:=h2 e
   have a2:=k2 (by omega)
   by_cases e2:a.2=b.2
   ·exact lt_ntr (a2.2 (by omega)) (a1.2 e2) q3
   ·have:=a1.1
    have:=a2.1
    omega
  ·omega
def zeroE:Entry:=⟨⟨#[]⟩,⟨#[]⟩,0,0,0,0,0,[],0,0,0,[],false⟩
def rQ (s:Span):Entry×Int:=(s.f_e.getD zeroE,s.f_time.From)
theorem El (x y:Entry×Int):eX (jQ x) (jQ y)=some (cE (rQ (jQ x)) (rQ (jQ y))):=by
 unfold eX
 show ((some y.1).bind λy_5=>(some x.1).bind λy_7=>_)=_
 simp only [ob_,IA,jQ,ME,or3_eq];rfl
theorem F9 {l:List Entry} {p:Player} (h:CE l p) (t:Int):(lV l p t).length<=4:=Nat.le_trans (Og _ _ _) h.len
theorem Ou {l:List Entry} {p:Player} (h:CE l p) (t:Int):(rZ l p t).length<=4:=by
 unfold rZ
 rw [(wM _ _).length_eq];exact F9 h t
end Go.Proofs.YtadpbmfnnlkdlabGreatDoor.Law

open Go Go.Eng
namespace Go.Proofs.YtadpbmfnnlkdlabGreatDoor.Law
set_option linter.unusedVariables false
set_option linter.unusedSimpArgs false
end Go.Proofs.YtadpbmfnnlkdlabGreatDoor.Law

open Go Go.Eng
namespace Go.Proofs.YtadpbmfnnlkdlabGreatDoor.Law
set_option linter.unusedVariables false
set_option linter.unusedSimpArgs false
def dd:List Int->List Int
 | []=>[]
 | [x]=>[x]
 | x::y::l=>bif x==y then dd (y::l)else x::dd (y::l)
theorem M9 (x:Int):∀(l:List Int) (b:Int),l.getLast? = some b->dd (l++[x])=bif b==x then dd l else dd l++[x]
 | [],b,h=>by cases h
 | [a],b,h=>by
  simp only [List.getLast?_singleton,so_]at h
  subst h
  simp only [List.cons_append,List.nil_append,dd]
  cases hx:a==x with
  | true=>rw [eq_of_beq hx]
  | false=>rfl
 | a::c::l,b,h=>by
  have ih:=M9 x (c::l) b (by rw [<- h];simp [List.getLast?_cons_cons])
  simp only [List.cons_append]at ih ⊢
  rw [dd,ih,dd]
  cases a==c <;> cases b==x <;> rfl
theorem M5 (s:List Int) (p:Nat) (a b:Int) (hp:1<=p) (ha:s[p]? = some a) (hb:s[p-1]? = some b):dd (s.take (p+1))=bif b==a then dd (s.take p)else dd (s.take p)++[a]:=by
 have hlt:=(List.getElem?_eq_some_iff.1 ha).1
 have e:s.take (p+1)=s.take p++[a]:=by rw [List.take_add_one,ha];rfl
 rw [e]
 refine M9 a _ b ?_
 rw [List.getLast?_eq_getElem?,List.length_take,List.getElem?_take,if_pos (by omega),<- hb]
 congr 1;omega
theorem JN (x:Int):∀l:List Int,x∈dd l↔x∈l
 | []=>Iff.rfl
 | [a]=>Iff.rfl
 | a::b::l=>by
  rw [dd]
  cases h:a==b with
  | true =>
   rw [cond_true,JN x (b::l),eq_of_beq h];simp
  | false=>rw [cond_false,List.mem_cons,JN x (b::l),List.mem_cons (a:=x) (b:=a)]
theorem Je:∀l:List Int,l.Pairwise (· <= ·)->(dd l).Pairwise (· < ·)
 | [],_ => .nil
 | [a],_=>List.pairwise_singleton _ _
 | a::b::l,h=>by
  rw [dd]
  obtain ⟨h1,h2⟩:=List.pairwise_cons.1 h
  cases hx:a==b with
  | true=>exact Je (b::l) h2
  | false =>
   refine List.pairwise_cons.2 ⟨λc hc => ?_,Je (b::l) h2⟩
   have hc:=(JN c (b::l)).1 hc
   have hab:a<b:=by
    have:=h1 b (by simp)
    have hne:a≠b:=by simpa using hx
    omega
   rcases List.mem_cons.1 hc with rfl|hc
   ·exact hab
   ·have:=(List.pairwise_cons.1 h2).1 c hc;omega
theorem PL:∀l:List Int,(dd l).length<=l.length
 | []=>Nat.le_refl _
 | [a]=>Nat.le_refl _
 | a::b::l=>by
  have:=PL (b::l)
  rw [dd]
  cases a==b with
  | true=>rw [cond_true];simp only [List.length_cons]at *;omega
  | false=>rw [cond_false];simp only [List.length_cons]at *;omega
theorem Qi {i:Int} {n:Nat} (h0:0<=i) (h1:i<n):inN i n=some ():=by unfold inN;rw [if_pos ⟨h0,by omega⟩]
theorem vv {α:Type} {xs:List α} {i:Nat} (h:i<xs.length):inR (i:Int) xs=some ():=by
 unfold inR;rw [if_pos ⟨by omega,by simpa using h⟩]
theorem comp_L1 (s data:List Int) (k0 i2 k:Nat) (a b:Int) (hn:s.length<=1000000000) (hd:data.length=s.length) (h1:1<=i2) (hp:k0+i2<s.length) (hk:k<s.length) (ha:data[k0+i2]? = some a) (hb:data[k0+i2-1]? = some b) :
  cK s (k0:Int) (data,(k:Int),(i2:Int))=some (.go (bif b==a then (data,(k:Int),((i2+1:Nat):Int))else (data.set k a,((k+1:Nat):Int),((i2+1:Nat):Int)))):=by
 unfold cK
 have e0:((s.length:Int).toNat-(k0:Int).toNat)=s.length-k0:=by omega
 have hc:decide ((i2:Int)<((s.length-k0:Nat):Int))=true:=by simp;omega
 have hw:w64 ((i2:Int)-1)=((i2-1:Nat):Int):=by rw [bW (by omega)];omega
 have hw2:w64 ((i2:Int)+1)=((i2+1:Nat):Int):=by rw [bW (by omega)];omega
 have hw3:w64 ((k:Int)+1)=((k+1:Nat):Int):=by rw [bW (by omega)];omega
 have i1:inN (i2:Int) (s.length-k0)=some ():=Qi (by omega) (by omega)
 have i3:inN ((i2-1:Nat):Int) (s.length-k0)=some ():=Qi (by omega) (by omega)
 have i4:inR (k:Int) data=some ():=vv (by omega)
 have g1:(k0:Int).toNat+(i2:Int).toNat=k0+i2:=by omega
 have g2:(k0:Int).toNat+((i2-1:Nat):Int).toNat=k0+i2-1:=by omega
 have g3:0+(k:Int).toNat=k:=by omega
 have hkd:data[k]? = some data[k]:=List.getElem?_eq_getElem (by omega)
 simp only [e0,hc,cond_true,hw,hw2,hw3,i1,i3,i4,g1,g2,g3,ob_,ha,hb,hkd]
 have hne:(a != b) = !(b==a):=by rw [bne_comm];rfl
 rw [hne]
 cases b==a <;> rfl
theorem Bj (s:List Int) (k0:Nat) (hn:s.length<=1000000000):∀(m i2 k:Nat) (data:List Int),k0+i2+m=s.length->1<=i2->data.length=s.length->k<=k0+i2-1->data.take k=dd (s.take (k0+i2))->data.drop (k0+i2-1)=s.drop (k0+i2-1) ->
  ∃(data':List Int) (k':Nat),iterN (λt=>cK s (k0:Int) t) (m+1) (data,(k:Int),(i2:Int))=some (.go (data',(k':Int),((s.length-k0:Nat):Int)))/\data'.length=s.length/\k'<=s.length/\data'.take k'=dd s
 | 0,i2,k,data,hm,h1,hd,hk,ht,hr=>by
  refine⟨data,k,?_,hd,by omega,?_⟩
  ·have e0:((s.length:Int).toNat-(k0:Int).toNat)=s.length-k0:=by omega
   have hc:decide ((i2:Int)<((s.length-k0:Nat):Int))=false:=by simp;omega
   simp only [iterN,cK,e0,hc,cond_false,ob_]
   rw [show s.length-k0=i2 by omega]
  ·rw [ht,show k0+i2=s.length by omega,List.take_length]
 | m+1,i2,k,data,hm,h1,hd,hk,ht,hr=>by
  have hp:k0+i2<s.length:=by omega
  have hga:data[k0+i2]? = some s[k0+i2]:=by
   have:=congrArg (λl=>l[1]?) hr
   simp only [List.getElem?_drop]at this
   rw [show k0+i2-1+1=k0+i2 by omega]at this
   rw [this,List.getElem?_eq_getElem hp]
  have hgb:data[k0+i2-1]? = some (s[k0+i2-1]'(by omega)):=by
   have:=congrArg (λl=>l[0]?) hr
   simp only [List.getElem?_drop,Nat.add_zero]at this
   rw [this,List.getElem?_eq_getElem (by omega)]
  have hdt:=M5 s (k0+i2) s[k0+i2] (s[k0+i2-1]'(by omega)) (by omega) (List.getElem?_eq_getElem hp) (List.getElem?_eq_getElem (by omega))
  rw [iterN,comp_L1 s data k0 i2 k _ _ hn hd h1 hp (by omega) hga hgb,ob_]
  cases hx:s[k0+i2-1]'(by omega)==s[k0+i2]with
  | true =>
   rw [hx,cond_true]at hdt
   simp only [cond_true]
   refine Bj s k0 hn m (i2+1) k data (by omega) (by omega) hd (by omega) (by rw [ht,<- hdt];rfl) ?_
   have:=congrArg (List.drop 1) hr
   simp only [List.drop_drop]at this
   rw [show k0+i2-1+1=k0+(i2+1)-1 by omega]at this
   exact this
  | false =>
   rw [hx,cond_false]at hdt
   simp only [cond_false]
   have hkl:k<data.length:=by omega
   refine Bj s k0 hn m (i2+1) (k+1) (data.set k s[k0+i2]) (by omega) (by omega) (by simpa using hd) (by omega) ?_ ?_
   ·rw [List.take_add_one,List.getElem?_set_self hkl,List.take_set_of_le (Nat.le_refl _),ht]
    show _=dd (s.take (k0+i2+1))
    rw [hdt];rfl
   ·rw [List.drop_set_of_lt (by omega)]
    have:=congrArg (List.drop 1) hr
    simp only [List.drop_drop]at this
    rw [show k0+i2-1+1=k0+(i2+1)-1 by omega]at this
    exact this
theorem Fj (s:List Int) (hn:s.length<=1000000000):∀(m i:Nat),i+m=s.length->1<=i->dd (s.take i)=s.take i ->
  (iterN (λt=>bn s t) (m+1) (i:Int)=some (.go (s.length:Int))/\dd s=s)\/iterN (λt=>bn s t) (m+1) (i:Int)=some (.ret (dd s))
 | 0,i,hm,h1,hd=>by
  refine .inl ⟨?_,?_⟩
  ·have hc:decide ((i:Int)<(s.length:Int))=false:=by simp;omega
   simp only [iterN,bn,hc,cond_false,ob_]
   rw [show i=s.length by omega]
  ·rw [show i=s.length by omega,List.take_length]at hd;exact hd
 | m+1,i,hm,h1,hd=>by
  have hi:i<s.length:=by omega
  have hc:decide ((i:Int)<(s.length:Int))=true:=by simp;omega
  have hw:w64 ((i:Int)-1)=((i-1:Nat):Int):=by rw [bW (by omega)];omega
  have hw2:w64 ((i:Int)+1)=((i+1:Nat):Int):=by rw [bW (by omega)];omega
  have e1:0+(i:Int).toNat=i:=by omega
  have e2:0+((i-1:Nat):Int).toNat=i-1:=by omega
  have hga:s[i]? = some s[i]:=List.getElem?_eq_getElem hi
  have hgb:s[i-1]? = some (s[i-1]'(by omega)):=List.getElem?_eq_getElem (by omega)
  have hdt:=M5 s i s[i] (s[i-1]'(by omega)) h1 hga hgb
  have i1:inR (i:Int) s=some ():=vv hi
  have i2:inR ((i-1:Nat):Int) s=some ():=vv (by omega)
  rw [iterN]
  have hswap:(s[i]==s[i-1]'(by omega))=(s[i-1]'(by omega)==s[i]):=by rw [BEq.comm]
  cases hx:s[i-1]'(by omega)==s[i]with
  | false =>
   have:bn s (i:Int)=some (.go ((i+1:Nat):Int)):=by
    unfold bn
    simp only [hc,cond_true,hw,hw2,e1,e2,i1,i2,hga,hgb,ob_,hswap,hx,cond_false]
   rw [this,ob_]
   rw [hx,cond_false,hd]at hdt
   refine Fj s hn m (i+1) (by omega) (by omega) ?_
   rw [hdt,List.take_add_one,hga];rfl
  | true =>
   right
   rw [hx,cond_true,hd]at hdt
   obtain ⟨data',k',q1,q2,q3,q4⟩:=Bj s i hn (s.length-(i+1)) 1 i s (by omega) (by omega) rfl (by omega) hdt.symm rfl
   have hlo:=kC q1
   have hne:neL s=some ():=by
    cases s with
    | nil=>simp at hi
    | cons a l=>rfl
   have hsr:rP s (i:Int) (s.length:Int)=some ():=by unfold rP;rw [if_pos ⟨by omega,by omega,by omega,by omega⟩]
   have hsr2:rP data' (k':Int) (data'.length:Int)=some ():=by unfold rP;rw [if_pos ⟨by omega,by omega,by omega,by omega⟩]
   have hlen:(data'.take k'++List.replicate (data'.length-k') (0:Int)++data'.drop (k'+(data'.length-k'))).length=data'.length:=by simp;omega
   have hsr3:rP (data'.take k'++List.replicate (data'.length-k') (0:Int)++data'.drop (k'+(data'.length-k'))) 0 (k':Int)=some ():=by unfold rP;rw [if_pos ⟨by omega,by omega,by omega,by rw [hlen];omega⟩]
   have n1:((data'.length:Int)).toNat=data'.length:=by omega
   have n2:(k':Int).toNat=k':=by omega
   have:bn s (i:Int)=some (.ret (dd s)):=by
    unfold bn
    have one:((1:Nat):Int)=1:=rfl
    rw [one]at hlo
    simp only [hc,cond_true,hw,e1,e2,i1,i2,hga,hgb,ob_,hswap,hx,hne,hsr,hlo,thenC,hsr2,n1,n2,hsr3]
    congr 2
    show List.take k' (List.drop 0 _)=dd s
    rw [List.drop_zero,List.append_assoc,List.take_append_of_le_length (by rw [List.length_take];omega),List.take_take,Nat.min_self,q4]
   rw [this];rfl
theorem LW (s:List Int) (hn:s.length<=1000000000):cZ s=some (dd s):=by
 unfold cZ
 by_cases h:(s.length:Int)<2
 ·rw [decide_eq_true h,cond_true]
  match s,h with
  | [],_=>rfl
  | [a],_=>rfl
  | a::b::l,h=>simp at h;omega
 ·rw [decide_eq_false h,cond_false]
  have h1:dd (s.take 1)=s.take 1:=by
   match s with
   | []=>rfl
   | a::l=>rfl
  rcases Fj s hn (s.length-1) 1 (by omega) (Nat.le_refl _) h1 with⟨h2,h3⟩|h2
  ·have:=kC h2
   show (iV 1 _).bind _=_
   rw [show ((1:Nat):Int)=1 from rfl]at this
   rw [this,h3];rfl
  ·have:=kC h2
   show (iV 1 _).bind _=_
   rw [show ((1:Nat):Int)=1 from rfl]at this
   rw [this];rfl
theorem rR (e:List Int) (hn:e.length<=1000000000):∃s c,dU e=some s/\s.length=e.length/\cZ s=some c/\c.Pairwise (· < ·)/\(∀x,x∈c↔x∈e)/\c.length<=e.length:=by
 have hs:dU e=some (e.mergeSort λx y=>decide (x<=y)):=by
  unfold dU LA;rw [if_pos (by omega)]
 have hl:(e.mergeSort λx y=>decide (x<=y)).length=e.length:=List.length_mergeSort e
 refine⟨_,_,hs,hl,LW _ (by rw [hl];exact hn),Je _ ?_,λx => ?_,by rw [<- hl];exact PL _⟩
 ·have:=List.pairwise_mergeSort (le:=λ(x y:Int)=>decide (x<=y)) (λa b c=>by simp;omega) (λa b=>by simp;omega) e
  exact this.imp (by simp)
 ·rw [JN];exact List.mem_mergeSort
end Go.Proofs.YtadpbmfnnlkdlabGreatDoor.Law

open Go Go.Eng
namespace Go.Proofs.YtadpbmfnnlkdlabGreatDoor.Law
set_option linter.unusedVariables false
set_option linter.unusedSimpArgs false
def putC (id:ByteArray) (a b:Int) (out:List Slot_):Option (List Slot_) :=
 (bif (decide ((w64 ((out.length:Int)-1))>=0))then (inR (w64 ((out.length:Int)-1)) out).bind λ_=>(out[(0+((w64 ((out.length:Int)-1))).toNat)]?).bind λe_81=>some (sEq e_81.Entry id)else some false).bind λv_77 =>
 (bif v_77 then (inR (w64 ((out.length:Int)-1)) out).bind λ_=>(out[(0+((w64 ((out.length:Int)-1))).toNat)]?).bind λe_90=>some (out.set (0+((w64 ((out.length:Int)-1))).toNat) (⟨(⟨e_90.Time.From,b⟩:Window),e_90.Entry⟩:Slot_))
 else (lm out ([(⟨(⟨a,b⟩:Window),id⟩:Slot_)]:List Slot_)).bind λa_96=>some a_96)
theorem putC_eq (id:ByteArray) (a b:Int) (out:List Slot_) (hl:out.length<=1000000):putC id a b out=some (yR id a b out):=by
 unfold putC
 cases ho:out.length with
 | zero =>
  have e:=List.eq_nil_of_length_eq_zero ho
  subst e
  rw [decide_eq_false (by decide)];rfl
 | succ n =>
  have hw:w64 ((out.length:Int)-1)=(n:Int):=by rw [bW (by omega)];omega
  rw [<- ho,hw,decide_eq_true (by omega),cond_true,zl (by omega) (by omega)]
  have hn:n<out.length:=by omega
  have e1:out[(0+((n:Int)).toNat)]? = some out[n]:=by rw [show 0+((n:Int)).toNat=n by omega];exact List.getElem?_eq_getElem hn
  rw [e1]
  simp only [ob_,JM]
  by_cases he:out[n].Entry=id
  ·rw [decide_eq_true he,cond_true,K7 id a b out n _ ho (List.getElem?_eq_getElem hn) he,show 0+((n:Int)).toNat=n by omega]
  ·rw [decide_eq_false he,cond_false,mh _ _ (by simp;omega),KR id a b out (λm x h1 h2=>by
    obtain rfl:m=n:=by omega
    rw [List.getElem?_eq_getElem hn,so_]at h2
    rw [<- h2];exact he)];rfl
structure EB (m:List Entry) (z:Int) (w:Window) (E:List Int):Prop where
 from_:w.From∈E
 to_:w.To∈E
 in_:∀x∈E,w.From<=x/\x<=w.To
 has:∀e∈m,∀x∈wants e z w,x.From∈E/\x.To∈E
theorem Ps {e:Entry} (h:Right e) {z:Int} {w x:Window} (hx:x∈wants e z w):w.From<=x.From/\x.From<=w.To/\w.From<=x.To/\x.To<=w.To:=by
 obtain ⟨d,_,_,hp,rfl⟩:=(zP h).1 hx
 obtain ⟨_,_,hp⟩:=Ga.1 hp
 unfold cutW tW
 simp only [JH,J6]
 omega
end Go.Proofs.YtadpbmfnnlkdlabGreatDoor.Law

namespace Go.Eng
set_option linter.unusedVariables false
set_option linter.unusedSimpArgs false
def Gr {α:Type} (f:α->Option Bool) (xs:List α) (k x:Nat) (s:Unit):Option (Ctl Unit Int) :=
 (inR (k:Int) xs).bind λ_=>(xs[(0+((k:Int)).toNat)]?).bind λe=>(f e).bind λr=>bif r then some (.ret (k:Int))else some (.go ())
def ixF {α:Type} (f:α->Option Bool) (xs:List α):Option Int :=
 (forL (List.range ((xs.length:Int)).toNat) () (λk x s=>Gr f xs k x s)).bind λo=>thenC o (λ_=>some (-1)) (λr=>some r)
def xK {α:Type} (f:α->Option Bool) (s:List α×Int×Int):Option (Ctl (List α×Int×Int) Unit) :=
 bif (decide (s.2.2<(s.1.length:Int)))then (inR s.2.2 s.1).bind λ_=>(s.1[(0+(s.2.2).toNat)]?).bind λe=>(f e).bind λr=>(bif (!r)then (inR s.2.1 s.1).bind λ_=>(s.1[(0+(s.2.1).toNat)]?).bind λe_29=>some ((s.1.set (0+(s.2.1).toNat) e),(w64 (s.2.1+1)))else some (s.1,s.2.1)).bind λv=>some (.go (v.1,v.2,(w64 (s.2.2+1))))else some (.brk (s.1,s.2.1,s.2.2))
theorem vv {α:Type} {xs:List α} {k:Nat} (h:k<xs.length):inR (k:Int) xs=some ():=by unfold inR;rw [if_pos ⟨by omega,by omega⟩]
theorem ixF_eq {α:Type} {f:α->Option Bool} {q:α->Bool} {xs:List α} (hf:∀x∈xs,f x=some (q x)) (hl:xs.length<=1000000000) :
  (ixF f xs=some (-1)/\∀x∈xs,q x=false)\/∃(k:Nat) (h:k<xs.length),ixF f xs=some (k:Int)/\q xs[k]=true/\∀x∈xs.take k,q x=false:=by
 have run:∀(ys:List Nat) (k:Nat),k+ys.length=xs.length->(∀x∈xs.take k,q x=false) ->
   (forR (λk x s=>Gr f xs k x s) ys k ()=some (.go ())/\∀x∈xs,q x=false)\/∃(j:Nat) (h:j<xs.length),forR (λk x s=>Gr f xs k x s) ys k ()=some (.ret (j:Int))/\q xs[j]=true/\∀x∈xs.take j,q x=false:=by
  intro ys
  induction ys with
  | nil=>intro k h hq;exact .inl ⟨rfl,by rw [List.length_nil,Nat.add_zero]at h;rw [h,List.take_length]at hq;exact hq⟩
  | cons y ys ih =>
   intro k h hq
   simp only [List.length_cons]at h
   have hk:k<xs.length:=by omega
   have hst:Gr f xs k y ()=some (bif q xs[k]then .ret (k:Int)else .go ()):=by
    unfold Gr
    simp only [vv hk,ob_,Int.toNat_natCast,Nat.zero_add,List.getElem?_eq_getElem hk,hf _ (List.getElem_mem hk)]
    cases q xs[k] <;> rfl
   rw [forR,hst,ob_]
   cases hqk:q xs[k]with
   | true=>exact .inr ⟨k,hk,rfl,hqk,hq⟩
   | false =>
    refine ih (k+1) (by omega) (λx hx => ?_)
    rw [List.take_succ_eq_append_getElem hk]at hx
    rcases List.mem_append.1 hx with hx|hx
    ·exact hq x hx
    ·rw [List.mem_singleton.1 hx];exact hqk
 unfold ixF
 rw [Int.toNat_natCast,qi (by simp;omega)]
 rcases run (List.range xs.length) 0 (by simp) (by simp)with⟨h1,h2⟩|⟨k,hk,h1,h2,h3⟩
 ·exact .inl ⟨by rw [h1];rfl,h2⟩
 ·exact .inr ⟨k,hk,by rw [h1];rfl,h2,h3⟩
theorem filter_all {α:Type} {p:α->Bool} {xs:List α} (h:∀x∈xs,p x=true):xs.filter p=xs:=List.filter_eq_self.2 h
theorem Hm {α:Type} {f:α->Option Bool} {q:α->Bool} {xs:List α} (hf:∀x∈xs,f x=some (q x)) (hl:xs.length<=1000000000) :
  ∀(m:Nat) (l:List α) (i j:Nat),j+m=xs.length->i<=j->l.length=xs.length->l.take i=(xs.take j).filter (λx => !q x)->l.drop j=xs.drop j ->
   ∃l' i',iterN (λs=>xK f s) (m+1) (l,(i:Int),(j:Int))=some (.go (l',(i':Nat),(xs.length:Int)))/\i'<=xs.length/\l'.length=xs.length/\l'.take i'=xs.filter (λx => !q x)
 | 0,l,i,j,hj,hij,hll,ht,hd=>by
  have hj':j=xs.length:=by omega
  subst hj'
  have hc:decide ((xs.length:Int)<(l.length:Int))=false:=by simp [hll]
  refine⟨l,i,?_,hij,hll,by rw [ht,List.take_length]⟩
  simp only [iterN,xK,hc,cond_false,ob_]
 | m+1,l,i,j,hj,hij,hll,ht,hd=>by
  have hjx:j<xs.length:=by omega
  have hjl:j<l.length:=by omega
  have hil:i<l.length:=by omega
  have hc:decide ((j:Int)<(l.length:Int))=true:=by simp;omega
  have he:l[j]=xs[j]:=by
   have h1:(l.drop j)[0]? = (xs.drop j)[0]? := by rw [hd]
   rw [List.getElem?_drop,List.getElem?_drop,Nat.add_zero,List.getElem?_eq_getElem hjl,List.getElem?_eq_getElem hjx]at h1
   exact Option.some.inj h1
  have w1:w64 ((j:Int)+1)=((j+1:Nat):Int):=by rw [bW (by omega)];omega
  have w2:w64 ((i:Int)+1)=((i+1:Nat):Int):=by rw [bW (by omega)];omega
  have hfe:=hf _ (List.getElem_mem hjx)
  have hdrop:(l.drop j).drop 1=(xs.drop j).drop 1:=by rw [hd]
  rw [List.drop_drop,List.drop_drop]at hdrop
  cases hq:q xs[j]with
  | false =>
   have hst:xK f (l,(i:Int),(j:Int))=some (.go (l.set i xs[j],((i+1:Nat):Int),((j+1:Nat):Int))):=by
    simp only [xK,hc,cond_true,vv hjl,vv hil,ob_,Int.toNat_natCast,Nat.zero_add,List.getElem?_eq_getElem hjl,List.getElem?_eq_getElem hil,he,hfe,hq,Bool.not_false,w1,w2]
   rw [iterN,hst,ob_]
   refine Hm hf hl m (l.set i xs[j]) (i+1) (j+1) (by omega) (by omega) (by simpa using hll) ?_ ?_
   ·rw [List.take_succ_eq_append_getElem (by simpa using hil),List.take_set_of_le (Nat.le_refl _),ht,List.take_succ_eq_append_getElem hjx,List.filter_append]
    simp [hq]
   ·rw [List.drop_set_of_lt (by omega)];exact hdrop
  | true =>
   have hst:xK f (l,(i:Int),(j:Int))=some (.go (l,(i:Int),((j+1:Nat):Int))):=by
    simp only [xK,hc,cond_true,vv hjl,ob_,Int.toNat_natCast,Nat.zero_add,List.getElem?_eq_getElem hjl,he,hfe,hq,Bool.not_true,cond_false,w1]
   rw [iterN,hst,ob_]
   refine Hm hf hl m l i (j+1) (by omega) (by omega) hll ?_ hdrop
   rw [ht,List.take_succ_eq_append_getElem hjx,List.filter_append]
   simp [hq]
end Go.Eng

