/-
  THE PLAIN LAW (part 1).
-/
import Derived.Test.YtnjnggakgeommaaGreatEng5
import Derived.Test.YtnjnggakgeommaaGreatDefs
namespace Go.Eng
set_option linter.unusedVariables false
set_option linter.unusedSimpArgs false
theorem eX {α σ ρ:Type} {body:Nat->α->σ->Option (Ctl σ ρ)} {xs:List α} {s:σ} (hl:xs.length<=1000000000000):iY xs s body=dG body xs 0 s:=by unfold iY;rw [if_pos hl]
theorem Ho {α σ ρ:Type} {body:Nat->α->σ->Option (Ctl σ ρ)} (I:Nat->σ->Prop) (N:Nat):∀(xs:List α) (k:Nat) (s:σ),k+xs.length=N->(∀k x s,x∈xs->k<N->I k s->∃s',body k x s=some (.go s')/\I (k+1) s')->I k s->∃s',dG body xs k s=some (.go s')/\I N s'
 | [],k,s,hN,h,hi=>⟨s,rfl,by simp only [List.length_nil,Nat.add_zero]at hN;rw [<- hN];exact hi⟩
 | x::xs,k,s,hN,h,hi=>by
  simp only [List.length_cons]at hN
  obtain ⟨s1,h1,h2⟩:=h k x s (by simp) (by omega) hi
  obtain ⟨s2,h3,h4⟩:=Ho I N xs (k+1) s1 (by omega) (λk x s hx=>h k x s (by simp [hx])) h2
  exact⟨s2,by simp only [dG,h1,ob_];exact h3,h4⟩
theorem Co {α σ ρ:Type} {body:Nat->α->σ->Option (Ctl σ ρ)} (I:Nat->σ->Prop) {xs:List α} {s:σ} (hl:xs.length<=1000000000000) (h:∀k x s,x∈xs->k<xs.length->I k s->∃s',body k x s=some (.go s')/\I (k+1) s') (h0:I 0 s):∃s',iY xs s body=some (.go s')/\I xs.length s':=by
 obtain ⟨s',h1,h2⟩:=Ho I xs.length xs 0 s (by omega) h h0
 exact⟨s',by rw [eX hl];exact h1,h2⟩
theorem gQ {σ ρ τ:Type} (s:σ) (f:σ->Option τ) (g:ρ->Option τ):bD (.go s) f g=f s:=rfl
theorem En {σ ρ τ:Type} (r:ρ) (f:σ->Option τ) (g:ρ->Option τ):bD (.ret r) f g=g r:=rfl
theorem jK {α:Type} (xs:List α) (k:Nat):idx xs (k:Int)=xs[k]? := by simp [idx]
theorem aM {n:Int} (h : -9223372036854775808<=n/\n<=9223372036854775807):w64 n=n:=Da n h
theorem toL (s:ByteArray):s.toList=s.data.toList:=Go.Lib.toList_data s
theorem Bf {a b:ByteArray} (h:a.toList=b.toList):a=b:=by
 rw [toL,toL]at h
 obtain ⟨⟨a⟩⟩:=a
 obtain ⟨⟨b⟩⟩:=b
 simp only at h
 rw [h]
theorem JV (a b:ByteArray):sEq a b=true↔a=b:=by
 simp only [sEq,beq_iff_eq]
 exact⟨Bf,λh=>by rw [h]⟩
theorem Be (a b:ByteArray):sEq a b=decide (a=b):=by
 rw [Bool.eq_iff_iff,JV];simp
theorem E5 (a b:ByteArray):sNe a b = !decide (a=b):=by
 have:=Be a b;simp only [sEq,sNe]at *;rw [this]
abbrev bl:=Op.bytesLess
theorem bl_lt:∀(x y:List UInt8),bl x y=decide (x<y)
 | _,[]=>by simp [bl,Op.bytesLess]
 | [],_::_=>by simp [bl,Op.bytesLess]
 | a::x,b::y=>by
  have:=bl_lt x y
  simp only [bl,Op.bytesLess]at this ⊢
  rw [this,Bool.eq_iff_iff]
  simp only [Bool.or_eq_true,decide_eq_true_eq,Bool.and_eq_true,beq_iff_eq,List.cons_lt_cons_iff]
def lt (a b:ByteArray):Prop:=a.toList<b.toList
theorem uA (a b:ByteArray):sLt a b=true↔lt a b:=by
 show bl a.toList b.toList=true↔_
 rw [bl_lt];simp [lt]
theorem qW (a:ByteArray):¬lt a a:=List.lt_irrefl a.toList
theorem lt_trans {a b c:ByteArray} (h:lt a b) (k:lt b c):lt a c:=List.lt_trans h k
theorem EH (a b:ByteArray):lt a b\/a=b\/lt b a:=by
 rcases Classical.em (lt a b)with h|h
 ·exact .inl h
 ·rcases Classical.em (lt b a)with h2|h2
  ·exact .inr (.inr h2)
  ·exact .inr (.inl (Bf (List.le_antisymm (List.not_lt.1 h2) (List.not_lt.1 h))))
theorem Bo (a b:ByteArray):sLe a b=true↔¬lt b a:=by
 have h1:=uA a b
 have h2:=JV a b
 simp only [sLe,Bool.or_eq_true]
 constructor
 ·rintro (h|h)
  ·exact λk=>qW _ (lt_trans (h1.1 h) k)
  ·rw [h2.1 h];exact qW _
 ·intro h
  rcases EH a b with k|k|k
  ·exact .inl (h1.2 k)
  ·exact .inr (h2.2 k)
  ·exact absurd k h
theorem sLe_nil (a:ByteArray):sLe a ⟨#[]⟩=decide (a.size=0):=by
 rw [Bool.eq_iff_iff,Bo,lt,toL,toL,Go.Lib.size_eq]
 cases a.data.toList <;> simp
theorem sNe_nil (a:ByteArray):sNe a ⟨#[]⟩=decide (a.size≠0):=by
 rw [E5,Go.Lib.size_eq,Bool.eq_iff_iff]
 simp only [Bool.not_eq_true',decide_eq_false_iff_not,decide_eq_true_eq,ne_eq]
 refine not_congr ⟨λh=>by rw [h];rfl,λh => ?_⟩
 exact Bf (by rw [toL,List.eq_nil_of_length_eq_zero h,toL])
end Go.Eng

open Go Go.Eng
namespace Go.Proofs.YtnjnggakgeommaaGreat.Law
set_option linter.unusedVariables false
set_option linter.unusedSimpArgs false
theorem JL {α σ ρ:Type} {body:Nat->α->σ->Option (Ctl σ ρ)} (I:Nat->σ->Prop) (xs:List α):∀(l:List α) (k:Nat) (s:σ),xs.drop k=l->k<=xs.length->(∀k x s,xs[k]? = some x->I k s->∃s',body k x s=some (.go s')/\I (k+1) s')->I k s->∃s',dG body l k s=some (.go s')/\I xs.length s'
 | [],k,s,hd,hk,h,hi=>by
  have:=List.drop_eq_nil_iff.1 hd
  obtain rfl:k=xs.length:=by omega
  exact⟨s,rfl,hi⟩
 | x::l,k,s,hd,hk,h,hi=>by
  obtain ⟨s1,h1,h2⟩:=h k x s (vU hd) hi
  obtain ⟨s2,h3,h4⟩:=JL I xs l (k+1) s1 (aP hd) (by have:=Bl hd;omega) h h2
  exact⟨s2,by rw [dG,h1,ob_];exact h3,h4⟩
theorem rE {α σ ρ:Type} {body:Nat->α->σ->Option (Ctl σ ρ)} (I:Nat->σ->Prop) {xs:List α} {s:σ} (hl:xs.length<=1000000000000) (h:∀k x s,xs[k]? = some x->I k s->∃s',body k x s=some (.go s')/\I (k+1) s') (h0:I 0 s):∃s',iY xs s body=some (.go s')/\I xs.length s':=by
 rw [eX hl]
 exact JL I xs xs 0 s rfl (Nat.zero_le _) h h0
theorem sM {σ ρ : Type} {body : σ->Option (Ctl σ ρ)} (I : Nat->σ->Prop) (N : Nat) (hgo : ∀k s, k<N->I k s->∃s', body s=some (.go s')/\I (k+1) s') (hbrk : ∀s, I N s->body s=some (.brk s)) {s : σ} (h0 : I 0 s) : ∃s', gY s body=some (.go s')/\I N s':=by
  have key : ∀(n k : Nat) (s : σ), k+n=N->I k s->∃s', cO body (n+1) s=some (.go s')/\I N s':=by
    intro n
    induction n with
    | zero => intro k s hk hI
              have e : k=N:=by omega
              subst e
              exact ⟨s, by simp only [cO, hbrk s hI, ob_], hI⟩
    | succ n ih => intro k s hk hI
                   obtain ⟨s', e, hI'⟩:=hgo k s (by omega) hI
                   obtain ⟨r, er, hr⟩:=ih (k+1) s' (by omega) hI'
                   refine ⟨r, ?_, hr⟩
                   rw [cO, e, ob_];exact er
  obtain ⟨s', e, hI⟩:=key N 0 s (by omega) h0
  exact ⟨s', gU e, hI⟩
def dC (f : Int->ByteArray) (T : Int) : Int->List Slot_->Prop
  | F, []=>F=T
  | F, x::r=>x.Time.From=F/\F<x.Time.To/\x.Time.To<=T/\(∀t, F<=t->t<x.Time.To->f t=x.Entry)/\(∀y, r.head? = some y->y.Entry ≠ x.Entry)/\dC f T x.Time.To r
theorem dC.le {f : Int->ByteArray} {T : Int} : ∀{l : List Slot_} {F : Int}, dC f T F l->F<=T
  | [], F, h=>by unfold dC at h;omega
  | x::r, F, h=>by unfold dC at h;omega
theorem dC.uniq {f : Int->ByteArray} {T : Int} : ∀{a b : List Slot_} {F : Int}, dC f T F a->dC f T F b->a=b
  | [], [], _, _, _=>rfl
  | [], y::b, F, h, k=>by unfold dC at h k;omega
  | x::a, [], F, h, k=>by unfold dC at h k;omega
  | x::a, y::b, F, h, k=>by
    unfold dC at h k
    obtain ⟨h1, h2, h3, h4, h5, h6⟩:=h
    obtain ⟨k1, k2, k3, k4, k5, k6⟩:=k
    have he : x.Entry=y.Entry:=(h4 F (Int.le_refl _) h2).symm.trans (k4 F (Int.le_refl _) k2)
    have ht : x.Time.To=y.Time.To:=by
      rcases Int.lt_trichotomy x.Time.To y.Time.To with q|q|q
      · cases a with
        | nil=>unfold dC at h6;omega
        | cons z a =>
          unfold dC at h6
          have e1:=h6.2.2.2.1 x.Time.To (Int.le_refl _) h6.2.1
          have e2:=k4 x.Time.To (by omega) q
          exact absurd (e1.symm.trans (e2.trans he.symm)) (h5 z rfl)
      · exact q
      · cases b with
        | nil=>unfold dC at k6;omega
        | cons z b =>
          unfold dC at k6
          have e1:=k6.2.2.2.1 y.Time.To (Int.le_refl _) k6.2.1
          have e2:=h4 y.Time.To (by omega) q
          exact absurd (e1.symm.trans (e2.trans he)) (k5 z rfl)
    have hx : x=y:=by
      obtain ⟨⟨xf, xt⟩, xe⟩:=x
      obtain ⟨⟨yf, yt⟩, ye⟩:=y
      simp only at h1 k1 he ht
      rw [h1, k1, he, ht]
    rw [ht] at h6
    rw [hx, dC.uniq h6 k6]
def og (id : ByteArray) (F T : Int) : List Slot_->List Slot_
  | []=>[⟨⟨F, T⟩, id⟩]
  | [x]=>if x.Entry=id then [⟨⟨x.Time.From, T⟩, x.Entry⟩] else [x, ⟨⟨F, T⟩, id⟩]
  | x::y::r=>x::og id F T (y::r)
theorem Kj (id : ByteArray) (F T : Int) : ∀(y : Slot_) (r : List Slot_), ∃z, (og id F T (y::r)).head? = some z/\z.Entry=y.Entry
  | y, []=>by
    unfold og
    split
    · exact ⟨_, rfl, rfl⟩
    · exact ⟨_, rfl, rfl⟩
  | y, z::r=>⟨y, rfl, rfl⟩
theorem dC.add {f : Int->ByteArray} {id : ByteArray} {F T : Int} (hT : F<T) (hf : ∀t, F<=t->t<T->f t=id) : ∀(out : List Slot_) (F0 : Int), dC f F F0 out->dC f T F0 (og id F T out)
  | [], F0, h=>by
    unfold dC at h
    subst h
    unfold og dC
    exact ⟨rfl, hT, Int.le_refl _, hf, λy hy=>(by cases hy), (by unfold dC;rfl)⟩
  | [x], F0, h=>by
    unfold dC at h
    obtain ⟨h1, h2, h3, h4, h5, h6⟩:=h
    unfold dC at h6
    unfold og
    by_cases he : x.Entry=id
    · rw [if_pos he]
      unfold dC
      refine ⟨h1, (by show F0<T;omega), Int.le_refl _, λt t1 t2 => ?_, λy hy=>(by cases hy), (by unfold dC;rfl)⟩
      by_cases ht : t<F
      · exact h4 t t1 (by omega)
      · exact (hf t (by omega) t2).trans he.symm
    · rw [if_neg he]
      unfold dC
      refine ⟨h1, h2, by omega, h4, λy hy => ?_, ?_⟩
      · rw [<- Option.some.inj hy];exact λe=>he e.symm
      · unfold dC
        exact ⟨h6.symm, (by show x.Time.To<T;omega), Int.le_refl _, λt t1 t2=>hf t (by omega) t2, λy hy=>(by cases hy), (by unfold dC;rfl)⟩
  | x::y::r, F0, h=>by
    unfold dC at h
    obtain ⟨h1, h2, h3, h4, h5, h6⟩:=h
    have ih:=dC.add hT hf (y::r) _ h6
    unfold og
    unfold dC
    refine ⟨h1, h2, by omega, h4, λz hz => ?_, ih⟩
    obtain ⟨z', e1, e2⟩:=Kj id F T y r
    rw [e1] at hz
    rw [<- Option.some.inj hz, e2]
    exact h5 y rfl
theorem Cz (id : ByteArray) (F T : Int) : ∀(out : List Slot_) (n : Nat) (x : Slot_), out.length=n+1->out[n]? = some x->x.Entry=id->og id F T out=out.set n ⟨⟨x.Time.From, T⟩, x.Entry⟩
  | [], n, x, h, _, _=>by simp at h
  | [y], 0, x, _, hx, he=>by
    simp only [List.getElem?_cons_zero, so_] at hx
    subst hx
    unfold og
    rw [if_pos he];rfl
  | [y], n+1, x, h, _, _=>by simp at h
  | y::z::r, 0, x, h, _, _=>by simp at h
  | y::z::r, n+1, x, h, hx, he=>by
    unfold og
    rw [Cz id F T (z::r) n x (by simpa using h) (by simpa using hx) he];rfl
theorem Ck (id : ByteArray) (F T : Int) : ∀(out : List Slot_), (∀(n : Nat) (x : Slot_), out.length=n+1->out[n]? = some x->x.Entry ≠ id)->og id F T out=out++[⟨⟨F, T⟩, id⟩]
  | [], _=>rfl
  | [y], h=>by
    unfold og
    rw [if_neg (h 0 y rfl rfl)];rfl
  | y::z::r, h=>by
    unfold og
    rw [Ck id F T (z::r) (λn x h1 h2=>h (n+1) x (by simp only [List.length_cons] at *;omega) (by simpa using h2))];rfl
theorem yL (id : ByteArray) (F T : Int) : ∀(out : List Slot_), (og id F T out).length<=out.length+1
  | []=>by simp [og]
  | [y]=>by unfold og;split <;> simp
  | y::z::r=>by
    have:=yL id F T (z::r)
    unfold og
    simp only [List.length_cons] at *;omega
theorem Lh {E : List Int} (hE : E.Pairwise (· < ·)) {i : Nat} {a b : Int} (ha : E[i]? = some a) (hb : E[i+1]? = some b) {x : Int} (hx : x ∈ E) : x<=a\/b<=x:=by
  obtain ⟨j, hj, rfl⟩:=List.getElem_of_mem hx
  obtain ⟨h1, e1⟩:=List.getElem?_eq_some_iff.1 ha
  obtain ⟨h2, e2⟩:=List.getElem?_eq_some_iff.1 hb
  have hp:=List.pairwise_iff_getElem.1 hE
  by_cases hji : j<i
  · left;have:=hp j i hj h1 hji;omega
  · by_cases hji2 : j=i
    · subst hji2;left;omega
    · by_cases hj3 : j=i+1
      · subst hj3;right;omega
      · right;have:=hp (i+1) j h2 hj (by omega);omega
theorem D6 {E : List Int} (hE : E.Pairwise (· < ·)) {i : Nat} {a b : Int} (ha : E[i]? = some a) (hb : E[i+1]? = some b) : a<b:=by
  obtain ⟨h1, e1⟩:=List.getElem?_eq_some_iff.1 ha
  obtain ⟨h2, e2⟩:=List.getElem?_eq_some_iff.1 hb
  have:=List.pairwise_iff_getElem.1 hE i (i+1) h1 h2 (by omega)
  omega
theorem DX {E : List Int} (hE : E.Pairwise (· < ·)) {F T : Int} (hF : F ∈ E) (hT : T ∈ E) (hin : ∀x ∈ E, F<=x/\x<=T) : E[0]? = some F/\E[E.length-1]? = some T:=by
  have hp:=List.pairwise_iff_getElem.1 hE
  obtain ⟨i, hi, ei⟩:=List.getElem_of_mem hF
  obtain ⟨j, hj, ej⟩:=List.getElem_of_mem hT
  constructor
  · rw [List.getElem?_eq_getElem (by omega)]
    by_cases h0 : i=0
    · subst h0;rw [ei]
    · have h1:=hp 0 i (by omega) hi (by omega)
      have h2:=(hin E[0] (List.getElem_mem _)).1
      omega
  · rw [List.getElem?_eq_getElem (by omega)]
    by_cases h0 : j=E.length-1
    · subst h0;rw [ej]
    · have h1:=hp j (E.length-1) hj (by omega) (by omega)
      have h2:=(hin E[E.length-1] (List.getElem_mem _)).2
      omega
theorem KN {α : Type} {R : α->α->Prop} (has : ∀a b, R a b->¬R b a) {a b : List α} (h : a.Perm b) (ha : a.Pairwise R) (hb : b.Pairwise R) : a=b :=
  List.Perm.eq_of_pairwise (λx y _ _ h1 h2=>absurd h2 (has x y h1)) ha hb h
theorem Bw {σ ρ:Type} {body:σ->Option (Ctl σ ρ)} (I:σ->Prop) (m:σ->Nat) (P:Ctl σ ρ->Prop)
  (h:∀s,I s->(∃s',body s=some (.go s')/\I s'/\m s'<m s)\/(∃s',body s=some (.brk s')/\P (.go s'))\/(∃r,body s=some (.ret r)/\P (.ret r))) {s:σ} (h0:I s):∃o,gY s body=some o/\P o:=by
 have key:∀(n:Nat) (s:σ),m s<=n->I s->∃k o,cO body (k+1) s=some o/\P o:=by
  intro n
  induction n with
  | zero =>
   intro s hm hI
   rcases h s hI with⟨s',e,hI',hl⟩|⟨s',e,hp⟩|⟨r,e,hp⟩
   ·omega
   ·exact⟨0,_,by simp only [cO,e,ob_],hp⟩
   ·exact⟨0,_,by simp only [cO,e,ob_],hp⟩
  | succ n ih =>
   intro s hm hI
   rcases h s hI with⟨s',e,hI',hl⟩|⟨s',e,hp⟩|⟨r,e,hp⟩
   ·obtain ⟨k,r,er,hr⟩:=ih s' (by omega) hI'
    exact⟨k+1,r,by rw [cO,e,ob_];exact er,hr⟩
   ·exact⟨0,_,by simp only [cO,e,ob_],hp⟩
   ·exact⟨0,_,by simp only [cO,e,ob_],hp⟩
 obtain ⟨k,o,e,hp⟩:=key (m s) s (Nat.le_refl _) h0
 exact⟨o,gU e,hp⟩
theorem uf {α:Type}:∀l:List α,l=[]\/∃i x,l=i++[x]
 | [] => .inl rfl
 | a::l=>by
  rcases uf l with rfl|⟨i,x,rfl⟩
  ·exact .inr ⟨[],a,rfl⟩
  ·exact .inr ⟨a::i,x,rfl⟩
def AZ:ByteArray:=⟨#[1]⟩
def Kc:ByteArray:=⟨#[]⟩
theorem yB:Kc≠AZ:=by decide
def RW (tl:List Slot_):List Window:=(tl.filter λs=>decide (s.Entry=AZ)).map (·.Time)
theorem xZ (l m:List Slot_):RW (l++m)=RW l++RW m:=by unfold RW;rw [List.filter_append,List.map_append]
theorem Fa {s:Slot_} (h:s.Entry=AZ):RW [s]=[s.Time]:=by unfold RW;rw [List.filter_cons_of_pos (by simpa using h)];rfl
theorem Ia {s:Slot_} (h:s.Entry≠AZ):RW [s]=[]:=by unfold RW;rw [List.filter_cons_of_neg (by simpa using h)];rfl
theorem Lc (l:List Slot_):(RW l).length<=l.length:=by unfold RW;rw [List.length_map];exact List.length_filter_le _ _
theorem BP {f:Int->ByteArray} {T:Int} {x:Slot_}:∀(i:List Slot_) (F:Int),dC f T F (i++[x])->F<=x.Time.From/\x.Time.From<x.Time.To/\x.Time.To=T/\∀y∈i,y.Time.To<=x.Time.From
 | [],F,h=>by
  simp only [List.nil_append,dC]at h
  exact⟨by omega,by omega,h.2.2.2.2.2,λy hy=>by cases hy⟩
 | y::r,F,h=>by
  rw [List.cons_append]at h
  unfold dC at h
  obtain ⟨h1,h2,h3,h4,h5,h6⟩:=h
  obtain ⟨k1,k2,k3,k4⟩:=BP r _ h6
  refine⟨by omega,k2,k3,λz hz => ?_⟩
  rcases List.mem_cons.1 hz with rfl|hz
  ·exact k1
  ·exact k4 z hz
theorem DW (id:ByteArray) (c d:Int) (i:List Slot_) (x:Slot_):og id c d (i++[x])=if x.Entry=id then i++[⟨⟨x.Time.From,d⟩,x.Entry⟩]else i++[x]++[⟨⟨c,d⟩,id⟩]:=by
 have hg:(i++[x])[i.length]? = some x:=by simp
 by_cases h:x.Entry=id
 ·rw [if_pos h,Cz id c d (i++[x]) i.length x (by simp) hg h]
  simp
 ·rw [if_neg h,Ck id c d (i++[x]) (λn y h1 h2=>by
   have:n=i.length:=by simp at h1;omega
   subst this
   rw [hg,so_]at h2
   rw [<- h2];exact h)]
theorem RW_zero (c d:Int) (tl:List Slot_):RW (og Kc c d tl)=RW tl:=by
 rcases uf tl with rfl|⟨i,x,rfl⟩
 ·exact Ia yB
 ·rw [DW]
  split
  ·rename_i h
   rw [xZ,xZ,Ia (s:=x) (by rw [h];exact yB),Ia (by show x.Entry≠AZ;rw [h];exact yB)]
  ·rw [xZ,Ia (s:=⟨⟨c,d⟩,Kc⟩) yB,List.append_nil]
theorem RW_put {f:Int->ByteArray} {c F:Int} (d:Int) {tl:List Slot_} (hT:dC f c F tl) :
  (∃i e,RW tl=i++[e]/\e.To=c/\RW (og AZ c d tl)=i++[⟨e.From,d⟩])\/(RW tl=[]/\RW (og AZ c d tl)=[⟨c,d⟩])\/(∃i e,RW tl=i++[e]/\e.To≠c/\RW (og AZ c d tl)=i++[e]++[⟨c,d⟩]):=by
 rcases uf tl with rfl|⟨i,x,rfl⟩
 ·exact .inr (.inl ⟨rfl,Fa rfl⟩)
 ·obtain ⟨h1,h2,h3,h4⟩:=BP i F hT
  rw [DW]
  by_cases h:x.Entry=AZ
  ·rw [if_pos h]
   exact .inl ⟨RW i,x.Time,by rw [xZ,Fa h],h3,by rw [xZ,Fa (s:=⟨⟨x.Time.From,d⟩,x.Entry⟩) h]⟩
  ·rw [if_neg h]
   have e1:RW (i++[x])=RW i:=by rw [xZ,Ia h,List.append_nil]
   have e2:RW (i++[x]++[⟨⟨c,d⟩,AZ⟩])=RW i++[⟨c,d⟩]:=by rw [xZ,e1,Fa rfl]
   rw [e1,e2]
   rcases uf (RW i)with h0|⟨j,e,h0⟩
   ·exact .inr (.inl ⟨h0,by rw [h0];rfl⟩)
   ·refine .inr (.inr ⟨j,e,h0,?_,by rw [h0]⟩)
    have:e∈RW i:=by rw [h0];simp
    unfold RW at this
    obtain ⟨y,hy,rfl⟩:=List.mem_map.1 this
    have:=h4 y (List.mem_filter.1 hy).1
    omega
theorem Lu {i:List Window} {e:Window} (hl:(i++[e]).length<=1000000):w64 (((i++[e]).length:Int)-1)=(i.length:Int)/\decide ((i.length:Int)>=0)=true/\inR (i.length:Int) (i++[e])=some ()/\0+((i.length:Int)).toNat=i.length/\(i++[e])[i.length]? = some e/\∀z,(i++[e]).set i.length z=i++[z]:=by
 have hl2:i.length<=1000000:=by simp only [List.length_append]at hl;omega
 refine⟨?_,by simp,?_,by omega,by simp,λz=>by simp⟩
 ·have e:(((i++[e]).length:Nat):Int)-1=(i.length:Int):=by simp
  rw [e,aM (by omega)]
 ·unfold inR
  rw [if_pos ⟨by omega,by simp⟩]
theorem w_none:decide (w64 ((([]:List Window).length:Int)-1)>=0)=false:=by decide
open Go Go.Eng Go.Proofs
theorem jI {f:Int->ByteArray} {T:Int}:∀{l:List Slot_} {F:Int},dC f T F l->∀(k:Nat) (x:Slot_),l[k]? = some x ->
  (F<=x.Time.From/\x.Time.From<x.Time.To/\x.Time.To<=T/\∀t,x.Time.From<=t->t<x.Time.To->f t=x.Entry)/\(k=0->x.Time.From=F)/\(∀(j:Nat) (y:Slot_),k=j+1->l[j]? = some y->x.Time.From=y.Time.To/\x.Entry≠y.Entry)/\(k+1=l.length->x.Time.To=T)
 | [],F,h,k,x,hk=>by simp at hk
 | z::r,F,h,k,x,hk=>by
  unfold dC at h
  obtain ⟨h1,h2,h3,h4,h5,h6⟩:=h
  cases k with
  | zero =>
   rw [List.getElem?_cons_zero,so_]at hk
   subst hk
   refine⟨⟨by omega,by omega,h3,λt t1 t2=>h4 t (by omega) t2⟩,λ_=>h1,λj y hj=>by omega,λhl => ?_⟩
   have:r=[]:=List.eq_nil_of_length_eq_zero (by simpa using hl.symm)
   rw [this]at h6
   unfold dC at h6;exact h6
  | succ k =>
   rw [List.getElem?_cons_succ]at hk
   obtain ⟨⟨i1,i2,i3,i4⟩,i5,i6,i7⟩:=jI h6 k x hk
   refine⟨⟨by omega,i2,i3,i4⟩,λh0=>by omega,λj y hj hy => ?_,λhl=>i7 (by simpa using hl)⟩
   cases j with
   | zero =>
    rw [List.getElem?_cons_zero,so_]at hy
    subst hy
    obtain rfl:k=0:=by omega
    refine⟨i5 rfl,?_⟩
    cases r with
    | nil=>simp at hk
    | cons w r =>
     rw [List.getElem?_cons_zero,so_]at hk
     rw [<- hk];exact h5 w rfl
   | succ j =>
    rw [List.getElem?_cons_succ]at hy
    exact i6 j y (by omega) hy
def Ok (s:Stream) (b:Int):Prop:=0<=s.f_at/\s.f_at<=b
theorem Ok.mono {s:Stream} {b c:Int} (h:Ok s b) (hc:b<=c):Ok s c:=⟨h.1,Int.le_trans h.2 hc⟩
theorem CF (x n:Int) (h:1<=n) (hn:n<=4611686018427387904):∃r,qm x n=some r/\0<=r/\r<n:=by
 have h1:x.tmod n<n:=Int.tmod_lt_of_pos x (by omega)
 have h2 : -n<x.tmod n:=Int.lt_tmod_of_pos x (by omega)
 have hb:decide (n<1)=false:=by simp;omega
 have hn0:n≠0:=by omega
 simp only [qm,hb,cond_false,A9,if_neg hn0,ob_]
 cases hd:decide (x.tmod n<0)with
 | true =>
  simp only [decide_eq_true_eq]at hd
  exact⟨_,rfl,by rw [aM (by omega)];omega,by rw [aM (by omega)];omega⟩
 | false =>
  simp only [decide_eq_false_iff_not]at hd
  exact⟨_,rfl,by omega,h1⟩
theorem nO (s:Stream) (n:Int) {b:Int} (hs:Ok s b) (hb:b<=1000000) (h:1<=n) (hn:n<=4611686018427387904):∃r s',bW s n=some (r,s')/\0<=r/\r<n/\Ok s' (b+1):=by
 obtain ⟨h0,h1⟩:=hs
 have e1:w64 (s.f_at+1)=s.f_at+1:=aM (by omega)
 have e2:w64 (s.f_at+1-1)=s.f_at:=by rw [aM (by omega)];omega
 simp only [bW,e1,e2]
 by_cases hl:s.L.length=0
 ·have:((s.L.length:Int)==0)=true:=by simp [hl]
  simp only [this,cond_true]
  obtain ⟨r,hr,h2,h3⟩:=CF (w64 ((s.f_at+1)*7919)) n h hn
  exact⟨r,_,by rw [hr];rfl,h2,h3,⟨by show 0<=s.f_at+1;omega,by show s.f_at+1<=b+1;omega⟩⟩
 ·have hne:(s.L.length:Int)≠0:=by omega
  have:((s.L.length:Int)==0)=false:=by simpa using hl
  simp only [this,cond_false,A9,IJ,if_neg hne,ob_]
  have h2:0<=s.f_at.tmod s.L.length:=Int.tmod_nonneg _ h0
  have hp:(0:Int)<(s.L.length:Int):=by have:=Nat.pos_of_ne_zero hl;omega
  have h3:s.f_at.tmod s.L.length<s.L.length:=Int.tmod_lt_of_pos _ hp
  have hi:idx s.L (s.f_at.tmod s.L.length)=some s.L[(s.f_at.tmod s.L.length).toNat]:=by
   simp only [idx,if_pos h2]
   exact List.getElem?_eq_getElem (by omega)
  obtain ⟨r1,hr1,_,_⟩:=CF s.L[(s.f_at.tmod s.L.length).toNat] 1073741824 (by decide) (by decide)
  simp only [hi,hr1,ob_]
  generalize w64 (r1+_)=y
  obtain ⟨r,hr,h4,h5⟩:=CF y n h hn
  exact⟨r,_,by rw [hr];rfl,h4,h5,⟨by show 0<=s.f_at+1;omega,by show s.f_at+1<=b+1;omega⟩⟩
theorem qa (s:Stream) (n:Int) {b:Int} (hs:Ok s b) (hb:b<=1000000) (h:1<=n) (hn:n<=1000):∃r s',bU s n=some (r,s')/\Ok s' (b+1):=by
 obtain ⟨r,s',h1,_,_,h2⟩:=nO s n hs hb h (by omega)
 exact⟨r==0,s',by simp only [bU,h1,ob_],h2⟩
theorem yX {α:Type} {l:List α} {r:Int} (h0:0<=r) (h1:r<l.length):∃y,idx l r=some y/\y∈l:=by
 refine⟨l[r.toNat]'(by omega),?_,List.getElem_mem _⟩
 simp only [idx,if_pos h0]
 exact List.getElem?_eq_getElem (by omega)
theorem mR (s:Stream) (l:List Int) {b:Int} (hs:Ok s b) (hb:b<=1000000) (h:1<=l.length) (hn:l.length<=1000):∃r s',cK s l=some (r,s')/\r∈l/\Ok s' (b+1):=by
 obtain ⟨r,s',h1,h2,h3,h4⟩:=nO s l.length hs hb (by omega) (by omega)
 obtain ⟨y,hy,hm⟩:=yX h2 h3
 exact⟨y,s',by simp only [cK,h1,hy,ob_],hm,h4⟩
theorem wB (s:Stream) (l:List ByteArray) {b:Int} (hs:Ok s b) (hb:b<=1000000) (h:1<=l.length) (hn:l.length<=1000):∃r s',fD s l=some (r,s')/\r∈l/\Ok s' (b+1):=by
 obtain ⟨r,s',h1,h2,h3,h4⟩:=nO s l.length hs hb (by omega) (by omega)
 obtain ⟨y,hy,hm⟩:=yX h2 h3
 exact⟨y,s',by simp only [fD,h1,hy,ob_],hm,h4⟩
theorem CR (s:Stream) (lo hi:Int) {b:Int} (hs:Ok s b) (hb:b<=1000000) (h:lo<=hi) (h1 : -1000000000000<=lo) (h2:hi<=1000000000000):∃r s',ik s lo hi=some (r,s')/\lo<=r/\r<=hi/\Ok s' (b+1):=by
 have hd:decide (hi<lo)=false:=by simp;omega
 have e1:w64 (hi-lo)=hi-lo:=aM (by omega)
 have e2:w64 (hi-lo+1)=hi-lo+1:=aM (by omega)
 obtain ⟨r,s',k1,k2,k3,k4⟩:=nO s (hi-lo+1) hs hb (by omega) (by omega)
 simp only [ik,hd,cond_false,e1,e2,k1,ob_]
 exact⟨_,s',rfl,by rw [aM (by omega)];omega,by rw [aM (by omega)];omega,k4⟩
theorem rP (s:Stream) (lo hi:Int) {b:Int} (hs:Ok s b) (hb:b<=900000) (h:lo<=hi) (h1 : -1000000000000<=lo) (h2:hi<=1000000000000):∃r s',eD s lo hi=some (r,s')/\Ok s' (b+2):=by
 obtain ⟨c,s1,k1,k2⟩:=qa s 12 hs (by omega) (by decide) (by decide)
 simp only [eD,k1,ob_]
 cases c with
 | true =>
  obtain ⟨r,s2,m1,_,m2⟩:=mR s1 [(w64 (lo-1)),(w64 (hi+1)),lo,hi,(-1099511627776),1099511627776] k2 (by omega) (by simp) (by simp)
  simp only [cond_true,m1,ob_]
  exact⟨_,_,rfl,m2.mono (by omega)⟩
 | false =>
  obtain ⟨r,s2,m1,_,_,m2⟩:=CR s1 lo hi k2 (by omega) h h1 h2
  simp only [cond_false,m1,ob_]
  exact⟨_,_,rfl,m2.mono (by omega)⟩
def Dp (b:UInt8):Bool:=decide (97<=b.toNat)&&decide (b.toNat<=122)
def GV (b:UInt8):Bool:=(decide (48<=b.toNat)&&decide (b.toNat<=57))||(b.toNat==45)||(b.toNat==95)
def okB (i:Nat) (b:UInt8):Bool:=Dp b||(decide (0<i)&&GV b)
def iV (s:ByteArray) (i:Nat):UInt8:=s.data.toList.getD i 0
def nH (s:ByteArray):Bool:=decide (s.size≠0)&&(decide (s.size<=40)&&(List.range s.size).all λi=>okB i (iV s i))
theorem GQ (s:ByteArray) (k:Nat) (h:k<s.size):IR s (k:Int)=some (iV s k):=by
 have h1:s[k]? = some s[k]:=by simp [h]
 have h2:iV s k=s[k]:=by
  have hl:k<s.data.toList.length:=by rw [<- Go.Lib.size_eq];exact h
  simp only [iV,List.getD_eq_getElem?_getD,List.getElem?_eq_getElem hl,Option.getD_some]
  simp
  rfl
 simp only [IR,if_pos (Int.natCast_nonneg k),Int.toNat_natCast,h1,h2]
theorem GY (s:ByteArray) (k:Nat) (hs:s.size<=1000000000):kP s (k:Int)=some (if k<s.size then (bif okB k (iV s k)then .go ((k+1:Nat):Int)else .ret false)else .brk (k:Int)):=by
 unfold kP
 by_cases h:k<s.size
 ·have hd:decide ((k:Int)<(s.size:Int))=true:=by simp;omega
  have hw:w64 ((k:Int)+1)=((k+1:Nat):Int):=by rw [aM (by omega)];omega
  simp only [hd,cond_true,GQ s k h,ob_,if_pos h,hw]
  generalize iV s k=b
  simp only [okB,Dp,GV]
  have e1:decide ((b.toNat:Int)>=97)=decide (97<=b.toNat):=decide_eq_decide.2 (by omega)
  have e2:decide ((b.toNat:Int)<=122)=decide (b.toNat<=122):=decide_eq_decide.2 (by omega)
  have e3:decide ((k:Int)>0)=decide (0<k):=decide_eq_decide.2 (by omega)
  have e4:decide ((b.toNat:Int)>=48)=decide (48<=b.toNat):=decide_eq_decide.2 (by omega)
  have e5:decide ((b.toNat:Int)<=57)=decide (b.toNat<=57):=decide_eq_decide.2 (by omega)
  have e6:((b.toNat:Int)==45)=(b.toNat==45):=by rw [Bool.eq_iff_iff];simp;omega
  have e7:((b.toNat:Int)==95)=(b.toNat==95):=by rw [Bool.eq_iff_iff];simp;omega
  rw [e1,e2,e3,e4,e5,e6,e7]
  cases decide (97<=b.toNat) <;> cases decide (b.toNat<=122) <;> cases decide (0<k) <;> cases decide (48<=b.toNat) <;> cases decide (b.toNat<=57) <;> cases (b.toNat==45) <;> cases (b.toNat==95) <;> rfl
 ·have hd:decide ((k:Int)<(s.size:Int))=false:=by simp;omega
  simp only [hd,cond_false,if_neg h]
theorem BK (s:ByteArray) (hs:s.size<=1000000000):∀(n k:Nat),k+n=s.size->cO (λi=>kP s i) (n+1) (k:Int)=some (bif (List.range' k n).all (λj=>okB j (iV s j))then .go (s.size:Int)else .ret false)
 | 0,k,h=>by
  have hk:¬k<s.size:=by omega
  simp only [cO,GY s k hs,if_neg hk,ob_,List.range'_zero,List.all_nil,cond_true]
  rw [show (k:Int)=s.size by omega]
 | n+1,k,h=>by
  have hk:k<s.size:=by omega
  rw [cO,GY s k hs,if_pos hk,ob_,List.range'_succ,List.all_cons]
  cases okB k (iV s k)with
  | true=>simp only [cond_true,Bool.true_and];exact BK s hs n (k+1) (by omega)
  | false=>rfl
theorem vk (s:ByteArray) (hs:s.size<=1000000000):lW s=some (nH s):=by
 have h:=gU (BK s hs s.size 0 (by omega))
 unfold lW
 have h':gY (0:Int) (λs_1=>kP s s_1)=_:=h
 rw [h',ob_,<- List.range_eq_range']
 have e:decide ((s.size:Int)<=40)=decide (s.size<=40):=decide_eq_decide.2 (by omega)
 simp only [nH]
 cases (List.range s.size).all (λi=>okB i (iV s i))with
 | true =>
  rw [cond_true,gQ,sNe_nil,e,Bool.and_true]
  cases decide (s.size≠0) <;> rfl
 | false=>simp only [cond_false,En,Bool.and_false]
def tC (t:ByteArray) (b:UInt8):Bool := !decide (ixB t (b.toNat:Int)<0)
theorem only_L1 (s t:ByteArray) (k x:Nat) (h:k<s.size):nk s t k x ()=some (bif tC t (iV s k)then .go ()else .ret false):=by
 simp only [nk,GQ s k h,strings_IndexByte,fK,ob_,tC]
 cases decide (ixB t ((iV s k).toNat:Int)<0) <;> rfl
theorem He (s t:ByteArray):∀(xs:List Nat) (k:Nat),k+xs.length=s.size->dG (λk x u=>nk s t k x u) xs k ()=some (bif (List.range' k xs.length).all (λj=>tC t (iV s j))then .go ()else .ret false)
 | [],k,h=>rfl
 | x::xs,k,h=>by
  simp only [List.length_cons]at h ⊢
  have hk:k<s.size:=by omega
  rw [dG,only_L1 s t k x hk,ob_,List.range'_succ,List.all_cons]
  cases tC t (iV s k)with
  | true=>simp only [cond_true,Bool.true_and];exact He s t xs (k+1) (by omega)
  | false=>rfl
theorem JH (s t:ByteArray) (hs:s.size<=1000000000):tV s t=some ((List.range s.size).all λi=>tC t (iV s i)):=by
 unfold tV
 rw [Int.toNat_natCast,eX (by simp;omega),He s t _ 0 (by simp),ob_,List.length_range,<- List.range_eq_range']
 cases (List.range s.size).all (λi=>tC t (iV s i)) <;> rfl
def EG:ByteArray:=⟨#[97,98,99,100,101,102,103,104,105,106,107,108,109,110,111,112,113,114,115,116,117,118,119,120,121,122]⟩
def BG:ByteArray:=⟨#[97,98,99,100,101,102,103,104,105,106,107,108,109,110,111,112,113,114,115,116,117,118,119,120,121,122,48,49,50,51,52,53,54,55,56,57,45,95]⟩
theorem DT:∀n:Fin 256,tC EG (UInt8.ofNat n.val)=Dp (UInt8.ofNat n.val)/\tC BG (UInt8.ofNat n.val)=(Dp (UInt8.ofNat n.val)||GV (UInt8.ofNat n.val)):=by decide +kernel
theorem G5 (b:UInt8):tC EG b=Dp b:=by
 have:=(DT ⟨b.toNat,b.toNat_lt⟩).1
 simpa using this
theorem F4 (b:UInt8):tC BG b=(Dp b||GV b):=by
 have:=(DT ⟨b.toNat,b.toNat_lt⟩).2
 simpa using this
theorem tT (s:ByteArray) (hs:s.size<=1000000000):pX s=some (nH s):=by
 unfold pX kL
 have e1:decide ((1:Int)<=(s.size:Int))=decide (s.size≠0):=decide_eq_decide.2 (by omega)
 have e2:decide ((s.size:Int)<=40)=decide (s.size<=40):=decide_eq_decide.2 (by omega)
 rw [e1,e2]
 by_cases h1:s.size≠0
 ·by_cases h2:s.size<=40
  ·have hsub:Gy s 0 1=some (s.extract 0 1):=by
    unfold Gy;rw [if_pos ⟨by omega,by omega,by decide,by show 1<=s.size;omega⟩];rfl
   have hsz:(s.extract 0 1).size=1:=by simp [ByteArray.size_extract];omega
   have hb:iV (s.extract 0 1) 0=iV s 0:=by
    obtain ⟨⟨l⟩⟩:=s
    simp only [iV]
    cases l with
    | nil=>exact absurd rfl h1
    | cons b l=>simp [ByteArray.extract,ByteArray.copySlice]
   simp only [decide_eq_true h1,decide_eq_true h2,cond_true,ob_,hsub]
   have o1:=JH (s.extract 0 1) EG (by omega)
   have o2:=JH s BG hs
   unfold EG at o1
   unfold BG at o2
   rw [o1,ob_,o2]
   have e3:(List.range (s.extract 0 1).size).all (λi=>tC EG (iV (s.extract 0 1) i))=Dp (iV s 0):=by
    rw [hsz]
    simp only [List.range_succ,List.range_zero,List.nil_append,List.all_cons,List.all_nil,Bool.and_true]
    rw [hb,G5]
   have e3':=e3
   unfold EG at e3'
   rw [e3']
   have e4:∀i,tC BG (iV s i)=(Dp (iV s i)||GV (iV s i)):=λi=>F4 _
   have e5:nH s=(Dp (iV s 0)&&(List.range s.size).all (λi=>tC BG (iV s i))):=by
    simp only [nH,decide_eq_true h1,decide_eq_true h2,Bool.true_and,e4]
    rw [Bool.eq_iff_iff]
    simp only [List.all_eq_true,List.mem_range,Bool.and_eq_true,okB,Bool.or_eq_true,decide_eq_true_eq]
    constructor
    ·intro h
     refine⟨?_,λi hi=>(h i hi).imp id (λh=>h.2)⟩
     rcases h 0 (by omega)with h|h
     ·exact h
     ·exact absurd h.1 (by omega)
    ·rintro ⟨h3,h4⟩ i hi
     by_cases e:i=0
     ·rw [e];exact .inl h3
     ·exact (h4 i hi).imp id (λh=>⟨by omega,h⟩)
   unfold BG at e5
   rw [e5]
   cases Dp (iV s 0) <;> rfl
  ·simp only [decide_eq_true h1,decide_eq_false h2,cond_true,cond_false,ob_,nH,Bool.false_and,Bool.and_false]
 ·simp only [decide_eq_false h1,cond_false,ob_,nH,Bool.false_and]
theorem EW {s:ByteArray} (h:nH s=true):s.size≠0:=by
 simp only [nH,Bool.and_eq_true,decide_eq_true_eq]at h
 exact h.1
def nN (s:ByteArray):Prop:=s.size<=1000
def pq (x:Entry):Prop:=nN x.Key/\nN x.Item/\x.Except.length<=50/\x.Tags.length<=20/\∀t∈x.Tags,nN t
def EF (x:Player):Prop:=nN x.Key/\nN x.Screen/\x.Tags.length<=20/\∀t∈x.Tags,nN t
theorem eZ {s:ByteArray} (h:Nat.ble s.size 1000=true):nN s:=Nat.le_of_ble_eq_true h
theorem iL {α:Type} (xs ys:List α) (h:xs.length+ys.length<=1000000000):ll xs ys=some (xs++ys):=by unfold ll;rw [if_pos h]
theorem J3 {α:Type} {L:Nat->α->(List α×List Int×Int)->Option (Ctl (List α×List Int×Int) Unit)} {n:Int} (hn:1<=n) (hn2:n<=1000) (p:α->Prop)
  (hL:∀k x s,L k x s=(bU (⟨s.2.1,s.2.2⟩:Stream) n).bind λr=>(bif r.1 then (ll s.1 ([x]:List α)).bind λa=>some a else some s.1).bind λv=>some (.go (v,r.2.L,r.2.f_at)))
  {xs:List α} (hx:∀x∈xs,p x) (hl:xs.length<=10) (s:Stream) {b:Int} (hs:Ok s b) (hb:b<=900000) :
  ∃t s',iY xs (([]:List α),s.L,s.f_at) (λk x s=>L k x s)=some (.go (t,s'.L,s'.f_at))/\Ok s' (b+10)/\t.length<=10/\∀x∈t,p x:=by
 obtain ⟨s',h1,h2,h3,h4⟩:=Co (body:=λk x s=>L k x s) (λk s=>Ok ⟨s.2.1,s.2.2⟩ (b+k)/\s.1.length<=k/\∀x∈s.1,p x) (xs:=xs) (s:=(([]:List α),s.L,s.f_at)) (by omega) (λk x s hxm hk ⟨i1,i2,i3⟩=>by
   obtain ⟨c,s1,k1,k2⟩:=qa _ n i1 (by omega) hn hn2
   simp only [hL,k1,ob_]
   cases c with
   | true =>
    simp only [cond_true,iL s.1 [x] (by simp;omega),ob_]
    refine⟨_,rfl,k2.mono (by omega),by simp;omega,λy hy => ?_⟩
    rcases List.mem_append.1 hy with hy|hy
    ·exact i3 y hy
    ·rw [List.mem_singleton.1 hy];exact hx x hxm
   | false =>
    simp only [cond_false,ob_]
    exact⟨_,rfl,k2.mono (by omega),by show s.1.length<=_;omega,i3⟩) ⟨by simpa using hs,by simp,by simp⟩
 exact⟨s'.1,⟨s'.2.1,s'.2.2⟩,h1,h2.mono (by omega),by omega,h4⟩
theorem uz {α:Type} {xs:List α} {i:Nat} {a:α} (h:i<xs.length):(xs.set i a)[i]? = some a:=by simp [h]
theorem get_at {α:Type} {xs:List α} {i:Nat} (h:i<xs.length):xs[i]? = some xs[i]:=List.getElem?_eq_getElem h
theorem rz {α:Type} {p:α->Prop} {xs:List α} {i:Nat} {a:α} (h:∀x∈xs,p x) (ha:p a):∀x∈xs.set i a,p x:=λx hx=>by
 rcases List.mem_or_eq_of_mem_set hx with h1|h1
 ·exact h x h1
 ·rw [h1];exact ha
theorem uE {α:Type} {i:Int} {xs:List α} (h0:0<=i) (h1:i<xs.length):inR i xs=some ():=by unfold inR;rw [if_pos ⟨h0,by omega⟩]
theorem BX (s:Stream) {b:Int} (hs:Ok s b) (hb:b<=800000):∃p s',iB s=some (p,s')/\Ok s' (b+2)/\EF p:=by
 obtain ⟨z,s1,h1,_,h2⟩:=mR s [0,0,60,(-90),1440] hs (by omega) (by simp) (by simp)
 obtain ⟨j,s2,h3,h4,h5,h6⟩:=nO s1 3 h2 (by omega) (by decide) (by decide)
 obtain ⟨tg,n1,n2⟩:=yX (l:=[([]:List ByteArray),([(⟨#[99,105,116,121]⟩:ByteArray)]:List ByteArray),([(⟨#[99,105,116,121]⟩:ByteArray),(⟨#[109,97,108,108]⟩:ByteArray)]:List ByteArray)]) h4 (by simpa using h5)
 simp only [iB,h1,h3,n1,ob_]
 refine⟨_,_,rfl,h6.mono (by omega),eZ rfl,eZ rfl,?_⟩
 simp only [List.mem_cons,List.not_mem_nil,or_false]at n2
 rcases n2 with rfl|rfl|rfl
 ·exact⟨by simp,by simp⟩
 ·exact⟨by simp,by intro t ht;simp only [List.mem_cons,List.not_mem_nil,or_false]at ht;rw [ht];exact eZ rfl⟩
 ·exact⟨by simp,by intro t ht;simp only [List.mem_cons,List.not_mem_nil,or_false]at ht;rcases ht with rfl | rfl <;> exact eZ rfl⟩
theorem Km (s:Stream) {b:Int} (hs:Ok s b) (hb:b<=800000):∃p s',j6 s=some (p,s')/\Ok s' (b+20)/\EF p:=by
 obtain ⟨p,s1,h1,h2,h3⟩:=BX s hs hb
 obtain ⟨c,s2,h4,h5⟩:=qa s1 15 h2 (by omega) (by decide) (by decide)
 simp only [j6,h1,h4,ob_]
 cases c with
 | false=>exact⟨_,_,rfl,h5.mono (by omega),h3⟩
 | true =>
  obtain ⟨k1,s3,m1,m2,m3⟩:=wB s2 [(⟨#[112]⟩:ByteArray),(⟨#[]⟩:ByteArray)] h5 (by omega) (by simp) (by simp)
  obtain ⟨k2,s4,m4,m5,m6⟩:=wB s3 [(⟨#[115,97]⟩:ByteArray),(⟨#[65]⟩:ByteArray)] m3 (by omega) (by simp) (by simp)
  obtain ⟨z,s5,m7,m8⟩:=rP s4 (-1440) 1440 m6 (by omega) (by decide) (by decide) (by decide)
  obtain ⟨j,s6,m9,m10,m11,m12⟩:=nO s5 3 m8 (by omega) (by decide) (by decide)
  obtain ⟨tg,n1,n2⟩:=yX (l:=[([(⟨#[109,97,108,108]⟩:ByteArray),(⟨#[99,105,116,121]⟩:ByteArray)]:List ByteArray),([(⟨#[]⟩:ByteArray)]:List ByteArray),([]:List ByteArray)]) m10 (by simpa using m11)
  simp only [cond_true,m1,m4,m7,m9,n1,ob_]
  refine⟨_,_,rfl,m12.mono (by omega),?_,?_,?_⟩
  ·simp only [List.mem_cons,List.not_mem_nil,or_false]at m2
   rcases m2 with rfl|rfl <;> exact eZ rfl
  ·simp only [List.mem_cons,List.not_mem_nil,or_false]at m5
   rcases m5 with rfl|rfl <;> exact eZ rfl
  ·simp only [List.mem_cons,List.not_mem_nil,or_false]at n2
   rcases n2 with rfl|rfl|rfl
   ·exact⟨by simp,by intro t ht;simp only [List.mem_cons,List.not_mem_nil,or_false]at ht;rcases ht with rfl | rfl <;> exact eZ rfl⟩
   ·exact⟨by simp,by intro t ht;simp only [List.mem_cons,List.not_mem_nil,or_false]at ht;rw [ht];exact eZ rfl⟩
   ·exact⟨by simp,by simp⟩
theorem days_ok (s:Stream) {b:Int} (hs:Ok s b) (hb:b<=800000):∃w s',lF s=some (w,s')/\Ok s' (b+20):=by
 obtain ⟨a,s1,h1,_,h2⟩:=mR s [0,0,1,36000000,86400000] hs (by omega) (by simp) (by simp)
 obtain ⟨c,s2,h3,_,h4⟩:=mR s1 [1,42000000,86400000,259200000,777600000] h2 (by omega) (by simp) (by simp)
 simp only [lF,h1,h3,ob_]
 obtain ⟨v,s3,h5,h6⟩:∃(v:Bool) (s3:Stream),(bif decide (a>c)then (bU s2 3).bind λr_13=>some ((!r_13.1),r_13.2.L,r_13.2.f_at)else some (false,s2.L,s2.f_at))=some (v,s3.L,s3.f_at)/\Ok s3 (b+3):=by
  cases decide (a>c)with
  | true =>
   obtain ⟨f,s3,k1,k2⟩:=qa s2 3 h4 (by omega) (by decide) (by decide)
   exact⟨!f,s3,by simp only [cond_true,k1,ob_],k2.mono (by omega)⟩
  | false=>exact⟨false,s2,rfl,h4.mono (by omega)⟩
 simp only [h5,ob_]
 obtain ⟨u,hu⟩:∃u:Int,(bif v then some 0 else some a)=some u:=by cases v <;> exact⟨_,rfl⟩
 obtain ⟨f,s4,h7,h8⟩:=qa s3 25 h6 (by omega) (by decide) (by decide)
 have e3:(⟨s3.L,s3.f_at⟩:Stream)=s3:=rfl
 simp only [hu,e3,h7,ob_]
 cases f with
 | false=>exact⟨_,_,rfl,h8.mono (by omega)⟩
 | true =>
  obtain ⟨o,s5,m1,m2⟩:=rP s4 0 100 h8 (by omega) (by decide) (by decide) (by decide)
  obtain ⟨q,s6,m3,_,m4⟩:=mR s5 [345686400000,345686400001,34646400000,34560000000,(-1)] m2 (by omega) (by simp) (by simp)
  simp only [cond_true,m1,m3,ob_]
  exact⟨_,_,rfl,m4.mono (by omega)⟩
theorem AR (s:Stream) {b:Int} (hs:Ok s b) (hb:b<=800000):∃xs s',ib s=some (xs,s')/\Ok s' (b+200)/\xs.length<=4/\(∀x∈xs,pq x/\x.Except.length<=10):=by
 unfold ib
 obtain ⟨s',h1,h2,h3,h4⟩:=Co (body:=λk x s=>fT k x s) (λk s=>Ok ⟨s.2.1,s.2.2⟩ (b+40*k)/\s.1.length<=k/\∀x∈s.1,pq x/\x.Except.length<=10)
  (xs:=[(⟨#[101,97]⟩:ByteArray),(⟨#[101,98]⟩:ByteArray),(⟨#[101,99]⟩:ByteArray),(⟨#[101,100]⟩:ByteArray)]) (s:=(([]:List Entry),s.L,s.f_at)) (by simp) (λk x t hxm hk ⟨i1,i2,i3⟩=>by
   have hk5:k<4:=hk
   obtain ⟨c,s1,k1,k2⟩:=qa _ 4 i1 (by omega) (by decide) (by decide)
   simp only [fT,k1,ob_]
   cases c with
   | true=>exact⟨_,rfl,k2.mono (by omega),by show t.1.length<=_;omega,i3⟩
   | false =>
    obtain ⟨it,s2,a1,ai,a2⟩:=wB s1 [(⟨#[105,97]⟩:ByteArray),(⟨#[105,98]⟩:ByteArray),(⟨#[105,99]⟩:ByteArray)] k2 (by omega) (by simp) (by simp)
    obtain ⟨v,s3,a3,_,_,a4⟩:=CR s2 0 2 a2 (by omega) (by decide) (by decide) (by decide)
    obtain ⟨p1,s4,m1,_,n1⟩:=mR s3 [0,0,1,3] a4 (by omega) (by simp) (by simp)
    obtain ⟨p2,s5,m2,_,n2⟩:=mR s4 [1,1,2,3,7] n1 (by omega) (by simp) (by simp)
    obtain ⟨p3,s6,m3,_,n3⟩:=mR s5 [127,127,31,96,1,2] n2 (by omega) (by simp) (by simp)
    obtain ⟨p4,s7,m4,_,n4⟩:=mR s6 [0,0,60,600,1380] n3 (by omega) (by simp) (by simp)
    obtain ⟨p5,s8,m5,_,n5⟩:=mR s7 [0,60,120,600,720,1439] n4 (by omega) (by simp) (by simp)
    obtain ⟨p6,s9,m6,_,n6⟩:=mR s8 [0,0,1,5] n5 (by omega) (by simp) (by simp)
    obtain ⟨g,s10,m7,n7⟩:=qa s9 8 n6 (by omega) (by decide) (by decide)
    obtain ⟨p7,s11,m8,_,n8⟩:=mR s10 [0,1,5,10,30] n7 (by omega) (by simp) (by simp)
    obtain ⟨ex,s12,m9,n9,l9,_⟩:=J3 (L:=iA) (n:=4) (by decide) (by decide) (λ_=>True) (λ_ _ _=>rfl) (xs:=[1,2,8]) (λ_ _=>trivial) (by simp) s11 n8 (by omega)
    obtain ⟨tg,s13,m10,n10,l10,q10⟩:=J3 (L:=iw) (n:=4) (by decide) (by decide) nN (λ_ _ _=>rfl) (xs:=[(⟨#[99,105,116,121]⟩:ByteArray),(⟨#[109,97,108,108]⟩:ByteArray)])
     (by intro x hx;simp only [List.mem_cons,List.not_mem_nil,or_false]at hx;rcases hx with rfl | rfl <;> exact eZ rfl) (by simp) s12 n9 (by omega)
    simp only [cond_false,a1,a3,m1,m2,m3,m4,m5,m6,m7,m8,m9,m10,ob_,gQ,iL t.1 _ (show t.1.length+[_].length<=_ by simp;omega)]
    refine⟨_,rfl,n10.mono (by omega),by simp;omega,λy hy => ?_⟩
    rcases List.mem_append.1 hy with hy|hy
    ·exact i3 y hy
    ·rw [List.mem_singleton.1 hy]
     refine⟨⟨?_,?_,by show ex.length<=50;omega,by show tg.length<=20;omega,q10⟩,l9⟩
     ·simp only [List.mem_cons,List.not_mem_nil,or_false]at hxm
      rcases hxm with rfl|rfl|rfl|rfl <;> exact eZ rfl
     ·simp only [List.mem_cons,List.not_mem_nil,or_false]at ai
      rcases ai with rfl|rfl|rfl <;> exact eZ rfl) ⟨by simpa using hs,by simp,by simp⟩
 rw [h1]
 exact⟨s'.1,⟨s'.2.1,s'.2.2⟩,rfl,h2.mono (by simp),h3,h4⟩
theorem BI (s:Stream) {b:Int} (hs:Ok s b) (hb:b<=700000):∃xs s',iZ s=some (xs,s')/\Ok s' (b+300)/\xs.length<=4/\∀x∈xs,pq x:=by
 obtain ⟨xs,s1,h1,h2,h3,h4'⟩:=AR s hs (by omega)
 have h4:∀x∈xs,pq x:=λx hx=>(h4' x hx).1
 simp only [iZ,h1,ob_]
 obtain ⟨v,s2,h5,h6,h7⟩:∃(v:Bool) (s2:Stream),(bif decide ((xs.length:Int)>0)then (bU s1 10).bind λr_9=>some (r_9.1,r_9.2.L,r_9.2.f_at)else some (false,s1.L,s1.f_at))=some (v,s2.L,s2.f_at)/\Ok s2 (b+201)/\(v=true->0<xs.length):=by
  cases hd:decide ((xs.length:Int)>0)with
  | true =>
   obtain ⟨c,s2,k1,k2⟩:=qa s1 10 h2 (by omega) (by decide) (by decide)
   simp only [decide_eq_true_eq]at hd
   exact⟨c,s2,by simp only [cond_true,k1,ob_],k2.mono (by omega),λ_=>by omega⟩
  | false=>exact⟨false,s1,rfl,h2.mono (by omega),λh=>by cases h⟩
 simp only [h5,ob_]
 cases v with
 | false=>exact⟨xs,_,rfl,h6.mono (by omega),h3,h4⟩
 | true =>
  have hpos:=h7 rfl
  have e2:(⟨s2.L,s2.f_at⟩:Stream)=s2:=rfl
  obtain ⟨i,s3,k1,k2,k3,k4⟩:=nO s2 xs.length h6 (by omega) (by omega) (by omega)
  have hi:0+i.toNat<xs.length:=by omega
  have ho:=(h4 _ (List.getElem_mem hi))
  have ho':=(h4' _ (List.getElem_mem hi)).2
  obtain ⟨w,s4,m1,_,_,m2⟩:=nO s3 6 k4 (by omega) (by decide) (by decide)
  have hset:∀a,0+i.toNat<(xs.set (0+i.toNat) a).length:=λa=>by simpa using hi
  simp only [cond_true,e2,k1,ob_,uE k2 k3,m1]
  cases hw0:(w==0)with
  | true =>
   obtain ⟨key,s5,n1,n2,n3⟩:=wB s4 [xs[0+i.toNat].Key,(⟨#[]⟩:ByteArray),(⟨#[65]⟩:ByteArray),(⟨#[101,97]⟩:ByteArray)] m2 (by omega) (by simp) (by simp)
   obtain ⟨cl,s6,n4,n5,n6⟩:=wB s5 [(⟨#[105,97]⟩:ByteArray),(⟨#[]⟩:ByteArray),(⟨#[66]⟩:ByteArray)] n3 (by omega) (by simp) (by simp)
   simp only [cond_true,get_at hi,n1,n4,ob_,uz hi,List.set_set]
   refine⟨_,_,rfl,n6.mono (by omega),by simpa using h3,rz h4 ⟨?_,?_,ho.2.2⟩⟩
   ·simp only [List.mem_cons,List.not_mem_nil,or_false]at n2
    rcases n2 with rfl|rfl|rfl|rfl
    ·exact ho.1
    ·exact eZ rfl
    ·exact eZ rfl
    ·exact eZ rfl
   ·simp only [List.mem_cons,List.not_mem_nil,or_false]at n5
    rcases n5 with rfl|rfl|rfl <;> exact eZ rfl
  | false =>
  simp only [cond_false]
  cases hw1:(w==1)with
  | true =>
   obtain ⟨a,s5,n1,n2⟩:=rP s4 0 10 m2 (by omega) (by decide) (by decide) (by decide)
   obtain ⟨c,s6,n3,n4⟩:=rP s5 0 4000 n2 (by omega) (by decide) (by decide) (by decide)
   simp only [cond_true,get_at hi,n1,n3,ob_,uz hi,uz (hset _),List.set_set]
   exact⟨_,_,rfl,n4.mono (by omega),by simpa using h3,rz h4 ho⟩
  | false =>
  simp only [cond_false]
  cases hw2:(w==2)with
  | true =>
   obtain ⟨a,s5,n1,n2⟩:=rP s4 1 400 m2 (by omega) (by decide) (by decide) (by decide)
   obtain ⟨c,s6,n3,n4⟩:=rP s5 1 127 n2 (by omega) (by decide) (by decide) (by decide)
   simp only [cond_true,get_at hi,n1,n3,ob_,uz hi,uz (hset _),List.set_set]
   exact⟨_,_,rfl,n4.mono (by omega),by simpa using h3,rz h4 ho⟩
  | false =>
  simp only [cond_false]
  cases hw3:(w==3)with
  | true =>
   obtain ⟨a,s5,n1,n2⟩:=rP s4 0 4000 m2 (by omega) (by decide) (by decide) (by decide)
   generalize hx:xs[0+i.toNat]=e at *
   have a1:iQ e.Except=some e.Except:=by
    simp only [iQ,iL [] e.Except (show 0+e.Except.length<=_ by omega),List.nil_append,ob_]
   have a2:ll e.Except [a]=some (e.Except++[a]):=iL _ _ (show e.Except.length+1<=_ by omega)
   have a3:xs[0+i.toNat]? = some e:=by rw [get_at hi,hx]
   simp only [cond_true,a3,n1,a1,a2,ob_]
   exact⟨_,_,rfl,n2.mono (by omega),by simpa using h3,rz h4 ⟨ho.1,ho.2.1,by show (e.Except++[a]).length<=50;rw [List.length_append];show _+1<=50;omega,ho.2.2.2⟩⟩
  | false =>
  simp only [cond_false]
  cases hw4:(w==4)with
  | true =>
   obtain ⟨a,s5,n1,n2⟩:=rP s4 0 1439 m2 (by omega) (by decide) (by decide) (by decide)
   obtain ⟨c,s6,n3,n4⟩:=rP s5 0 1439 n2 (by omega) (by decide) (by decide) (by decide)
   simp only [cond_true,get_at hi,n1,n3,ob_,uz hi,uz (hset _),List.set_set]
   exact⟨_,_,rfl,n4.mono (by omega),by simpa using h3,rz h4 ho⟩
  | false =>
   obtain ⟨j,s5,n1,n2,n3,n4⟩:=nO s4 3 m2 (by omega) (by decide) (by decide)
   obtain ⟨tg,n5,n6⟩:=yX (l:=[([(⟨#[109,97,108,108]⟩:ByteArray),(⟨#[99,105,116,121]⟩:ByteArray)]:List ByteArray),([(⟨#[]⟩:ByteArray)]:List ByteArray),([(⟨#[97]⟩:ByteArray),(⟨#[97]⟩:ByteArray)]:List ByteArray)]) n2 (by simpa using n3)
   obtain ⟨a,s6,n7,n8⟩:=rP s5 0 9 n4 (by omega) (by decide) (by decide) (by decide)
   simp only [cond_false,get_at hi,n1,n5,n7,ob_,uz hi,uz (hset _),List.set_set]
   refine⟨_,_,rfl,n8.mono (by omega),by simpa using h3,rz h4 ⟨ho.1,ho.2.1,ho.2.2.1,?_⟩⟩
   simp only [List.mem_cons,List.not_mem_nil,or_false]at n6
   rcases n6 with rfl|rfl|rfl
   ·exact⟨by simp,by intro t ht;simp only [List.mem_cons,List.not_mem_nil,or_false]at ht;rcases ht with rfl | rfl <;> exact eZ rfl⟩
   ·exact⟨by simp,by intro t ht;simp only [List.mem_cons,List.not_mem_nil,or_false]at ht;rw [ht];exact eZ rfl⟩
   ·exact⟨by simp,by intro t ht;simp only [List.mem_cons,List.not_mem_nil,or_false,or_self]at ht;rw [ht];exact eZ rfl⟩
def FO:ByteArray:=⟨#[]⟩
def vO {α:Type} (key:α->ByteArray) (l:List α) (k:Nat):ByteArray:=if k=0 then FO else match l[k-1]? with | some y=>key y | none=>FO
def chk {α:Type} (key:α->ByteArray) (stp:ByteArray->α->Int):ByteArray->List α->Int
 | _,[]=>0
 | last,x::xs=>bif stp last x==0 then chk key stp (key x) xs else stp last x
def zV (e:Int):Ctl Unit Int:=bif e==0 then .go ()else .ret e
theorem yF {α:Type} {key:α->ByteArray} {stp:ByteArray->α->Int} {body:Nat->α->Unit->Option (Ctl Unit Int)} (l:List α):∀(xs:List α) (k:Nat),l.drop k=xs->(∀k x,l[k]? = some x->body k x ()=some (zV (stp (vO key l k) x))) ->
  dG body xs k ()=some (zV (chk key stp (vO key l k) xs))
 | [],k,h,hb=>rfl
 | x::xs,k,h,hb=>by
  have hg:=vU h
  rw [dG,hb k x hg,ob_,chk]
  cases he:stp (vO key l k) x==0 with
  | true =>
   simp only [zV,he,cond_true]
   rw [yF l xs (k+1) (aP h) hb]
   have:vO key l (k+1)=key x:=by simp [vO,hg]
   rw [this];rfl
  | false=>simp only [zV,he,cond_false]
theorem Gb {α:Type} {key:α->ByteArray} {stp:ByteArray->α->Int} {body:Nat->α->ByteArray->Option (Ctl ByteArray Int)}:∀(xs:List α) (k:Nat) (last:ByteArray),(∀k x last,x∈xs->body k x last=some (bif stp last x==0 then .go (key x)else .ret (stp last x))) ->
  ∃o,dG body xs k last=some o/\bD o (λ_=>some (0:Int)) (λr=>some r)=some (chk key stp last xs)
 | [],k,last,hb=>⟨_,rfl,rfl⟩
 | x::xs,k,last,hb=>by
  rw [dG,hb k x last (by simp),ob_,chk]
  cases he:stp last x==0 with
  | true=>exact Gb xs (k+1) (key x) (λk y last hy=>hb k y last (by simp [hy]))
  | false=>exact⟨_,rfl,rfl⟩
theorem wM (e:Int):bD (zV e) (λ_=>some (0:Int)) (λr=>some r)=some e:=by
 unfold zV
 cases h:e==0 with
 | true=>simp only [cond_true,gQ];rw [eq_of_beq h]
 | false=>rfl
def vR (last x:ByteArray):Int:=bif !nH x then 5 else bif sLe x last then 7 else 0
def tagsF (l:List ByteArray):Int:=bif decide (l.length>20)then 2 else chk id vR FO l
theorem Ig {α:Type} {l:List α} {k:Nat} {x:α} (h:l[k]? = some x) (hk:0<k) (hl:l.length<=1000000000):∃y,idx l (w64 ((k:Int)-1))=some y/\l[k-1]? = some y:=by
 have hlt:k<l.length:=(List.getElem?_eq_some_iff.1 h).1
 rw [aM (by omega),show (k:Int)-1=((k-1:Nat):Int) by omega,jK]
 exact⟨l[k-1],List.getElem?_eq_getElem (by omega),List.getElem?_eq_getElem (by omega)⟩
theorem zz {α:Type} {key:α->ByteArray} {l:List α} {k:Nat} {x:α} {s:ByteArray} (h:l[k]? = some x) (hl:l.length<=1000000000) (hs:s.size≠0) :
  (bif decide ((k:Int)>0)then (idx l (w64 ((k:Int)-1))).bind λy=>some (sLe s (key y))else some false)=some (sLe s (vO key l k)):=by
 by_cases hk:0<k
 ·obtain ⟨y,h1,h2⟩:=Ig h hk hl
  have hd:decide ((k:Int)>0)=true:=by simp;omega
  simp only [hd,cond_true,h1,ob_,vO,if_neg (show ¬k=0 by omega),h2]
 ·have hk0:k=0:=by omega
  subst hk0
  simp only [vO,if_pos,FO,sLe_nil,decide_eq_false hs]
  rfl
theorem tagsK (l:List ByteArray) (hs:∀t∈l,nN t) (hl:l.length<=1000000000):iH l=some (tagsF l):=by
 unfold iH tagsF
 have e:decide ((l.length:Int)>20)=decide (l.length>20):=decide_eq_decide.2 (by omega)
 rw [e]
 cases decide (l.length>20)with
 | true=>rfl
 | false =>
  simp only [cond_false]
  unfold mP
  rw [eX (by omega),yF (key:=id) (stp:=vR) l l 0 rfl (λk x hx => ?_)]
  ·simp only [ob_,wM];rfl
  ·have hxs:nN x:=hs x (List.mem_of_getElem? hx)
   simp only [kK,vk x (by unfold nN at hxs;omega),ob_,vR]
   cases hk:nH x with
   | false=>rfl
   | true =>
    simp only [Bool.not_true,cond_false]
    have:=zz (key:=id) hx hl (EW hk)
    simp only [id]at this
    rw [this,ob_]
    cases sLe x (vO id l k) <;> rfl
theorem tagsR (l:List ByteArray) (hs:∀t∈l,nN t) (hl:l.length<=1000000000):lc l=some (tagsF l):=by
 unfold lc tagsF
 have e:decide ((l.length:Int)>20)=decide (l.length>20):=decide_eq_decide.2 (by omega)
 rw [e]
 cases decide (l.length>20)with
 | true=>rfl
 | false =>
  simp only [cond_false]
  unfold mV
  rw [eX (by omega),yF (key:=id) (stp:=vR) l l 0 rfl (λk x hx => ?_)]
  ·simp only [ob_,wM];rfl
  ·have hxs:nN x:=hs x (List.mem_of_getElem? hx)
   simp only [kN,tT x (by unfold nN at hxs;omega),ob_,vR]
   cases hk:nH x with
   | false=>rfl
   | true =>
    simp only [Bool.not_true,cond_false]
    have:=zz (key:=id) hx hl (EW hk)
    simp only [id]at this
    rw [this,ob_]
    cases sLe x (vO id l k) <;> rfl
def Hr {α:Type} (stp:Option α->α->Int):Option α->List α->Int
 | _,[]=>0
 | p,x::xs=>bif stp p x==0 then Hr stp (some x) xs else stp p x
def yz {α:Type} (l:List α) (k:Nat):Option α:=if k=0 then none else l[k-1]?
theorem zH {α:Type} {stp:Option α->α->Int} {body:Nat->α->Unit->Option (Ctl Unit Int)} (l:List α):∀(xs:List α) (k:Nat),l.drop k=xs->(∀k x,l[k]? = some x->body k x ()=some (zV (stp (yz l k) x))) ->
  dG body xs k ()=some (zV (Hr stp (yz l k) xs))
 | [],k,h,hb=>rfl
 | x::xs,k,h,hb=>by
  have hg:=vU h
  rw [dG,hb k x hg,ob_,Hr]
  cases he:stp (yz l k) x==0 with
  | true =>
   simp only [zV,he,cond_true]
   rw [zH l xs (k+1) (aP h) hb]
   have:yz l (k+1)=some x:=by simp [yz,hg]
   rw [this];rfl
  | false=>simp only [zV,he,cond_false]
def iW (n lo hi:Int):Bool:=decide (n<lo)||decide (n>hi)
theorem qO (n lo hi:Int):fJ n lo hi=some (iW n lo hi):=by
 unfold fJ iW
 cases decide (n<lo) <;> cases decide (n>hi) <;> rfl
theorem Ie (n lo hi:Int):kL n lo hi=some (!iW n lo hi):=by
 unfold kL iW
 have e1:decide (lo<=n) = !decide (n<lo):=by rw [Bool.eq_iff_iff];simp
 have e2:decide (n<=hi) = !decide (n>hi):=by rw [Bool.eq_iff_iff];simp
 rw [e1,e2]
 cases decide (n<lo) <;> cases decide (n>hi) <;> rfl
def leP (p:Option Int) (x:Int):Bool:=match p with
 | none=>false
 | some y=>decide (x<=y)
def xm (p:Option Int) (x:Int):Int:=bif iW x 0 4000 then 1 else bif leP p x then 7 else 0
def exF (l:List Int):Int:=bif decide (l.length>100)then 2 else Hr xm none l
theorem BZ {l:List Int} {k:Nat} {x:Int} (h:l[k]? = some x) (hl:l.length<=1000000000) :
  (bif decide ((k:Int)>0)then (idx l (w64 ((k:Int)-1))).bind λy=>some (decide (x<=y))else some false)=some (leP (yz l k) x):=by
 by_cases hk:0<k
 ·obtain ⟨y,h1,h2⟩:=Ig h hk hl
  have hd:decide ((k:Int)>0)=true:=by simp;omega
  simp only [hd,cond_true,h1,ob_,yz,if_neg (show ¬k=0 by omega),h2,leP]
 ·have hk0:k=0:=by omega
  subst hk0
  rfl
theorem Mh (n:Int):sG n=some (!iW n 0 4000):=by
 unfold sG iW
 have e1:decide (n>=0) = !decide (n<0):=by rw [Bool.eq_iff_iff];simp
 have e2:decide (n<=4000) = !decide (n>4000):=by rw [Bool.eq_iff_iff];simp
 rw [e1,e2]
 cases decide (n<0) <;> cases decide (n>4000) <;> rfl
theorem exK (l:List Int) (hl:l.length<=1000000000):iT l=some (exF l):=by
 unfold iT exF
 have e:decide ((l.length:Int)>100)=decide (l.length>100):=decide_eq_decide.2 (by omega)
 rw [e]
 cases decide (l.length>100)with
 | true=>rfl
 | false =>
  simp only [cond_false]
  rw [eX (by omega),zH (stp:=xm) l l 0 rfl (λk x hx => ?_)]
  ·simp only [ob_,wM];rfl
  ·simp only [ja,Mh,ob_,xm]
   cases iW x 0 4000 with
   | true=>rfl
   | false =>
    simp only [Bool.not_false,Bool.not_true,cond_false]
    rw [BZ hx hl,ob_]
    cases leP (yz l k) x <;> rfl
def nI (e:Entry):Int :=
 bif !nH e.Key || !nH e.Item then 5 else
 bif iW e.Version 0 1000000||(iW e.First 0 e.Last||(decide (e.Last>4000)||(iW e.Every 1 400||iW e.Days 1 127)))then 1 else
 bif exF e.Except==0 then (bif iW e.From 0 1439||(iW e.To 0 1439||iW e.Prio 0 9)then 1 else tagsF e.Tags)else exF e.Except
theorem entK (e:Entry) (h:pq e):jk e=some (nI e):=by
 obtain ⟨h1,h2,h3,h4,h5⟩:=h
 unfold nN at h1 h2
 unfold jk nI
 simp only [vk e.Key (by omega),vk e.Item (by omega),qO,exK e.Except (by omega),tagsK e.Tags h5 (by omega),ob_]
 cases nH e.Key with
 | false=>rfl
 | true =>
 cases nH e.Item with
 | false=>rfl
 | true =>
 simp only [Bool.not_true,cond_false,ob_,Bool.or_self,Bool.false_or]
 cases iW e.Version 0 1000000 with
 | true=>rfl
 | false =>
 cases iW e.First 0 e.Last with
 | true=>rfl
 | false =>
 cases decide (e.Last>4000)with
 | true=>rfl
 | false =>
 cases iW e.Every 1 400 with
 | true=>rfl
 | false =>
 cases iW e.Days 1 127 with
 | true=>rfl
 | false =>
 simp only [cond_false,ob_,Bool.or_self]
 cases hx:exF e.Except==0 with
 | false =>
  have:(exF e.Except != 0)=true:=by simp [bne,hx]
  simp only [this,cond_true,cond_false]
 | true =>
  have:(exF e.Except != 0)=false:=by simp [bne,hx]
  simp only [this,cond_true,cond_false]
  cases iW e.From 0 1439 with
  | true=>rfl
  | false =>
  cases iW e.To 0 1439 with
  | true=>rfl
  | false =>
  cases iW e.Prio 0 9 with
  | true=>rfl
  | false=>rfl
theorem entR (e:Entry) (h:pq e):lI e=some (nI e):=by
 obtain ⟨h1,h2,h3,h4,h5⟩:=h
 unfold nN at h1 h2
 unfold lI nI
 simp only [tT e.Key (by omega),tT e.Item (by omega),Ie,tagsR e.Tags h5 (by omega),ob_,Bool.not_not]
 cases nH e.Key with
 | false=>rfl
 | true =>
 cases nH e.Item with
 | false=>rfl
 | true =>
 simp only [Bool.not_true,cond_false,ob_,Bool.or_self,Bool.false_or]
 cases iW e.Version 0 1000000 with
 | true=>rfl
 | false =>
 cases iW e.First 0 e.Last with
 | true=>rfl
 | false =>
 cases decide (e.Last>4000)with
 | true=>rfl
 | false =>
 cases iW e.Every 1 400 with
 | true=>rfl
 | false =>
 cases iW e.Days 1 127 with
 | true=>rfl
 | false =>
 simp only [cond_false,ob_,Bool.or_self]
 have el:decide ((e.Except.length:Int)>100)=decide (e.Except.length>100):=decide_eq_decide.2 (by omega)
 rw [el]
 unfold exF
 cases decide (e.Except.length>100)with
 | true=>rfl
 | false =>
 simp only [cond_false]
 rw [eX (by omega),zH (stp:=xm) e.Except e.Except 0 rfl (λk x hx => ?_)]
 ·simp only [ob_]
  show bD (zV (Hr xm none e.Except)) _ _=_
  unfold zV
  cases hx:Hr xm none e.Except==0 with
  | false=>rfl
  | true =>
   simp only [cond_true,gQ]
   cases iW e.From 0 1439 with
   | true=>rfl
   | false =>
   cases iW e.To 0 1439 with
   | true=>rfl
   | false =>
   cases iW e.Prio 0 9 with
   | true=>rfl
   | false=>rfl
 ·simp only [lw,Ie,ob_,xm]
  cases iW x 0 4000 with
  | true=>rfl
  | false =>
   simp only [Bool.not_false,Bool.not_true,cond_false]
   rw [BZ hx (by omega),ob_]
   cases leP (yz e.Except k) x <;> rfl
theorem Gx {e:Entry} (h:nI e=0):e.Key.size≠0:=by
 unfold nI at h
 cases hk:nH e.Key with
 | false=>rw [hk]at h;cases h
 | true=>exact EW hk
theorem oneK (e:Entry) (h:pq e):bG [e]=some (nI e):=by
 unfold bG
 have:decide ((([e]:List Entry).length:Int)>200)=false:=rfl
 rw [this,cond_false,eX (by simp)]
 simp only [dG,gp,entK e h,ob_]
 cases hx:nI e==0 with
 | false =>
  have:(nI e != 0)=true:=by simp [bne,hx]
  simp only [this,cond_true,ob_,En]
 | true =>
  have:(nI e != 0)=false:=by simp [bne,hx]
  rw [eq_of_beq hx]
  rfl
def qC (p:Player):Int:=bif !nH p.Key || !nH p.Screen then 5 else bif iW p.Zone (-1440) 1440 then 1 else tagsF p.Tags
theorem playK (p:Player) (h:EF p):iU p=some (qC p):=by
 obtain ⟨h1,h2,h4,h5⟩:=h
 unfold nN at h1 h2
 unfold iU qC
 simp only [vk p.Key (by omega),vk p.Screen (by omega),qO,tagsK p.Tags h5 (by omega),ob_]
 cases nH p.Key with
 | false=>rfl
 | true =>
 cases nH p.Screen with
 | false=>rfl
 | true=>cases iW p.Zone (-1440) 1440 <;> rfl
theorem playR (p:Player) (h:EF p):kR p=some (qC p):=by
 obtain ⟨h1,h2,h4,h5⟩:=h
 unfold nN at h1 h2
 unfold kR qC
 simp only [tT p.Key (by omega),tT p.Screen (by omega),Ie,tagsR p.Tags h5 (by omega),ob_]
 cases nH p.Key with
 | false=>rfl
 | true =>
 cases nH p.Screen with
 | false=>rfl
 | true=>cases iW p.Zone (-1440) 1440 <;> rfl
def mM (w:Window):Int:=bif iW w.From 0 w.To||decide (w.To>345686400000)then 1 else bif decide (w64 (w.To-w.From)>34560000000)then 2 else 0
theorem winK (w:Window):eO w=some (mM w):=by
 unfold eO mM
 simp only [qO,ob_]
 cases iW w.From 0 w.To with
 | true=>rfl
 | false =>
 cases decide (w.To>345686400000)with
 | true=>rfl
 | false=>cases decide (w64 (w.To-w.From)>34560000000) <;> rfl
theorem winR (w:Window):lg w=some (mM w):=by
 unfold lg mO mM
 simp only [Ie,ob_]
 cases iW w.From 0 w.To with
 | true=>rfl
 | false =>
 cases decide (w.To>345686400000)with
 | true=>rfl
 | false=>cases decide (w64 (w.To-w.From)>34560000000) <;> rfl
def or0 (a b:Int):Int:=bif a==0 then b else a
theorem errs2 (a b:Int):oZ [a,b]=some (or0 a b):=by
 unfold oZ or0
 rw [eX (by simp)]
 simp only [dG,nD]
 cases ha:a==0 with
 | false =>
  have:(a != 0)=true:=by simp [bne,ha]
  simp only [this,cond_true,cond_false,ob_,bD]
 | true =>
  have:(a != 0)=false:=by simp [bne,ha]
  simp only [this,cond_true,cond_false,ob_]
  cases hb:b==0 with
  | false =>
   have:(b != 0)=true:=by simp [bne,hb]
   simp only [this,cond_true,ob_,bD]
  | true =>
   have:(b != 0)=false:=by simp [bne,hb]
   simp only [this,cond_false,ob_,bD]
   rw [eq_of_beq hb]
def memB (v:ByteArray) (l:List ByteArray):Bool:=l.any λx=>decide (v=x)
theorem vE {v:ByteArray} {l:List ByteArray}:memB v l=true↔v∈l:=by simp [memB]
theorem CQ {v:ByteArray} {l:List ByteArray} (h:v∉l):memB v l=false:=by
 cases hb:memB v l with
 | false=>rfl
 | true=>exact absurd (vE.1 hb) h
theorem si (l:List ByteArray) (v:ByteArray):∀(xs:List ByteArray) (k:Nat),∃o,dG (λk x s=>dF v k x s) xs k ()=some o/\∃r:Int,bD o (λ_=>some (-1)) (λr=>some r)=some r/\decide (r>=0)=memB v xs
 | [],k=>⟨.go (),rfl,-1,rfl,by simp [memB]⟩
 | x::xs,k=>by
  have hst:dF v k x ()=some (bif decide (v=x)then .ret (k:Int)else .go ()):=by
   simp only [dF,Be];cases decide (v=x) <;> rfl
  rw [dG,hst,ob_]
  by_cases h:v=x
  ·simp only [decide_eq_true h,cond_true]
   exact⟨_,rfl,_,rfl,by simp [memB,h]⟩
  ·simp only [decide_eq_false h,cond_false]
   obtain ⟨o,h1,r,h2,h3⟩:=si l v xs (k+1)
   exact⟨o,h1,r,h2,by rw [h3];simp [memB,h]⟩
theorem contains_eq (l:List ByteArray) (v:ByteArray) (hl:l.length<=1000000):eQ l v=some (memB v l):=by
 obtain ⟨o,h1,r,h2,h3⟩:=si l v l 0
 unfold eQ gP
 rw [eX (by omega),h1,ob_,h2,ob_,h3]
theorem Fh (l:List ByteArray) (f:ByteArray->Option Bool) (p:ByteArray->Bool) (hf:∀x∈l,f x=some (p x)) (hl:l.length<=1000000):dJ l f=some (l.any p):=by
 have run:∀(xs:List ByteArray) (k:Nat),(∀x∈xs,f x=some (p x))->∃o,dG (λk x s=>bS f k x s) xs k ()=some o/\∃r:Int,bD o (λ_=>some (-1)) (λr=>some r)=some r/\decide (r>=0)=xs.any p:=by
  intro xs
  induction xs with
  | nil=>exact λk _=>⟨.go (),rfl,-1,rfl,by simp⟩
  | cons x xs ih =>
   intro k hf
   have hst:bS f k x ()=some (bif p x then .ret (k:Int)else .go ()):=by
    simp only [bS,hf x (by simp),ob_];cases p x <;> rfl
   rw [dG,hst,ob_]
   cases hp:p x with
   | true=>exact⟨_,rfl,_,rfl,by simp [hp]⟩
   | false =>
    simp only [cond_false]
    obtain ⟨o,h1,r,h2,h3⟩:=ih (k+1) (λy hy=>hf y (by simp [hy]))
    exact⟨o,h1,r,h2,by rw [h3];simp [hp]⟩
 obtain ⟨o,h1,r,h2,h3⟩:=run l 0 hf
 unfold dJ fM
 rw [eX (by omega),h1,ob_,h2,ob_,h3]
def yw (l:List ByteArray):Prop:=∀i j (hi:i<l.length) (hj:j<l.length),i<j->lt l[i] l[j]
theorem tN:∀(l:List ByteArray) (last:ByteArray),chk id vR last l=0->yw l/\∀x∈l,lt last x
 | [],last,h=>⟨λi j hi=>absurd hi (Nat.not_lt_zero i),by simp⟩
 | x::xs,last,h=>by
  rw [chk]at h
  cases he:vR last x==0 with
  | false=>rw [he]at h;simp only [cond_false]at h;rw [h]at he;cases he
  | true =>
   rw [he]at h
   simp only [cond_true,id]at h
   obtain ⟨h1,h2⟩:=tN xs x h
   have hx:lt last x:=by
    unfold vR at he
    cases hk:nH x with
    | false=>rw [hk]at he;cases he
    | true =>
     cases hl:sLe x last with
     | true=>rw [hk,hl]at he;cases he
     | false =>
      have:=mt (Bo x last).2 (by rw [hl];simp)
      exact Classical.not_not.1 this
   refine⟨λi j hi hj hij => ?_,λy hy => ?_⟩
   ·cases i with
    | zero=>cases j with
     | zero=>omega
     | succ j=>exact h2 _ (List.getElem_mem _)
    | succ i=>cases j with
     | zero=>omega
     | succ j=>exact h1 i j (by simpa using hi) (by simpa using hj) (by omega)
   ·rcases List.mem_cons.1 hy with rfl|hy
    ·exact hx
    ·exact lt_trans hx (h2 y hy)
theorem J7 {l:List ByteArray} (h:tagsF l=0):l.length<=20/\yw l:=by
 unfold tagsF at h
 by_cases hl:l.length>20
 ·rw [decide_eq_true hl]at h;cases h
 ·rw [decide_eq_false hl]at h
  exact⟨by omega,(tN l FO h).1⟩
theorem FE (x y:ByteArray):cmp_Less_string x y=some (sLt x y):=by
 unfold cmp_Less_string cmp_isNaN_string
 have:sNe x x=false:=by rw [E5];simp
 rw [this];rfl
theorem half (i j:Nat) (h:i<=1000000/\j<=1000000):y7 .u64 (IntKind.u64.wrap (w64 ((i:Int)+(j:Int)))) 1=some (((i+j) / 2:Nat):Int):=by
 have e1:w64 ((i:Int)+j)=((i+j:Nat):Int):=by rw [aM (by omega)];omega
 have e2:IntKind.u64.wrap ((i+j:Nat):Int)=((i+j:Nat):Int):=IntWalk.u64_in _ (by omega)
 rw [e1,e2]
 unfold y7
 rw [if_neg (by omega)]
 congr 1
 show Int.fdiv _ (2 ^ 1)=_
 rw [Int.fdiv_eq_ediv_of_nonneg _ (by decide)]
 omega
structure Ends (l:List ByteArray) (t:ByteArray) (i j:Nat):Prop where
 le:i<=j
 len:j<=l.length
 lo:∀k (h:k<l.length),k<i->lt l[k] t
 hi:∀k (h:k<l.length),j<=k->¬lt l[k] t
theorem EK (l:List ByteArray) (t:ByteArray) (i j:Nat) (hij:i<j) (hm:(i+j) / 2<l.length) (hl:j<=1000) :
  aQ l t ((i:Int),(j:Int))=some (bif sLt l[(i+j) / 2] t then .go ((((i+j) / 2+1:Nat):Int),(j:Int))else .go ((i:Int),(((i+j) / 2:Nat):Int))):=by
 have e1:decide ((i:Int)<(j:Int))=true:=by simp;omega
 have ew:w64 (((i+j) / 2:Nat):Int)=(((i+j) / 2:Nat):Int):=aM (by omega)
 have ew2:w64 ((((i+j) / 2:Nat):Int)+1)=(((i+j) / 2+1:Nat):Int):=by rw [aM (by omega)];omega
 simp only [aQ,e1,cond_true,half i j (by omega),ob_,ew,ew2,jK,List.getElem?_eq_getElem hm,FE]
 cases sLt l[(i+j) / 2] t <;> rfl
theorem uo (l:List ByteArray) (t:ByteArray) (hr:yw l) (hl:l.length<=1000):∀(d i j:Nat),j-i<=d->Ends l t i j->∃m:Nat,cO (λs=>aQ l t s) (d+1) ((i:Int),(j:Int))=some (.go ((m:Int),(m:Int)))/\Ends l t m m
 | d,i,j,hd,he=>by
  have hlen:=he.len
  have hle:=he.le
  by_cases hij:i<j
  ·have hm:(i+j) / 2<l.length:=by omega
   rw [cO,EK l t i j hij hm (by omega),ob_]
   cases d with
   | zero=>omega
   | succ d =>
    cases hc:sLt l[(i+j) / 2] t with
    | true =>
     have hlt:=(uA _ _).1 hc
     simp only [cond_true]
     refine uo l t hr hl d ((i+j) / 2+1) j (by omega) ⟨by omega,hlen,λk hk hki => ?_,he.hi⟩
     rcases Nat.lt_or_ge k ((i+j) / 2)with h|h
     ·exact lt_trans (hr k _ hk hm h) hlt
     ·have:k=(i+j) / 2:=by omega
      subst this;exact hlt
    | false =>
     have hlt:=mt (uA _ _).2 (by rw [hc];simp)
     simp only [cond_false]
     refine uo l t hr hl d i ((i+j) / 2) (by omega) ⟨by omega,by omega,he.lo,λk hk hki => ?_⟩
     rcases Nat.lt_or_ge ((i+j) / 2) k with h|h
     ·exact λhx=>hlt (lt_trans (hr _ k hm hk h) hx)
     ·have:k=(i+j) / 2:=by omega
      subst this;exact hlt
  ·have e1:decide ((i:Int)<(j:Int))=false:=by simp;omega
   have:i=j:=by omega
   subst this
   have hst:aQ l t ((i:Int),(i:Int))=some (.brk ((i:Int),(i:Int))):=by simp only [aQ,e1,cond_false]
   rw [cO,hst,ob_]
   exact⟨i,rfl,he⟩
theorem bs_eq (l:List ByteArray) (t:ByteArray) (hr:yw l) (hl:l.length<=1000):∃i:Int,dH l t=some (i,memB t l):=by
 obtain ⟨m,h1,h2⟩:=uo l t hr hl l.length 0 l.length (by omega) ⟨by omega,Nat.le_refl _,λk _ h=>absurd h (Nat.not_lt_zero k),λk hk h=>absurd h (by omega)⟩
 have h3:=gU h1
 refine⟨m,?_⟩
 unfold dH
 have h4:gY ((0:Int),(l.length:Int)) (λs=>aQ l t s)=some (Ctl.go ((m:Int),(m:Int))):=h3
 rw [h4,ob_,gQ]
 have key:t∈l↔∃h:m<l.length,l[m]=t:=by
  constructor
  ·intro hm
   obtain ⟨k,hk,he⟩:=List.getElem_of_mem hm
   have hk1:¬k<m:=λh=>by have:=h2.lo k hk h;rw [he]at this;exact qW _ this
   have hml:m<l.length:=by omega
   refine⟨hml,?_⟩
   rcases Nat.lt_or_ge m k with h|h
   ·have h5:=hr m k hml hk h
    rw [he]at h5
    exact absurd h5 (h2.hi m hml (Nat.le_refl _))
   ·have:k=m:=by omega
    subst this;exact he
  ·rintro ⟨h,he⟩
   rw [<- he];exact List.getElem_mem _
 by_cases hml:m<l.length
 ·have e1:decide ((m:Int)<(l.length:Int))=true:=by simp;omega
  simp only [e1,cond_true,jK,List.getElem?_eq_getElem hml,ob_,Be]
  have hn:slices_isNaN_string l[m]=some false:=by
   unfold slices_isNaN_string;rw [E5];simp
  rw [hn]
  by_cases he:l[m]=t
  ·simp only [decide_eq_true he,cond_true,ob_,vE.2 (key.2 ⟨hml,he⟩)]
  ·simp only [decide_eq_false he,cond_false,ob_,CQ (λh=>he (key.1 h).2)]
 ·have e1:decide ((m:Int)<(l.length:Int))=false:=by simp;omega
  simp only [e1,cond_false,ob_]
  rw [CQ (λh=>hml (key.1 h).1)]
namespace I
def lt (a b:Int):Prop:=a<b
theorem qW (a:Int):¬lt a a:=Int.lt_irrefl a
theorem lt_trans {a b c:Int} (h:lt a b) (k:lt b c):lt a c:=Int.lt_trans h k
def sLt (a b:Int):Bool:=decide (a<b)
theorem uA (a b:Int):sLt a b=true↔lt a b:=by simp [sLt,lt]
def memB (v:Int) (l:List Int):Bool:=l.any λx=>decide (v=x)
theorem vE {v:Int} {l:List Int}:memB v l=true↔v∈l:=by simp [memB]
theorem CQ {v:Int} {l:List Int} (h:v∉l):memB v l=false:=by
 cases hb:memB v l with
 | false=>rfl
 | true=>exact absurd (vE.1 hb) h
def yw (l:List Int):Prop:=∀i j (hi:i<l.length) (hj:j<l.length),i<j->lt l[i] l[j]
theorem FE (x y:Int):cmp_Less_int x y=some (sLt x y):=by
 unfold cmp_Less_int cmp_isNaN_int
 have:(x != x)=false:=by simp
 rw [this];rfl
structure Ends (l:List Int) (t:Int) (i j:Nat):Prop where
 le:i<=j
 len:j<=l.length
 lo:∀k (h:k<l.length),k<i->lt l[k] t
 hi:∀k (h:k<l.length),j<=k->¬lt l[k] t
theorem EK (l:List Int) (t:Int) (i j:Nat) (hij:i<j) (hm:(i+j) / 2<l.length) (hl:j<=1000) :
  bA l t ((i:Int),(j:Int))=some (bif sLt l[(i+j) / 2] t then .go ((((i+j) / 2+1:Nat):Int),(j:Int))else .go ((i:Int),(((i+j) / 2:Nat):Int))):=by
 have e1:decide ((i:Int)<(j:Int))=true:=by simp;omega
 have ew:w64 (((i+j) / 2:Nat):Int)=(((i+j) / 2:Nat):Int):=aM (by omega)
 have ew2:w64 ((((i+j) / 2:Nat):Int)+1)=(((i+j) / 2+1:Nat):Int):=by rw [aM (by omega)];omega
 simp only [bA,e1,cond_true,half i j (by omega),ob_,ew,ew2,jK,List.getElem?_eq_getElem hm,FE]
 cases sLt l[(i+j) / 2] t <;> rfl
theorem uo (l:List Int) (t:Int) (hr:yw l) (hl:l.length<=1000):∀(d i j:Nat),j-i<=d->Ends l t i j->∃m:Nat,cO (λs=>bA l t s) (d+1) ((i:Int),(j:Int))=some (.go ((m:Int),(m:Int)))/\Ends l t m m
 | d,i,j,hd,he=>by
  have hlen:=he.len
  have hle:=he.le
  by_cases hij:i<j
  ·have hm:(i+j) / 2<l.length:=by omega
   rw [cO,EK l t i j hij hm (by omega),ob_]
   cases d with
   | zero=>omega
   | succ d =>
    cases hc:sLt l[(i+j) / 2] t with
    | true =>
     have hlt:=(uA _ _).1 hc
     simp only [cond_true]
     refine uo l t hr hl d ((i+j) / 2+1) j (by omega) ⟨by omega,hlen,λk hk hki => ?_,he.hi⟩
     rcases Nat.lt_or_ge k ((i+j) / 2)with h|h
     ·exact lt_trans (hr k _ hk hm h) hlt
     ·have:k=(i+j) / 2:=by omega
      subst this;exact hlt
    | false =>
     have hlt:=mt (uA _ _).2 (by rw [hc];simp)
     simp only [cond_false]
     refine uo l t hr hl d i ((i+j) / 2) (by omega) ⟨by omega,by omega,he.lo,λk hk hki => ?_⟩
     rcases Nat.lt_or_ge ((i+j) / 2) k with h|h
     ·exact λhx=>hlt (lt_trans (hr _ k hm hk h) hx)
     ·have:k=(i+j) / 2:=by omega
      subst this;exact hlt
  ·have e1:decide ((i:Int)<(j:Int))=false:=by simp;omega
   have:i=j:=by omega
   subst this
   have hst:bA l t ((i:Int),(i:Int))=some (.brk ((i:Int),(i:Int))):=by simp only [bA,e1,cond_false]
   rw [cO,hst,ob_]
   exact⟨i,rfl,he⟩
theorem bs_eq (l:List Int) (t:Int) (hr:yw l) (hl:l.length<=1000):∃i:Int,fq l t=some (i,memB t l):=by
 obtain ⟨m,h1,h2⟩:=uo l t hr hl l.length 0 l.length (by omega) ⟨by omega,Nat.le_refl _,λk _ h=>absurd h (Nat.not_lt_zero k),λk hk h=>absurd h (by omega)⟩
 have h3:=gU h1
 refine⟨m,?_⟩
 unfold fq
 have h4:gY ((0:Int),(l.length:Int)) (λs=>bA l t s)=some (Ctl.go ((m:Int),(m:Int))):=h3
 rw [h4,ob_,gQ]
 have key:t∈l↔∃h:m<l.length,l[m]=t:=by
  constructor
  ·intro hm
   obtain ⟨k,hk,he⟩:=List.getElem_of_mem hm
   have hk1:¬k<m:=λh=>by have:=h2.lo k hk h;rw [he]at this;exact qW _ this
   have hml:m<l.length:=by omega
   refine⟨hml,?_⟩
   rcases Nat.lt_or_ge m k with h|h
   ·have h5:=hr m k hml hk h
    rw [he]at h5
    exact absurd h5 (h2.hi m hml (Nat.le_refl _))
   ·have:k=m:=by omega
    subst this;exact he
  ·rintro ⟨h,he⟩
   rw [<- he];exact List.getElem_mem _
 by_cases hml:m<l.length
 ·have e1:decide ((m:Int)<(l.length:Int))=true:=by simp;omega
  simp only [e1,cond_true,jK,List.getElem?_eq_getElem hml,ob_,Bool.beq_eq_decide_eq]
  have hn:jr l[m]=some false:=by
   unfold jr;simp
  rw [hn]
  by_cases he:l[m]=t
  ·simp only [decide_eq_true he,cond_true,ob_,vE.2 (key.2 ⟨hml,he⟩)]
  ·simp only [decide_eq_false he,cond_false,ob_,CQ (λh=>he (key.1 h).2)]
 ·have e1:decide ((m:Int)<(l.length:Int))=false:=by simp;omega
  simp only [e1,cond_false,ob_]
  rw [CQ (λh=>hml (key.1 h).1)]
theorem si (l:List Int) (v:Int):∀(xs:List Int) (k:Nat),∃o,dG (λk x s=>fB v k x s) xs k ()=some o/\∃r:Int,bD o (λ_=>some (-1)) (λr=>some r)=some r/\decide (r>=0)=memB v xs
 | [],k=>⟨.go (),rfl,-1,rfl,by simp [memB]⟩
 | x::xs,k=>by
  have hst:fB v k x ()=some (bif decide (v=x)then .ret (k:Int)else .go ()):=by
   simp only [fB,Bool.beq_eq_decide_eq];cases decide (v=x) <;> rfl
  rw [dG,hst,ob_]
  cases hd:decide (v=x)with
  | true=>exact⟨_,rfl,_,rfl,by simp [memB,hd]⟩
  | false =>
   simp only [cond_false]
   obtain ⟨o,h1,r,h2,h3⟩:=si l v xs (k+1)
   exact⟨o,h1,r,h2,by rw [h3];simp [memB,hd]⟩
theorem contains_eq (l:List Int) (v:Int) (hl:l.length<=1000000):gG l v=some (memB v l):=by
 obtain ⟨o,h1,r,h2,h3⟩:=si l v l 0
 unfold gG jJ
 rw [eX (by omega),h1,ob_,h2,ob_,h3]
theorem tN:∀(l:List Int) (p:Option Int),Hr xm p l=0->yw l/\∀x∈l,∀y,p=some y->lt y x
 | [],p,h=>⟨λi j hi=>absurd hi (Nat.not_lt_zero i),by simp⟩
 | x::xs,p,h=>by
  rw [Hr]at h
  cases he:xm p x==0 with
  | false=>rw [he]at h;simp only [cond_false]at h;rw [h]at he;cases he
  | true =>
   rw [he]at h
   simp only [cond_true]at h
   obtain ⟨h1,h2⟩:=tN xs (some x) h
   have hx:∀y,p=some y->lt y x:=λy hy=>by
    subst hy
    unfold xm at he
    cases hk:iW x 0 4000 with
    | true=>rw [hk]at he;cases he
    | false =>
     cases hl:leP (some y) x with
     | true=>rw [hk,hl]at he;cases he
     | false =>
      simp only [leP,decide_eq_false_iff_not]at hl
      show y<x
      omega
   refine⟨λi j hi hj hij => ?_,λy hy z hz => ?_⟩
   ·cases i with
    | zero=>cases j with
     | zero=>omega
     | succ j=>exact h2 _ (List.getElem_mem _) x rfl
    | succ i=>cases j with
     | zero=>omega
     | succ j=>exact h1 i j (by simpa using hi) (by simpa using hj) (by omega)
   ·rcases List.mem_cons.1 hy with rfl|hy
    ·exact hx z hz
    ·exact lt_trans (hx z hz) (h2 y hy x rfl)
theorem exF_0 {l:List Int} (h:exF l=0):l.length<=100/\yw l:=by
 unfold exF at h
 by_cases hl:l.length>100
 ·rw [decide_eq_true hl]at h;cases h
 ·rw [decide_eq_false hl]at h
  exact⟨by omega,(tN l none h).1⟩
end I
def sS (e:Entry) (p:Player):Bool := !(e.Tags.any λt => !memB t p.Tags)
theorem fitR (e:Entry) (p:Player) (h1:e.Tags.length<=1000) (h2:p.Tags.length<=1000):q9 e p=some (sS e p):=by
 unfold q9 sS
 rw [Fh e.Tags (λx0=>oo x0 p) (λt => !memB t p.Tags) (λx _=>by simp only [oo,contains_eq _ _ (show p.Tags.length<=1000000 by omega),ob_]) (by omega)]
 rfl
theorem fitK (e:Entry) (p:Player) (h1:e.Tags.length<=1000) (h2:tagsF p.Tags=0):mK e p=some (sS e p):=by
 obtain ⟨hl,hr⟩:=J7 h2
 have run:∀(xs:List ByteArray) (k:Nat),dG (λk x u=>jq p k x u) xs k ()=some (bif xs.any (λt => !memB t p.Tags)then .ret false else .go ()):=by
  intro xs
  induction xs with
  | nil=>exact λk=>rfl
  | cons x xs ih =>
   intro k
   obtain ⟨i,hi⟩:=bs_eq p.Tags x hr (by omega)
   have hst:jq p k x ()=some (bif !memB x p.Tags then .ret false else .go ()):=by
    simp only [jq,hi,ob_];cases memB x p.Tags <;> rfl
   rw [dG,hst,ob_]
   cases hm:memB x p.Tags with
   | true=>simp only [Bool.not_true,cond_false,List.any_cons,hm,Bool.false_or];exact ih (k+1)
   | false=>simp [hm]
 unfold mK sS
 rw [eX (by omega),run e.Tags 0,ob_]
 cases e.Tags.any (λt => !memB t p.Tags) <;> rfl
def collect (p:Int->Bool) (f:Int->Window):Nat->Int->List Window
 | 0,_=>[]
 | n+1,d=>(bif p d then [f d]else [])++collect p f n (d+1)
theorem rM (p:Int->Bool) (f:Int->Window):∀(n:Nat) (d:Int),(collect p f n d).length<=n
 | 0,_=>Nat.le_refl 0
 | n+1,d=>by
  have:=rM p f n (d+1)
  simp only [collect,List.length_append]
  cases p d <;> simp <;> omega
theorem kC {p:Int->Bool} {f:Int->Window}:∀(n:Nat) (d:Int),(∀x,d<=x->x<d+n->p x=false)->collect p f n d=[]
 | 0,_,_=>rfl
 | n+1,d,h=>by
  simp only [collect,h d (by omega) (by omega),cond_false,List.nil_append]
  exact kC n (d+1) (λx h1 h2=>h x (by omega) (by omega))
theorem r9 {p p':Int->Bool} {f f':Int->Window}:∀(n:Nat) (d:Int),(∀x,d<=x->x<d+n->p x=p' x/\f x=f' x)->collect p f n d=collect p' f' n d
 | 0,_,_=>rfl
 | n+1,d,h=>by
  obtain ⟨h1,h2⟩:=h d (by omega) (by omega)
  simp only [collect,h1,h2]
  rw [r9 n (d+1) (λx h1 h2=>h x (by omega) (by omega))]
theorem rZ (p:Int->Bool) (f:Int->Window):∀(n m:Nat) (d:Int),collect p f (n+m) d=collect p f n d++collect p f m (d+n)
 | 0,m,d=>by simp [collect]
 | n+1,m,d=>by
  rw [show n+1+m=(n+m)+1 by omega]
  simp only [collect,List.append_assoc]
  rw [rZ p f n m (d+1),show d+1+(n:Int)=d+((n+1:Nat):Int) by omega]
theorem Ao (p:Int->Bool) (f:Int->Window) (g:Window->Window):∀(n:Nat) (d:Int),(collect p f n d).map g=collect p (λx=>g (f x)) n d
 | 0,_=>rfl
 | n+1,d=>by
  simp only [collect,List.map_append,Ao p f g n (d+1)]
  cases p d <;> rfl
theorem Ak (p:Int->Bool) (f:Int->Window) (a b lo hi:Int) (h1:a<=lo) (h2:hi<=b) (h:∀x,a<=x->x<=b->p x=true->lo<=x/\x<=hi) :
  collect p f (b+1-a).toNat a=collect p f (hi+1-lo).toNat lo:=by
 by_cases hh:lo<=hi
 ·have e:(b+1-a).toNat=(lo-a).toNat+((hi+1-lo).toNat+(b-hi).toNat):=by omega
  rw [e,rZ,rZ,show a+((lo-a).toNat:Int)=lo by omega,kC (lo-a).toNat a (λx x1 x2 => ?_),kC (b-hi).toNat _ (λx x1 x2 => ?_),List.nil_append,List.append_nil]
  ·cases hp:p x with
   | false=>rfl
   | true=>have:=h x (by omega) (by omega) hp;omega
  ·cases hp:p x with
   | false=>rfl
   | true=>have:=h x (by omega) (by omega) hp;omega
 ·rw [show (hi+1-lo).toNat=0 by omega,kC (b+1-a).toNat a (λx x1 x2 => ?_)]
  ·rfl
  ·cases hp:p x with
   | false=>rfl
   | true=>have:=h x (by omega) (by omega) hp;omega
theorem DI {ρ:Type} {body:List Window×Int->Option (Ctl (List Window×Int) ρ)} {p:Int->Bool} {f:Int->Window} (lo hi:Int)
  (hb:∀(acc:List Window) d,lo<=d->d<=hi->acc.length<=1000000->body (acc,d)=some (.go (acc++(bif p d then [f d]else []),d+1))) (he:∀acc d,hi<d->body (acc,d)=some (.brk (acc,d))) :
  ∀(n:Nat) (acc:List Window) (d:Int),lo<=d->(hi+1-d).toNat=n->acc.length+n<=1000000->∃d',cO body (n+1) (acc,d)=some (.go (acc++collect p f n d,d'))
 | 0,acc,d,hlo,hn,hl=>by
  rw [cO,he acc d (by omega),ob_]
  exact⟨d,by simp [collect]⟩
 | n+1,acc,d,hlo,hn,hl=>by
  rw [cO,hb acc d hlo (by omega) (by omega),ob_]
  have hle:(bif p d then [f d]else []).length<=1:=by cases p d <;> simp
  obtain ⟨d',h⟩:=DI lo hi hb he n (acc++(bif p d then [f d]else [])) (d+1) (by omega) (by omega) (by rw [List.length_append];omega)
  refine⟨d',?_⟩
  simp only [h,collect,List.append_assoc]
theorem zB {ρ:Type} {body:List Window×Int->Option (Ctl (List Window×Int) ρ)} {p:Int->Bool} {f:Int->Window} (lo hi:Int) (hl:hi-lo<=100000)
  (hb:∀(acc:List Window) d,lo<=d->d<=hi->acc.length<=1000000->body (acc,d)=some (.go (acc++(bif p d then [f d]else []),d+1))) (he:∀acc d,hi<d->body (acc,d)=some (.brk (acc,d))) :
  ∃d',gY ([],lo) body=some (.go (collect p f (hi+1-lo).toNat lo,d')):=by
 obtain ⟨d',h⟩:=DI lo hi hb he (hi+1-lo).toNat [] lo (Int.le_refl _) rfl (by simp;omega)
 exact⟨d',by have:=gU h;simpa using this⟩
def bitB (a r:Int):Bool:=match y7 .i64 a r with
 | some y=>wX .i64 y 1==1
 | none=>false
def LP (a r:Nat):Bool:=match KU .i64 1 (r:Int),y7 .i64 (a:Int) (r:Int)with
 | some x,some y=>(wX .i64 (a:Int) x==0) == !(wX .i64 y 1==1)
 | _,_=>false
theorem LU:∀a:Fin 128,∀r:Fin 7,LP a.val r.val=true:=by decide +kernel
theorem bits (a r:Int) (ha:0<=a/\a<=127) (hr:0<=r/\r<7):∃x y,KU .i64 1 r=some x/\y7 .i64 a r=some y/\(wX .i64 a x==0) = !(wX .i64 y 1==1)/\bitB a r=(wX .i64 y 1==1):=by
 have h:=LU ⟨a.toNat,by omega⟩ ⟨r.toNat,by omega⟩
 simp only [LP,show ((a.toNat:Nat):Int)=a by omega,show ((r.toNat:Nat):Int)=r by omega]at h
 unfold bitB
 cases h1:KU .i64 1 r with
 | none=>rw [h1]at h;cases h
 | some x =>
  cases h2:y7 .i64 a r with
  | none=>rw [h1,h2]at h;cases h
  | some y =>
   rw [h1,h2]at h
   exact⟨x,y,rfl,rfl,eq_of_beq h,rfl⟩
def wW (e:Entry) (d:Int):Bool:=((d-e.First).tmod e.Every==0)&&(bitB e.Days (d.tmod 7) && !I.memB d e.Except)
structure Right (e:Entry):Prop where
 first:0<=e.First/\e.First<=e.Last
 last:e.Last<=4000
 every:1<=e.Every
 days:1<=e.Days/\e.Days<=127
 ex:exF e.Except=0
 from_:0<=e.From/\e.From<=1439
 to_:0<=e.To/\e.To<=1439
theorem vw {n lo hi:Int} (h:iW n lo hi=false):lo<=n/\n<=hi:=by
 simp only [iW,Bool.or_eq_false_iff,decide_eq_false_iff_not]at h;omega
theorem JE {n lo hi:Int} (h:lo<=n/\n<=hi):iW n lo hi=false:=by
 simp only [iW,Bool.or_eq_false_iff,decide_eq_false_iff_not];omega
theorem Ik {e:Entry} (h:nI e=0):Right e:=by
 unfold nI at h
 cases hk:(!nH e.Key || !nH e.Item)with
 | true=>rw [hk]at h;cases h
 | false =>
 rw [hk,cond_false]at h
 cases hb:(iW e.Version 0 1000000||(iW e.First 0 e.Last||(decide (e.Last>4000)||(iW e.Every 1 400||iW e.Days 1 127))))with
 | true=>rw [hb]at h;cases h
 | false =>
 rw [hb,cond_false]at h
 simp only [Bool.or_eq_false_iff,decide_eq_false_iff_not]at hb
 cases hx:exF e.Except==0 with
 | false=>rw [hx,cond_false]at h;rw [h]at hx;cases hx
 | true =>
 rw [hx,cond_true]at h
 cases hc:(iW e.From 0 1439||(iW e.To 0 1439||iW e.Prio 0 9))with
 | true=>rw [hc]at h;cases h
 | false =>
 simp only [Bool.or_eq_false_iff]at hc
 exact⟨vw hb.2.1,by omega,(vw hb.2.2.2.1).1,vw hb.2.2.2.2,eq_of_beq hx,vw hc.1,vw hc.2.1⟩
theorem dayK (e:Entry) (h:Right e) (d:Int) (h1:e.First<=d) (h2:d<=e.Last):lK e d=some (wW e d):=by
 have hl:=h.last
 have hf:=h.first
 have hd:=h.days
 obtain ⟨x,y,b1,b2,b3,b4⟩:=bits e.Days (d.tmod 7) (by omega) ⟨Int.tmod_nonneg _ (by omega),Int.tmod_lt_of_pos _ (by decide)⟩
 obtain ⟨hx1,hx2⟩:=I.exF_0 h.ex
 obtain ⟨i,hi⟩:=I.bs_eq e.Except d hx2 (by omega)
 have he0:e.Every≠0:=by have:=h.every;omega
 unfold lK wW
 simp only [qO,JE ⟨h1,h2⟩,ob_,cond_false,aM (show -9223372036854775808<=d-e.First/\d-e.First<=9223372036854775807 by omega),A9,if_neg he0,b1,b3,b4,hi]
 cases hq:(d-e.First).tmod e.Every==0 with
 | false =>
  have:((d-e.First).tmod e.Every != 0)=true:=by simp [bne,hq]
  simp only [this,cond_true,ob_,Bool.false_and]
 | true =>
  have:((d-e.First).tmod e.Every != 0)=false:=by simp [bne,hq]
  simp only [this,cond_false,ob_,Bool.true_and]
  cases (wX .i64 y 1==1) <;> simp
theorem dayR (e:Entry) (h:Right e) (d:Int) (h1:e.First<=d) (h2:d<=e.Last):lZ e d=some (wW e d):=by
 have hl:=h.last
 have hf:=h.first
 have hd:=h.days
 obtain ⟨x,y,b1,b2,b3,b4⟩:=bits e.Days (d.tmod 7) (by omega) ⟨Int.tmod_nonneg _ (by omega),Int.tmod_lt_of_pos _ (by decide)⟩
 obtain ⟨hx1,hx2⟩:=I.exF_0 h.ex
 have he0:e.Every≠0:=by have:=h.every;omega
 unfold lZ wW
 simp only [Ie,JE ⟨h1,h2⟩,ob_,Bool.not_false,cond_true,aM (show -9223372036854775808<=d-e.First/\d-e.First<=9223372036854775807 by omega),A9,if_neg he0,b2,b4,I.contains_eq e.Except d (by omega)]
 cases hq:(d-e.First).tmod e.Every==0 with
 | false=>simp only [cond_false,ob_,Bool.false_and]
 | true =>
  simp only [cond_true,ob_,Bool.true_and]
  cases (wX .i64 y 1==1) <;> simp
end Go.Proofs.YtnjnggakgeommaaGreat.Law

