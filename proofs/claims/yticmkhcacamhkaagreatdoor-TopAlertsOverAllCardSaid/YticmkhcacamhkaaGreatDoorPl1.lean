/-
  THE PLAIN LAW (part 1).
-/
import Derived.Test.YticmkhcacamhkaaGreatDoorEng5
import Derived.Test.YticmkhcacamhkaaGreatDoorDefs
namespace Go.Eng
set_option linter.unusedVariables false
set_option linter.unusedSimpArgs false
theorem lH {α σ ρ:Type} {body:Nat->α->σ->Option (Ctl σ ρ)} {xs:List α} {s:σ} (hl:xs.length<=1000000000000):forL xs s body=forR body xs 0 s:=by unfold forL;rw [if_pos hl]
theorem Kc {α σ ρ:Type} {body:Nat->α->σ->Option (Ctl σ ρ)} (I:Nat->σ->Prop) (N:Nat):∀(xs:List α) (k:Nat) (s:σ),k+xs.length=N->(∀k x s,x∈xs->k<N->I k s->∃s',body k x s=some (.go s')/\I (k+1) s')->I k s->∃s',forR body xs k s=some (.go s')/\I N s'
 | [],k,s,hN,h,hi=>⟨s,rfl,by simp only [List.length_nil,Nat.add_zero]at hN;rw [<- hN];exact hi⟩
 | x::xs,k,s,hN,h,hi=>by
  simp only [List.length_cons]at hN
  obtain ⟨s1,h1,h2⟩:=h k x s (by simp) (by omega) hi
  obtain ⟨s2,h3,h4⟩:=Kc I N xs (k+1) s1 (by omega) (λk x s hx=>h k x s (by simp [hx])) h2
  exact⟨s2,by simp only [forR,h1,ob_];exact h3,h4⟩
theorem OV {α σ ρ:Type} {body:Nat->α->σ->Option (Ctl σ ρ)} (I:Nat->σ->Prop) {xs:List α} {s:σ} (hl:xs.length<=1000000000000) (h:∀k x s,x∈xs->k<xs.length->I k s->∃s',body k x s=some (.go s')/\I (k+1) s') (h0:I 0 s):∃s',forL xs s body=some (.go s')/\I xs.length s':=by
 obtain ⟨s',h1,h2⟩:=Kc I xs.length xs 0 s (by omega) h h0
 exact⟨s',by rw [lH hl];exact h1,h2⟩
theorem qU {σ ρ τ:Type} (s:σ) (f:σ->Option τ) (g:ρ->Option τ):thenC (.go s) f g=f s:=rfl
theorem Nb {σ ρ τ:Type} (r:ρ) (f:σ->Option τ) (g:ρ->Option τ):thenC (.ret r) f g=g r:=rfl
theorem lS {α:Type} (xs:List α) (k:Nat):idx xs (k:Int)=xs[k]? := by simp [idx]
theorem bD {n:Int} (h : -9223372036854775808<=n/\n<=9223372036854775807):w64 n=n:=Eo n h
theorem toL (s:ByteArray):s.toList=s.data.toList:=Go.Lib.toList_data s
theorem Bi {a b:ByteArray} (h:a.toList=b.toList):a=b:=by
 rw [toL,toL]at h
 obtain ⟨⟨a⟩⟩:=a
 obtain ⟨⟨b⟩⟩:=b
 simp only at h
 rw [h]
theorem LZ (a b:ByteArray):sEq a b=true↔a=b:=by
 simp only [sEq,beq_iff_eq]
 exact⟨Bi,λh=>by rw [h]⟩
theorem uz (a b:ByteArray):sEq a b=decide (a=b):=by
 rw [Bool.eq_iff_iff,LZ];simp
theorem DL (a b:ByteArray):sNe a b = !decide (a=b):=by
 have:=uz a b;simp only [sEq,sNe]at *;rw [this]
abbrev bl:=Op.bytesLess
theorem bl_lt:∀(x y:List UInt8),bl x y=decide (x<y)
 | _,[]=>by simp [bl,Op.bytesLess]
 | [],_::_=>by simp [bl,Op.bytesLess]
 | a::x,b::y=>by
  have:=bl_lt x y
  simp only [bl,Op.bytesLess]at this ⊢
  rw [this,Bool.eq_iff_iff]
  simp only [Bool.or_eq_true,decide_eq_true_eq,Bool.and_eq_true,beq_iff_eq,List.cons_lt_cons_iff]
def lt (a b:ByteArray):Prop:=a.toList<b.toList
theorem p8 (a b:ByteArray):sLt a b=true↔lt a b:=by
 show bl a.toList b.toList=true↔_
 rw [bl_lt];simp [lt]
theorem kR (a:ByteArray):¬lt a a:=List.lt_irrefl a.toList
theorem lt_trans {a b c:ByteArray} (h:lt a b) (k:lt b c):lt a c:=List.lt_trans h k
theorem uK (a b:ByteArray):lt a b\/a=b\/lt b a:=by
 rcases Classical.em (lt a b)with h|h
 ·exact .inl h
 ·rcases Classical.em (lt b a)with h2|h2
  ·exact .inr (.inr h2)
  ·exact .inr (.inl (Bi (List.le_antisymm (List.not_lt.1 h2) (List.not_lt.1 h))))
theorem vU (a b:ByteArray):sLe a b=true↔¬lt b a:=by
 have h1:=p8 a b
 have h2:=LZ a b
 simp only [sLe,Bool.or_eq_true]
 constructor
 ·rintro (h|h)
  ·exact λk=>kR _ (lt_trans (h1.1 h) k)
  ·rw [h2.1 h];exact kR _
 ·intro h
  rcases uK a b with k|k|k
  ·exact .inl (h1.2 k)
  ·exact .inr (h2.2 k)
  ·exact absurd k h
theorem II (a:ByteArray):sLe a ⟨#[]⟩=decide (a.size=0):=by
 rw [Bool.eq_iff_iff,vU,lt,toL,toL,Go.Lib.size_eq]
 cases a.data.toList <;> simp
theorem sNe_nil (a:ByteArray):sNe a ⟨#[]⟩=decide (a.size≠0):=by
 rw [DL,Go.Lib.size_eq,Bool.eq_iff_iff]
 simp only [Bool.not_eq_true',decide_eq_false_iff_not,decide_eq_true_eq,ne_eq]
 refine not_congr ⟨λh=>by rw [h];rfl,λh => ?_⟩
 exact Bi (by rw [toL,List.eq_nil_of_length_eq_zero h,toL])
end Go.Eng

open Go Go.Eng
namespace Go.Proofs.YticmkhcacamhkaaGreatDoor.Law
set_option linter.unusedVariables false
set_option linter.unusedSimpArgs false
theorem Mk {α σ ρ:Type} {body:Nat->α->σ->Option (Ctl σ ρ)} (I:Nat->σ->Prop) (xs:List α):∀(l:List α) (k:Nat) (s:σ),xs.drop k=l->k<=xs.length->(∀k x s,xs[k]? = some x->I k s->∃s',body k x s=some (.go s')/\I (k+1) s')->I k s->∃s',forR body l k s=some (.go s')/\I xs.length s'
 | [],k,s,hd,hk,h,hi=>by
  have:=List.drop_eq_nil_iff.1 hd
  obtain rfl:k=xs.length:=by omega
  exact⟨s,rfl,hi⟩
 | x::l,k,s,hd,hk,h,hi=>by
  obtain ⟨s1,h1,h2⟩:=h k x s (AB hd) hi
  obtain ⟨s2,h3,h4⟩:=Mk I xs l (k+1) s1 (aR hd) (by have:=Dx hd;omega) h h2
  exact⟨s2,by rw [forR,h1,ob_];exact h3,h4⟩
theorem jW {α σ ρ:Type} {body:Nat->α->σ->Option (Ctl σ ρ)} (I:Nat->σ->Prop) {xs:List α} {s:σ} (hl:xs.length<=1000000000000) (h:∀k x s,xs[k]? = some x->I k s->∃s',body k x s=some (.go s')/\I (k+1) s') (h0:I 0 s):∃s',forL xs s body=some (.go s')/\I xs.length s':=by
 rw [lH hl]
 exact Mk I xs xs 0 s rfl (Nat.zero_le _) h h0
theorem jo {a b:ByteArray} (h:sLt a b=true):lt a b:=(p8 a b).1 h
theorem yF {σ ρ : Type} {body : σ->Option (Ctl σ ρ)} (I : Nat->σ->Prop) (N : Nat) (hgo : ∀k s, k<N->I k s->∃s', body s=some (.go s')/\I (k+1) s') (hbrk : ∀s, I N s->body s=some (.brk s)) {s : σ} (h0 : I 0 s) : ∃s', fC s body=some (.go s')/\I N s':=by
  have key : ∀(n k : Nat) (s : σ), k+n=N->I k s->∃s', iterN body (n+1) s=some (.go s')/\I N s':=by
    intro n
    induction n with
    | zero => intro k s hk hI
              have e : k=N:=by omega
              subst e
              exact ⟨s, by simp only [iterN, hbrk s hI, ob_], hI⟩
    | succ n ih => intro k s hk hI
                   obtain ⟨s', e, hI'⟩:=hgo k s (by omega) hI
                   obtain ⟨r, er, hr⟩:=ih (k+1) s' (by omega) hI'
                   refine ⟨r, ?_, hr⟩
                   rw [iterN, e, ob_];exact er
  obtain ⟨s', e, hI⟩:=key N 0 s (by omega) h0
  exact ⟨s', gQ e, hI⟩
def ik (f : Int->ByteArray) (T : Int) : Int->List Slot_->Prop
  | F, []=>F=T
  | F, x::r=>x.Time.From=F/\F<x.Time.To/\x.Time.To<=T/\(∀t, F<=t->t<x.Time.To->f t=x.Entry)/\(∀y, r.head? = some y->y.Entry ≠ x.Entry)/\ik f T x.Time.To r
def vY (id : ByteArray) (F T : Int) : List Slot_->List Slot_
  | []=>[⟨⟨F, T⟩, id⟩]
  | [x]=>if x.Entry=id then [⟨⟨x.Time.From, T⟩, x.Entry⟩] else [x, ⟨⟨F, T⟩, id⟩]
  | x::y::r=>x::vY id F T (y::r)
theorem Nw (id : ByteArray) (F T : Int) : ∀(y : Slot_) (r : List Slot_), ∃z, (vY id F T (y::r)).head? = some z/\z.Entry=y.Entry
  | y, []=>by
    unfold vY
    split
    · exact ⟨_, rfl, rfl⟩
    · exact ⟨_, rfl, rfl⟩
  | y, z::r=>⟨y, rfl, rfl⟩
theorem ik.add {f : Int->ByteArray} {id : ByteArray} {F T : Int} (hT : F<T) (hf : ∀t, F<=t->t<T->f t=id) : ∀(out : List Slot_) (F0 : Int), ik f F F0 out->ik f T F0 (vY id F T out)
  | [], F0, h=>by
    unfold ik at h
    subst h
    unfold vY ik
    exact ⟨rfl, hT, Int.le_refl _, hf, λy hy=>(by cases hy), (by unfold ik;rfl)⟩
  | [x], F0, h=>by
    unfold ik at h
    obtain ⟨h1, h2, h3, h4, h5, h6⟩:=h
    unfold ik at h6
    unfold vY
    by_cases he : x.Entry=id
    · rw [if_pos he]
      unfold ik
      refine ⟨h1, (by show F0<T;omega), Int.le_refl _, λt t1 t2 => ?_, λy hy=>(by cases hy), (by unfold ik;rfl)⟩
      by_cases ht : t<F
      · exact h4 t t1 (by omega)
      · exact (hf t (by omega) t2).trans he.symm
    · rw [if_neg he]
      unfold ik
      refine ⟨h1, h2, by omega, h4, λy hy => ?_, ?_⟩
      · rw [<- Option.some.inj hy];exact λe=>he e.symm
      · unfold ik
        exact ⟨h6.symm, (by show x.Time.To<T;omega), Int.le_refl _, λt t1 t2=>hf t (by omega) t2, λy hy=>(by cases hy), (by unfold ik;rfl)⟩
  | x::y::r, F0, h=>by
    unfold ik at h
    obtain ⟨h1, h2, h3, h4, h5, h6⟩:=h
    have ih:=ik.add hT hf (y::r) _ h6
    unfold vY
    unfold ik
    refine ⟨h1, h2, by omega, h4, λz hz => ?_, ih⟩
    obtain ⟨z', e1, e2⟩:=Nw id F T y r
    rw [e1] at hz
    rw [<- Option.some.inj hz, e2]
    exact h5 y rfl
theorem E5 (id : ByteArray) (F T : Int) : ∀(out : List Slot_) (n : Nat) (x : Slot_), out.length=n+1->out[n]? = some x->x.Entry=id->vY id F T out=out.set n ⟨⟨x.Time.From, T⟩, x.Entry⟩
  | [], n, x, h, _, _=>by simp at h
  | [y], 0, x, _, hx, he=>by
    simp only [List.getElem?_cons_zero, so_] at hx
    subst hx
    unfold vY
    rw [if_pos he];rfl
  | [y], n+1, x, h, _, _=>by simp at h
  | y::z::r, 0, x, h, _, _=>by simp at h
  | y::z::r, n+1, x, h, hx, he=>by
    unfold vY
    rw [E5 id F T (z::r) n x (by simpa using h) (by simpa using hx) he];rfl
theorem EJ (id : ByteArray) (F T : Int) : ∀(out : List Slot_), (∀(n : Nat) (x : Slot_), out.length=n+1->out[n]? = some x->x.Entry ≠ id)->vY id F T out=out++[⟨⟨F, T⟩, id⟩]
  | [], _=>rfl
  | [y], h=>by
    unfold vY
    rw [if_neg (h 0 y rfl rfl)];rfl
  | y::z::r, h=>by
    unfold vY
    rw [EJ id F T (z::r) (λn x h1 h2=>h (n+1) x (by simp only [List.length_cons] at *;omega) (by simpa using h2))];rfl
theorem EX (id : ByteArray) (F T : Int) : ∀(out : List Slot_), (vY id F T out).length<=out.length+1
  | []=>by simp [vY]
  | [y]=>by unfold vY;split <;> simp
  | y::z::r=>by
    have:=EX id F T (z::r)
    unfold vY
    simp only [List.length_cons] at *;omega
theorem ik.at {f : Int->ByteArray} {T : Int} : ∀{l : List Slot_} {F : Int}, ik f T F l->(∀x ∈ l, F<=x.Time.From/\x.Time.From<x.Time.To/\x.Time.To<=T/\∀t, x.Time.From<=t->t<x.Time.To->f t=x.Entry)/\∀t, F<=t->t<T->∃x ∈ l, x.Time.From<=t/\t<x.Time.To
  | [], F, h=>by
    unfold ik at h
    exact ⟨λx hx=>(by cases hx), λt t1 t2=>by omega⟩
  | y::r, F, h=>by
    unfold ik at h
    obtain ⟨h1, h2, h3, h4, h5, h6⟩:=h
    obtain ⟨k1, k2⟩:=ik.at h6
    refine ⟨λx hx => ?_, λt t1 t2 => ?_⟩
    · rcases List.mem_cons.1 hx with rfl | hx
      · exact ⟨by omega, by omega, h3, λt t1 t2=>h4 t (by omega) t2⟩
      · obtain ⟨q1, q2, q3, q4⟩:=k1 x hx
        exact ⟨by omega, q2, q3, q4⟩
    · by_cases ht : t<y.Time.To
      · exact ⟨y, List.mem_cons_self, by omega, ht⟩
      · obtain ⟨x, hx, q⟩:=k2 t (by omega) t2
        exact ⟨x, List.mem_cons_of_mem _ hx, q⟩
theorem Jq {E : List Int} (hE : E.Pairwise (· < ·)) {i : Nat} {a b : Int} (ha : E[i]? = some a) (hb : E[i+1]? = some b) {x : Int} (hx : x ∈ E) : x<=a\/b<=x:=by
  obtain ⟨j, hj, rfl⟩:=List.getElem_of_mem hx
  obtain ⟨h1, e1⟩:=List.getElem?_eq_some_iff.1 ha
  obtain ⟨h2, e2⟩:=List.getElem?_eq_some_iff.1 hb
  have hp:=List.pairwise_iff_getElem.1 hE
  by_cases hji : j<i
  · left;have:=hp j i hj h1 hji;omega
  · by_cases hji2 : j=i
    · subst hji2;left;omega
    · by_cases hj3 : j=i+1
      · subst hj3;right;omega
      · right;have:=hp (i+1) j h2 hj (by omega);omega
theorem GI {E : List Int} (hE : E.Pairwise (· < ·)) {i : Nat} {a b : Int} (ha : E[i]? = some a) (hb : E[i+1]? = some b) : a<b:=by
  obtain ⟨h1, e1⟩:=List.getElem?_eq_some_iff.1 ha
  obtain ⟨h2, e2⟩:=List.getElem?_eq_some_iff.1 hb
  have:=List.pairwise_iff_getElem.1 hE i (i+1) h1 h2 (by omega)
  omega
theorem Gi {E : List Int} (hE : E.Pairwise (· < ·)) {F T : Int} (hF : F ∈ E) (hT : T ∈ E) (hin : ∀x ∈ E, F<=x/\x<=T) : E[0]? = some F/\E[E.length-1]? = some T:=by
  have hp:=List.pairwise_iff_getElem.1 hE
  obtain ⟨i, hi, ei⟩:=List.getElem_of_mem hF
  obtain ⟨j, hj, ej⟩:=List.getElem_of_mem hT
  constructor
  · rw [List.getElem?_eq_getElem (by omega)]
    by_cases h0 : i=0
    · subst h0;rw [ei]
    · have h1:=hp 0 i (by omega) hi (by omega)
      have h2:=(hin E[0] (List.getElem_mem _)).1
      omega
  · rw [List.getElem?_eq_getElem (by omega)]
    by_cases h0 : j=E.length-1
    · subst h0;rw [ej]
    · have h1:=hp j (E.length-1) hj (by omega) (by omega)
      have h2:=(hin E[E.length-1] (List.getElem_mem _)).2
      omega
theorem NI {α : Type} {R : α->α->Prop} (has : ∀a b, R a b->¬R b a) {a b : List α} (h : a.Perm b) (ha : a.Pairwise R) (hb : b.Pairwise R) : a=b :=
  List.Perm.eq_of_pairwise (λx y _ _ h1 h2=>absurd h2 (has x y h1)) ha hb h
def wR:List Int->Int
 | []=>0
 | x::l=>x+wR l
theorem Au:∀a b:List Int,wR (a++b)=wR a+wR b
 | [],b=>by simp [wR]
 | x::a,b=>by
  show x+wR (a++b)=x+wR a+wR b
  rw [Au a b];omega
theorem DC:∀{l:List Int},(∀x∈l,0<=x)->0<=wR l
 | [],_=>Int.le_refl _
 | x::l,h=>by
  have h1:=h x (by simp)
  have h2:=DC (l:=l) (λy hy=>h y (by simp [hy]))
  show 0<=x+wR l
  omega
theorem Gr {l:List Int} (h:∀x∈l,0<=x) (k:Nat):0<=wR (l.take k)/\wR (l.take k)<=wR l:=by
 have h1:=DC (l:=l.take k) (λx hx=>h x (List.mem_of_mem_take hx))
 have h2:=DC (l:=l.drop k) (λx hx=>h x (List.mem_of_mem_drop hx))
 have h3:wR l=wR (l.take k)+wR (l.drop k):=by rw [<- Au,List.take_append_drop]
 omega
def ovS (x y:Slot_):Int:=max 0 (min x.Time.To y.Time.To-max x.Time.From y.Time.From)
def ovL (x:Slot_) (l:List Slot_):Int:=wR (l.map (ovS x))
theorem KO (x y:Slot_):0<=ovS x y:=Int.le_max_left _ _
theorem GD {f:Int->ByteArray} {T:Int} (x:Slot_) (hx:x.Time.To<=T):∀{l:List Slot_} {F:Int},ik f T F l->ovL x l=max 0 (x.Time.To-max x.Time.From F)
 | [],F,h=>by
  unfold ik at h
  show (0:Int)=_
  omega
 | y::r,F,h=>by
  unfold ik at h
  obtain ⟨h1,h2,h3,h4,h5,h6⟩:=h
  have ih:=GD x hx h6
  show ovS x y+ovL x r=_
  rw [ih]
  unfold ovS
  rw [h1]
  omega
def ovA (a b:List Slot_):Int:=wR (a.map (λx=>ovL x b))
theorem Gz {f g:Int->ByteArray} {T F0:Int} {b:List Slot_} (hb:ik g T F0 b):∀{a:List Slot_} {F:Int},F0<=F->ik f T F a->ovA a b=T-F
 | [],F,hF,h=>by
  unfold ik at h
  show (0:Int)=_
  omega
 | x::a,F,hF,h=>by
  unfold ik at h
  obtain ⟨h1,h2,h3,h4,h5,h6⟩:=h
  have ih:=Gz hb (by omega) h6
  show ovL x b+ovA a b=_
  rw [ih,GD x h3 hb,h1]
  omega
theorem ovL_nn (x:Slot_) (l:List Slot_):0<=ovL x l:=DC (λy hy=>by
 obtain ⟨z,_,rfl⟩:=List.mem_map.1 hy
 exact KO x z)
theorem Jt (x:Slot_) (l:List Slot_) (k:Nat):0<=ovL x (l.take k)/\ovL x (l.take k)<=ovL x l:=by
 unfold ovL
 rw [List.map_take]
 exact Gr (λy hy=>by
  obtain ⟨z,_,rfl⟩:=List.mem_map.1 hy
  exact KO x z) k
theorem JR (a b:List Slot_) (k:Nat):0<=ovA (a.take k) b/\ovA (a.take k) b<=ovA a b:=by
 unfold ovA
 rw [List.map_take]
 exact Gr (λy hy=>by
  obtain ⟨z,_,rfl⟩:=List.mem_map.1 hy
  exact ovL_nn z b) k
theorem Jf (x:Slot_) (l:List Slot_) (y:Slot_):ovL x (l++[y])=ovL x l+ovS x y:=by
 unfold ovL
 rw [List.map_append,Au]
 show _+(ovS x y+0)=_
 omega
theorem Jg (a b:List Slot_) (x:Slot_):ovA (a++[x]) b=ovA a b+ovL x b:=by
 unfold ovA
 rw [List.map_append,Au]
 show _+(ovL x b+0)=_
 omega
def Ok (s:Stream) (b:Int):Prop:=0<=s.f_at/\s.f_at<=b
theorem Ok.mono {s:Stream} {b c:Int} (h:Ok s b) (hc:b<=c):Ok s c:=⟨h.1,Int.le_trans h.2 hc⟩
theorem Fv (x n:Int) (h:1<=n) (hn:n<=4611686018427387904):∃r,sQ x n=some r/\0<=r/\r<n:=by
 have h1:x.tmod n<n:=Int.tmod_lt_of_pos x (by omega)
 have h2 : -n<x.tmod n:=Int.lt_tmod_of_pos x (by omega)
 have hb:decide (n<1)=false:=by simp;omega
 have hn0:n≠0:=by omega
 simp only [sQ,hb,cond_false,IJ,if_neg hn0,ob_]
 cases hd:decide (x.tmod n<0)with
 | true =>
  simp only [decide_eq_true_eq]at hd
  exact⟨_,rfl,by rw [bD (by omega)];omega,by rw [bD (by omega)];omega⟩
 | false =>
  simp only [decide_eq_false_iff_not]at hd
  exact⟨_,rfl,by omega,h1⟩
theorem AV (s:Stream) (n:Int) {b:Int} (hs:Ok s b) (hb:b<=1000000) (h:1<=n) (hn:n<=4611686018427387904):∃r s',iA s n=some (r,s')/\0<=r/\r<n/\Ok s' (b+1):=by
 obtain ⟨h0,h1⟩:=hs
 have e1:w64 (s.f_at+1)=s.f_at+1:=bD (by omega)
 have e2:w64 (s.f_at+1-1)=s.f_at:=by rw [bD (by omega)];omega
 simp only [iA,e1,e2]
 by_cases hl:s.L.length=0
 ·have:((s.L.length:Int)==0)=true:=by simp [hl]
  simp only [this,cond_true]
  obtain ⟨r,hr,h2,h3⟩:=Fv (w64 ((s.f_at+1)*7919)) n h hn
  exact⟨r,_,by rw [hr];rfl,h2,h3,⟨by show 0<=s.f_at+1;omega,by show s.f_at+1<=b+1;omega⟩⟩
 ·have hne:(s.L.length:Int)≠0:=by omega
  have:((s.L.length:Int)==0)=false:=by simpa using hl
  simp only [this,cond_false,IJ,Lc,if_neg hne,ob_]
  have h2:0<=s.f_at.tmod s.L.length:=Int.tmod_nonneg _ h0
  have hp:(0:Int)<(s.L.length:Int):=by have:=Nat.pos_of_ne_zero hl;omega
  have h3:s.f_at.tmod s.L.length<s.L.length:=Int.tmod_lt_of_pos _ hp
  have hi:idx s.L (s.f_at.tmod s.L.length)=some s.L[(s.f_at.tmod s.L.length).toNat]:=by
   simp only [idx,if_pos h2]
   exact List.getElem?_eq_getElem (by omega)
  obtain ⟨r1,hr1,_,_⟩:=Fv s.L[(s.f_at.tmod s.L.length).toNat] 1073741824 (by decide) (by decide)
  simp only [hi,hr1,ob_]
  generalize w64 (r1+_)=y
  obtain ⟨r,hr,h4,h5⟩:=Fv y n h hn
  exact⟨r,_,by rw [hr];rfl,h4,h5,⟨by show 0<=s.f_at+1;omega,by show s.f_at+1<=b+1;omega⟩⟩
theorem Dy (s:Stream) (n:Int) {b:Int} (hs:Ok s b) (hb:b<=1000000) (h:1<=n) (hn:n<=1000):∃r s',gH s n=some (r,s')/\Ok s' (b+1):=by
 obtain ⟨r,s',h1,_,_,h2⟩:=AV s n hs hb h (by omega)
 exact⟨r==0,s',by simp only [gH,h1,ob_],h2⟩
theorem H6 {α:Type} {l:List α} {r:Int} (h0:0<=r) (h1:r<l.length):∃y,idx l r=some y/\y∈l:=by
 refine⟨l[r.toNat]'(by omega),?_,List.getElem_mem _⟩
 simp only [idx,if_pos h0]
 exact List.getElem?_eq_getElem (by omega)
theorem qd (s:Stream) (l:List Int) {b:Int} (hs:Ok s b) (hb:b<=1000000) (h:1<=l.length) (hn:l.length<=1000):∃r s',dH s l=some (r,s')/\r∈l/\Ok s' (b+1):=by
 obtain ⟨r,s',h1,h2,h3,h4⟩:=AV s l.length hs hb (by omega) (by omega)
 obtain ⟨y,hy,hm⟩:=H6 h2 h3
 exact⟨y,s',by simp only [dH,h1,hy,ob_],hm,h4⟩
theorem DJ (s:Stream) (l:List ByteArray) {b:Int} (hs:Ok s b) (hb:b<=1000000) (h:1<=l.length) (hn:l.length<=1000):∃r s',iG s l=some (r,s')/\r∈l/\Ok s' (b+1):=by
 obtain ⟨r,s',h1,h2,h3,h4⟩:=AV s l.length hs hb (by omega) (by omega)
 obtain ⟨y,hy,hm⟩:=H6 h2 h3
 exact⟨y,s',by simp only [iG,h1,hy,ob_],hm,h4⟩
theorem l8 (s:Stream) (lo hi:Int) {b:Int} (hs:Ok s b) (hb:b<=1000000) (h:lo<=hi) (h1 : -1000000000000<=lo) (h2:hi<=1000000000000):∃r s',bT s lo hi=some (r,s')/\lo<=r/\r<=hi/\Ok s' (b+1):=by
 have hd:decide (hi<lo)=false:=by simp;omega
 have e1:w64 (hi-lo)=hi-lo:=bD (by omega)
 have e2:w64 (hi-lo+1)=hi-lo+1:=bD (by omega)
 obtain ⟨r,s',k1,k2,k3,k4⟩:=AV s (hi-lo+1) hs hb (by omega) (by omega)
 simp only [bT,hd,cond_false,e1,e2,k1,ob_]
 exact⟨_,s',rfl,by rw [bD (by omega)];omega,by rw [bD (by omega)];omega,k4⟩
def lowB (b:UInt8):Bool:=decide (97<=b.toNat)&&decide (b.toNat<=122)
def moreB (b:UInt8):Bool:=(decide (48<=b.toNat)&&decide (b.toNat<=57))||(b.toNat==45)||(b.toNat==95)
def okB (i:Nat) (b:UInt8):Bool:=lowB b||(decide (0<i)&&moreB b)
def uY (s:ByteArray) (i:Nat):UInt8:=s.data.toList.getD i 0
def qh (s:ByteArray):Bool:=decide (s.size≠0)&&(decide (s.size<=40)&&(List.range s.size).all λi=>okB i (uY s i))
theorem Oz (s:ByteArray) (k:Nat) (h:k<s.size):q9 s (k:Int)=some (uY s k):=by
 have h1:s[k]? = some s[k]:=by simp [h]
 have h2:uY s k=s[k]:=by
  have hl:k<s.data.toList.length:=by rw [<- Go.Lib.size_eq];exact h
  simp only [uY,List.getD_eq_getElem?_getD,List.getElem?_eq_getElem hl,Option.getD_some]
  simp
  rfl
 simp only [q9,if_pos (Int.natCast_nonneg k),Int.toNat_natCast,h1,h2]
theorem Ja (s:ByteArray) (k:Nat) (hs:s.size<=1000000000):kv s (k:Int)=some (if k<s.size then (bif okB k (uY s k)then .go ((k+1:Nat):Int)else .ret false)else .brk (k:Int)):=by
 unfold kv
 by_cases h:k<s.size
 ·have hd:decide ((k:Int)<(s.size:Int))=true:=by simp;omega
  have hw:w64 ((k:Int)+1)=((k+1:Nat):Int):=by rw [bD (by omega)];omega
  simp only [hd,cond_true,Oz s k h,ob_,if_pos h,hw]
  generalize uY s k=b
  simp only [okB,lowB,moreB]
  have e1:decide ((b.toNat:Int)>=97)=decide (97<=b.toNat):=decide_eq_decide.2 (by omega)
  have e2:decide ((b.toNat:Int)<=122)=decide (b.toNat<=122):=decide_eq_decide.2 (by omega)
  have e3:decide ((k:Int)>0)=decide (0<k):=decide_eq_decide.2 (by omega)
  have e4:decide ((b.toNat:Int)>=48)=decide (48<=b.toNat):=decide_eq_decide.2 (by omega)
  have e5:decide ((b.toNat:Int)<=57)=decide (b.toNat<=57):=decide_eq_decide.2 (by omega)
  have e6:((b.toNat:Int)==45)=(b.toNat==45):=by rw [Bool.eq_iff_iff];simp;omega
  have e7:((b.toNat:Int)==95)=(b.toNat==95):=by rw [Bool.eq_iff_iff];simp;omega
  rw [e1,e2,e3,e4,e5,e6,e7]
  cases decide (97<=b.toNat) <;> cases decide (b.toNat<=122) <;> cases decide (0<k) <;> cases decide (48<=b.toNat) <;> cases decide (b.toNat<=57) <;> cases (b.toNat==45) <;> cases (b.toNat==95) <;> rfl
 ·have hd:decide ((k:Int)<(s.size:Int))=false:=by simp;omega
  simp only [hd,cond_false,if_neg h]
theorem Eh (s:ByteArray) (hs:s.size<=1000000000):∀(n k:Nat),k+n=s.size->iterN (λi=>kv s i) (n+1) (k:Int)=some (bif (List.range' k n).all (λj=>okB j (uY s j))then .go (s.size:Int)else .ret false)
 | 0,k,h=>by
  have hk:¬k<s.size:=by omega
  simp only [iterN,Ja s k hs,if_neg hk,ob_,List.range'_zero,List.all_nil,cond_true]
  rw [show (k:Int)=s.size by omega]
 | n+1,k,h=>by
  have hk:k<s.size:=by omega
  rw [iterN,Ja s k hs,if_pos hk,ob_,List.range'_succ,List.all_cons]
  cases okB k (uY s k)with
  | true=>simp only [cond_true,Bool.true_and];exact Eh s hs n (k+1) (by omega)
  | false=>rfl
theorem o9 (s:ByteArray) (hs:s.size<=1000000000):kit_IsKey s=some (qh s):=by
 have h:=gQ (Eh s hs s.size 0 (by omega))
 unfold kit_IsKey
 have h':fC (0:Int) (λs_1=>kv s s_1)=_:=h
 rw [h',ob_,<- List.range_eq_range']
 have e:decide ((s.size:Int)<=40)=decide (s.size<=40):=decide_eq_decide.2 (by omega)
 simp only [qh]
 cases (List.range s.size).all (λi=>okB i (uY s i))with
 | true =>
  rw [cond_true,qU,sNe_nil,e,Bool.and_true]
  cases decide (s.size≠0) <;> rfl
 | false=>simp only [cond_false,Nb,Bool.and_false]
theorem Du {s:ByteArray} (h:qh s=true):s.size≠0:=by
 simp only [qh,Bool.and_eq_true,decide_eq_true_eq]at h
 exact h.1
def vO (s:ByteArray):Prop:=s.size<=1000
def J2 (x:Entry):Prop:=vO x.Key/\vO x.Item/\x.Except.length<=50/\x.Tags.length<=20/\∀t∈x.Tags,vO t
def GoodP (x:Player):Prop:=vO x.Key/\vO x.Screen/\x.Tags.length<=20/\∀t∈x.Tags,vO t
theorem vw {s:ByteArray} (h:Nat.ble s.size 1000=true):vO s:=Nat.le_of_ble_eq_true h
theorem lK {α:Type} (xs ys:List α) (h:xs.length+ys.length<=1000000000):lX xs ys=some (xs++ys):=by unfold lX;rw [if_pos h]
theorem yz {α:Type} {i:Int} {xs:List α} (h0:0<=i) (h1:i<xs.length):inR i xs=some ():=by unfold inR;rw [if_pos ⟨h0,by omega⟩]
def zk:ByteArray:=⟨#[]⟩
def pX {α:Type} (key:α->ByteArray) (l:List α) (k:Nat):ByteArray:=if k=0 then zk else match l[k-1]? with | some y=>key y | none=>zk
def chk {α:Type} (key:α->ByteArray) (stp:ByteArray->α->Int):ByteArray->List α->Int
 | _,[]=>0
 | last,x::xs=>bif stp last x==0 then chk key stp (key x) xs else stp last x
def xD (e:Int):Ctl Unit Int:=bif e==0 then .go ()else .ret e
theorem yg {α:Type} {key:α->ByteArray} {stp:ByteArray->α->Int} {body:Nat->α->Unit->Option (Ctl Unit Int)} (l:List α):∀(xs:List α) (k:Nat),l.drop k=xs->(∀k x,l[k]? = some x->body k x ()=some (xD (stp (pX key l k) x))) ->
  forR body xs k ()=some (xD (chk key stp (pX key l k) xs))
 | [],k,h,hb=>rfl
 | x::xs,k,h,hb=>by
  have hg:=AB h
  rw [forR,hb k x hg,ob_,chk]
  cases he:stp (pX key l k) x==0 with
  | true =>
   simp only [xD,he,cond_true]
   rw [yg l xs (k+1) (aR h) hb]
   have:pX key l (k+1)=key x:=by simp [pX,hg]
   rw [this];rfl
  | false=>simp only [xD,he,cond_false]
theorem yE (e:Int):thenC (xD e) (λ_=>some (0:Int)) (λr=>some r)=some e:=by
 unfold xD
 cases h:e==0 with
 | true=>simp only [cond_true,qU];rw [eq_of_beq h]
 | false=>rfl
def BK (last x:ByteArray):Int:=bif !qh x then 5 else bif sLe x last then 7 else 0
def tagsF (l:List ByteArray):Int:=bif decide (l.length>20)then 2 else chk id BK zk l
theorem vQ {α:Type} {l:List α} {k:Nat} {x:α} (h:l[k]? = some x) (hk:0<k) (hl:l.length<=1000000000):∃y,idx l (w64 ((k:Int)-1))=some y/\l[k-1]? = some y:=by
 have hlt:k<l.length:=(List.getElem?_eq_some_iff.1 h).1
 rw [bD (by omega),show (k:Int)-1=((k-1:Nat):Int) by omega,lS]
 exact⟨l[k-1],List.getElem?_eq_getElem (by omega),List.getElem?_eq_getElem (by omega)⟩
theorem Ci {α:Type} {key:α->ByteArray} {l:List α} {k:Nat} {x:α} {s:ByteArray} (h:l[k]? = some x) (hl:l.length<=1000000000) (hs:s.size≠0) :
  (bif decide ((k:Int)>0)then (idx l (w64 ((k:Int)-1))).bind λy=>some (sLe s (key y))else some false)=some (sLe s (pX key l k)):=by
 by_cases hk:0<k
 ·obtain ⟨y,h1,h2⟩:=vQ h hk hl
  have hd:decide ((k:Int)>0)=true:=by simp;omega
  simp only [hd,cond_true,h1,ob_,pX,if_neg (show ¬k=0 by omega),h2]
 ·have hk0:k=0:=by omega
  subst hk0
  simp only [pX,if_pos,zk,II,decide_eq_false hs]
  rfl
theorem tagsK (l:List ByteArray) (hs:∀t∈l,vO t) (hl:l.length<=1000000000):fM l=some (tagsF l):=by
 unfold fM tagsF
 have e:decide ((l.length:Int)>20)=decide (l.length>20):=decide_eq_decide.2 (by omega)
 rw [e]
 cases decide (l.length>20)with
 | true=>rfl
 | false =>
  simp only [cond_false]
  unfold jq
  rw [lH (by omega),yg (key:=id) (stp:=BK) l l 0 rfl (λk x hx => ?_)]
  ·simp only [ob_,yE];rfl
  ·have hxs:vO x:=hs x (List.mem_of_getElem? hx)
   simp only [iX,o9 x (by unfold vO at hxs;omega),ob_,BK]
   cases hk:qh x with
   | false=>rfl
   | true =>
    simp only [Bool.not_true,cond_false]
    have:=Ci (key:=id) hx hl (Du hk)
    simp only [id]at this
    rw [this,ob_]
    cases sLe x (pX id l k) <;> rfl
def MS {α:Type} (stp:Option α->α->Int):Option α->List α->Int
 | _,[]=>0
 | p,x::xs=>bif stp p x==0 then MS stp (some x) xs else stp p x
def CO {α:Type} (l:List α) (k:Nat):Option α:=if k=0 then none else l[k-1]?
theorem GU {α:Type} {stp:Option α->α->Int} {body:Nat->α->Unit->Option (Ctl Unit Int)} (l:List α):∀(xs:List α) (k:Nat),l.drop k=xs->(∀k x,l[k]? = some x->body k x ()=some (xD (stp (CO l k) x))) ->
  forR body xs k ()=some (xD (MS stp (CO l k) xs))
 | [],k,h,hb=>rfl
 | x::xs,k,h,hb=>by
  have hg:=AB h
  rw [forR,hb k x hg,ob_,MS]
  cases he:stp (CO l k) x==0 with
  | true =>
   simp only [xD,he,cond_true]
   rw [GU l xs (k+1) (aR h) hb]
   have:CO l (k+1)=some x:=by simp [CO,hg]
   rw [this];rfl
  | false=>simp only [xD,he,cond_false]
def iR (n lo hi:Int):Bool:=decide (n<lo)||decide (n>hi)
theorem lQ (n lo hi:Int):aQ n lo hi=some (iR n lo hi):=by
 unfold aQ iR
 cases decide (n<lo) <;> cases decide (n>hi) <;> rfl
def leP (p:Option Int) (x:Int):Bool:=match p with
 | none=>false
 | some y=>decide (x<=y)
def G9 (p:Option Int) (x:Int):Int:=bif iR x 0 4000 then 1 else bif leP p x then 7 else 0
def exF (l:List Int):Int:=bif decide (l.length>100)then 2 else MS G9 none l
theorem KS {l:List Int} {k:Nat} {x:Int} (h:l[k]? = some x) (hl:l.length<=1000000000) :
  (bif decide ((k:Int)>0)then (idx l (w64 ((k:Int)-1))).bind λy=>some (decide (x<=y))else some false)=some (leP (CO l k) x):=by
 by_cases hk:0<k
 ·obtain ⟨y,h1,h2⟩:=vQ h hk hl
  have hd:decide ((k:Int)>0)=true:=by simp;omega
  simp only [hd,cond_true,h1,ob_,CO,if_neg (show ¬k=0 by omega),h2,leP]
 ·have hk0:k=0:=by omega
  subst hk0
  rfl
theorem OH (n:Int):vz n=some (!iR n 0 4000):=by
 unfold vz iR
 have e1:decide (n>=0) = !decide (n<0):=by rw [Bool.eq_iff_iff];simp
 have e2:decide (n<=4000) = !decide (n>4000):=by rw [Bool.eq_iff_iff];simp
 rw [e1,e2]
 cases decide (n<0) <;> cases decide (n>4000) <;> rfl
theorem exK (l:List Int) (hl:l.length<=1000000000):gW l=some (exF l):=by
 unfold gW exF
 have e:decide ((l.length:Int)>100)=decide (l.length>100):=decide_eq_decide.2 (by omega)
 rw [e]
 cases decide (l.length>100)with
 | true=>rfl
 | false =>
  simp only [cond_false]
  rw [lH (by omega),GU (stp:=G9) l l 0 rfl (λk x hx => ?_)]
  ·simp only [ob_,yE];rfl
  ·simp only [jg,OH,ob_,G9]
   cases iR x 0 4000 with
   | true=>rfl
   | false =>
    simp only [Bool.not_false,Bool.not_true,cond_false]
    rw [KS hx hl,ob_]
    cases leP (CO l k) x <;> rfl
def zb (e:Entry):Int :=
 bif !qh e.Key || !qh e.Item then 5 else
 bif iR e.Version 0 1000000||(iR e.First 0 e.Last||(decide (e.Last>4000)||(iR e.Every 1 400||iR e.Days 1 127)))then 1 else
 bif exF e.Except==0 then (bif iR e.From 0 1439||(iR e.To 0 1439||iR e.Prio 0 9)then 1 else tagsF e.Tags)else exF e.Except
theorem entK (e:Entry) (h:J2 e):fZ e=some (zb e):=by
 obtain ⟨h1,h2,h3,h4,h5⟩:=h
 unfold vO at h1 h2
 unfold fZ zb
 simp only [o9 e.Key (by omega),o9 e.Item (by omega),lQ,exK e.Except (by omega),tagsK e.Tags h5 (by omega),ob_]
 cases qh e.Key with
 | false=>rfl
 | true =>
 cases qh e.Item with
 | false=>rfl
 | true =>
 simp only [Bool.not_true,cond_false,ob_,Bool.or_self,Bool.false_or]
 cases iR e.Version 0 1000000 with
 | true=>rfl
 | false =>
 cases iR e.First 0 e.Last with
 | true=>rfl
 | false =>
 cases decide (e.Last>4000)with
 | true=>rfl
 | false =>
 cases iR e.Every 1 400 with
 | true=>rfl
 | false =>
 cases iR e.Days 1 127 with
 | true=>rfl
 | false =>
 simp only [cond_false,ob_,Bool.or_self]
 cases hx:exF e.Except==0 with
 | false =>
  have:(exF e.Except != 0)=true:=by simp [bne,hx]
  simp only [this,cond_true,cond_false]
 | true =>
  have:(exF e.Except != 0)=false:=by simp [bne,hx]
  simp only [this,cond_true,cond_false]
  cases iR e.From 0 1439 with
  | true=>rfl
  | false =>
  cases iR e.To 0 1439 with
  | true=>rfl
  | false =>
  cases iR e.Prio 0 9 with
  | true=>rfl
  | false=>rfl
theorem Ke {e:Entry} (h:zb e=0):e.Key.size≠0:=by
 unfold zb at h
 cases hk:qh e.Key with
 | false=>rw [hk]at h;cases h
 | true=>exact Du hk
def GQ (p:Player):Int:=bif !qh p.Key || !qh p.Screen then 5 else bif iR p.Zone (-1440) 1440 then 1 else tagsF p.Tags
theorem playK (p:Player) (h:GoodP p):jb p=some (GQ p):=by
 obtain ⟨h1,h2,h4,h5⟩:=h
 unfold vO at h1 h2
 unfold jb GQ
 simp only [o9 p.Key (by omega),o9 p.Screen (by omega),lQ,tagsK p.Tags h5 (by omega),ob_]
 cases qh p.Key with
 | false=>rfl
 | true =>
 cases qh p.Screen with
 | false=>rfl
 | true=>cases iR p.Zone (-1440) 1440 <;> rfl
def winF (w:Window):Int:=bif iR w.From 0 w.To||decide (w.To>345686400000)then 1 else bif decide (w64 (w.To-w.From)>34560000000)then 2 else 0
theorem winK (w:Window):fJ w=some (winF w):=by
 unfold fJ winF
 simp only [lQ,ob_]
 cases iR w.From 0 w.To with
 | true=>rfl
 | false =>
 cases decide (w.To>345686400000)with
 | true=>rfl
 | false=>cases decide (w64 (w.To-w.From)>34560000000) <;> rfl
def or0 (a b:Int):Int:=bif a==0 then b else a
def memB (v:ByteArray) (l:List ByteArray):Bool:=l.any λx=>decide (v=x)
theorem x8 {v:ByteArray} {l:List ByteArray}:memB v l=true↔v∈l:=by simp [memB]
theorem Fy {v:ByteArray} {l:List ByteArray} (h:v∉l):memB v l=false:=by
 cases hb:memB v l with
 | false=>rfl
 | true=>exact absurd (x8.1 hb) h
def AR (l:List ByteArray):Prop:=∀i j (hi:i<l.length) (hj:j<l.length),i<j->lt l[i] l[j]
theorem vJ:∀(l:List ByteArray) (last:ByteArray),chk id BK last l=0->AR l/\∀x∈l,lt last x
 | [],last,h=>⟨λi j hi=>absurd hi (Nat.not_lt_zero i),by simp⟩
 | x::xs,last,h=>by
  rw [chk]at h
  cases he:BK last x==0 with
  | false=>rw [he]at h;simp only [cond_false]at h;rw [h]at he;cases he
  | true =>
   rw [he]at h
   simp only [cond_true,id]at h
   obtain ⟨h1,h2⟩:=vJ xs x h
   have hx:lt last x:=by
    unfold BK at he
    cases hk:qh x with
    | false=>rw [hk]at he;cases he
    | true =>
     cases hl:sLe x last with
     | true=>rw [hk,hl]at he;cases he
     | false =>
      have:=mt (vU x last).2 (by rw [hl];simp)
      exact Classical.not_not.1 this
   refine⟨λi j hi hj hij => ?_,λy hy => ?_⟩
   ·cases i with
    | zero=>cases j with
     | zero=>omega
     | succ j=>exact h2 _ (List.getElem_mem _)
    | succ i=>cases j with
     | zero=>omega
     | succ j=>exact h1 i j (by simpa using hi) (by simpa using hj) (by omega)
   ·rcases List.mem_cons.1 hy with rfl|hy
    ·exact hx
    ·exact lt_trans hx (h2 y hy)
theorem tagsF_0 {l:List ByteArray} (h:tagsF l=0):l.length<=20/\AR l:=by
 unfold tagsF at h
 by_cases hl:l.length>20
 ·rw [decide_eq_true hl]at h;cases h
 ·rw [decide_eq_false hl]at h
  exact⟨by omega,(vJ l zk h).1⟩
theorem H5 (x y:ByteArray):cmp_Less_string x y=some (sLt x y):=by
 unfold cmp_Less_string cmp_isNaN_string
 have:sNe x x=false:=by rw [DL];simp
 rw [this];rfl
theorem half (i j:Nat) (h:i<=1000000/\j<=1000000):Ce .u64 (IntKind.u64.wrap (w64 ((i:Int)+(j:Int)))) 1=some (((i+j) / 2:Nat):Int):=by
 have e1:w64 ((i:Int)+j)=((i+j:Nat):Int):=by rw [bD (by omega)];omega
 have e2:IntKind.u64.wrap ((i+j:Nat):Int)=((i+j:Nat):Int):=IntWalk.u64_in _ (by omega)
 rw [e1,e2]
 unfold Ce
 rw [if_neg (by omega)]
 congr 1
 show Int.fdiv _ (2 ^ 1)=_
 rw [Int.fdiv_eq_ediv_of_nonneg _ (by decide)]
 omega
structure Ends (l:List ByteArray) (t:ByteArray) (i j:Nat):Prop where
 le:i<=j
 len:j<=l.length
 lo:∀k (h:k<l.length),k<i->lt l[k] t
 hi:∀k (h:k<l.length),j<=k->¬lt l[k] t
theorem Hw (l:List ByteArray) (t:ByteArray) (i j:Nat) (hij:i<j) (hm:(i+j) / 2<l.length) (hl:j<=1000) :
  aX l t ((i:Int),(j:Int))=some (bif sLt l[(i+j) / 2] t then .go ((((i+j) / 2+1:Nat):Int),(j:Int))else .go ((i:Int),(((i+j) / 2:Nat):Int))):=by
 have e1:decide ((i:Int)<(j:Int))=true:=by simp;omega
 have ew:w64 (((i+j) / 2:Nat):Int)=(((i+j) / 2:Nat):Int):=bD (by omega)
 have ew2:w64 ((((i+j) / 2:Nat):Int)+1)=(((i+j) / 2+1:Nat):Int):=by rw [bD (by omega)];omega
 simp only [aX,e1,cond_true,half i j (by omega),ob_,ew,ew2,lS,List.getElem?_eq_getElem hm,H5]
 cases sLt l[(i+j) / 2] t <;> rfl
theorem vX (l:List ByteArray) (t:ByteArray) (hr:AR l) (hl:l.length<=1000):∀(d i j:Nat),j-i<=d->Ends l t i j->∃m:Nat,iterN (λs=>aX l t s) (d+1) ((i:Int),(j:Int))=some (.go ((m:Int),(m:Int)))/\Ends l t m m
 | d,i,j,hd,he=>by
  have hlen:=he.len
  have hle:=he.le
  by_cases hij:i<j
  ·have hm:(i+j) / 2<l.length:=by omega
   rw [iterN,Hw l t i j hij hm (by omega),ob_]
   cases d with
   | zero=>omega
   | succ d =>
    cases hc:sLt l[(i+j) / 2] t with
    | true =>
     have hlt:=(p8 _ _).1 hc
     simp only [cond_true]
     refine vX l t hr hl d ((i+j) / 2+1) j (by omega) ⟨by omega,hlen,λk hk hki => ?_,he.hi⟩
     rcases Nat.lt_or_ge k ((i+j) / 2)with h|h
     ·exact lt_trans (hr k _ hk hm h) hlt
     ·have:k=(i+j) / 2:=by omega
      subst this;exact hlt
    | false =>
     have hlt:=mt (p8 _ _).2 (by rw [hc];simp)
     simp only [cond_false]
     refine vX l t hr hl d i ((i+j) / 2) (by omega) ⟨by omega,by omega,he.lo,λk hk hki => ?_⟩
     rcases Nat.lt_or_ge ((i+j) / 2) k with h|h
     ·exact λhx=>hlt (lt_trans (hr _ k hm hk h) hx)
     ·have:k=(i+j) / 2:=by omega
      subst this;exact hlt
  ·have e1:decide ((i:Int)<(j:Int))=false:=by simp;omega
   have:i=j:=by omega
   subst this
   have hst:aX l t ((i:Int),(i:Int))=some (.brk ((i:Int),(i:Int))):=by simp only [aX,e1,cond_false]
   rw [iterN,hst,ob_]
   exact⟨i,rfl,he⟩
theorem bs_eq (l:List ByteArray) (t:ByteArray) (hr:AR l) (hl:l.length<=1000):∃i:Int,dM l t=some (i,memB t l):=by
 obtain ⟨m,h1,h2⟩:=vX l t hr hl l.length 0 l.length (by omega) ⟨by omega,Nat.le_refl _,λk _ h=>absurd h (Nat.not_lt_zero k),λk hk h=>absurd h (by omega)⟩
 have h3:=gQ h1
 refine⟨m,?_⟩
 unfold dM
 have h4:fC ((0:Int),(l.length:Int)) (λs=>aX l t s)=some (Ctl.go ((m:Int),(m:Int))):=h3
 rw [h4,ob_,qU]
 have key:t∈l↔∃h:m<l.length,l[m]=t:=by
  constructor
  ·intro hm
   obtain ⟨k,hk,he⟩:=List.getElem_of_mem hm
   have hk1:¬k<m:=λh=>by have:=h2.lo k hk h;rw [he]at this;exact kR _ this
   have hml:m<l.length:=by omega
   refine⟨hml,?_⟩
   rcases Nat.lt_or_ge m k with h|h
   ·have h5:=hr m k hml hk h
    rw [he]at h5
    exact absurd h5 (h2.hi m hml (Nat.le_refl _))
   ·have:k=m:=by omega
    subst this;exact he
  ·rintro ⟨h,he⟩
   rw [<- he];exact List.getElem_mem _
 by_cases hml:m<l.length
 ·have e1:decide ((m:Int)<(l.length:Int))=true:=by simp;omega
  simp only [e1,cond_true,lS,List.getElem?_eq_getElem hml,ob_,uz]
  have hn:slices_isNaN_string l[m]=some false:=by
   unfold slices_isNaN_string;rw [DL];simp
  rw [hn]
  by_cases he:l[m]=t
  ·simp only [decide_eq_true he,cond_true,ob_,x8.2 (key.2 ⟨hml,he⟩)]
  ·simp only [decide_eq_false he,cond_false,ob_,Fy (λh=>he (key.1 h).2)]
 ·have e1:decide ((m:Int)<(l.length:Int))=false:=by simp;omega
  simp only [e1,cond_false,ob_]
  rw [Fy (λh=>hml (key.1 h).1)]
namespace I
def lt (a b:Int):Prop:=a<b
theorem kR (a:Int):¬lt a a:=Int.lt_irrefl a
theorem lt_trans {a b c:Int} (h:lt a b) (k:lt b c):lt a c:=Int.lt_trans h k
def sLt (a b:Int):Bool:=decide (a<b)
theorem p8 (a b:Int):sLt a b=true↔lt a b:=by simp [sLt,lt]
def memB (v:Int) (l:List Int):Bool:=l.any λx=>decide (v=x)
theorem x8 {v:Int} {l:List Int}:memB v l=true↔v∈l:=by simp [memB]
theorem Fy {v:Int} {l:List Int} (h:v∉l):memB v l=false:=by
 cases hb:memB v l with
 | false=>rfl
 | true=>exact absurd (x8.1 hb) h
def AR (l:List Int):Prop:=∀i j (hi:i<l.length) (hj:j<l.length),i<j->lt l[i] l[j]
theorem H5 (x y:Int):cmp_Less_int x y=some (sLt x y):=by
 unfold cmp_Less_int cmp_isNaN_int
 have:(x != x)=false:=by simp
 rw [this];rfl
structure Ends (l:List Int) (t:Int) (i j:Nat):Prop where
 le:i<=j
 len:j<=l.length
 lo:∀k (h:k<l.length),k<i->lt l[k] t
 hi:∀k (h:k<l.length),j<=k->¬lt l[k] t
theorem Hw (l:List Int) (t:Int) (i j:Nat) (hij:i<j) (hm:(i+j) / 2<l.length) (hl:j<=1000) :
  bu l t ((i:Int),(j:Int))=some (bif sLt l[(i+j) / 2] t then .go ((((i+j) / 2+1:Nat):Int),(j:Int))else .go ((i:Int),(((i+j) / 2:Nat):Int))):=by
 have e1:decide ((i:Int)<(j:Int))=true:=by simp;omega
 have ew:w64 (((i+j) / 2:Nat):Int)=(((i+j) / 2:Nat):Int):=bD (by omega)
 have ew2:w64 ((((i+j) / 2:Nat):Int)+1)=(((i+j) / 2+1:Nat):Int):=by rw [bD (by omega)];omega
 simp only [bu,e1,cond_true,half i j (by omega),ob_,ew,ew2,lS,List.getElem?_eq_getElem hm,H5]
 cases sLt l[(i+j) / 2] t <;> rfl
theorem vX (l:List Int) (t:Int) (hr:AR l) (hl:l.length<=1000):∀(d i j:Nat),j-i<=d->Ends l t i j->∃m:Nat,iterN (λs=>bu l t s) (d+1) ((i:Int),(j:Int))=some (.go ((m:Int),(m:Int)))/\Ends l t m m
 | d,i,j,hd,he=>by
  have hlen:=he.len
  have hle:=he.le
  by_cases hij:i<j
  ·have hm:(i+j) / 2<l.length:=by omega
   rw [iterN,Hw l t i j hij hm (by omega),ob_]
   cases d with
   | zero=>omega
   | succ d =>
    cases hc:sLt l[(i+j) / 2] t with
    | true =>
     have hlt:=(p8 _ _).1 hc
     simp only [cond_true]
     refine vX l t hr hl d ((i+j) / 2+1) j (by omega) ⟨by omega,hlen,λk hk hki => ?_,he.hi⟩
     rcases Nat.lt_or_ge k ((i+j) / 2)with h|h
     ·exact lt_trans (hr k _ hk hm h) hlt
     ·have:k=(i+j) / 2:=by omega
      subst this;exact hlt
    | false =>
     have hlt:=mt (p8 _ _).2 (by rw [hc];simp)
     simp only [cond_false]
     refine vX l t hr hl d i ((i+j) / 2) (by omega) ⟨by omega,by omega,he.lo,λk hk hki => ?_⟩
     rcases Nat.lt_or_ge ((i+j) / 2) k with h|h
     ·exact λhx=>hlt (lt_trans (hr _ k hm hk h) hx)
     ·have:k=(i+j) / 2:=by omega
      subst this;exact hlt
  ·have e1:decide ((i:Int)<(j:Int))=false:=by simp;omega
   have:i=j:=by omega
   subst this
   have hst:bu l t ((i:Int),(i:Int))=some (.brk ((i:Int),(i:Int))):=by simp only [bu,e1,cond_false]
   rw [iterN,hst,ob_]
   exact⟨i,rfl,he⟩
theorem bs_eq (l:List Int) (t:Int) (hr:AR l) (hl:l.length<=1000):∃i:Int,dA l t=some (i,memB t l):=by
 obtain ⟨m,h1,h2⟩:=vX l t hr hl l.length 0 l.length (by omega) ⟨by omega,Nat.le_refl _,λk _ h=>absurd h (Nat.not_lt_zero k),λk hk h=>absurd h (by omega)⟩
 have h3:=gQ h1
 refine⟨m,?_⟩
 unfold dA
 have h4:fC ((0:Int),(l.length:Int)) (λs=>bu l t s)=some (Ctl.go ((m:Int),(m:Int))):=h3
 rw [h4,ob_,qU]
 have key:t∈l↔∃h:m<l.length,l[m]=t:=by
  constructor
  ·intro hm
   obtain ⟨k,hk,he⟩:=List.getElem_of_mem hm
   have hk1:¬k<m:=λh=>by have:=h2.lo k hk h;rw [he]at this;exact kR _ this
   have hml:m<l.length:=by omega
   refine⟨hml,?_⟩
   rcases Nat.lt_or_ge m k with h|h
   ·have h5:=hr m k hml hk h
    rw [he]at h5
    exact absurd h5 (h2.hi m hml (Nat.le_refl _))
   ·have:k=m:=by omega
    subst this;exact he
  ·rintro ⟨h,he⟩
   rw [<- he];exact List.getElem_mem _
 by_cases hml:m<l.length
 ·have e1:decide ((m:Int)<(l.length:Int))=true:=by simp;omega
  simp only [e1,cond_true,lS,List.getElem?_eq_getElem hml,ob_,Bool.beq_eq_decide_eq]
  have hn:gX l[m]=some false:=by
   unfold gX;simp
  rw [hn]
  by_cases he:l[m]=t
  ·simp only [decide_eq_true he,cond_true,ob_,x8.2 (key.2 ⟨hml,he⟩)]
  ·simp only [decide_eq_false he,cond_false,ob_,Fy (λh=>he (key.1 h).2)]
 ·have e1:decide ((m:Int)<(l.length:Int))=false:=by simp;omega
  simp only [e1,cond_false,ob_]
  rw [Fy (λh=>hml (key.1 h).1)]
theorem vJ:∀(l:List Int) (p:Option Int),MS G9 p l=0->AR l/\∀x∈l,∀y,p=some y->lt y x
 | [],p,h=>⟨λi j hi=>absurd hi (Nat.not_lt_zero i),by simp⟩
 | x::xs,p,h=>by
  rw [MS]at h
  cases he:G9 p x==0 with
  | false=>rw [he]at h;simp only [cond_false]at h;rw [h]at he;cases he
  | true =>
   rw [he]at h
   simp only [cond_true]at h
   obtain ⟨h1,h2⟩:=vJ xs (some x) h
   have hx:∀y,p=some y->lt y x:=λy hy=>by
    subst hy
    unfold G9 at he
    cases hk:iR x 0 4000 with
    | true=>rw [hk]at he;cases he
    | false =>
     cases hl:leP (some y) x with
     | true=>rw [hk,hl]at he;cases he
     | false =>
      simp only [leP,decide_eq_false_iff_not]at hl
      show y<x
      omega
   refine⟨λi j hi hj hij => ?_,λy hy z hz => ?_⟩
   ·cases i with
    | zero=>cases j with
     | zero=>omega
     | succ j=>exact h2 _ (List.getElem_mem _) x rfl
    | succ i=>cases j with
     | zero=>omega
     | succ j=>exact h1 i j (by simpa using hi) (by simpa using hj) (by omega)
   ·rcases List.mem_cons.1 hy with rfl|hy
    ·exact hx z hz
    ·exact lt_trans (hx z hz) (h2 y hy x rfl)
theorem exF_0 {l:List Int} (h:exF l=0):l.length<=100/\AR l:=by
 unfold exF at h
 by_cases hl:l.length>100
 ·rw [decide_eq_true hl]at h;cases h
 ·rw [decide_eq_false hl]at h
  exact⟨by omega,(vJ l none h).1⟩
end I
def Bl (e:Entry) (p:Player):Bool := !(e.Tags.any λt => !memB t p.Tags)
theorem fitK (e:Entry) (p:Player) (h1:e.Tags.length<=1000) (h2:tagsF p.Tags=0):nZ e p=some (Bl e p):=by
 obtain ⟨hl,hr⟩:=tagsF_0 h2
 have run:∀(xs:List ByteArray) (k:Nat),forR (λk x u=>jK p k x u) xs k ()=some (bif xs.any (λt => !memB t p.Tags)then .ret false else .go ()):=by
  intro xs
  induction xs with
  | nil=>exact λk=>rfl
  | cons x xs ih =>
   intro k
   obtain ⟨i,hi⟩:=bs_eq p.Tags x hr (by omega)
   have hst:jK p k x ()=some (bif !memB x p.Tags then .ret false else .go ()):=by
    simp only [jK,hi,ob_];cases memB x p.Tags <;> rfl
   rw [forR,hst,ob_]
   cases hm:memB x p.Tags with
   | true=>simp only [Bool.not_true,cond_false,List.any_cons,hm,Bool.false_or];exact ih (k+1)
   | false=>simp [hm]
 unfold nZ Bl
 rw [lH (by omega),run e.Tags 0,ob_]
 cases e.Tags.any (λt => !memB t p.Tags) <;> rfl
def collect (p:Int->Bool) (f:Int->Window):Nat->Int->List Window
 | 0,_=>[]
 | n+1,d=>(bif p d then [f d]else [])++collect p f n (d+1)
theorem CG (p:Int->Bool) (f:Int->Window):∀(n:Nat) (d:Int),(collect p f n d).length<=n
 | 0,_=>Nat.le_refl 0
 | n+1,d=>by
  have:=CG p f n (d+1)
  simp only [collect,List.length_append]
  cases p d <;> simp <;> omega
theorem oW {p:Int->Bool} {f:Int->Window}:∀(n:Nat) (d:Int),(∀x,d<=x->x<d+n->p x=false)->collect p f n d=[]
 | 0,_,_=>rfl
 | n+1,d,h=>by
  simp only [collect,h d (by omega) (by omega),cond_false,List.nil_append]
  exact oW n (d+1) (λx h1 h2=>h x (by omega) (by omega))
theorem zA {p p':Int->Bool} {f f':Int->Window}:∀(n:Nat) (d:Int),(∀x,d<=x->x<d+n->p x=p' x/\f x=f' x)->collect p f n d=collect p' f' n d
 | 0,_,_=>rfl
 | n+1,d,h=>by
  obtain ⟨h1,h2⟩:=h d (by omega) (by omega)
  simp only [collect,h1,h2]
  rw [zA n (d+1) (λx h1 h2=>h x (by omega) (by omega))]
theorem uT (p:Int->Bool) (f:Int->Window):∀(n m:Nat) (d:Int),collect p f (n+m) d=collect p f n d++collect p f m (d+n)
 | 0,m,d=>by simp [collect]
 | n+1,m,d=>by
  rw [show n+1+m=(n+m)+1 by omega]
  simp only [collect,List.append_assoc]
  rw [uT p f n m (d+1),show d+1+(n:Int)=d+((n+1:Nat):Int) by omega]
theorem JH (p:Int->Bool) (f:Int->Window) (a b lo hi:Int) (h1:a<=lo) (h2:hi<=b) (h:∀x,a<=x->x<=b->p x=true->lo<=x/\x<=hi) :
  collect p f (b+1-a).toNat a=collect p f (hi+1-lo).toNat lo:=by
 by_cases hh:lo<=hi
 ·have e:(b+1-a).toNat=(lo-a).toNat+((hi+1-lo).toNat+(b-hi).toNat):=by omega
  rw [e,uT,uT,show a+((lo-a).toNat:Int)=lo by omega,oW (lo-a).toNat a (λx x1 x2 => ?_),oW (b-hi).toNat _ (λx x1 x2 => ?_),List.nil_append,List.append_nil]
  ·cases hp:p x with
   | false=>rfl
   | true=>have:=h x (by omega) (by omega) hp;omega
  ·cases hp:p x with
   | false=>rfl
   | true=>have:=h x (by omega) (by omega) hp;omega
 ·rw [show (hi+1-lo).toNat=0 by omega,oW (b+1-a).toNat a (λx x1 x2 => ?_)]
  ·rfl
  ·cases hp:p x with
   | false=>rfl
   | true=>have:=h x (by omega) (by omega) hp;omega
theorem Gl {ρ:Type} {body:List Window×Int->Option (Ctl (List Window×Int) ρ)} {p:Int->Bool} {f:Int->Window} (lo hi:Int)
  (hb:∀(acc:List Window) d,lo<=d->d<=hi->acc.length<=1000000->body (acc,d)=some (.go (acc++(bif p d then [f d]else []),d+1))) (he:∀acc d,hi<d->body (acc,d)=some (.brk (acc,d))) :
  ∀(n:Nat) (acc:List Window) (d:Int),lo<=d->(hi+1-d).toNat=n->acc.length+n<=1000000->∃d',iterN body (n+1) (acc,d)=some (.go (acc++collect p f n d,d'))
 | 0,acc,d,hlo,hn,hl=>by
  rw [iterN,he acc d (by omega),ob_]
  exact⟨d,by simp [collect]⟩
 | n+1,acc,d,hlo,hn,hl=>by
  rw [iterN,hb acc d hlo (by omega) (by omega),ob_]
  have hle:(bif p d then [f d]else []).length<=1:=by cases p d <;> simp
  obtain ⟨d',h⟩:=Gl lo hi hb he n (acc++(bif p d then [f d]else [])) (d+1) (by omega) (by omega) (by rw [List.length_append];omega)
  refine⟨d',?_⟩
  simp only [h,collect,List.append_assoc]
theorem Nj {ρ:Type} {body:List Window×Int->Option (Ctl (List Window×Int) ρ)} {p:Int->Bool} {f:Int->Window} (lo hi:Int) (hl:hi-lo<=100000)
  (hb:∀(acc:List Window) d,lo<=d->d<=hi->acc.length<=1000000->body (acc,d)=some (.go (acc++(bif p d then [f d]else []),d+1))) (he:∀acc d,hi<d->body (acc,d)=some (.brk (acc,d))) :
  ∃d',fC ([],lo) body=some (.go (collect p f (hi+1-lo).toNat lo,d')):=by
 obtain ⟨d',h⟩:=Gl lo hi hb he (hi+1-lo).toNat [] lo (Int.le_refl _) rfl (by simp;omega)
 exact⟨d',by have:=gQ h;simpa using this⟩
def bitB (a r:Int):Bool:=match Ce .i64 a r with
 | some y=>ru .i64 y 1==1
 | none=>false
def O7 (a r:Nat):Bool:=match AZ .i64 1 (r:Int),Ce .i64 (a:Int) (r:Int)with
 | some x,some y=>(ru .i64 (a:Int) x==0) == !(ru .i64 y 1==1)
 | _,_=>false
theorem OP:∀a:Fin 128,∀r:Fin 7,O7 a.val r.val=true:=by decide +kernel
theorem bits (a r:Int) (ha:0<=a/\a<=127) (hr:0<=r/\r<7):∃x y,AZ .i64 1 r=some x/\Ce .i64 a r=some y/\(ru .i64 a x==0) = !(ru .i64 y 1==1)/\bitB a r=(ru .i64 y 1==1):=by
 have h:=OP ⟨a.toNat,by omega⟩ ⟨r.toNat,by omega⟩
 simp only [O7,show ((a.toNat:Nat):Int)=a by omega,show ((r.toNat:Nat):Int)=r by omega]at h
 unfold bitB
 cases h1:AZ .i64 1 r with
 | none=>rw [h1]at h;cases h
 | some x =>
  cases h2:Ce .i64 a r with
  | none=>rw [h1,h2]at h;cases h
  | some y =>
   rw [h1,h2]at h
   exact⟨x,y,rfl,rfl,eq_of_beq h,rfl⟩
def IU (e:Entry) (d:Int):Bool:=((d-e.First).tmod e.Every==0)&&(bitB e.Days (d.tmod 7) && !I.memB d e.Except)
structure Right (e:Entry):Prop where
 first:0<=e.First/\e.First<=e.Last
 last:e.Last<=4000
 every:1<=e.Every
 days:1<=e.Days/\e.Days<=127
 ex:exF e.Except=0
 from_:0<=e.From/\e.From<=1439
 to_:0<=e.To/\e.To<=1439
theorem Aa {n lo hi:Int} (h:iR n lo hi=false):lo<=n/\n<=hi:=by
 simp only [iR,Bool.or_eq_false_iff,decide_eq_false_iff_not]at h;omega
theorem lG {n lo hi:Int} (h:lo<=n/\n<=hi):iR n lo hi=false:=by
 simp only [iR,Bool.or_eq_false_iff,decide_eq_false_iff_not];omega
theorem entF_0 {e:Entry} (h:zb e=0):Right e:=by
 unfold zb at h
 cases hk:(!qh e.Key || !qh e.Item)with
 | true=>rw [hk]at h;cases h
 | false =>
 rw [hk,cond_false]at h
 cases hb:(iR e.Version 0 1000000||(iR e.First 0 e.Last||(decide (e.Last>4000)||(iR e.Every 1 400||iR e.Days 1 127))))with
 | true=>rw [hb]at h;cases h
 | false =>
 rw [hb,cond_false]at h
 simp only [Bool.or_eq_false_iff,decide_eq_false_iff_not]at hb
 cases hx:exF e.Except==0 with
 | false=>rw [hx,cond_false]at h;rw [h]at hx;cases hx
 | true =>
 rw [hx,cond_true]at h
 cases hc:(iR e.From 0 1439||(iR e.To 0 1439||iR e.Prio 0 9))with
 | true=>rw [hc]at h;cases h
 | false =>
 simp only [Bool.or_eq_false_iff]at hc
 exact⟨Aa hb.2.1,by omega,(Aa hb.2.2.2.1).1,Aa hb.2.2.2.2,eq_of_beq hx,Aa hc.1,Aa hc.2.1⟩
theorem dayK (e:Entry) (h:Right e) (d:Int) (h1:e.First<=d) (h2:d<=e.Last):jT e d=some (IU e d):=by
 have hl:=h.last
 have hf:=h.first
 have hd:=h.days
 obtain ⟨x,y,b1,b2,b3,b4⟩:=bits e.Days (d.tmod 7) (by omega) ⟨Int.tmod_nonneg _ (by omega),Int.tmod_lt_of_pos _ (by decide)⟩
 obtain ⟨hx1,hx2⟩:=I.exF_0 h.ex
 obtain ⟨i,hi⟩:=I.bs_eq e.Except d hx2 (by omega)
 have he0:e.Every≠0:=by have:=h.every;omega
 unfold jT IU
 simp only [lQ,lG ⟨h1,h2⟩,ob_,cond_false,bD (show -9223372036854775808<=d-e.First/\d-e.First<=9223372036854775807 by omega),IJ,if_neg he0,b1,b3,b4,hi]
 cases hq:(d-e.First).tmod e.Every==0 with
 | false =>
  have:((d-e.First).tmod e.Every != 0)=true:=by simp [bne,hq]
  simp only [this,cond_true,ob_,Bool.false_and]
 | true =>
  have:((d-e.First).tmod e.Every != 0)=false:=by simp [bne,hq]
  simp only [this,cond_false,ob_,Bool.true_and]
  cases (ru .i64 y 1==1) <;> simp
end Go.Proofs.YticmkhcacamhkaaGreatDoor.Law

