import Derived.Test.YtdenjndllgahgaaGreatDoorPlSort
/-
  PLAIN LEMMAS: the library's stable sort of a few elements by a comparison, and Compact, for elements of any kind.
-/
namespace Go.Eng
set_option linter.unusedVariables false
set_option linter.unusedSimpArgs false
noncomputable def stL1 {α:Type} (cmp:α->α->Option Int) (n_2:Int) (s_9:(List α)×Int×Int):Option (Ctl ((List α)×Int×Int) (Unit)) :=
 bif (decide (s_9.2.2<=n_2))then (zS cmp s_9.1 s_9.2.1 s_9.2.2).bind λr_15=>(iE r_15 s_9.1).bind λ_=>some (.go (r_15,s_9.2.2,(w64 (s_9.2.2+20))))else some (.brk (s_9.1,s_9.2.1,s_9.2.2))
def stL2 (s_26:Int) (n_2:Int) (s_37:Unit):Option (Ctl (Unit) (Unit)) :=
 bif (decide ((w64 (2*s_26))<=n_2))then none else some (.brk ())
noncomputable def stL3 (n_2:Int) (s_26:Int):Option (Ctl (Int) (Unit)) :=
 bif (decide (s_26<n_2))then (gp () (λs=>stL2 s_26 n_2 s)).bind λo_40=>bN o_40 (λs_37=>(bif (decide ((w64 (0+s_26))<n_2))then none else some ()).bind λv_43=>some (.go (w64 (s_26*2)))) (λ_=>none)else some (.brk s_26)
noncomputable def Dy {α:Type} (cmp:α->α->Option Int) (data_1:(List α)) (n_2:Int):Option ((List α)) :=
 (gp (data_1,0,20) (λs=>stL1 cmp n_2 s)).bind λo_12=>bN o_12 (λs_9=>(zS cmp s_9.1 s_9.2.1 n_2).bind λr_18=>(iE r_18 s_9.1).bind λ_=>(gp 20 (λs=>stL3 n_2 s)).bind λo_29=>bN o_29 (λs_26=>some r_18) (λ_=>none)) (λ_=>none)
def eP {α:Type} (c:α->α->Int) (v:α):List α->List α
 | []=>[v]
 | u::R=>bif decide (c v u<0)then u::eP c v R else v::u::R
def nk {α:Type} (c:α->α->Int):List α->List α->List α
 | R,[]=>R
 | R,v::Q=>nk c (eP c v R) Q
def iO {α:Type} (c:α->α->Int) (l:List α):List α:=(nk c [] l).reverse
theorem lh {α:Type} (c:α->α->Int) (v:α):∀R:List α,(eP c v R).Perm (v::R)
 | []=>List.Perm.refl _
 | u::R=>by
  unfold eP
  cases decide (c v u<0)with
  | true=>exact ((lh c v R).cons u).trans (List.Perm.swap v u R)
  | false=>exact List.Perm.refl _
theorem uq {α:Type} (c:α->α->Int):∀(Q R:List α),(nk c R Q).Perm (Q++R)
 | [],R=>List.Perm.refl _
 | v::Q,R=>by
  have h1:=uq c Q (eP c v R)
  refine h1.trans ?_
  refine ((lh c v R).append_left Q).trans ?_
  exact List.perm_middle
theorem yS {α:Type} (c:α->α->Int) (l:List α):(iO c l).Perm l:=by
 unfold iO
 refine (List.reverse_perm _).trans ?_
 simpa using uq c l []
theorem mG {α:Type} (c:α->α->Int) (l:List α):(iO c l).length=l.length:=(yS c l).length_eq
theorem wU {α:Type} (c:α->α->Int) (v:α) (R:List α):(eP c v R).length=R.length+1:=by simpa using (lh c v R).length_eq
section
variable {α:Type} {cmp:α->α->Option Int} {c:α->α->Int} {p:α->Prop}
theorem Gf (hc:∀a b,p a->p b->cmp a b=some (c a b)) (v:α) (hv:p v):∀(R B:List α),R.length<=1000000000->(∀a∈R,p a) ->
  ∃i,bL (λs=>xW cmp 0 s) (R.length+1) (R.reverse++v::B,(R.length:Int))=some (.go ((eP c v R).reverse++B,i))
 | [],B,hn,hp=>⟨0,by
   show bL (λs=>xW cmp 0 s) 1 (v::B,0)=_
   simp only [bL]
   show ((xW cmp 0 (v::B,0)).bind _)=_
   rw [insL1_0];rfl⟩
 | u::R,B,hn,hp=>by
  simp only [List.length_cons]at hn
  have hcu:=hc v u hv (hp u (by simp))
  have e:(u::R).reverse++v::B=R.reverse++u::v::B:=by simp
  have hs:=insL1_s (cmp:=cmp) u v R.reverse B hcu (by simpa using (by omega:R.length<=1000000000))
  rw [List.length_reverse]at hs
  rw [e,List.length_cons,bL,hs]
  unfold eP
  cases hd:decide (c v u<0)with
  | true =>
   obtain ⟨i,hi⟩:=Gf hc v hv R (u::B) (by omega) (λa ha=>hp a (List.mem_cons_of_mem _ ha))
   refine⟨i,?_⟩
   simp only [cond_true,ob_]
   rw [hi];simp
  | false =>
   refine⟨((R.length+1:Nat):Int),?_⟩
   simp only [cond_false,ob_]
   simp
theorem DX (hc:∀a b,p a->p b->cmp a b=some (c a b)):∀(Q R:List α),R.length+Q.length<=1000000000->(∀a∈R,p a)->(∀a∈Q,p a) ->
  bL (λs=>uN cmp ((R.length+Q.length:Nat):Int) 0 s) (Q.length+1) (R.reverse++Q,(R.length:Int))=some (.go ((nk c R Q).reverse,((R.length+Q.length:Nat):Int)))
 | [],R,hn,hr,hq=>by
  have hd:decide ((R.length:Int)<((R.length+([]:List α).length:Nat):Int))=false:=decide_eq_false (by simp)
  simp only [bL]
  unfold uN
  simp only [hd,cond_false,ob_]
  simp [nk]
 | v::Q,R,hn,hr,hq=>by
  simp only [List.length_cons]at hn
  have hd:decide ((R.length:Int)<((R.length+(v::Q).length:Nat):Int))=true:=decide_eq_true (by simp only [List.length_cons];omega)
  obtain ⟨i,hi⟩:=Gf hc v (hq v (by simp)) R Q (by omega) hr
  have hw:w64 ((R.length:Int)+1)=((R.length+1:Nat):Int):=by rw [zC _ (by omega)];omega
  have hstep:uN cmp ((R.length+(v::Q).length:Nat):Int) 0 (R.reverse++v::Q,(R.length:Int))=some (.go ((eP c v R).reverse++Q,((R.length+1:Nat):Int))):=by
   unfold uN
   simp only [hd,cond_true]
   rw [fZ hi]
   simp only [ob_,hw,bN]
  have ih:=DX hc Q (eP c v R) (by rw [wU];omega) (λa ha=>by
   have:=(lh c v R).mem_iff.1 ha
   rcases List.mem_cons.1 this with rfl|h
   ·exact hq _ (by simp)
   ·exact hr a h) (λa ha=>hq a (List.mem_cons_of_mem _ ha))
  rw [List.length_cons,bL]
  simp only [List.length_cons]at hstep
  rw [hstep]
  simp only [ob_]
  rw [wU]at ih
  have e2:R.length+1+Q.length=R.length+(Q.length+1):=by omega
  rw [e2]at ih
  exact ih
theorem Ew (hc:∀a b,p a->p b->cmp a b=some (c a b)) (l:List α) (hl:l.length<=100000000) (hp:∀a∈l,p a):zS cmp l 0 (l.length:Int)=some (iO c l):=by
 unfold zS
 have hw:w64 ((0:Int)+1)=1:=by decide
 rw [hw]
 cases l with
 | nil =>
  have h1:bL (λs=>uN cmp ((([]:List α).length:Nat):Int) 0 s) 1 (([]:List α),(1:Int))=some (.go ([],1)):=by
   simp only [bL]
   unfold uN
   have hd:decide ((1:Int)<((([]:List α).length:Nat):Int))=false:=rfl
   simp only [hd,cond_false,ob_]
  rw [fZ h1];rfl
 | cons v Q =>
  simp only [List.length_cons]at hl
  have h1:=DX hc Q [v] (by simp only [List.length_cons,List.length_nil];omega) (λa ha=>by rw [List.mem_singleton.1 ha];exact hp v (by simp)) (λa ha=>hp a (List.mem_cons_of_mem _ ha))
  have e:([v].length+Q.length:Nat)=(v::Q).length:=by simp only [List.length_cons,List.length_nil];omega
  rw [e]at h1
  have h2:=fZ h1
  have h3:gp (v::Q,(1:Int)) (λs=>uN cmp (((v::Q).length:Nat):Int) 0 s)=_:=h2
  rw [h3];rfl
theorem Aw (hc:∀a b,p a->p b->cmp a b=some (c a b)) (l:List α) (hl:l.length<=19) (hp:∀a∈l,p a):Dy cmp l (l.length:Int)=some (iO c l):=by
 unfold Dy
 have h1:bL (λs=>stL1 cmp (l.length:Int) s) 1 (l,(0:Int),(20:Int))=some (.go (l,0,20)):=by
  simp only [bL]
  unfold stL1
  have hd:decide ((20:Int)<=(l.length:Int))=false:=decide_eq_false (by omega)
  simp only [hd,cond_false,ob_]
 have h2:bL (λs=>stL3 (l.length:Int) s) 1 (20:Int)=some (.go 20):=by
  simp only [bL]
  unfold stL3
  have hd:decide ((20:Int)<(l.length:Int))=false:=decide_eq_false (by omega)
  simp only [hd,cond_false,ob_]
 rw [fZ h1]
 simp only [ob_,bN]
 rw [Ew hc l (by omega) hp]
 have hs:iE (iO c l) l=some ():=by unfold iE;rw [if_pos (mG c l)]
 simp only [ob_,hs]
 rw [fZ h2];rfl
theorem Cs {c2:α->α->Int} (l:List α) (h:∀a∈l,∀b∈l,(c a b<0↔c2 a b<0)):iO c l=iO c2 l:=by
 have h1:∀(R:List α) (v:α),v∈l->(∀a∈R,a∈l)->eP c v R=eP c2 v R:=by
  intro R
  induction R with
  | nil=>intro v _ _;rfl
  | cons u R ih =>
   intro v hv hR
   unfold eP
   rw [decide_eq_decide.2 (h v hv u (hR u (by simp))),ih v hv (λa ha=>hR a (List.mem_cons_of_mem _ ha))]
 have h2:∀(Q R:List α),(∀a∈Q,a∈l)->(∀a∈R,a∈l)->nk c R Q=nk c2 R Q:=by
  intro Q
  induction Q with
  | nil=>intro R _ _;rfl
  | cons v Q ih =>
   intro R hQ hR
   show nk c (eP c v R) Q=nk c2 (eP c2 v R) Q
   rw [h1 R v (hQ v (by simp)) hR]
   refine ih _ (λa ha=>hQ a (List.mem_cons_of_mem _ ha)) (λa ha => ?_)
   rcases List.mem_cons.1 ((lh c2 v R).mem_iff.1 ha)with rfl|ha
   ·exact hQ _ (by simp)
   ·exact hR a ha
 unfold iO
 rw [h2 l [] (λa ha=>ha) (λa ha=>by cases ha)]
end
section
variable {α:Type} (eqv:α->α->Bool) (z:α)
variable {eqv} (he:∀a b,eqv a b=true↔a=b)
include he
end
end Go.Eng

