/-
  THE PLAIN LAW (part 1).
-/
import Derived.Test.YtnfojnnfidnikaaGreatDoorEng5
import Derived.Test.YtnfojnnfidnikaaGreatDoorDefs
import Derived.Lib.ItoaLen
namespace Go.Eng
set_option linter.unusedVariables false
set_option linter.unusedSimpArgs false
def CV {α:Type} (cmp:α->α->Option Int) (a_2:Int) (s_21:(List α)×Int):Option (Ctl ((List α)×Int) (Unit)) :=
 (bif (decide (s_21.2>a_2))then (inR s_21.2 s_21.1).bind λ_=>(s_21.1[(0+(s_21.2).toNat)]?).bind λe_30=>(inR (w64 (s_21.2-1)) s_21.1).bind λ_=>(s_21.1[(0+((w64 (s_21.2-1))).toNat)]?).bind λe_33=>(cmp e_30 e_33).bind λr_35=>some (decide (r_35<0))else some false).bind λv_26=>bif v_26 then (inR (w64 (s_21.2-1)) s_21.1).bind λ_=>(s_21.1[(0+((w64 (s_21.2-1))).toNat)]?).bind λe_39=>(inR s_21.2 s_21.1).bind λ_=>(s_21.1[(0+(s_21.2).toNat)]?).bind λe_42=>(inR s_21.2 s_21.1).bind λ_=>(s_21.1[(0+(s_21.2).toNat)]?).bind λe_45=>(inR (w64 (s_21.2-1)) (s_21.1.set (0+(s_21.2).toNat) e_39)).bind λ_=>((s_21.1.set (0+(s_21.2).toNat) e_39)[(0+((w64 (s_21.2-1))).toNat)]?).bind λe_48=>some (.go (((s_21.1.set (0+(s_21.2).toNat) e_39).set (0+((w64 (s_21.2-1))).toNat) e_42),(w64 (s_21.2-1))))else some (.brk (s_21.1,s_21.2))
noncomputable def Bc {α:Type} (cmp:α->α->Option Int) (b_3:Int) (a_2:Int) (s_10:(List α)×Int):Option (Ctl ((List α)×Int) (Unit)) :=
 bif (decide (s_10.2<b_3))then (gX (s_10.1,s_10.2) (λs=>CV cmp a_2 s)).bind λo_24=>thenC o_24 (λs_21=>some (.go (s_21.1,(w64 (s_10.2+1))))) (λ_=>none)else some (.brk (s_10.1,s_10.2))
noncomputable def FU {α:Type} (cmp:α->α->Option Int) (data_1:(List α)) (a_2:Int) (b_3:Int):Option ((List α)) :=
 (gX (data_1,(w64 (a_2+1))) (λs=>Bc cmp b_3 a_2 s)).bind λo_13=>thenC o_13 (λs_10=>some s_10.1) (λ_=>none)
theorem K7 {α:Type} (u v:α) (C:List α):∀A:List α,((A++u::v::C).set (A.length+1) u).set A.length v=A++v::u::C
 | []=>rfl
 | a::A=>by simp only [List.cons_append,List.length_cons,List.set_cons_succ,K7 u v C A]
theorem get_0 {α:Type} (u:α) (C A:List α):(A++u::C)[A.length]? = some u:=by simp
theorem get_1 {α:Type} (u v:α) (C A:List α):(A++u::v::C)[A.length+1]? = some v:=by
 rw [List.getElem?_append_right (by omega)];simp
theorem Og {α:Type} (u v w:α) (C:List α):∀A:List α,(A++u::v::C).set (A.length+1) w=A++u::w::C
 | []=>rfl
 | a::A=>by simp only [List.cons_append,List.length_cons,List.set_cons_succ,Og u v w C A]
theorem JQ {α:Type} {xs:List α} {i:Nat} (h:i<xs.length):inR (i:Int) xs=some ():=by
 unfold inR;rw [if_pos ⟨by omega,by simpa using h⟩]
section
variable {α:Type} {cmp:α->α->Option Int} {le:α->α->Prop} {p:α->Prop}
theorem insL1_0 (v:α) (C:List α):CV cmp 0 (v::C,0)=some (.brk (v::C,0)):=rfl
theorem insL1_s (u v:α) (A C:List α) {c:Int} (hc:cmp v u=some c) (hl:A.length<=1000000000):CV cmp 0 (A++u::v::C,((A.length+1:Nat):Int))=some (bif decide (c<0)then .go (A++v::u::C,(A.length:Int))else .brk (A++u::v::C,((A.length+1:Nat):Int))):=by
 have hw:w64 (((A.length+1:Nat):Int)-1)=(A.length:Int):=by rw [FJ _ (by omega)];omega
 have h1:inR ((A.length+1:Nat):Int) (A++u::v::C)=some ():=JQ (by simp)
 have h2:inR (A.length:Int) (A++u::v::C)=some ():=JQ (by simp)
 have h3:inR (A.length:Int) (A++u::u::C)=some ():=JQ (by simp)
 have hd:decide (((A.length+1:Nat):Int)>0)=true:=by simp <;> omega
 have e1:0+((A.length+1:Nat):Int).toNat=A.length+1:=by omega
 have e2:0+((A.length:Nat):Int).toNat=A.length:=by omega
 unfold CV
 simp only [hw,h1,h2,hd,e1,e2,get_0,get_1,ob_,hc,cond_true,Og,h3]
 cases decide (c<0)with
 | false=>rfl
 | true =>
  simp only [cond_true]
  have:=K7 u v C A
  rw [Og]at this
  rw [this]
end
end Go.Eng

namespace Go.Eng
set_option linter.unusedVariables false
set_option linter.unusedSimpArgs false
noncomputable def stL1 {α:Type} (cmp:α->α->Option Int) (n_2:Int) (s_9:(List α)×Int×Int):Option (Ctl ((List α)×Int×Int) (Unit)) :=
 bif (decide (s_9.2.2<=n_2))then (FU cmp s_9.1 s_9.2.1 s_9.2.2).bind λr_15=>(jS r_15 s_9.1).bind λ_=>some (.go (r_15,s_9.2.2,(w64 (s_9.2.2+20))))else some (.brk (s_9.1,s_9.2.1,s_9.2.2))
def stL2 (s_26:Int) (n_2:Int) (s_37:Unit):Option (Ctl (Unit) (Unit)) :=
 bif (decide ((w64 (2*s_26))<=n_2))then none else some (.brk ())
noncomputable def stL3 (n_2:Int) (s_26:Int):Option (Ctl (Int) (Unit)) :=
 bif (decide (s_26<n_2))then (gX () (λs=>stL2 s_26 n_2 s)).bind λo_40=>thenC o_40 (λs_37=>(bif (decide ((w64 (0+s_26))<n_2))then none else some ()).bind λv_43=>some (.go (w64 (s_26*2)))) (λ_=>none)else some (.brk s_26)
noncomputable def NW {α:Type} (cmp:α->α->Option Int) (data_1:(List α)) (n_2:Int):Option ((List α)) :=
 (gX (data_1,0,20) (λs=>stL1 cmp n_2 s)).bind λo_12=>thenC o_12 (λs_9=>(FU cmp s_9.1 s_9.2.1 n_2).bind λr_18=>(jS r_18 s_9.1).bind λ_=>(gX 20 (λs=>stL3 n_2 s)).bind λo_29=>thenC o_29 (λs_26=>some r_18) (λ_=>none)) (λ_=>none)
def eT {α:Type} (c:α->α->Int) (v:α):List α->List α
 | []=>[v]
 | u::R=>bif decide (c v u<0)then u::eT c v R else v::u::R
def rJ {α:Type} (c:α->α->Int):List α->List α->List α
 | R,[]=>R
 | R,v::Q=>rJ c (eT c v R) Q
def jX {α:Type} (c:α->α->Int) (l:List α):List α:=(rJ c [] l).reverse
theorem lM {α:Type} (c:α->α->Int) (v:α):∀R:List α,(eT c v R).Perm (v::R)
 | []=>List.Perm.refl _
 | u::R=>by
  unfold eT
  cases decide (c v u<0)with
  | true=>exact ((lM c v R).cons u).trans (List.Perm.swap v u R)
  | false=>exact List.Perm.refl _
theorem Ak {α:Type} (c:α->α->Int):∀(Q R:List α),(rJ c R Q).Perm (Q++R)
 | [],R=>List.Perm.refl _
 | v::Q,R=>by
  have h1:=Ak c Q (eT c v R)
  refine h1.trans ?_
  refine ((lM c v R).append_left Q).trans ?_
  exact List.perm_middle
theorem Fa {α:Type} (c:α->α->Int) (l:List α):(jX c l).Perm l:=by
 unfold jX
 refine (List.reverse_perm _).trans ?_
 simpa using Ak c l []
theorem sV {α:Type} (c:α->α->Int) (l:List α):(jX c l).length=l.length:=(Fa c l).length_eq
theorem DR {α:Type} (c:α->α->Int) (v:α) (R:List α):(eT c v R).length=R.length+1:=by simpa using (lM c v R).length_eq
section
variable {α:Type} {cmp:α->α->Option Int} {c:α->α->Int} {p:α->Prop}
theorem Oe (hc:∀a b,p a->p b->cmp a b=some (c a b)) (v:α) (hv:p v):∀(R B:List α),R.length<=1000000000->(∀a∈R,p a) ->
  ∃i,iterN (λs=>CV cmp 0 s) (R.length+1) (R.reverse++v::B,(R.length:Int))=some (.go ((eT c v R).reverse++B,i))
 | [],B,hn,hp=>⟨0,by
   show iterN (λs=>CV cmp 0 s) 1 (v::B,0)=_
   simp only [iterN]
   show ((CV cmp 0 (v::B,0)).bind _)=_
   rw [insL1_0];rfl⟩
 | u::R,B,hn,hp=>by
  simp only [List.length_cons]at hn
  have hcu:=hc v u hv (hp u (by simp))
  have e:(u::R).reverse++v::B=R.reverse++u::v::B:=by simp
  have hs:=insL1_s (cmp:=cmp) u v R.reverse B hcu (by simpa using (by omega:R.length<=1000000000))
  rw [List.length_reverse]at hs
  rw [e,List.length_cons,iterN,hs]
  unfold eT
  cases hd:decide (c v u<0)with
  | true =>
   obtain ⟨i,hi⟩:=Oe hc v hv R (u::B) (by omega) (λa ha=>hp a (List.mem_cons_of_mem _ ha))
   refine⟨i,?_⟩
   simp only [cond_true,ob_]
   rw [hi];simp
  | false =>
   refine⟨((R.length+1:Nat):Int),?_⟩
   simp only [cond_false,ob_]
   simp
theorem Mf (hc:∀a b,p a->p b->cmp a b=some (c a b)):∀(Q R:List α),R.length+Q.length<=1000000000->(∀a∈R,p a)->(∀a∈Q,p a) ->
  iterN (λs=>Bc cmp ((R.length+Q.length:Nat):Int) 0 s) (Q.length+1) (R.reverse++Q,(R.length:Int))=some (.go ((rJ c R Q).reverse,((R.length+Q.length:Nat):Int)))
 | [],R,hn,hr,hq=>by
  have hd:decide ((R.length:Int)<((R.length+([]:List α).length:Nat):Int))=false:=decide_eq_false (by simp)
  simp only [iterN]
  unfold Bc
  simp only [hd,cond_false,ob_]
  simp [rJ]
 | v::Q,R,hn,hr,hq=>by
  simp only [List.length_cons]at hn
  have hd:decide ((R.length:Int)<((R.length+(v::Q).length:Nat):Int))=true:=decide_eq_true (by simp only [List.length_cons];omega)
  obtain ⟨i,hi⟩:=Oe hc v (hq v (by simp)) R Q (by omega) hr
  have hw:w64 ((R.length:Int)+1)=((R.length+1:Nat):Int):=by rw [FJ _ (by omega)];omega
  have hstep:Bc cmp ((R.length+(v::Q).length:Nat):Int) 0 (R.reverse++v::Q,(R.length:Int))=some (.go ((eT c v R).reverse++Q,((R.length+1:Nat):Int))):=by
   unfold Bc
   simp only [hd,cond_true]
   rw [iO hi]
   simp only [ob_,hw,thenC]
  have ih:=Mf hc Q (eT c v R) (by rw [DR];omega) (λa ha=>by
   have:=(lM c v R).mem_iff.1 ha
   rcases List.mem_cons.1 this with rfl|h
   ·exact hq _ (by simp)
   ·exact hr a h) (λa ha=>hq a (List.mem_cons_of_mem _ ha))
  rw [List.length_cons,iterN]
  simp only [List.length_cons]at hstep
  rw [hstep]
  simp only [ob_]
  rw [DR]at ih
  have e2:R.length+1+Q.length=R.length+(Q.length+1):=by omega
  rw [e2]at ih
  exact ih
theorem Nq (hc:∀a b,p a->p b->cmp a b=some (c a b)) (l:List α) (hl:l.length<=100000000) (hp:∀a∈l,p a):FU cmp l 0 (l.length:Int)=some (jX c l):=by
 unfold FU
 have hw:w64 ((0:Int)+1)=1:=by decide
 rw [hw]
 cases l with
 | nil =>
  have h1:iterN (λs=>Bc cmp ((([]:List α).length:Nat):Int) 0 s) 1 (([]:List α),(1:Int))=some (.go ([],1)):=by
   simp only [iterN]
   unfold Bc
   have hd:decide ((1:Int)<((([]:List α).length:Nat):Int))=false:=rfl
   simp only [hd,cond_false,ob_]
  rw [iO h1];rfl
 | cons v Q =>
  simp only [List.length_cons]at hl
  have h1:=Mf hc Q [v] (by simp only [List.length_cons,List.length_nil];omega) (λa ha=>by rw [List.mem_singleton.1 ha];exact hp v (by simp)) (λa ha=>hp a (List.mem_cons_of_mem _ ha))
  have e:([v].length+Q.length:Nat)=(v::Q).length:=by simp only [List.length_cons,List.length_nil];omega
  rw [e]at h1
  have h2:=iO h1
  have h3:gX (v::Q,(1:Int)) (λs=>Bc cmp (((v::Q).length:Nat):Int) 0 s)=_:=h2
  rw [h3];rfl
theorem NS (hc:∀a b,p a->p b->cmp a b=some (c a b)) (l:List α) (hl:l.length<=19) (hp:∀a∈l,p a):NW cmp l (l.length:Int)=some (jX c l):=by
 unfold NW
 have h1:iterN (λs=>stL1 cmp (l.length:Int) s) 1 (l,(0:Int),(20:Int))=some (.go (l,0,20)):=by
  simp only [iterN]
  unfold stL1
  have hd:decide ((20:Int)<=(l.length:Int))=false:=decide_eq_false (by omega)
  simp only [hd,cond_false,ob_]
 have h2:iterN (λs=>stL3 (l.length:Int) s) 1 (20:Int)=some (.go 20):=by
  simp only [iterN]
  unfold stL3
  have hd:decide ((20:Int)<(l.length:Int))=false:=decide_eq_false (by omega)
  simp only [hd,cond_false,ob_]
 rw [iO h1]
 simp only [ob_,thenC]
 rw [Nq hc l (by omega) hp]
 have hs:jS (jX c l) l=some ():=by unfold jS;rw [if_pos (sV c l)]
 simp only [ob_,hs]
 rw [iO h2];rfl
theorem xN {le:α->α->Prop} (h1:∀a b,p a->p b->c a b<0->le a b) (h2:∀a b,p a->p b->¬c a b<0->le b a) (tr:∀a b d,p a->p b->p d->le a b->le b d->le a d) (v:α) (hv:p v) :
  ∀R:List α,(∀a∈R,p a)->R.Pairwise (λa b=>le b a)->(eT c v R).Pairwise (λa b=>le b a)
 | [],hp,h=>List.pairwise_singleton _ _
 | u::R,hp,h=>by
  obtain ⟨h3,h4⟩:=List.pairwise_cons.1 h
  have hu:=hp u (by simp)
  have hR:∀a∈R,p a:=λa ha=>hp a (List.mem_cons_of_mem _ ha)
  unfold eT
  cases hd:decide (c v u<0)with
  | true =>
   have hlt:=of_decide_eq_true hd
   refine List.pairwise_cons.2 ⟨λa ha => ?_,xN h1 h2 tr v hv R hR h4⟩
   rcases List.mem_cons.1 ((lM c v R).mem_iff.1 ha)with rfl|ha
   ·exact h1 _ _ hv hu hlt
   ·exact h3 a ha
  | false =>
   have hge:=of_decide_eq_false hd
   have huv:=h2 _ _ hv hu hge
   refine List.pairwise_cons.2 ⟨λa ha => ?_,h⟩
   rcases List.mem_cons.1 ha with rfl|ha
   ·exact huv
   ·exact tr _ _ _ (hR a ha) hu hv (h3 a ha) huv
theorem AJ {le:α->α->Prop} (h1:∀a b,p a->p b->c a b<0->le a b) (h2:∀a b,p a->p b->¬c a b<0->le b a) (tr:∀a b d,p a->p b->p d->le a b->le b d->le a d) :
  ∀(Q R:List α),(∀a∈R,p a)->(∀a∈Q,p a)->R.Pairwise (λa b=>le b a)->(rJ c R Q).Pairwise (λa b=>le b a)
 | [],R,hr,hq,h=>h
 | v::Q,R,hr,hq,h=>AJ h1 h2 tr Q (eT c v R) (λa ha=>by
   rcases List.mem_cons.1 ((lM c v R).mem_iff.1 ha)with rfl|ha
   ·exact hq _ (by simp)
   ·exact hr a ha) (λa ha=>hq a (List.mem_cons_of_mem _ ha)) (xN h1 h2 tr v (hq v (by simp)) R hr h)
theorem I6 {le:α->α->Prop} (h1:∀a b,p a->p b->c a b<0->le a b) (h2:∀a b,p a->p b->¬c a b<0->le b a) (tr:∀a b d,p a->p b->p d->le a b->le b d->le a d) (l:List α) (hp:∀a∈l,p a) :
  (jX c l).Pairwise le:=by
 unfold jX
 rw [List.pairwise_reverse]
 exact AJ h1 h2 tr l [] (λa ha=>by cases ha) hp List.Pairwise.nil
theorem J5 {c2:α->α->Int} (l:List α) (h:∀a∈l,∀b∈l,(c a b<0↔c2 a b<0)):jX c l=jX c2 l:=by
 have h1:∀(R:List α) (v:α),v∈l->(∀a∈R,a∈l)->eT c v R=eT c2 v R:=by
  intro R
  induction R with
  | nil=>intro v _ _;rfl
  | cons u R ih =>
   intro v hv hR
   unfold eT
   rw [decide_eq_decide.2 (h v hv u (hR u (by simp))),ih v hv (λa ha=>hR a (List.mem_cons_of_mem _ ha))]
 have h2:∀(Q R:List α),(∀a∈Q,a∈l)->(∀a∈R,a∈l)->rJ c R Q=rJ c2 R Q:=by
  intro Q
  induction Q with
  | nil=>intro R _ _;rfl
  | cons v Q ih =>
   intro R hQ hR
   show rJ c (eT c v R) Q=rJ c2 (eT c2 v R) Q
   rw [h1 R v (hQ v (by simp)) hR]
   refine ih _ (λa ha=>hQ a (List.mem_cons_of_mem _ ha)) (λa ha => ?_)
   rcases List.mem_cons.1 ((lM c2 v R).mem_iff.1 ha)with rfl|ha
   ·exact hQ _ (by simp)
   ·exact hR a ha
 unfold jX
 rw [h2 l [] (λa ha=>ha) (λa ha=>by cases ha)]
end
section
variable {α:Type} (eqv:α->α->Bool) (z:α)
variable {eqv} (he:∀a b,eqv a b=true↔a=b)
include he
end
end Go.Eng

namespace Go.Eng
set_option linter.unusedVariables false
set_option linter.unusedSimpArgs false
theorem kM {α σ ρ:Type} {body:Nat->α->σ->Option (Ctl σ ρ)} {xs:List α} {s:σ} (hl:xs.length<=1000000000000):forL xs s body=forR body xs 0 s:=by unfold forL;rw [if_pos hl]
theorem HY {α σ ρ:Type} {body:Nat->α->σ->Option (Ctl σ ρ)} (I:Nat->σ->Prop) (N:Nat):∀(xs:List α) (k:Nat) (s:σ),k+xs.length=N->(∀k x s,x∈xs->k<N->I k s->∃s',body k x s=some (.go s')/\I (k+1) s')->I k s->∃s',forR body xs k s=some (.go s')/\I N s'
 | [],k,s,hN,h,hi=>⟨s,rfl,by simp only [List.length_nil,Nat.add_zero]at hN;rw [<- hN];exact hi⟩
 | x::xs,k,s,hN,h,hi=>by
  simp only [List.length_cons]at hN
  obtain ⟨s1,h1,h2⟩:=h k x s (by simp) (by omega) hi
  obtain ⟨s2,h3,h4⟩:=HY I N xs (k+1) s1 (by omega) (λk x s hx=>h k x s (by simp [hx])) h2
  exact⟨s2,by simp only [forR,h1,ob_];exact h3,h4⟩
theorem Jp {α σ ρ:Type} {body:Nat->α->σ->Option (Ctl σ ρ)} (I:Nat->σ->Prop) {xs:List α} {s:σ} (hl:xs.length<=1000000000000) (h:∀k x s,x∈xs->k<xs.length->I k s->∃s',body k x s=some (.go s')/\I (k+1) s') (h0:I 0 s):∃s',forL xs s body=some (.go s')/\I xs.length s':=by
 obtain ⟨s',h1,h2⟩:=HY I xs.length xs 0 s (by omega) h h0
 exact⟨s',by rw [kM hl];exact h1,h2⟩
theorem kz {σ ρ τ:Type} (s:σ) (f:σ->Option τ) (g:ρ->Option τ):thenC (.go s) f g=f s:=rfl
theorem MF {σ ρ τ:Type} (r:ρ) (f:σ->Option τ) (g:ρ->Option τ):thenC (.ret r) f g=g r:=rfl
theorem oM {α:Type} (xs:List α) (k:Nat):idx xs (k:Int)=xs[k]? := by simp [idx]
theorem dR {n:Int} (h : -9223372036854775808<=n/\n<=9223372036854775807):w64 n=n:=FJ n h
theorem toL (s:ByteArray):s.toList=s.data.toList:=Go.Lib.toList_data s
theorem y5 {a b:ByteArray} (h:a.toList=b.toList):a=b:=by
 rw [toL,toL]at h
 obtain ⟨⟨a⟩⟩:=a
 obtain ⟨⟨b⟩⟩:=b
 simp only at h
 rw [h]
theorem F7 (a b:ByteArray):sEq a b=true↔a=b:=by
 simp only [sEq,beq_iff_eq]
 exact⟨y5,λh=>by rw [h]⟩
theorem BZ (a b:ByteArray):sEq a b=decide (a=b):=by
 rw [Bool.eq_iff_iff,F7];simp
theorem K4 (a b:ByteArray):sNe a b = !decide (a=b):=by
 have:=BZ a b;simp only [sEq,sNe]at *;rw [this]
def lt (a b:ByteArray):Prop:=a.toList<b.toList
theorem fK (a:ByteArray):¬lt a a:=List.lt_irrefl a.toList
theorem lt_trans {a b c:ByteArray} (h:lt a b) (k:lt b c):lt a c:=List.lt_trans h k
theorem Hf (a b:ByteArray):lt a b\/a=b\/lt b a:=by
 rcases Classical.em (lt a b)with h|h
 ·exact .inl h
 ·rcases Classical.em (lt b a)with h2|h2
  ·exact .inr (.inr h2)
  ·exact .inr (.inl (y5 (List.le_antisymm (List.not_lt.1 h2) (List.not_lt.1 h))))
theorem sNe_nil (a:ByteArray):sNe a ⟨#[]⟩=decide (a.size≠0):=by
 rw [K4,Go.Lib.size_eq,Bool.eq_iff_iff]
 simp only [Bool.not_eq_true',decide_eq_false_iff_not,decide_eq_true_eq,ne_eq]
 refine not_congr ⟨λh=>by rw [h];rfl,λh => ?_⟩
 exact y5 (by rw [toL,List.eq_nil_of_length_eq_zero h,toL])
end Go.Eng

open Go Go.Eng
namespace Go.Proofs.YtnfojnnfidnikaaGreatDoor.Law
set_option linter.unusedVariables false
set_option linter.unusedSimpArgs false
def Ok (s:Stream) (b:Int):Prop:=0<=s.f_at/\s.f_at<=b
theorem Ok.mono {s:Stream} {b c:Int} (h:Ok s b) (hc:b<=c):Ok s c:=⟨h.1,Int.le_trans h.2 hc⟩
theorem Ea (x n:Int) (h:1<=n) (hn:n<=4611686018427387904):∃r,ry x n=some r/\0<=r/\r<n:=by
 have h1:x.tmod n<n:=Int.tmod_lt_of_pos x (by omega)
 have h2 : -n<x.tmod n:=Int.lt_tmod_of_pos x (by omega)
 have hb:decide (n<1)=false:=by simp;omega
 have hn0:n≠0:=by omega
 simp only [ry,hb,cond_false,Jr,if_neg hn0,ob_]
 cases hd:decide (x.tmod n<0)with
 | true =>
  simp only [decide_eq_true_eq]at hd
  exact⟨_,rfl,by rw [dR (by omega)];omega,by rw [dR (by omega)];omega⟩
 | false =>
  simp only [decide_eq_false_iff_not]at hd
  exact⟨_,rfl,by omega,h1⟩
theorem w9 (s:Stream) (n:Int) {b:Int} (hs:Ok s b) (hb:b<=1000000) (h:1<=n) (hn:n<=4611686018427387904):∃r s',gN s n=some (r,s')/\0<=r/\r<n/\Ok s' (b+1):=by
 obtain ⟨h0,h1⟩:=hs
 have e1:w64 (s.f_at+1)=s.f_at+1:=dR (by omega)
 have e2:w64 (s.f_at+1-1)=s.f_at:=by rw [dR (by omega)];omega
 simp only [gN,e1,e2]
 by_cases hl:s.L.length=0
 ·have:((s.L.length:Int)==0)=true:=by simp [hl]
  simp only [this,cond_true]
  obtain ⟨r,hr,h2,h3⟩:=Ea (w64 ((s.f_at+1)*7919)) n h hn
  exact⟨r,_,by rw [hr];rfl,h2,h3,⟨by show 0<=s.f_at+1;omega,by show s.f_at+1<=b+1;omega⟩⟩
 ·have hne:(s.L.length:Int)≠0:=by omega
  have:((s.L.length:Int)==0)=false:=by simpa using hl
  simp only [this,cond_false,Jr,Ji,if_neg hne,ob_]
  have h2:0<=s.f_at.tmod s.L.length:=Int.tmod_nonneg _ h0
  have hp:(0:Int)<(s.L.length:Int):=by have:=Nat.pos_of_ne_zero hl;omega
  have h3:s.f_at.tmod s.L.length<s.L.length:=Int.tmod_lt_of_pos _ hp
  have hi:idx s.L (s.f_at.tmod s.L.length)=some s.L[(s.f_at.tmod s.L.length).toNat]:=by
   simp only [idx,if_pos h2]
   exact List.getElem?_eq_getElem (by omega)
  obtain ⟨r1,hr1,_,_⟩:=Ea s.L[(s.f_at.tmod s.L.length).toNat] 1073741824 (by decide) (by decide)
  simp only [hi,hr1,ob_]
  generalize w64 (r1+_)=y
  obtain ⟨r,hr,h4,h5⟩:=Ea y n h hn
  exact⟨r,_,by rw [hr];rfl,h4,h5,⟨by show 0<=s.f_at+1;omega,by show s.f_at+1<=b+1;omega⟩⟩
theorem flip_ok (s:Stream) (n:Int) {b:Int} (hs:Ok s b) (hb:b<=1000000) (h:1<=n) (hn:n<=1000):∃r s',jC s n=some (r,s')/\Ok s' (b+1):=by
 obtain ⟨r,s',h1,_,_,h2⟩:=w9 s n hs hb h (by omega)
 exact⟨r==0,s',by simp only [jC,h1,ob_],h2⟩
theorem LU {α:Type} {l:List α} {r:Int} (h0:0<=r) (h1:r<l.length):∃y,idx l r=some y/\y∈l:=by
 refine⟨l[r.toNat]'(by omega),?_,List.getElem_mem _⟩
 simp only [idx,if_pos h0]
 exact List.getElem?_eq_getElem (by omega)
theorem GG (s:Stream) (l:List Int) {b:Int} (hs:Ok s b) (hb:b<=1000000) (h:1<=l.length) (hn:l.length<=1000):∃r s',dN s l=some (r,s')/\r∈l/\Ok s' (b+1):=by
 obtain ⟨r,s',h1,h2,h3,h4⟩:=w9 s l.length hs hb (by omega) (by omega)
 obtain ⟨y,hy,hm⟩:=LU h2 h3
 exact⟨y,s',by simp only [dN,h1,hy,ob_],hm,h4⟩
theorem some_ok (s:Stream) (l:List ByteArray) {b:Int} (hs:Ok s b) (hb:b<=1000000) (h:1<=l.length) (hn:l.length<=1000):∃r s',jB s l=some (r,s')/\r∈l/\Ok s' (b+1):=by
 obtain ⟨r,s',h1,h2,h3,h4⟩:=w9 s l.length hs hb (by omega) (by omega)
 obtain ⟨y,hy,hm⟩:=LU h2 h3
 exact⟨y,s',by simp only [jB,h1,hy,ob_],hm,h4⟩
theorem tK (s:Stream) (lo hi:Int) {b:Int} (hs:Ok s b) (hb:b<=1000000) (h:lo<=hi) (h1 : -1000000000000<=lo) (h2:hi<=1000000000000):∃r s',fe s lo hi=some (r,s')/\lo<=r/\r<=hi/\Ok s' (b+1):=by
 have hd:decide (hi<lo)=false:=by simp;omega
 have e1:w64 (hi-lo)=hi-lo:=dR (by omega)
 have e2:w64 (hi-lo+1)=hi-lo+1:=dR (by omega)
 obtain ⟨r,s',k1,k2,k3,k4⟩:=w9 s (hi-lo+1) hs hb (by omega) (by omega)
 simp only [fe,hd,cond_false,e1,e2,k1,ob_]
 exact⟨_,s',rfl,by rw [dR (by omega)];omega,by rw [dR (by omega)];omega,k4⟩
end Go.Proofs.YtnfojnnfidnikaaGreatDoor.Law

open Go Go.Eng
namespace Go.Proofs.YtnfojnnfidnikaaGreatDoor.Law
set_option linter.unusedVariables false
set_option linter.unusedSimpArgs false
def lowB (b:UInt8):Bool:=decide (97<=b.toNat)&&decide (b.toNat<=122)
def moreB (b:UInt8):Bool:=(decide (48<=b.toNat)&&decide (b.toNat<=57))||(b.toNat==45)||(b.toNat==95)
def okB (i:Nat) (b:UInt8):Bool:=lowB b||(decide (0<i)&&moreB b)
def uJ (s:ByteArray) (i:Nat):UInt8:=s.data.toList.getD i 0
def oV (s:ByteArray):Bool:=decide (s.size≠0)&&(decide (s.size<=40)&&(List.range s.size).all λi=>okB i (uJ s i))
theorem Oo (s:ByteArray) (k:Nat) (h:k<s.size):FX s (k:Int)=some (uJ s k):=by
 have h1:s[k]? = some s[k]:=by simp [h]
 have h2:uJ s k=s[k]:=by
  have hl:k<s.data.toList.length:=by rw [<- Go.Lib.size_eq];exact h
  simp only [uJ,List.getD_eq_getElem?_getD,List.getElem?_eq_getElem hl,Option.getD_some]
  simp
  rfl
 simp only [FX,if_pos (Int.natCast_nonneg k),Int.toNat_natCast,h1,h2]
theorem Hz (s:ByteArray) (k:Nat) (hs:s.size<=1000000000):ji s (k:Int)=some (if k<s.size then (bif okB k (uJ s k)then .go ((k+1:Nat):Int)else .ret false)else .brk (k:Int)):=by
 unfold ji
 by_cases h:k<s.size
 ·have hd:decide ((k:Int)<(s.size:Int))=true:=by simp;omega
  have hw:w64 ((k:Int)+1)=((k+1:Nat):Int):=by rw [dR (by omega)];omega
  simp only [hd,cond_true,Oo s k h,ob_,if_pos h,hw]
  generalize uJ s k=b
  simp only [okB,lowB,moreB]
  have e1:decide ((b.toNat:Int)>=97)=decide (97<=b.toNat):=decide_eq_decide.2 (by omega)
  have e2:decide ((b.toNat:Int)<=122)=decide (b.toNat<=122):=decide_eq_decide.2 (by omega)
  have e3:decide ((k:Int)>0)=decide (0<k):=decide_eq_decide.2 (by omega)
  have e4:decide ((b.toNat:Int)>=48)=decide (48<=b.toNat):=decide_eq_decide.2 (by omega)
  have e5:decide ((b.toNat:Int)<=57)=decide (b.toNat<=57):=decide_eq_decide.2 (by omega)
  have e6:((b.toNat:Int)==45)=(b.toNat==45):=by rw [Bool.eq_iff_iff];simp;omega
  have e7:((b.toNat:Int)==95)=(b.toNat==95):=by rw [Bool.eq_iff_iff];simp;omega
  rw [e1,e2,e3,e4,e5,e6,e7]
  cases decide (97<=b.toNat) <;> cases decide (b.toNat<=122) <;> cases decide (0<k) <;> cases decide (48<=b.toNat) <;> cases decide (b.toNat<=57) <;> cases (b.toNat==45) <;> cases (b.toNat==95) <;> rfl
 ·have hd:decide ((k:Int)<(s.size:Int))=false:=by simp;omega
  simp only [hd,cond_false,if_neg h]
theorem DI (s:ByteArray) (hs:s.size<=1000000000):∀(n k:Nat),k+n=s.size->iterN (λi=>ji s i) (n+1) (k:Int)=some (bif (List.range' k n).all (λj=>okB j (uJ s j))then .go (s.size:Int)else .ret false)
 | 0,k,h=>by
  have hk:¬k<s.size:=by omega
  simp only [iterN,Hz s k hs,if_neg hk,ob_,List.range'_zero,List.all_nil,cond_true]
  rw [show (k:Int)=s.size by omega]
 | n+1,k,h=>by
  have hk:k<s.size:=by omega
  rw [iterN,Hz s k hs,if_pos hk,ob_,List.range'_succ,List.all_cons]
  cases okB k (uJ s k)with
  | true=>simp only [cond_true,Bool.true_and];exact DI s hs n (k+1) (by omega)
  | false=>rfl
theorem wD (s:ByteArray) (hs:s.size<=1000000000):dF s=some (oV s):=by
 have h:=iO (DI s hs s.size 0 (by omega))
 unfold dF
 have h':gX (0:Int) (λs_1=>ji s s_1)=_:=h
 rw [h',ob_,<- List.range_eq_range']
 have e:decide ((s.size:Int)<=40)=decide (s.size<=40):=decide_eq_decide.2 (by omega)
 simp only [oV]
 cases (List.range s.size).all (λi=>okB i (uJ s i))with
 | true =>
  rw [cond_true,kz,sNe_nil,e,Bool.and_true]
  cases decide (s.size≠0) <;> rfl
 | false=>simp only [cond_false,MF,Bool.and_false]
end Go.Proofs.YtnfojnnfidnikaaGreatDoor.Law

open Go Go.Eng
namespace Go.Proofs.YtnfojnnfidnikaaGreatDoor.Law
set_option linter.unusedVariables false
set_option linter.unusedSimpArgs false
def ShortK (s:ByteArray):Prop:=s.size<=1000
theorem lI {s:ByteArray} (h:Nat.ble s.size 1000=true):ShortK s:=Nat.le_of_ble_eq_true h
theorem lF {α:Type} (xs ys:List α) (h:xs.length+ys.length<=1000000000):lH xs ys=some (xs++ys):=by unfold lH;rw [if_pos h]
theorem set_atK {α:Type} {xs:List α} {i:Nat} {a:α} (h:i<xs.length):(xs.set i a)[i]? = some a:=by simp [h]
theorem DV {α:Type} {p:α->Prop} {xs:List α} {i:Nat} {a:α} (h:∀x∈xs,p x) (ha:p a):∀x∈xs.set i a,p x:=λx hx=>by
 rcases List.mem_or_eq_of_mem_set hx with h1|h1
 ·exact h x h1
 ·rw [h1];exact ha
def wG (e:Int):Ctl Unit Int:=bif e==0 then .go ()else .ret e
theorem yo (e:Int):thenC (wG e) (λ_=>some (0:Int)) (λr=>some r)=some e:=by
 unfold wG
 cases h:e==0 with
 | true=>simp only [cond_true,kz];rw [eq_of_beq h]
 | false=>rfl
theorem wR {α:Type} {l:List α} {k:Nat} {x:α} (h:l[k]? = some x) (hk:0<k) (hl:l.length<=1000000000):∃y,idx l (w64 ((k:Int)-1))=some y/\l[k-1]? = some y:=by
 have hlt:k<l.length:=(List.getElem?_eq_some_iff.1 h).1
 rw [dR (by omega),show (k:Int)-1=((k-1:Nat):Int) by omega,oM]
 exact⟨l[k-1],List.getElem?_eq_getElem (by omega),List.getElem?_eq_getElem (by omega)⟩
def qU {α:Type} (stp:Option α->α->Int):Option α->List α->Int
 | _,[]=>0
 | p,x::xs=>bif stp p x==0 then qU stp (some x) xs else stp p x
def rq {α:Type} (l:List α) (k:Nat):Option α:=if k=0 then none else l[k-1]?
theorem uH {α:Type} {stp:Option α->α->Int} {body:Nat->α->Unit->Option (Ctl Unit Int)} (l:List α):∀(xs:List α) (k:Nat),l.drop k=xs->(∀k x,l[k]? = some x->body k x ()=some (wG (stp (rq l k) x))) ->
  forR body xs k ()=some (wG (qU stp (rq l k) xs))
 | [],k,h,hb=>rfl
 | x::xs,k,h,hb=>by
  have hg:=tC h
  rw [forR,hb k x hg,ob_,qU]
  cases he:stp (rq l k) x==0 with
  | true =>
   simp only [wG,he,cond_true]
   rw [uH l xs (k+1) (aX h) hb]
   have:rq l (k+1)=some x:=by simp [rq,hg]
   rw [this];rfl
  | false=>simp only [wG,he,cond_false]
theorem Jv {α:Type} {stp:Option α->α->Int}:∀{l:List α} {p:Option α},qU stp p l=0->match l with
  | []=>True
  | x::xs=>stp p x=0/\qU stp (some x) xs=0
 | [],_,_=>trivial
 | x::xs,p,h=>by
  rw [qU]at h
  cases he:stp p x==0 with
  | true=>rw [he]at h;exact⟨eq_of_beq he,h⟩
  | false=>rw [he,cond_false]at h;rw [h]at he;cases he
def nO (n lo hi:Int):Bool:=decide (n<lo)||decide (n>hi)
theorem rR (n lo hi:Int):aO n lo hi=some (nO n lo hi):=by
 unfold aO nO
 cases decide (n<lo) <;> cases decide (n>hi) <;> rfl
theorem BR {n lo hi:Int} (h:nO n lo hi=false):lo<=n/\n<=hi:=by
 simp only [nO,Bool.or_eq_false_iff,decide_eq_false_iff_not]at h;omega
theorem pg {n lo hi:Int} (h:lo<=n/\n<=hi):nO n lo hi=false:=by
 simp only [nO,Bool.or_eq_false_iff,decide_eq_false_iff_not];omega
def momB (n:Int):Bool := !nO n 0 345686399999
theorem rT (n:Int):bO n=some (momB n):=by
 unfold bO momB nO
 have e1:decide (n>=0) = !decide (n<0):=by rw [Bool.eq_iff_iff];simp
 have e2:decide (n<345686400000) = !decide (n>345686399999):=by rw [Bool.eq_iff_iff];simp;omega
 rw [e1,e2]
 cases decide (n<0) <;> cases decide (n>345686399999) <;> rfl
theorem yf {n:Int} (h:momB n=true):0<=n/\n<=345686399999:=by
 unfold momB at h;exact BR (by simpa using h)
def vG (a b:Int):Int:=bif a==0 then b else a
theorem jr (a b:ByteArray):(lt a b/\vU a b = -1)\/(a=b/\vU a b=0)\/(lt b a/\vU a b=1):=by
 have key:∀(x y:List UInt8),(x<y/\Lib.compareBytes x y = -1)\/(x=y/\Lib.compareBytes x y=0)\/(y<x/\Lib.compareBytes x y=1):=by
  intro x
  induction x with
  | nil=>intro y;cases y with
   | nil=>exact .inr (.inl ⟨rfl,rfl⟩)
   | cons b y=>exact .inl ⟨by simp,rfl⟩
  | cons a x ih=>intro y;cases y with
   | nil=>exact .inr (.inr ⟨by simp,rfl⟩)
   | cons b y =>
    simp only [Lib.compareBytes,List.cons_lt_cons_iff,List.cons.injEq]
    by_cases h1:a<b
    ·exact .inl ⟨.inl h1,by rw [if_pos h1]⟩
    ·by_cases h2:b<a
     ·exact .inr (.inr ⟨.inl h2,by rw [if_neg h1,if_pos h2]⟩)
     ·have e:a=b:=UInt8.le_antisymm (UInt8.not_lt.1 h2) (UInt8.not_lt.1 h1)
      subst e
      rw [if_neg h1,if_neg h1]
      rcases ih y with⟨h,k⟩|⟨h,k⟩|⟨h,k⟩
      ·exact .inl ⟨.inr ⟨rfl,h⟩,k⟩
      ·exact .inr (.inl ⟨⟨rfl,h⟩,k⟩)
      ·exact .inr (.inr ⟨.inr ⟨rfl,h⟩,k⟩)
 unfold vU lt
 rw [toL,toL]
 rcases key a.data.toList b.data.toList with⟨h,k⟩|⟨h,k⟩|⟨h,k⟩
 ·exact .inl ⟨h,k⟩
 ·exact .inr (.inl ⟨y5 (by rw [toL,toL];exact h),k⟩)
 ·exact .inr (.inr ⟨h,k⟩)
theorem rQ (a b:ByteArray):strings_Compare a b=some (vU a b):=rfl
def rP (a b:Int):Int:=if a<b then -1 else if a>b then 1 else 0
theorem qQ (a b:Int):cmp_Compare_int a b=some (rP a b):=by
 have e:∀x:Int,(x != x)=false:=by simp
 unfold cmp_Compare_int cmp_isNaN_int rP
 simp only [e,ob_,cond_false]
 by_cases h:a<b
 ·simp only [decide_eq_true h,cond_true,if_pos h]
 ·by_cases h2:a>b
  ·simp only [decide_eq_false h,decide_eq_true h2,cond_true,cond_false,if_neg h,if_pos h2]
  ·simp only [decide_eq_false h,decide_eq_false h2,cond_false,if_neg h,if_neg h2]
theorem KU (a b:Int):iJ [a,b]=some (vG a b):=by
 unfold iJ vG
 rw [kM (by simp)]
 simp only [forR,kH]
 cases ha:a==0 with
 | false =>
  have:(a != 0)=true:=by simp [bne,ha]
  simp only [this,cond_true,cond_false,ob_,thenC]
 | true =>
  have:(a != 0)=false:=by simp [bne,ha]
  simp only [this,cond_true,cond_false,ob_]
  cases hb:b==0 with
  | false =>
   have:(b != 0)=true:=by simp [bne,hb]
   simp only [this,cond_true,ob_,thenC]
  | true =>
   have:(b != 0)=false:=by simp [bne,hb]
   simp only [this,cond_false,ob_,thenC]
   rw [eq_of_beq hb]
end Go.Proofs.YtnfojnnfidnikaaGreatDoor.Law

open Go Go.Eng
namespace Go.Proofs.YtnfojnnfidnikaaGreatDoor.Law
set_option linter.unusedVariables false
set_option linter.unusedSimpArgs false
theorem wu (n:Int):IntKind.u64.wrap n=n % 18446744073709551616:=by simp [IntKind.wrap,IntKind.bits,IntKind.signed]
theorem wu_id {n:Int} (h0:0<=n) (h1:n<18446744073709551616):IntKind.u64.wrap n=n:=by rw [wu];exact Int.emod_eq_of_lt h0 h1
theorem wu_in (n:Int):0<=IntKind.u64.wrap n/\IntKind.u64.wrap n<18446744073709551616:=by rw [wu];omega
abbrev BB (l:List UInt8):ByteArray:=⟨l.toArray⟩
theorem ND (l m:List UInt8):BB l++BB m=BB (l++m):=by
  apply y5;rw [toL,toL];simp
theorem wW (l:List UInt8):(BB l).size=l.length:=by show l.toArray.size=_;simp
theorem Lj {x y:ByteArray} (h:x.size+y.size<=1000000000000):Bn x y=some (x++y):=by
  unfold Bn
  rw [if_neg]
  have:IntKind.i64.max=9223372036854775807:=by decide
  rw [this];omega
def EP (h:Int) (b:UInt8):Int:=IntKind.u64.wrap ((M4 .u64 h (IntKind.u64.wrap (b.toNat:Int)))*1099511628211)
def fnv (bs:List UInt8):Int:=bs.foldl EP 14695981039346656037
theorem Lm:∀(bs:List UInt8) (h:Int),0<=h/\h<18446744073709551616->0<=bs.foldl EP h/\bs.foldl EP h<18446744073709551616
  | [],h,hh=>hh
  | b::bs,h,hh=>Lm bs _ (wu_in _)
theorem fnv_in (bs:List UInt8):0<=fnv bs/\fnv bs<18446744073709551616:=Lm bs _ (by decide)
theorem Bd:∀(bs:List UInt8) (k:Nat) (h:Int),forR (λk x u=>rW k x u) (bs.map λb=>(b.toNat:Int)) k h=some (.go (bs.foldl EP h))
  | [],k,h=>rfl
  | b::bs,k,h=>by
    simp only [List.map_cons,forR]
    exact Bd bs (k+1) (EP h b)
def Gi (n:Nat):UInt8:=if n<10 then UInt8.ofNat (48+n)else UInt8.ofNat (87+n)
def Ep:Nat->Nat->List UInt8
  | 0,_=>[]
  | k+1,u=>Ep k (u / 16)++[Gi (u % 16)]
theorem IM:∀(k u:Nat),(Ep k u).length=k
  | 0,u=>rfl
  | k+1,u=>by simp [Ep,IM k]
def Fy:ByteArray:=⟨#[48,49,50,51,52,53,54,55,56,57,97,98,99,100,101,102]⟩
def digs:ByteArray:=⟨#[48,49,50,51,52,53,54,55,56,57,97,98,99,100,101,102,103,104,105,106,107,108,109,110,111,112,113,114,115,116,117,118,119,120,121,122]⟩
theorem MU:∀n:Fin 16,Gy Fy (n.val:Int) ((n.val+1:Nat):Int)=some (BB [Gi n.val])/\FX digs (n.val:Int)=some (Gi n.val):=by decide +kernel
theorem OB {n:Nat} (h:n<16):Gy Fy (n:Int) ((n+1:Nat):Int)=some (BB [Gi n]):=(MU ⟨n,h⟩).1
theorem xG:∀(xs:List Nat) (k:Nat) (u:Nat) (out:List UInt8),u<18446744073709551616->xs.length+out.length<=1000->∃u',forR (λk x s=>nk k x s) xs k ((u:Int),BB out)=some (.go (u',BB (Ep xs.length u++out)))
  | [],k,u,out,h,hl=>⟨_,rfl⟩
  | x::xs,k,u,out,h,hl=>by
    simp only [List.length_cons]at hl
    obtain ⟨u',hu'⟩:=xG xs (k+1) (u / 16) (Gi (u % 16)::out) (by omega) (by simp;omega)
    refine⟨u',?_⟩
    simp only [forR]
    have hm:((u:Int).tmod 16)=((u % 16:Nat):Int):=rfl
    have hd:((u:Int).tdiv 16)=((u / 16:Nat):Int):=rfl
    have hlt:u % 16<16:=Nat.mod_lt _ (by omega)
    have hstep:nk k x ((u:Int),BB out)=some (.go (((u / 16:Nat):Int),BB (Gi (u % 16)::out))):=by
      unfold nk
      simp only [hm,hd]
      rw [wu_id (n:=((u % 16:Nat):Int)+1) (by omega) (by omega),wu_id (n:=((u / 16:Nat):Int)) (by omega) (by omega)]
      have h1:Gy (⟨#[48,49,50,51,52,53,54,55,56,57,97,98,99,100,101,102]⟩:ByteArray) ((u % 16:Nat):Int) (((u % 16:Nat):Int)+1)=some (BB [Gi (u % 16)]):=OB hlt
      rw [h1]
      simp only [ob_]
      rw [Lj (by rw [wW,wW];simp;omega),ND]
      rfl
    rw [hstep]
    simp only [ob_]
    rw [hu']
    simp [Ep]
theorem JM (s:ByteArray) (hs:s.size<=1000000000):sH s=some (BB (Ep 16 (fnv s.data.toList).toNat)):=by
  unfold sH
  have hl:(dQ s).length<=1000000000000:=by simp only [dQ,List.length_map];rw [<- Go.Lib.size_eq];omega
  rw [kM hl]
  have h1:=Bd s.data.toList 0 14695981039346656037
  unfold dQ
  rw [h1]
  simp only [ob_,kz]
  obtain ⟨b1,b2⟩:=fnv_in s.data.toList
  rw [kM (by decide)]
  obtain ⟨u',hu⟩:=xG (List.range (16:Int).toNat) 0 (fnv s.data.toList).toNat [] (by omega) (by decide)
  have e:(((fnv s.data.toList).toNat:Nat):Int)=s.data.toList.foldl EP 14695981039346656037:=Int.toNat_of_nonneg b1
  rw [e]at hu
  have e2:BB []=(⟨#[]⟩:ByteArray):=rfl
  rw [e2]at hu
  rw [hu]
  simp only [ob_,kz,List.append_nil]
  rfl
end Go.Proofs.YtnfojnnfidnikaaGreatDoor.Law

open Go Go.Eng
namespace Go.Proofs.YtnfojnnfidnikaaGreatDoor.Law
set_option linter.unusedVariables false
set_option linter.unusedSimpArgs false
def Med (n:Int):Prop := -1000000000000000<=n/\n<=1000000000000000
theorem itoa_eq {n:Int} (h:Med n):strconv_Itoa n=some (BB (Go.Lib.itoa n)):=by
 unfold strconv_Itoa LA
 unfold Med at h
 rw [if_pos ⟨by omega,by omega⟩]
theorem qG {n:Int} (h:Med n):(Go.Lib.itoa n).length<=21:=by
 unfold Med at h
 exact Go.Lib.itoa_length_le n (by omega) (by omega)
theorem EL (l m:List UInt8) (h:l.length+m.length<=1000000000000):Bn (BB l) (BB m)=some (BB (l++m)):=by
 rw [Lj (by rw [wW,wW];exact h),ND]
theorem join_le (sep:List UInt8) (m:Nat):∀(ls:List (List UInt8)),(∀x∈ls,x.length<=m)->(Go.Lib.join ls sep).length<=ls.length*(m+sep.length)
 | [],h=>by simp [Go.Lib.join_nil]
 | x::r,h=>by
  have h1:∀(r:List (List UInt8)),(∀x∈r,x.length<=m)->(Go.Lib.joinTail sep r).length<=r.length*(m+sep.length):=by
   intro r
   induction r with
   | nil=>intro _;simp [Go.Lib.joinTail]
   | cons y r ih =>
    intro hy
    have e:(Go.Lib.joinTail sep (y::r))=sep++y++Go.Lib.joinTail sep r:=by simp [Go.Lib.joinTail]
    rw [e,List.length_append,List.length_append,List.length_cons,Nat.add_mul]
    have:=ih (λx hx=>hy x (List.mem_cons_of_mem _ hx))
    have:=hy y (by simp)
    omega
  rw [Go.Lib.join_cons,List.length_append,List.length_cons,Nat.add_mul]
  have:=h1 r (λx hx=>h x (List.mem_cons_of_mem _ hx))
  have:=h x (by simp)
  omega
theorem NK (ls:List (List UInt8)) (sep:List UInt8) (m:Nat) (h:∀x∈ls,x.length<=m) (hl:ls.length<=1000000) (hm:m+sep.length<=10000):strings_Join (ls.map BB) (BB sep)=some (BB (Go.Lib.join ls sep)):=by
 have h1:=join_le sep m ls h
 have h2:ls.length*(m+sep.length)<=1000000*10000:=Nat.mul_le_mul hl hm
 have e:(ls.map BB).map (λx=>x.data.toList)=ls:=by rw [List.map_map];exact List.map_id' ls
 unfold strings_Join Lh
 rw [e]
 have e2:(BB sep).data.toList=sep:=rfl
 rw [e2,if_pos ⟨by simp;omega,by omega⟩]
theorem AY:∀(l:List Int) (k:Nat) (out:List ByteArray),(∀n∈l,Med n)->l.length+out.length<=1000000->forR (λk x s=>jG k x s) l k out=some (.go (out++l.map λn=>BB (Go.Lib.itoa n)))
 | [],k,out,h,hl=>by simp [forR]
 | n::l,k,out,h,hl=>by
  simp only [List.length_cons]at hl
  have ih:=AY l (k+1) (out++[BB (Go.Lib.itoa n)]) (λx hx=>h x (List.mem_cons_of_mem _ hx)) (by simp;omega)
  have hstep:jG k n out=some (.go (out++[BB (Go.Lib.itoa n)])):=by
   unfold jG
   rw [itoa_eq (h n (by simp))]
   simp only [ob_]
   rw [lF _ _ (by simp;omega)]
   rfl
  simp only [forR,hstep,ob_]
  rw [ih]
  simp
theorem JW (l:List Int) (h:∀n∈l,Med n) (hl:l.length<=1000000):o9 l=some (BB (Go.Lib.join (l.map Go.Lib.itoa) [32])):=by
 unfold o9
 rw [kM (by omega),AY l 0 [] h (by simpa using hl)]
 simp only [ob_,kz,List.nil_append]
 have e:(l.map λn=>BB (Go.Lib.itoa n))=(l.map Go.Lib.itoa).map BB:=by rw [List.map_map];rfl
 have hj:=NK (l.map Go.Lib.itoa) [32] 21 (λx hx=>by
  obtain ⟨n,hn,rfl⟩:=List.mem_map.1 hx
  exact qG (h n hn)) (by simpa using hl) (by decide)
 rw [e]
 have e2:(⟨#[32]⟩:ByteArray)=BB [32]:=rfl
 rw [e2,hj]
 rfl
def Dt (x:Log_):Prop:=ShortK x.Player/\ShortK x.Item/\ShortK x.Sum/\Med x.No/\Med x.Clock/\Med x.Long
def Iq (x:Log_):List UInt8:=x.Player.data.toList++[32]++x.Item.data.toList++[32]++Go.Lib.itoa x.No++[32]++Go.Lib.itoa x.Clock++[32]++Go.Lib.itoa x.Long
theorem sJ {s:ByteArray} (h:ShortK s):s.data.toList.length<=1000:=by rw [<- Go.Lib.size_eq];exact h
theorem Mq {x:Log_} (h:Dt x):(Iq x).length<=2100:=by
 obtain ⟨h1,h2,_,h4,h5,h6⟩:=h
 have:=sJ h1;have:=sJ h2;have:=qG h4;have:=qG h5;have:=qG h6
 simp only [Iq,List.length_append,List.length_cons,List.length_nil]
 omega
theorem KA {x:Log_} (h:Dt x):oW x=some (BB (Iq x)):=by
 obtain ⟨h1,h2,_,h4,h5,h6⟩:=h
 have l1:=sJ h1;have l2:=sJ h2;have l4:=qG h4;have l5:=qG h5;have l6:=qG h6
 have hn:=JW [x.No,x.Clock,x.Long] (λn hn=>by
  simp only [List.mem_cons,List.not_mem_nil,or_false]at hn
  rcases hn with rfl|rfl|rfl
  ·exact h4
  ·exact h5
  ·exact h6) (by simp)
 have hj:Go.Lib.join ([x.No,x.Clock,x.Long].map Go.Lib.itoa) [32]=Go.Lib.itoa x.No++[32]++Go.Lib.itoa x.Clock++[32]++Go.Lib.itoa x.Long:=by
  simp [Go.Lib.join_cons,Go.Lib.joinTail]
 rw [hj]at hn
 unfold oW
 rw [hn]
 have lj:(Go.Lib.itoa x.No++[32]++Go.Lib.itoa x.Clock++[32]++Go.Lib.itoa x.Long).length<=100:=by simp only [List.length_append,List.length_cons,List.length_nil];omega
 rw [show x.Player=BB x.Player.data.toList from rfl,show x.Item=BB x.Item.data.toList from rfl,show (⟨#[32]⟩:ByteArray)=BB [32] from rfl]
 rw [EL _ _ (by simp only [List.length_append,List.length_cons,List.length_nil];omega)];simp only [ob_]
 rw [EL _ _ (by simp only [List.length_append,List.length_cons,List.length_nil];omega)];simp only [ob_]
 rw [EL _ _ (by simp only [List.length_append,List.length_cons,List.length_nil];omega)];simp only [ob_]
 rw [EL _ _ (by simp only [List.length_append,List.length_cons,List.length_nil];omega)];simp only [ob_]
 unfold Iq
 simp
def mk (l:List UInt8):ByteArray:=BB (Ep 16 (fnv l).toNat)
theorem LB (l:List UInt8):(mk l).size=16:=by unfold mk;rw [wW,IM]
theorem zg (l:List UInt8):ShortK (mk l):=by unfold ShortK;rw [LB];decide
theorem markR (l:List UInt8) (h:l.length<=1000000000):sH (BB l)=some (mk l):=JM (BB l) (by rw [wW];exact h)
def uQ (x:Log_):Int:=bif !oV x.Player then 5 else bif !oV x.Item then 5 else bif (nO x.No 1 1000000||(nO x.Clock 0 345686399999||nO x.Long 1 86400000))then 1 else 0
theorem IV {x:Log_} (h:Dt x):kX x=some (uQ x):=by
 obtain ⟨h1,h2,_,_,_,_⟩:=h
 unfold ShortK at h1 h2
 unfold kX uQ
 rw [wD x.Player (by omega),wD x.Item (by omega)]
 simp only [ob_,rR]
 cases oV x.Player <;> cases oV x.Item <;> cases nO x.No 1 1000000 <;> cases nO x.Clock 0 345686399999 <;> cases nO x.Long 1 86400000 <;> rfl
def MJ (b:UInt8):Bool:=Fy.data.toList.contains b
def yF (s:ByteArray):Bool:=(s.size==16)&&s.data.toList.all MJ
theorem size16 (s:ByteArray):((s.size:Int)==16)=(s.size==16):=by
 rw [Bool.eq_iff_iff];simp only [beq_iff_eq];omega
theorem xe {p:UInt8->Bool}:∀(l:List UInt8),l.dropWhile p=[]↔l.all p=true
 | []=>by simp
 | x::l=>by
  rw [List.dropWhile_cons]
  cases h:p x with
  | true=>simp [h,xe l]
  | false=>simp [h]
theorem OD (l cs:List UInt8):Go.Lib.trimS l cs=[]↔l.all (cs.contains ·)=true:=by
 unfold Go.Lib.trimS Go.Lib.trimLeftS Go.Lib.trimRightS
 rw [xe,List.all_reverse]
 constructor
 ·intro h
  have h2:(l.reverse.dropWhile (cs.contains ·))=[]:=by
   cases hd:l.reverse.dropWhile (cs.contains ·)with
   | nil=>rfl
   | cons x r =>
    rw [hd]at h
    have h3:∀(m:List UInt8),m.dropWhile (cs.contains ·)=x::r->cs.contains x=false:=by
     intro m
     induction m with
     | nil=>intro e;simp at e
     | cons y m ih =>
      intro e
      rw [List.dropWhile_cons]at e
      cases hy:cs.contains y with
      | true=>rw [hy]at e;exact ih e
      | false=>rw [hy]at e;simp only [Bool.false_eq_true,if_false,List.cons.injEq]at e;rw [<- e.1];exact hy
    have:=h3 _ hd
    simp only [List.all_cons,this,Bool.false_and,Bool.false_eq_true]at h
  rw [xe,List.all_reverse]at h2
  exact h2
 ·intro h
  have:l.reverse.dropWhile (cs.contains ·)=[]:=by rw [xe,List.all_reverse];exact h
  rw [this];rfl
theorem Nb {s:ByteArray} (h:ShortK s):nI s=some (yF s):=by
 unfold ShortK at h
 unfold nI yF
 rw [size16]
 have ht:lT s (⟨#[48,49,50,51,52,53,54,55,56,57,97,98,99,100,101,102]⟩:ByteArray)=some (BB (Go.Lib.trimS s.data.toList Fy.data.toList)):=by
  unfold lT Gu
  rw [if_pos ⟨by omega,by decide,by decide⟩]
  rfl
 rw [ht]
 have e:sEq (BB (Go.Lib.trimS s.data.toList Fy.data.toList)) (⟨#[]⟩:ByteArray)=s.data.toList.all MJ:=by
  rw [Bool.eq_iff_iff,F7]
  have:=OD s.data.toList Fy.data.toList
  constructor
  ·intro h
   apply this.1
   have:=congrArg (λx:ByteArray=>x.data.toList) h
   simpa using this
  ·intro h
   rw [this.2 h]
 simp only [ob_,e]
 cases (s.size==16) <;> rfl
theorem Pp:∀n:Fin 16,MJ (Gi n.val)=true:=by decide +kernel
theorem Io:∀(k u:Nat),(Ep k u).all MJ=true
 | 0,u=>rfl
 | k+1,u=>by
  show (Ep k (u / 16)++[Gi (u % 16)]).all MJ=true
  rw [List.all_append,Io k,List.all_cons,Pp ⟨u % 16,Nat.mod_lt _ (by omega)⟩];rfl
theorem LV (l:List UInt8):yF (mk l)=true:=by
 unfold yF
 rw [LB]
 show ((16==16)&&(Ep 16 (fnv l).toNat).all MJ)=true
 rw [Io];rfl
def cmpL (a b:Log_):Int:=vG (vU a.Player b.Player) (rP a.No b.No)
theorem Dy (a b:Log_):jh a b=some (cmpL a b):=by
 simp only [jh,rQ,qQ,KU,ob_];rfl
theorem M0 (a:ByteArray):vU a a=0:=by
 rcases jr a a with⟨h,_⟩|⟨_,h⟩|⟨h,_⟩
 ·exact absurd h (fK a)
 ·exact h
 ·exact absurd h (fK a)
def Jl (p:Option Log_) (x:Log_):Int:=bif uQ x != 0 then uQ x else bif !yF x.Sum then 3 else match p with
 | none=>0
 | some o=>bif decide (cmpL o x>=0)then 7 else 0
def Fw (l:List Log_):Int:=bif decide (l.length>2000)then 2 else qU Jl none l
theorem logsK (l:List Log_) (hs:∀x∈l,Dt x) (hl:l.length<=1000000):iY l=some (Fw l):=by
 unfold iY Fw
 have e:decide ((l.length:Int)>2000)=decide (l.length>2000):=decide_eq_decide.2 (by omega)
 rw [e]
 cases decide (l.length>2000)with
 | true=>rfl
 | false =>
  simp only [cond_false]
  rw [kM (by omega),uH (stp:=Jl) l l 0 rfl (λk x hx => ?_)]
  ·simp only [ob_,yo];rfl
  ·have hg:=hs x (List.mem_of_getElem? hx)
   simp only [jZ,IV hg,Nb hg.2.2.1,ob_,Jl]
   cases hf:(uQ x != 0)with
   | true =>
    have:(uQ x==0)=false:=by simpa using hf
    simp only [cond_true,wG,this,cond_false]
   | false =>
   simp only [cond_false]
   cases yF x.Sum with
   | false=>rfl
   | true =>
   simp only [Bool.not_true,cond_false]
   by_cases hk0:0<k
   ·obtain ⟨y,h1,h2⟩:=wR hx hk0 (by omega)
    have hd:decide ((k:Int)>0)=true:=by simp;omega
    simp only [hd,cond_true,h1,ob_,rq,if_neg (show ¬k=0 by omega),h2,Dy]
    cases decide (cmpL y x>=0) <;> rfl
   ·have hk0:k=0:=by omega
    subst hk0
    rfl
end Go.Proofs.YtnfojnnfidnikaaGreatDoor.Law

open Go Go.Eng
namespace Go.Proofs.YtnfojnnfidnikaaGreatDoor.Law
set_option linter.unusedVariables false
set_option linter.unusedSimpArgs false
def GoodB (x:Beat):Prop:=ShortK x.Player
end Go.Proofs.YtnfojnnfidnikaaGreatDoor.Law

