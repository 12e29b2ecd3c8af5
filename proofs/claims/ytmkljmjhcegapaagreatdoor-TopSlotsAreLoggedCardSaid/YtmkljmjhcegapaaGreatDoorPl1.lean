/-
  THE PLAIN LAW (part 1).
-/
import Derived.Test.YtmkljmjhcegapaaGreatDoorEng5
import Derived.Test.YtmkljmjhcegapaaGreatDoorDefs
import Derived.Lib.ItoaLen
namespace Go.Eng
set_option linter.unusedVariables false
set_option linter.unusedSimpArgs false
def Fx {α:Type} (cmp:α->α->Option Int) (a_2:Int) (s_21:(List α)×Int):Option (Ctl ((List α)×Int) (Unit)) :=
 (bif (decide (s_21.2>a_2))then (inR s_21.2 s_21.1).bind λ_=>(s_21.1[(0+(s_21.2).toNat)]?).bind λe_30=>(inR (w64 (s_21.2-1)) s_21.1).bind λ_=>(s_21.1[(0+((w64 (s_21.2-1))).toNat)]?).bind λe_33=>(cmp e_30 e_33).bind λr_35=>some (decide (r_35<0))else some false).bind λv_26=>bif v_26 then (inR (w64 (s_21.2-1)) s_21.1).bind λ_=>(s_21.1[(0+((w64 (s_21.2-1))).toNat)]?).bind λe_39=>(inR s_21.2 s_21.1).bind λ_=>(s_21.1[(0+(s_21.2).toNat)]?).bind λe_42=>(inR s_21.2 s_21.1).bind λ_=>(s_21.1[(0+(s_21.2).toNat)]?).bind λe_45=>(inR (w64 (s_21.2-1)) (s_21.1.set (0+(s_21.2).toNat) e_39)).bind λ_=>((s_21.1.set (0+(s_21.2).toNat) e_39)[(0+((w64 (s_21.2-1))).toNat)]?).bind λe_48=>some (.go (((s_21.1.set (0+(s_21.2).toNat) e_39).set (0+((w64 (s_21.2-1))).toNat) e_42),(w64 (s_21.2-1))))else some (.brk (s_21.1,s_21.2))
noncomputable def DD {α:Type} (cmp:α->α->Option Int) (b_3:Int) (a_2:Int) (s_10:(List α)×Int):Option (Ctl ((List α)×Int) (Unit)) :=
 bif (decide (s_10.2<b_3))then (fq (s_10.1,s_10.2) (λs=>Fx cmp a_2 s)).bind λo_24=>thenC o_24 (λs_21=>some (.go (s_21.1,(w64 (s_10.2+1))))) (λ_=>none)else some (.brk (s_10.1,s_10.2))
noncomputable def II {α:Type} (cmp:α->α->Option Int) (data_1:(List α)) (a_2:Int) (b_3:Int):Option ((List α)) :=
 (fq (data_1,(w64 (a_2+1))) (λs=>DD cmp b_3 a_2 s)).bind λo_13=>thenC o_13 (λs_10=>some s_10.1) (λ_=>none)
theorem Om {α:Type} (u v:α) (C:List α):∀A:List α,((A++u::v::C).set (A.length+1) u).set A.length v=A++v::u::C
 | []=>rfl
 | a::A=>by simp only [List.cons_append,List.length_cons,List.set_cons_succ,Om u v C A]
theorem get_0 {α:Type} (u:α) (C A:List α):(A++u::C)[A.length]? = some u:=by simp
theorem get_1 {α:Type} (u v:α) (C A:List α):(A++u::v::C)[A.length+1]? = some v:=by
 rw [List.getElem?_append_right (by omega)];simp
theorem QN {α:Type} (u v w:α) (C:List α):∀A:List α,(A++u::v::C).set (A.length+1) w=A++u::w::C
 | []=>rfl
 | a::A=>by simp only [List.cons_append,List.length_cons,List.set_cons_succ,QN u v w C A]
theorem MK {α:Type} {xs:List α} {i:Nat} (h:i<xs.length):inR (i:Int) xs=some ():=by
 unfold inR;rw [if_pos ⟨by omega,by simpa using h⟩]
section
variable {α:Type} {cmp:α->α->Option Int} {le:α->α->Prop} {p:α->Prop}
theorem insL1_0 (v:α) (C:List α):Fx cmp 0 (v::C,0)=some (.brk (v::C,0)):=rfl
theorem insL1_s (u v:α) (A C:List α) {c:Int} (hc:cmp v u=some c) (hl:A.length<=1000000000):Fx cmp 0 (A++u::v::C,((A.length+1:Nat):Int))=some (bif decide (c<0)then .go (A++v::u::C,(A.length:Int))else .brk (A++u::v::C,((A.length+1:Nat):Int))):=by
 have hw:w64 (((A.length+1:Nat):Int)-1)=(A.length:Int):=by rw [IJ _ (by omega)];omega
 have h1:inR ((A.length+1:Nat):Int) (A++u::v::C)=some ():=MK (by simp)
 have h2:inR (A.length:Int) (A++u::v::C)=some ():=MK (by simp)
 have h3:inR (A.length:Int) (A++u::u::C)=some ():=MK (by simp)
 have hd:decide (((A.length+1:Nat):Int)>0)=true:=by simp <;> omega
 have e1:0+((A.length+1:Nat):Int).toNat=A.length+1:=by omega
 have e2:0+((A.length:Nat):Int).toNat=A.length:=by omega
 unfold Fx
 simp only [hw,h1,h2,hd,e1,e2,get_0,get_1,ob_,hc,cond_true,QN,h3]
 cases decide (c<0)with
 | false=>rfl
 | true =>
  simp only [cond_true]
  have:=Om u v C A
  rw [QN]at this
  rw [this]
end
end Go.Eng

namespace Go.Eng
set_option linter.unusedVariables false
set_option linter.unusedSimpArgs false
noncomputable def stL1 {α:Type} (cmp:α->α->Option Int) (n_2:Int) (s_9:(List α)×Int×Int):Option (Ctl ((List α)×Int×Int) (Unit)) :=
 bif (decide (s_9.2.2<=n_2))then (II cmp s_9.1 s_9.2.1 s_9.2.2).bind λr_15=>(jS r_15 s_9.1).bind λ_=>some (.go (r_15,s_9.2.2,(w64 (s_9.2.2+20))))else some (.brk (s_9.1,s_9.2.1,s_9.2.2))
def stL2 (s_26:Int) (n_2:Int) (s_37:Unit):Option (Ctl (Unit) (Unit)) :=
 bif (decide ((w64 (2*s_26))<=n_2))then none else some (.brk ())
noncomputable def stL3 (n_2:Int) (s_26:Int):Option (Ctl (Int) (Unit)) :=
 bif (decide (s_26<n_2))then (fq () (λs=>stL2 s_26 n_2 s)).bind λo_40=>thenC o_40 (λs_37=>(bif (decide ((w64 (0+s_26))<n_2))then none else some ()).bind λv_43=>some (.go (w64 (s_26*2)))) (λ_=>none)else some (.brk s_26)
noncomputable def QT {α:Type} (cmp:α->α->Option Int) (data_1:(List α)) (n_2:Int):Option ((List α)) :=
 (fq (data_1,0,20) (λs=>stL1 cmp n_2 s)).bind λo_12=>thenC o_12 (λs_9=>(II cmp s_9.1 s_9.2.1 n_2).bind λr_18=>(jS r_18 s_9.1).bind λ_=>(fq 20 (λs=>stL3 n_2 s)).bind λo_29=>thenC o_29 (λs_26=>some r_18) (λ_=>none)) (λ_=>none)
def gU {α:Type} (c:α->α->Int) (v:α):List α->List α
 | []=>[v]
 | u::R=>bif decide (c v u<0)then u::gU c v R else v::u::R
def sO {α:Type} (c:α->α->Int):List α->List α->List α
 | R,[]=>R
 | R,v::Q=>sO c (gU c v R) Q
def mg {α:Type} (c:α->α->Int) (l:List α):List α:=(sO c [] l).reverse
theorem qL {α:Type} (c:α->α->Int) (v:α):∀R:List α,(gU c v R).Perm (v::R)
 | []=>List.Perm.refl _
 | u::R=>by
  unfold gU
  cases decide (c v u<0)with
  | true=>exact ((qL c v R).cons u).trans (List.Perm.swap v u R)
  | false=>exact List.Perm.refl _
theorem Cs {α:Type} (c:α->α->Int):∀(Q R:List α),(sO c R Q).Perm (Q++R)
 | [],R=>List.Perm.refl _
 | v::Q,R=>by
  have h1:=Cs c Q (gU c v R)
  refine h1.trans ?_
  refine ((qL c v R).append_left Q).trans ?_
  exact List.perm_middle
theorem Ha {α:Type} (c:α->α->Int) (l:List α):(mg c l).Perm l:=by
 unfold mg
 refine (List.reverse_perm _).trans ?_
 simpa using Cs c l []
theorem yu {α:Type} (c:α->α->Int) (l:List α):(mg c l).length=l.length:=(Ha c l).length_eq
theorem FQ {α:Type} (c:α->α->Int) (v:α) (R:List α):(gU c v R).length=R.length+1:=by simpa using (qL c v R).length_eq
section
variable {α:Type} {cmp:α->α->Option Int} {c:α->α->Int} {p:α->Prop}
theorem Qy (hc:∀a b,p a->p b->cmp a b=some (c a b)) (v:α) (hv:p v):∀(R B:List α),R.length<=1000000000->(∀a∈R,p a) ->
  ∃i,iterN (λs=>Fx cmp 0 s) (R.length+1) (R.reverse++v::B,(R.length:Int))=some (.go ((gU c v R).reverse++B,i))
 | [],B,hn,hp=>⟨0,by
   show iterN (λs=>Fx cmp 0 s) 1 (v::B,0)=_
   simp only [iterN]
   show ((Fx cmp 0 (v::B,0)).bind _)=_
   rw [insL1_0];rfl⟩
 | u::R,B,hn,hp=>by
  simp only [List.length_cons]at hn
  have hcu:=hc v u hv (hp u (by simp))
  have e:(u::R).reverse++v::B=R.reverse++u::v::B:=by simp
  have hs:=insL1_s (cmp:=cmp) u v R.reverse B hcu (by simpa using (by omega:R.length<=1000000000))
  rw [List.length_reverse]at hs
  rw [e,List.length_cons,iterN,hs]
  unfold gU
  cases hd:decide (c v u<0)with
  | true =>
   obtain ⟨i,hi⟩:=Qy hc v hv R (u::B) (by omega) (λa ha=>hp a (List.mem_cons_of_mem _ ha))
   refine⟨i,?_⟩
   simp only [cond_true,ob_]
   rw [hi];simp
  | false =>
   refine⟨((R.length+1:Nat):Int),?_⟩
   simp only [cond_false,ob_]
   simp
theorem Ni (hc:∀a b,p a->p b->cmp a b=some (c a b)):∀(Q R:List α),R.length+Q.length<=1000000000->(∀a∈R,p a)->(∀a∈Q,p a) ->
  iterN (λs=>DD cmp ((R.length+Q.length:Nat):Int) 0 s) (Q.length+1) (R.reverse++Q,(R.length:Int))=some (.go ((sO c R Q).reverse,((R.length+Q.length:Nat):Int)))
 | [],R,hn,hr,hq=>by
  have hd:decide ((R.length:Int)<((R.length+([]:List α).length:Nat):Int))=false:=decide_eq_false (by simp)
  simp only [iterN]
  unfold DD
  simp only [hd,cond_false,ob_]
  simp [sO]
 | v::Q,R,hn,hr,hq=>by
  simp only [List.length_cons]at hn
  have hd:decide ((R.length:Int)<((R.length+(v::Q).length:Nat):Int))=true:=decide_eq_true (by simp only [List.length_cons];omega)
  obtain ⟨i,hi⟩:=Qy hc v (hq v (by simp)) R Q (by omega) hr
  have hw:w64 ((R.length:Int)+1)=((R.length+1:Nat):Int):=by rw [IJ _ (by omega)];omega
  have hstep:DD cmp ((R.length+(v::Q).length:Nat):Int) 0 (R.reverse++v::Q,(R.length:Int))=some (.go ((gU c v R).reverse++Q,((R.length+1:Nat):Int))):=by
   unfold DD
   simp only [hd,cond_true]
   rw [eu hi]
   simp only [ob_,hw,thenC]
  have ih:=Ni hc Q (gU c v R) (by rw [FQ];omega) (λa ha=>by
   have:=(qL c v R).mem_iff.1 ha
   rcases List.mem_cons.1 this with rfl|h
   ·exact hq _ (by simp)
   ·exact hr a h) (λa ha=>hq a (List.mem_cons_of_mem _ ha))
  rw [List.length_cons,iterN]
  simp only [List.length_cons]at hstep
  rw [hstep]
  simp only [ob_]
  rw [FQ]at ih
  have e2:R.length+1+Q.length=R.length+(Q.length+1):=by omega
  rw [e2]at ih
  exact ih
theorem OQ (hc:∀a b,p a->p b->cmp a b=some (c a b)) (l:List α) (hl:l.length<=100000000) (hp:∀a∈l,p a):II cmp l 0 (l.length:Int)=some (mg c l):=by
 unfold II
 have hw:w64 ((0:Int)+1)=1:=by decide
 rw [hw]
 cases l with
 | nil =>
  have h1:iterN (λs=>DD cmp ((([]:List α).length:Nat):Int) 0 s) 1 (([]:List α),(1:Int))=some (.go ([],1)):=by
   simp only [iterN]
   unfold DD
   have hd:decide ((1:Int)<((([]:List α).length:Nat):Int))=false:=rfl
   simp only [hd,cond_false,ob_]
  rw [eu h1];rfl
 | cons v Q =>
  simp only [List.length_cons]at hl
  have h1:=Ni hc Q [v] (by simp only [List.length_cons,List.length_nil];omega) (λa ha=>by rw [List.mem_singleton.1 ha];exact hp v (by simp)) (λa ha=>hp a (List.mem_cons_of_mem _ ha))
  have e:([v].length+Q.length:Nat)=(v::Q).length:=by simp only [List.length_cons,List.length_nil];omega
  rw [e]at h1
  have h2:=eu h1
  have h3:fq (v::Q,(1:Int)) (λs=>DD cmp (((v::Q).length:Nat):Int) 0 s)=_:=h2
  rw [h3];rfl
theorem Rs (hc:∀a b,p a->p b->cmp a b=some (c a b)) (l:List α) (hl:l.length<=19) (hp:∀a∈l,p a):QT cmp l (l.length:Int)=some (mg c l):=by
 unfold QT
 have h1:iterN (λs=>stL1 cmp (l.length:Int) s) 1 (l,(0:Int),(20:Int))=some (.go (l,0,20)):=by
  simp only [iterN]
  unfold stL1
  have hd:decide ((20:Int)<=(l.length:Int))=false:=decide_eq_false (by omega)
  simp only [hd,cond_false,ob_]
 have h2:iterN (λs=>stL3 (l.length:Int) s) 1 (20:Int)=some (.go 20):=by
  simp only [iterN]
  unfold stL3
  have hd:decide ((20:Int)<(l.length:Int))=false:=decide_eq_false (by omega)
  simp only [hd,cond_false,ob_]
 rw [eu h1]
 simp only [ob_,thenC]
 rw [OQ hc l (by omega) hp]
 have hs:jS (mg c l) l=some ():=by unfold jS;rw [if_pos (yu c l)]
 simp only [ob_,hs]
 rw [eu h2];rfl
theorem ML {c2:α->α->Int} (l:List α) (h:∀a∈l,∀b∈l,(c a b<0↔c2 a b<0)):mg c l=mg c2 l:=by
 have h1:∀(R:List α) (v:α),v∈l->(∀a∈R,a∈l)->gU c v R=gU c2 v R:=by
  intro R
  induction R with
  | nil=>intro v _ _;rfl
  | cons u R ih =>
   intro v hv hR
   unfold gU
   rw [decide_eq_decide.2 (h v hv u (hR u (by simp))),ih v hv (λa ha=>hR a (List.mem_cons_of_mem _ ha))]
 have h2:∀(Q R:List α),(∀a∈Q,a∈l)->(∀a∈R,a∈l)->sO c R Q=sO c2 R Q:=by
  intro Q
  induction Q with
  | nil=>intro R _ _;rfl
  | cons v Q ih =>
   intro R hQ hR
   show sO c (gU c v R) Q=sO c2 (gU c2 v R) Q
   rw [h1 R v (hQ v (by simp)) hR]
   refine ih _ (λa ha=>hQ a (List.mem_cons_of_mem _ ha)) (λa ha => ?_)
   rcases List.mem_cons.1 ((qL c2 v R).mem_iff.1 ha)with rfl|ha
   ·exact hQ _ (by simp)
   ·exact hR a ha
 unfold mg
 rw [h2 l [] (λa ha=>ha) (λa ha=>by cases ha)]
end
section
variable {α:Type} (eqv:α->α->Bool) (z:α)
variable {eqv} (he:∀a b,eqv a b=true↔a=b)
include he
end
end Go.Eng

namespace Go.Eng
set_option linter.unusedVariables false
set_option linter.unusedSimpArgs false
theorem jG {α σ ρ:Type} {body:Nat->α->σ->Option (Ctl σ ρ)} {xs:List α} {s:σ} (hl:xs.length<=1000000000000):forL xs s body=forR body xs 0 s:=by unfold forL;rw [if_pos hl]
theorem gN {σ ρ τ:Type} (s:σ) (f:σ->Option τ) (g:ρ->Option τ):thenC (.go s) f g=f s:=rfl
theorem Pq {σ ρ τ:Type} (r:ρ) (f:σ->Option τ) (g:ρ->Option τ):thenC (.ret r) f g=g r:=rfl
theorem iH {α:Type} (xs:List α) (k:Nat):idx xs (k:Int)=xs[k]? := by simp [idx]
theorem aZ {n:Int} (h : -9223372036854775808<=n/\n<=9223372036854775807):w64 n=n:=IJ n h
theorem toL (s:ByteArray):s.toList=s.data.toList:=Go.Lib.toList_data s
theorem y9 {a b:ByteArray} (h:a.toList=b.toList):a=b:=by
 rw [toL,toL]at h
 obtain ⟨⟨a⟩⟩:=a
 obtain ⟨⟨b⟩⟩:=b
 simp only at h
 rw [h]
theorem ql (a b:ByteArray):sEq a b=true↔a=b:=by
 simp only [sEq,beq_iff_eq]
 exact⟨y9,λh=>by rw [h]⟩
theorem yO (a b:ByteArray):sEq a b=decide (a=b):=by
 rw [Bool.eq_iff_iff,ql];simp
theorem Ej (a b:ByteArray):sNe a b = !decide (a=b):=by
 have:=yO a b;simp only [sEq,sNe]at *;rw [this]
abbrev bl:=Op.bytesLess
theorem bl_lt:∀(x y:List UInt8),bl x y=decide (x<y)
 | _,[]=>by simp [bl,Op.bytesLess]
 | [],_::_=>by simp [bl,Op.bytesLess]
 | a::x,b::y=>by
  have:=bl_lt x y
  simp only [bl,Op.bytesLess]at this ⊢
  rw [this,Bool.eq_iff_iff]
  simp only [Bool.or_eq_true,decide_eq_true_eq,Bool.and_eq_true,beq_iff_eq,List.cons_lt_cons_iff]
def lt (a b:ByteArray):Prop:=a.toList<b.toList
theorem uw (a b:ByteArray):sLt a b=true↔lt a b:=by
 show bl a.toList b.toList=true↔_
 rw [bl_lt];simp [lt]
theorem kJ (a:ByteArray):¬lt a a:=List.lt_irrefl a.toList
theorem lt_trans {a b c:ByteArray} (h:lt a b) (k:lt b c):lt a c:=List.lt_trans h k
theorem Fs (a b:ByteArray):lt a b\/a=b\/lt b a:=by
 rcases Classical.em (lt a b)with h|h
 ·exact .inl h
 ·rcases Classical.em (lt b a)with h2|h2
  ·exact .inr (.inr h2)
  ·exact .inr (.inl (y9 (List.le_antisymm (List.not_lt.1 h2) (List.not_lt.1 h))))
theorem yM (a b:ByteArray):sLe a b=true↔¬lt b a:=by
 have h1:=uw a b
 have h2:=ql a b
 simp only [sLe,Bool.or_eq_true]
 constructor
 ·rintro (h|h)
  ·exact λk=>kJ _ (lt_trans (h1.1 h) k)
  ·rw [h2.1 h];exact kJ _
 ·intro h
  rcases Fs a b with k|k|k
  ·exact .inl (h1.2 k)
  ·exact .inr (h2.2 k)
  ·exact absurd k h
theorem NL (a:ByteArray):sLe a ⟨#[]⟩=decide (a.size=0):=by
 rw [Bool.eq_iff_iff,yM,lt,toL,toL,Go.Lib.size_eq]
 cases a.data.toList <;> simp
theorem sNe_nil (a:ByteArray):sNe a ⟨#[]⟩=decide (a.size≠0):=by
 rw [Ej,Go.Lib.size_eq,Bool.eq_iff_iff]
 simp only [Bool.not_eq_true',decide_eq_false_iff_not,decide_eq_true_eq,ne_eq]
 refine not_congr ⟨λh=>by rw [h];rfl,λh => ?_⟩
 exact y9 (by rw [toL,List.eq_nil_of_length_eq_zero h,toL])
end Go.Eng

open Go Go.Eng
namespace Go.Proofs.YtmkljmjhcegapaaGreatDoor.Law
set_option linter.unusedVariables false
set_option linter.unusedSimpArgs false
def Ok (s:Stream) (b:Int):Prop:=0<=s.f_at/\s.f_at<=b
theorem Ok.mono {s:Stream} {b c:Int} (h:Ok s b) (hc:b<=c):Ok s c:=⟨h.1,Int.le_trans h.2 hc⟩
theorem Ex (x n:Int) (h:1<=n) (hn:n<=4611686018427387904):∃r,tJ x n=some r/\0<=r/\r<n:=by
 have h1:x.tmod n<n:=Int.tmod_lt_of_pos x (by omega)
 have h2 : -n<x.tmod n:=Int.lt_tmod_of_pos x (by omega)
 have hb:decide (n<1)=false:=by simp;omega
 have hn0:n≠0:=by omega
 simp only [tJ,hb,cond_false,Jb,if_neg hn0,ob_]
 cases hd:decide (x.tmod n<0)with
 | true =>
  simp only [decide_eq_true_eq]at hd
  exact⟨_,rfl,by rw [aZ (by omega)];omega,by rw [aZ (by omega)];omega⟩
 | false =>
  simp only [decide_eq_false_iff_not]at hd
  exact⟨_,rfl,by omega,h1⟩
theorem A8 (s:Stream) (n:Int) {b:Int} (hs:Ok s b) (hb:b<=1000000) (h:1<=n) (hn:n<=4611686018427387904):∃r s',iO s n=some (r,s')/\0<=r/\r<n/\Ok s' (b+1):=by
 obtain ⟨h0,h1⟩:=hs
 have e1:w64 (s.f_at+1)=s.f_at+1:=aZ (by omega)
 have e2:w64 (s.f_at+1-1)=s.f_at:=by rw [aZ (by omega)];omega
 simp only [iO,e1,e2]
 by_cases hl:s.L.length=0
 ·have:((s.L.length:Int)==0)=true:=by simp [hl]
  simp only [this,cond_true]
  obtain ⟨r,hr,h2,h3⟩:=Ex (w64 ((s.f_at+1)*7919)) n h hn
  exact⟨r,_,by rw [hr];rfl,h2,h3,⟨by show 0<=s.f_at+1;omega,by show s.f_at+1<=b+1;omega⟩⟩
 ·have hne:(s.L.length:Int)≠0:=by omega
  have:((s.L.length:Int)==0)=false:=by simpa using hl
  simp only [this,cond_false,Jb,Jr,if_neg hne,ob_]
  have h2:0<=s.f_at.tmod s.L.length:=Int.tmod_nonneg _ h0
  have hp:(0:Int)<(s.L.length:Int):=by have:=Nat.pos_of_ne_zero hl;omega
  have h3:s.f_at.tmod s.L.length<s.L.length:=Int.tmod_lt_of_pos _ hp
  have hi:idx s.L (s.f_at.tmod s.L.length)=some s.L[(s.f_at.tmod s.L.length).toNat]:=by
   simp only [idx,if_pos h2]
   exact List.getElem?_eq_getElem (by omega)
  obtain ⟨r1,hr1,_,_⟩:=Ex s.L[(s.f_at.tmod s.L.length).toNat] 1073741824 (by decide) (by decide)
  simp only [hi,hr1,ob_]
  generalize w64 (r1+_)=y
  obtain ⟨r,hr,h4,h5⟩:=Ex y n h hn
  exact⟨r,_,by rw [hr];rfl,h4,h5,⟨by show 0<=s.f_at+1;omega,by show s.f_at+1<=b+1;omega⟩⟩
theorem I8 (s:Stream) (n:Int) {b:Int} (hs:Ok s b) (hb:b<=1000000) (h:1<=n) (hn:n<=1000):∃r s',iL s n=some (r,s')/\Ok s' (b+1):=by
 obtain ⟨r,s',h1,_,_,h2⟩:=A8 s n hs hb h (by omega)
 exact⟨r==0,s',by simp only [iL,h1,ob_],h2⟩
theorem Js {α:Type} {l:List α} {r:Int} (h0:0<=r) (h1:r<l.length):∃y,idx l r=some y/\y∈l:=by
 refine⟨l[r.toNat]'(by omega),?_,List.getElem_mem _⟩
 simp only [idx,if_pos h0]
 exact List.getElem?_eq_getElem (by omega)
theorem uf (s:Stream) (l:List Int) {b:Int} (hs:Ok s b) (hb:b<=1000000) (h:1<=l.length) (hn:l.length<=1000):∃r s',eT s l=some (r,s')/\r∈l/\Ok s' (b+1):=by
 obtain ⟨r,s',h1,h2,h3,h4⟩:=A8 s l.length hs hb (by omega) (by omega)
 obtain ⟨y,hy,hm⟩:=Js h2 h3
 exact⟨y,s',by simp only [eT,h1,hy,ob_],hm,h4⟩
theorem some_ok (s:Stream) (l:List ByteArray) {b:Int} (hs:Ok s b) (hb:b<=1000000) (h:1<=l.length) (hn:l.length<=1000):∃r s',mM s l=some (r,s')/\r∈l/\Ok s' (b+1):=by
 obtain ⟨r,s',h1,h2,h3,h4⟩:=A8 s l.length hs hb (by omega) (by omega)
 obtain ⟨y,hy,hm⟩:=Js h2 h3
 exact⟨y,s',by simp only [mM,h1,hy,ob_],hm,h4⟩
theorem KW (s:Stream) (lo hi:Int) {b:Int} (hs:Ok s b) (hb:b<=1000000) (h:lo<=hi) (h1 : -1000000000000<=lo) (h2:hi<=1000000000000):∃r s',ku s lo hi=some (r,s')/\lo<=r/\r<=hi/\Ok s' (b+1):=by
 have hd:decide (hi<lo)=false:=by simp;omega
 have e1:w64 (hi-lo)=hi-lo:=aZ (by omega)
 have e2:w64 (hi-lo+1)=hi-lo+1:=aZ (by omega)
 obtain ⟨r,s',k1,k2,k3,k4⟩:=A8 s (hi-lo+1) hs hb (by omega) (by omega)
 simp only [ku,hd,cond_false,e1,e2,k1,ob_]
 exact⟨_,s',rfl,by rw [aZ (by omega)];omega,by rw [aZ (by omega)];omega,k4⟩
end Go.Proofs.YtmkljmjhcegapaaGreatDoor.Law

open Go Go.Eng
namespace Go.Proofs.YtmkljmjhcegapaaGreatDoor.Law
set_option linter.unusedVariables false
set_option linter.unusedSimpArgs false
def lowB (b:UInt8):Bool:=decide (97<=b.toNat)&&decide (b.toNat<=122)
def moreB (b:UInt8):Bool:=(decide (48<=b.toNat)&&decide (b.toNat<=57))||(b.toNat==45)||(b.toNat==95)
def okB (i:Nat) (b:UInt8):Bool:=lowB b||(decide (0<i)&&moreB b)
def qV (s:ByteArray) (i:Nat):UInt8:=s.data.toList.getD i 0
def keyB (s:ByteArray):Bool:=decide (s.size≠0)&&(decide (s.size<=40)&&(List.range s.size).all λi=>okB i (qV s i))
theorem Kt (s:ByteArray) (k:Nat) (h:k<s.size):Al s (k:Int)=some (qV s k):=by
 have h1:s[k]? = some s[k]:=by simp [h]
 have h2:qV s k=s[k]:=by
  have hl:k<s.data.toList.length:=by rw [<- Go.Lib.size_eq];exact h
  simp only [qV,List.getD_eq_getElem?_getD,List.getElem?_eq_getElem hl,Option.getD_some]
  simp
  rfl
 simp only [Al,if_pos (Int.natCast_nonneg k),Int.toNat_natCast,h1,h2]
theorem LA (s:ByteArray) (k:Nat) (hs:s.size<=1000000000):kz s (k:Int)=some (if k<s.size then (bif okB k (qV s k)then .go ((k+1:Nat):Int)else .ret false)else .brk (k:Int)):=by
 unfold kz
 by_cases h:k<s.size
 ·have hd:decide ((k:Int)<(s.size:Int))=true:=by simp;omega
  have hw:w64 ((k:Int)+1)=((k+1:Nat):Int):=by rw [aZ (by omega)];omega
  simp only [hd,cond_true,Kt s k h,ob_,if_pos h,hw]
  generalize qV s k=b
  simp only [okB,lowB,moreB]
  have e1:decide ((b.toNat:Int)>=97)=decide (97<=b.toNat):=decide_eq_decide.2 (by omega)
  have e2:decide ((b.toNat:Int)<=122)=decide (b.toNat<=122):=decide_eq_decide.2 (by omega)
  have e3:decide ((k:Int)>0)=decide (0<k):=decide_eq_decide.2 (by omega)
  have e4:decide ((b.toNat:Int)>=48)=decide (48<=b.toNat):=decide_eq_decide.2 (by omega)
  have e5:decide ((b.toNat:Int)<=57)=decide (b.toNat<=57):=decide_eq_decide.2 (by omega)
  have e6:((b.toNat:Int)==45)=(b.toNat==45):=by rw [Bool.eq_iff_iff];simp;omega
  have e7:((b.toNat:Int)==95)=(b.toNat==95):=by rw [Bool.eq_iff_iff];simp;omega
  rw [e1,e2,e3,e4,e5,e6,e7]
  cases decide (97<=b.toNat) <;> cases decide (b.toNat<=122) <;> cases decide (0<k) <;> cases decide (48<=b.toNat) <;> cases decide (b.toNat<=57) <;> cases (b.toNat==45) <;> cases (b.toNat==95) <;> rfl
 ·have hd:decide ((k:Int)<(s.size:Int))=false:=by simp;omega
  simp only [hd,cond_false,if_neg h]
theorem EA (s:ByteArray) (hs:s.size<=1000000000):∀(n k:Nat),k+n=s.size->iterN (λi=>kz s i) (n+1) (k:Int)=some (bif (List.range' k n).all (λj=>okB j (qV s j))then .go (s.size:Int)else .ret false)
 | 0,k,h=>by
  have hk:¬k<s.size:=by omega
  simp only [iterN,LA s k hs,if_neg hk,ob_,List.range'_zero,List.all_nil,cond_true]
  rw [show (k:Int)=s.size by omega]
 | n+1,k,h=>by
  have hk:k<s.size:=by omega
  rw [iterN,LA s k hs,if_pos hk,ob_,List.range'_succ,List.all_cons]
  cases okB k (qV s k)with
  | true=>simp only [cond_true,Bool.true_and];exact EA s hs n (k+1) (by omega)
  | false=>rfl
theorem ng (s:ByteArray) (hs:s.size<=1000000000):dQ s=some (keyB s):=by
 have h:=eu (EA s hs s.size 0 (by omega))
 unfold dQ
 have h':fq (0:Int) (λs_1=>kz s s_1)=_:=h
 rw [h',ob_,<- List.range_eq_range']
 have e:decide ((s.size:Int)<=40)=decide (s.size<=40):=decide_eq_decide.2 (by omega)
 simp only [keyB]
 cases (List.range s.size).all (λi=>okB i (qV s i))with
 | true =>
  rw [cond_true,gN,sNe_nil,e,Bool.and_true]
  cases decide (s.size≠0) <;> rfl
 | false=>simp only [cond_false,Pq,Bool.and_false]
theorem Eb {s:ByteArray} (h:keyB s=true):s.size≠0:=by
 simp only [keyB,Bool.and_eq_true,decide_eq_true_eq]at h
 exact h.1
end Go.Proofs.YtmkljmjhcegapaaGreatDoor.Law

open Go Go.Eng
namespace Go.Proofs.YtmkljmjhcegapaaGreatDoor.Law
set_option linter.unusedVariables false
set_option linter.unusedSimpArgs false
def ShortK (s:ByteArray):Prop:=s.size<=1000
theorem zQ {s:ByteArray} (h:Nat.ble s.size 1000=true):ShortK s:=Nat.le_of_ble_eq_true h
theorem oP {α:Type} (xs ys:List α) (h:xs.length+ys.length<=1000000000):jv xs ys=some (xs++ys):=by unfold jv;rw [if_pos h]
theorem inR_okK {α:Type} {i:Int} {xs:List α} (h0:0<=i) (h1:i<xs.length):inR i xs=some ():=by unfold inR;rw [if_pos ⟨h0,by omega⟩]
def x8 (e:Int):Ctl Unit Int:=bif e==0 then .go ()else .ret e
theorem F9 (e:Int):thenC (x8 e) (λ_=>some (0:Int)) (λr=>some r)=some e:=by
 unfold x8
 cases h:e==0 with
 | true=>simp only [cond_true,gN];rw [eq_of_beq h]
 | false=>rfl
theorem GZ {α:Type} {l:List α} {k:Nat} {x:α} (h:l[k]? = some x) (hk:0<k) (hl:l.length<=1000000000):∃y,idx l (w64 ((k:Int)-1))=some y/\l[k-1]? = some y:=by
 have hlt:k<l.length:=(List.getElem?_eq_some_iff.1 h).1
 rw [aZ (by omega),show (k:Int)-1=((k-1:Nat):Int) by omega,iH]
 exact⟨l[k-1],List.getElem?_eq_getElem (by omega),List.getElem?_eq_getElem (by omega)⟩
def vN {α:Type} (stp:Option α->α->Int):Option α->List α->Int
 | _,[]=>0
 | p,x::xs=>bif stp p x==0 then vN stp (some x) xs else stp p x
def zK {α:Type} (l:List α) (k:Nat):Option α:=if k=0 then none else l[k-1]?
theorem zW {α:Type} {stp:Option α->α->Int} {body:Nat->α->Unit->Option (Ctl Unit Int)} (l:List α):∀(xs:List α) (k:Nat),l.drop k=xs->(∀k x,l[k]? = some x->body k x ()=some (x8 (stp (zK l k) x))) ->
  forR body xs k ()=some (x8 (vN stp (zK l k) xs))
 | [],k,h,hb=>rfl
 | x::xs,k,h,hb=>by
  have hg:=nZ h
  rw [forR,hb k x hg,ob_,vN]
  cases he:stp (zK l k) x==0 with
  | true =>
   simp only [x8,he,cond_true]
   rw [zW l xs (k+1) (aW h) hb]
   have:zK l (k+1)=some x:=by simp [zK,hg]
   rw [this];rfl
  | false=>simp only [x8,he,cond_false]
theorem chkG_0 {α:Type} {stp:Option α->α->Int}:∀{l:List α} {p:Option α},vN stp p l=0->match l with
  | []=>True
  | x::xs=>stp p x=0/\vN stp (some x) xs=0
 | [],_,_=>trivial
 | x::xs,p,h=>by
  rw [vN]at h
  cases he:stp p x==0 with
  | true=>rw [he]at h;exact⟨eq_of_beq he,h⟩
  | false=>rw [he,cond_false]at h;rw [h]at he;cases he
def qz (n lo hi:Int):Bool:=decide (n<lo)||decide (n>hi)
theorem uq (n lo hi:Int):aU n lo hi=some (qz n lo hi):=by
 unfold aU qz
 cases decide (n<lo) <;> cases decide (n>hi) <;> rfl
theorem JN {n lo hi:Int} (h:qz n lo hi=false):lo<=n/\n<=hi:=by
 simp only [qz,Bool.or_eq_false_iff,decide_eq_false_iff_not]at h;omega
theorem vO {n lo hi:Int} (h:lo<=n/\n<=hi):qz n lo hi=false:=by
 simp only [qz,Bool.or_eq_false_iff,decide_eq_false_iff_not];omega
def momB (n:Int):Bool := !qz n 0 345686399999
theorem uB (n:Int):cO n=some (momB n):=by
 unfold cO momB qz
 have e1:decide (n>=0) = !decide (n<0):=by rw [Bool.eq_iff_iff];simp
 have e2:decide (n<345686400000) = !decide (n>345686399999):=by rw [Bool.eq_iff_iff];simp;omega
 rw [e1,e2]
 cases decide (n<0) <;> cases decide (n>345686399999) <;> rfl
theorem Cy {n:Int} (h:momB n=true):0<=n/\n<=345686399999:=by
 unfold momB at h;exact JN (by simpa using h)
def JD (a b:Int):Int:=bif a==0 then b else a
theorem wZ (a b:ByteArray):(lt a b/\uF a b = -1)\/(a=b/\uF a b=0)\/(lt b a/\uF a b=1):=by
 have key:∀(x y:List UInt8),(x<y/\Lib.compareBytes x y = -1)\/(x=y/\Lib.compareBytes x y=0)\/(y<x/\Lib.compareBytes x y=1):=by
  intro x
  induction x with
  | nil=>intro y;cases y with
   | nil=>exact .inr (.inl ⟨rfl,rfl⟩)
   | cons b y=>exact .inl ⟨by simp,rfl⟩
  | cons a x ih=>intro y;cases y with
   | nil=>exact .inr (.inr ⟨by simp,rfl⟩)
   | cons b y =>
    simp only [Lib.compareBytes,List.cons_lt_cons_iff,List.cons.injEq]
    by_cases h1:a<b
    ·exact .inl ⟨.inl h1,by rw [if_pos h1]⟩
    ·by_cases h2:b<a
     ·exact .inr (.inr ⟨.inl h2,by rw [if_neg h1,if_pos h2]⟩)
     ·have e:a=b:=UInt8.le_antisymm (UInt8.not_lt.1 h2) (UInt8.not_lt.1 h1)
      subst e
      rw [if_neg h1,if_neg h1]
      rcases ih y with⟨h,k⟩|⟨h,k⟩|⟨h,k⟩
      ·exact .inl ⟨.inr ⟨rfl,h⟩,k⟩
      ·exact .inr (.inl ⟨⟨rfl,h⟩,k⟩)
      ·exact .inr (.inr ⟨.inr ⟨rfl,h⟩,k⟩)
 unfold uF lt
 rw [toL,toL]
 rcases key a.data.toList b.data.toList with⟨h,k⟩|⟨h,k⟩|⟨h,k⟩
 ·exact .inl ⟨h,k⟩
 ·exact .inr (.inl ⟨y9 (by rw [toL,toL];exact h),k⟩)
 ·exact .inr (.inr ⟨h,k⟩)
theorem xX (a b:ByteArray):strings_Compare a b=some (uF a b):=rfl
def xZ (a b:Int):Int:=if a<b then -1 else if a>b then 1 else 0
theorem wP (a b:Int):cmp_Compare_int a b=some (xZ a b):=by
 have e:∀x:Int,(x != x)=false:=by simp
 unfold cmp_Compare_int cmp_isNaN_int xZ
 simp only [e,ob_,cond_false]
 by_cases h:a<b
 ·simp only [decide_eq_true h,cond_true,if_pos h]
 ·by_cases h2:a>b
  ·simp only [decide_eq_false h,decide_eq_true h2,cond_true,cond_false,if_neg h,if_pos h2]
  ·simp only [decide_eq_false h,decide_eq_false h2,cond_false,if_neg h,if_neg h2]
theorem Mf (a b:Int):kM [a,b]=some (JD a b):=by
 unfold kM JD
 rw [jG (by simp)]
 simp only [forR,nV]
 cases ha:a==0 with
 | false =>
  have:(a != 0)=true:=by simp [bne,ha]
  simp only [this,cond_true,cond_false,ob_,thenC]
 | true =>
  have:(a != 0)=false:=by simp [bne,ha]
  simp only [this,cond_true,cond_false,ob_]
  cases hb:b==0 with
  | false =>
   have:(b != 0)=true:=by simp [bne,hb]
   simp only [this,cond_true,ob_,thenC]
  | true =>
   have:(b != 0)=false:=by simp [bne,hb]
   simp only [this,cond_false,ob_,thenC]
   rw [eq_of_beq hb]
end Go.Proofs.YtmkljmjhcegapaaGreatDoor.Law

open Go Go.Eng
namespace Go.Proofs.YtmkljmjhcegapaaGreatDoor.Law
set_option linter.unusedVariables false
set_option linter.unusedSimpArgs false
theorem wu (n:Int):IntKind.u64.wrap n=n % 18446744073709551616:=by simp [IntKind.wrap,IntKind.bits,IntKind.signed]
theorem wu_id {n:Int} (h0:0<=n) (h1:n<18446744073709551616):IntKind.u64.wrap n=n:=by rw [wu];exact Int.emod_eq_of_lt h0 h1
theorem wu_in (n:Int):0<=IntKind.u64.wrap n/\IntKind.u64.wrap n<18446744073709551616:=by rw [wu];omega
abbrev BB (l:List UInt8):ByteArray:=⟨l.toArray⟩
theorem RU (l m:List UInt8):BB l++BB m=BB (l++m):=by
  apply y9;rw [toL,toL];simp
theorem xn (l:List UInt8):(BB l).size=l.length:=by show l.toArray.size=_;simp
theorem Oc {x y:ByteArray} (h:x.size+y.size<=1000000000000):zk x y=some (x++y):=by
  unfold zk
  rw [if_neg]
  have:IntKind.i64.max=9223372036854775807:=by decide
  rw [this];omega
def Iu (h:Int) (b:UInt8):Int:=IntKind.u64.wrap ((Py .u64 h (IntKind.u64.wrap (b.toNat:Int)))*1099511628211)
def fnv (bs:List UInt8):Int:=bs.foldl Iu 14695981039346656037
theorem N9:∀(bs:List UInt8) (h:Int),0<=h/\h<18446744073709551616->0<=bs.foldl Iu h/\bs.foldl Iu h<18446744073709551616
  | [],h,hh=>hh
  | b::bs,h,hh=>N9 bs _ (wu_in _)
theorem fnv_in (bs:List UInt8):0<=fnv bs/\fnv bs<18446744073709551616:=N9 bs _ (by decide)
theorem J5 (s:ByteArray):∀(xs:List Nat) (k:Nat) (h:Int),k+xs.length=s.size->forR (λk x u=>nS s k x u) xs k h=some (.go ((s.data.toList.drop k).foldl Iu h))
  | [],k,h,hk=>by
    have:s.data.toList.drop k=[]:=List.drop_eq_nil_iff.2 (by rw [<- Go.Lib.size_eq];simp at hk;omega)
    rw [this];rfl
  | x::xs,k,h,hk=>by
    simp only [List.length_cons]at hk
    have hlt:k<s.data.toList.length:=by rw [<- Go.Lib.size_eq];omega
    have hb:qV s k=s.data.toList[k]:=by simp [qV,List.getD,List.getElem?_eq_getElem hlt]
    simp only [forR]
    unfold nS
    rw [Kt s k (by omega)]
    simp only [ob_]
    have ih:=J5 s xs (k+1) (Iu h (qV s k)) (by omega)
    rw [List.drop_eq_getElem_cons hlt,List.foldl_cons,<- hb]
    exact ih
def qO (n:Nat):UInt8:=if n<10 then UInt8.ofNat (48+n)else UInt8.ofNat (87+n)
def vQ (u:Nat):List UInt8:=if h:u<16 then [qO u]else vQ (u / 16)++[qO (u % 16)]
termination_by u
decreasing_by omega
def Bg:Nat->Nat->List UInt8
  | 0,_=>[]
  | k+1,u=>Bg k (u / 16)++[qO (u % 16)]
theorem sP {u:Nat} (h:u<16):vQ u=[qO u]:=by rw [vQ,dif_pos h]
theorem Ba {u:Nat} (h:¬u<16):vQ u=vQ (u / 16)++[qO (u % 16)]:=by rw [vQ,dif_neg h]
theorem Ko:∀(k u:Nat),(Bg k u).length=k
  | 0,u=>rfl
  | k+1,u=>by simp [Bg,Ko k]
theorem H5:∀k,Bg k 0=List.replicate k 48
  | 0=>rfl
  | k+1=>by
    show Bg k 0++[qO 0]=_
    rw [H5 k,List.replicate_succ']
    rfl
theorem hexM_N:∀(k u:Nat),u<16 ^ (k+1)->(vQ u).length<=k+1/\Bg (k+1) u=List.replicate (k+1-(vQ u).length) 48++vQ u
  | 0,u,h=>by
    have h':u<16:=by simpa using h
    rw [sP h']
    refine⟨Nat.le_refl _,?_⟩
    simp [Bg,Nat.mod_eq_of_lt h']
  | k+1,u,h=>by
    by_cases hu:u<16
    · rw [sP hu]
      refine⟨by simp,?_⟩
      show Bg (k+1) (u / 16)++[qO (u % 16)]=_
      rw [Nat.div_eq_of_lt hu,Nat.mod_eq_of_lt hu,H5]
      simp
    · rw [Ba hu]
      have h2:u / 16<16 ^ (k+1):=by
        rw [Nat.div_lt_iff_lt_mul (by omega)]
        rw [Nat.pow_succ]at h;exact h
      obtain ⟨h3,h4⟩:=hexM_N k (u / 16) h2
      refine⟨by simp;omega,?_⟩
      show Bg (k+1) (u / 16)++[qO (u % 16)]=_
      rw [h4,List.append_assoc]
      congr 2
      simp
def Kh:ByteArray:=⟨#[48,49,50,51,52,53,54,55,56,57,97,98,99,100,101,102]⟩
def digs:ByteArray:=⟨#[48,49,50,51,52,53,54,55,56,57,97,98,99,100,101,102,103,104,105,106,107,108,109,110,111,112,113,114,115,116,117,118,119,120,121,122]⟩
theorem Pd:∀n:Fin 16,subS Kh (n.val:Int) ((n.val+1:Nat):Int)=some (BB [qO n.val])/\Al digs (n.val:Int)=some (qO n.val):=by decide +kernel
theorem Nv {n:Nat} (h:n<16):Al digs (n:Int)=some (qO n):=(Pd ⟨n,h⟩).2
theorem and15 {u:Nat} (h:u<18446744073709551616):vM .u64 (u:Int) 15=((u % 16:Nat):Int):=by
  show IntKind.u64.wrap (((BitVec.ofInt 64 (u:Int)) &&& (BitVec.ofInt 64 15)).toNat:Int)=_
  have h1:((BitVec.ofInt 64 (u:Int)) &&& (BitVec.ofInt 64 15)).toNat=u % 16:=by
    rw [BitVec.toNat_and]
    have e1:(BitVec.ofInt 64 (u:Int)).toNat=u:=by
      rw [BitVec.ofInt_natCast,BitVec.toNat_ofNat];exact Nat.mod_eq_of_lt h
    have e2:(BitVec.ofInt 64 15).toNat=15:=by decide
    rw [e1,e2]
    exact Nat.and_two_pow_sub_one_eq_mod u 4
  rw [h1]
  exact wu_id (by omega) (by omega)
theorem shr4 (u:Nat):zq .u64 (u:Int) 4=some ((u / 16:Nat):Int):=by
  unfold zq
  rw [if_neg (by decide)]
  have e:((2:Int) ^ (min (Int.toNat 4) IntKind.u64.bits))=16:=by decide
  rw [e,Int.fdiv_eq_ediv_of_nonneg _ (by decide)]
  rfl
def nums (l:List UInt8):List Int:=l.map λb=>(b.toNat:Int)
theorem MM (l:List UInt8):Go.strOfNums (nums l)=BB l:=by
  unfold Go.strOfNums nums
  rw [List.map_map]
  have:(l.map ((λn:Int=>UInt8.ofNat n.toNat) ∘ λb:UInt8=>(b.toNat:Int)))=l:=by
    have:((λn:Int=>UInt8.ofNat n.toNat) ∘ λb:UInt8=>(b.toNat:Int))=id:=by
      funext b;simp
    rw [this,List.map_id]
  rw [this]
theorem Ke {a:List Int} {i:Nat} (c:Int) (h:i<a.length):(a.set i c).drop i=c::a.drop (i+1):=by
  rw [List.drop_eq_getElem_cons (by simpa using h)]
  simp only [List.getElem_set_self]
  congr 1
  apply List.ext_getElem?
  intro j
  rw [List.getElem?_drop,List.getElem?_drop,List.getElem?_set_ne (by omega)]
theorem fb_iter:∀(u:Nat),u<18446744073709551616->∀(a:List Int) (i:Nat),a.length=65->i<=65->(vQ u).length<=i ->
    ∃n a' u' i',iterN (λs=>bT 16 4 s) n (a,(u:Int),(i:Int))=some (.go (a',((u':Nat):Int),((i':Nat):Int)))/\u'<16/\a'.length=65/\1<=i'/\i'<=65/\nums [qO u']++a'.drop i'=nums (vQ u)++a.drop i:=by
  intro u
  induction u using Nat.strongRecOn with
  | ind u ih =>
    intro hu a i ha hi hl
    have w16:IntKind.u64.wrap 16=16:=by decide
    have w15:IntKind.u64.wrap (16-1)=15:=by decide
    have w4:IntKind.u64.wrap 4=4:=by decide
    by_cases h16:u<16
    · refine⟨1,a,u,i,?_,h16,ha,?_,hi,by rw [sP h16]⟩
      · simp only [iterN]
        unfold bT
        have hd:decide ((u:Int)>=16)=false:=by simp;omega
        simp only [w16,hd,cond_false,ob_]
      · rw [sP h16]at hl;simpa using hl
    · rw [Ba h16]at hl
      simp only [List.length_append,List.length_cons,List.length_nil]at hl
      have hpos:1<=(vQ (u / 16)).length:=by
        by_cases h:u / 16<16
        · rw [sP h];simp
        · rw [Ba h];simp
      have hlt:u % 16<16:=Nat.mod_lt _ (by omega)
      obtain ⟨j,rfl⟩:∃j,i=j+1:=⟨i-1,by omega⟩
      obtain ⟨n,a',u',i',h1,h2,h3,h4,h5,h6⟩:=ih (u / 16) (by omega) (by omega) (a.set j ((qO (u % 16)).toNat:Int)) j (by simpa using ha) (by omega) (by omega)
      refine⟨n+1,a',u',i',?_,h2,h3,h4,h5,?_⟩
      · simp only [iterN]
        have hstep:bT 16 4 (a,(u:Int),((j+1:Nat):Int))=some (.go (a.set j ((qO (u % 16)).toNat:Int),((u / 16:Nat):Int),(j:Int))):=by
          unfold bT
          have hd:decide ((u:Int)>=16)=true:=by simp;omega
          have hw:w64 (((j+1:Nat):Int)-1)=(j:Int):=by rw [aZ (by omega)];omega
          have hi1:inN (j:Int) 65=some ():=by unfold inN;rw [if_pos ⟨by omega,by omega⟩]
          have hg:a[(j:Int).toNat]? = some (a[j]'(by omega)):=by rw [Int.toNat_natCast];exact List.getElem?_eq_getElem _
          simp only [w16,w15,w4,hd,cond_true,and15 hu,hw,hi1,hg,shr4]
          have hdg:Al (⟨#[48,49,50,51,52,53,54,55,56,57,97,98,99,100,101,102,103,104,105,106,107,108,109,110,111,112,113,114,115,116,117,118,119,120,121,122]⟩:ByteArray) ((u % 16:Nat):Int)=some (qO (u % 16)):=Nv hlt
          rw [hdg]
          simp only [ob_,Int.toNat_natCast]
        rw [hstep]
        exact h1
      · rw [h6,Ba h16,Ke _ (by omega)]
        unfold nums
        simp
theorem pow2:gz 16=some true:=by decide +kernel
theorem tz16:kR (IntKind.u64.wrap 16)=some 4:=by decide +kernel
theorem Gy (h:Int) (h0:0<=h) (h1:h<18446744073709551616):j3 h 16=some (BB (vQ h.toNat)):=by
  obtain ⟨u,rfl⟩:∃u:Nat,h=u:=⟨h.toNat,by omega⟩
  have hu:u<18446744073709551616:=by omega
  have hm:=hexM_N 15 u (by simpa using hu)
  have hfb:fu ([]:List Int) (u:Int) 16 false false=some (([]:List Int),BB (vQ u)):=by
    unfold fu
    obtain ⟨n,a',u',i',e1,e2,e3,e4,e5,e6⟩:=fb_iter u hu (List.replicate 65 (0:Int)) 65 (by simp) (by omega) (by omega)
    have hlp:fq ((List.replicate 65 (0:Int)),(u:Int),(65:Int)) (λs=>bT 16 4 s)=some (.go (a',((u':Nat):Int),((i':Nat):Int))):=eu e1
    have hlt:i'-1<a'.length:=by omega
    have hw:w64 ((i':Int)-1)=((i'-1:Nat):Int):=by rw [aZ (by omega)];omega
    have hi1:inN ((i'-1:Nat):Int) 65=some ():=by unfold inN;rw [if_pos ⟨by omega,by omega⟩]
    have hg:a'[i'-1]? = some (a'[i'-1]'hlt):=List.getElem?_eq_getElem _
    have hdg:Al (⟨#[48,49,50,51,52,53,54,55,56,57,97,98,99,100,101,102,103,104,105,106,107,108,109,110,111,112,113,114,115,116,117,118,119,120,121,122]⟩:ByteArray) (u':Int)=some (qO u'):=Nv e2
    have hset:(a'.set (i'-1) ((qO u').toNat:Int)).length=65:=by simpa using e3
    have hln:KZ (a'.set (i'-1) ((qO u').toNat:Int)) 65=some ():=by unfold KZ;rw [if_pos hset]
    have hsr:oh (a'.set (i'-1) ((qO u').toNat:Int)) ((i'-1:Nat):Int) (((a'.set (i'-1) ((qO u').toNat:Int)).length:Nat):Int)=some ():=by
      unfold oh;rw [if_pos ⟨by omega,by omega,by rw [hset];omega,by simp⟩]
    have hcut:DI (a'.set (i'-1) ((qO u').toNat:Int)) (i'-1) (65-(i'-1))=nums (vQ u):=by
      unfold DI
      rw [Ke _ hlt,show i'-1+1=i' by omega]
      have:(((qO u').toNat:Int)::a'.drop i')=nums (vQ u):=by
        have:=e6
        rw [show (List.replicate 65 (0:Int)).drop 65=[] by simp,List.append_nil]at this
        exact this
      rw [this,List.take_of_length_le]
      have h9:=congrArg List.length this
      simp only [List.length_cons,List.length_drop]at h9
      omega
    have c1:decide ((16:Int)<2)=false:=by decide
    have c2:((16:Int)==10)=false:=by decide
    have c3:decide ((16:Int)>36)=false:=by decide
    simp only [c1,c2,c3,cond_false,cond_true,ob_,pow2,tz16,hlp,gN,hdg,hw,hi1,hg,Int.toNat_natCast,hln,hsr]
    have e7:(((a'.set (i'-1) ((qO u').toNat:Int)).length:Nat):Int).toNat=65:=by rw [hset];rfl
    rw [Int.toNat_natCast]at e7
    rw [e7,hcut,MM]
  unfold j3 iG
  have c2:((16:Int)==10)=false:=by decide
  rw [c2]
  simp only [cond_false,hfb,ob_,Int.toNat_natCast]
theorem KY:∀n,Go.Lib.repeatL [48] n=List.replicate n 48
  | 0=>rfl
  | n+1=>by simp [Go.Lib.repeatL,KY n,List.replicate_succ]
theorem mark_eq (s:ByteArray) (hs:s.size<=1000000000):pW s=some (BB (Bg 16 (fnv s.data.toList).toNat)):=by
  unfold pW
  have hl:(List.range ((s.size:Int)).toNat).length<=1000000000000:=by simp;omega
  rw [jG hl,J5 s _ 0 _ (by simp)]
  simp only [ob_,gN,List.drop_zero]
  obtain ⟨b1,b2⟩:=fnv_in s.data.toList
  have hf:=Gy (fnv s.data.toList) b1 b2
  have e:s.data.toList.foldl Iu 14695981039346656037=fnv s.data.toList:=rfl
  rw [e,hf]
  simp only [ob_,xn]
  obtain ⟨m1, m2⟩ := hexM_N 15 (fnv s.data.toList).toNat (by have : (16 : Nat) ^ (15 + 1) = 18446744073709551616 := by decide
                                                             omega)
  have hw:w64 (16-((vQ (fnv s.data.toList).toNat).length:Int))=((16-(vQ (fnv s.data.toList).toNat).length:Nat):Int):=by rw [aZ (by omega)];omega
  rw [hw]
  have hr:strings_Repeat (⟨#[48]⟩:ByteArray) ((16-(vQ (fnv s.data.toList).toNat).length:Nat):Int)=some (BB (List.replicate (16-(vQ (fnv s.data.toList).toNat).length) 48)):=by
    unfold strings_Repeat D7
    rw [if_pos ⟨by omega,by omega,by rw [Int.toNat_natCast,show (⟨#[48]⟩:ByteArray).size=1 from rfl];omega⟩,Int.toNat_natCast]
    rw [show (⟨#[48]⟩:ByteArray).data.toList=[48] from rfl,KY]
  rw [hr]
  simp only [ob_]
  rw [Oc (by rw [xn,xn];simp;omega),RU,<- m2]
  rfl
end Go.Proofs.YtmkljmjhcegapaaGreatDoor.Law

open Go Go.Eng
namespace Go.Proofs.YtmkljmjhcegapaaGreatDoor.Law
set_option linter.unusedVariables false
set_option linter.unusedSimpArgs false
def Med (n:Int):Prop := -1000000000000000<=n/\n<=1000000000000000
theorem IG {n:Int} (h:Med n):strconv_Itoa n=some (BB (Go.Lib.itoa n)):=by
 unfold strconv_Itoa Ny
 unfold Med at h
 rw [if_pos ⟨by omega,by omega⟩]
theorem vJ {n:Int} (h:Med n):(Go.Lib.itoa n).length<=21:=by
 unfold Med at h
 exact Go.Lib.itoa_length_le n (by omega) (by omega)
theorem zC (l m:List UInt8) (h:l.length+m.length<=1000000000000):zk (BB l) (BB m)=some (BB (l++m)):=by
 rw [Oc (by rw [xn,xn];exact h),RU]
def Aw (x:Log_):Prop:=ShortK x.Player/\ShortK x.Item/\ShortK x.Sum/\Med x.No/\Med x.Clock/\Med x.Long
def NU (x:Log_):List UInt8:=x.Player.data.toList++[32]++x.Item.data.toList++[32]++Go.Lib.itoa x.No++[32]++Go.Lib.itoa x.Clock++[32]++Go.Lib.itoa x.Long
theorem vk {s:ByteArray} (h:ShortK s):s.data.toList.length<=1000:=by rw [<- Go.Lib.size_eq];exact h
theorem OB {x:Log_} (h:Aw x):(NU x).length<=2100:=by
 obtain ⟨h1,h2,_,h4,h5,h6⟩:=h
 have:=vk h1;have:=vk h2;have:=vJ h4;have:=vJ h5;have:=vJ h6
 simp only [NU,List.length_append,List.length_cons,List.length_nil]
 omega
theorem line_eq {x:Log_} (h:Aw x):rY x=some (BB (NU x)):=by
 obtain ⟨h1,h2,_,h4,h5,h6⟩:=h
 have l1:=vk h1;have l2:=vk h2;have l4:=vJ h4;have l5:=vJ h5;have l6:=vJ h6
 unfold rY
 rw [IG h4,IG h5,IG h6]
 rw [show x.Player=BB x.Player.data.toList from rfl,show x.Item=BB x.Item.data.toList from rfl,show (⟨#[32]⟩:ByteArray)=BB [32] from rfl]
 simp only [ob_]
 rw [zC _ _ (by simp only [List.length_append,List.length_cons,List.length_nil];omega)];simp only [ob_]
 rw [zC _ _ (by simp only [List.length_append,List.length_cons,List.length_nil];omega)];simp only [ob_]
 rw [zC _ _ (by simp only [List.length_append,List.length_cons,List.length_nil];omega)];simp only [ob_]
 rw [zC _ _ (by simp only [List.length_append,List.length_cons,List.length_nil];omega)];simp only [ob_]
 rw [zC _ _ (by simp only [List.length_append,List.length_cons,List.length_nil];omega)];simp only [ob_]
 rw [zC _ _ (by simp only [List.length_append,List.length_cons,List.length_nil];omega)];simp only [ob_]
 rw [zC _ _ (by simp only [List.length_append,List.length_cons,List.length_nil];omega)];simp only [ob_]
 rw [zC _ _ (by simp only [List.length_append,List.length_cons,List.length_nil];omega)];simp only [ob_]
 rfl
def mk (l:List UInt8):ByteArray:=BB (Bg 16 (fnv l).toNat)
theorem N7 (l:List UInt8):(mk l).size=16:=by unfold mk;rw [xn,Ko]
theorem QM (l:List UInt8):ShortK (mk l):=by unfold ShortK;rw [N7];decide
theorem markP (l:List UInt8) (h:l.length<=1000000000):pW (BB l)=some (mk l):=mark_eq (BB l) (by rw [xn];exact h)
def rJ (x:Log_):Int:=bif !keyB x.Player then 5 else bif !keyB x.Item then 5 else bif (qz x.No 1 1000000||(qz x.Clock 0 345686399999||qz x.Long 1 86400000))then 1 else 0
theorem Dt {x:Log_} (h:Aw x):kT x=some (rJ x):=by
 obtain ⟨h1,h2,_,_,_,_⟩:=h
 unfold ShortK at h1 h2
 unfold kT rJ
 rw [ng x.Player (by omega),ng x.Item (by omega)]
 simp only [ob_,uq]
 cases keyB x.Player <;> cases keyB x.Item <;> cases qz x.No 1 1000000 <;> cases qz x.Clock 0 345686399999 <;> cases qz x.Long 1 86400000 <;> rfl
def Pk (b:UInt8):Bool:=Kh.data.toList.contains b
def yE (s:ByteArray):Bool:=(s.size==16)&&s.data.toList.all Pk
theorem size16 (s:ByteArray):((s.size:Int)==16)=(s.size==16):=by
 rw [Bool.eq_iff_iff];simp only [beq_iff_eq];omega
theorem yR {p:UInt8->Bool}:∀(l:List UInt8),l.dropWhile p=[]↔l.all p=true
 | []=>by simp
 | x::l=>by
  rw [List.dropWhile_cons]
  cases h:p x with
  | true=>simp [h,yR l]
  | false=>simp [h]
theorem QJ (l cs:List UInt8):Go.Lib.trimS l cs=[]↔l.all (cs.contains ·)=true:=by
 unfold Go.Lib.trimS Go.Lib.trimLeftS Go.Lib.trimRightS
 rw [yR,List.all_reverse]
 constructor
 ·intro h
  have h2:(l.reverse.dropWhile (cs.contains ·))=[]:=by
   cases hd:l.reverse.dropWhile (cs.contains ·)with
   | nil=>rfl
   | cons x r =>
    rw [hd]at h
    have h3:∀(m:List UInt8),m.dropWhile (cs.contains ·)=x::r->cs.contains x=false:=by
     intro m
     induction m with
     | nil=>intro e;simp at e
     | cons y m ih =>
      intro e
      rw [List.dropWhile_cons]at e
      cases hy:cs.contains y with
      | true=>rw [hy]at e;exact ih e
      | false=>rw [hy]at e;simp only [Bool.false_eq_true,if_false,List.cons.injEq]at e;rw [<- e.1];exact hy
    have:=h3 _ hd
    simp only [List.all_cons,this,Bool.false_and,Bool.false_eq_true]at h
  rw [yR,List.all_reverse]at h2
  exact h2
 ·intro h
  have:l.reverse.dropWhile (cs.contains ·)=[]:=by rw [yR,List.all_reverse];exact h
  rw [this];rfl
theorem Hl {s:ByteArray} (h:ShortK s):nE s=some (yE s):=by
 unfold ShortK at h
 unfold nE yE
 rw [size16]
 have ht:rO s (⟨#[48,49,50,51,52,53,54,55,56,57,97,98,99,100,101,102]⟩:ByteArray)=some (BB (Go.Lib.trimS s.data.toList Kh.data.toList)):=by
  unfold rO IK
  rw [if_pos ⟨by omega,by decide,by decide⟩]
  rfl
 rw [ht]
 have e:sEq (BB (Go.Lib.trimS s.data.toList Kh.data.toList)) (⟨#[]⟩:ByteArray)=s.data.toList.all Pk:=by
  rw [Bool.eq_iff_iff,ql]
  have:=QJ s.data.toList Kh.data.toList
  constructor
  ·intro h
   apply this.1
   have:=congrArg (λx:ByteArray=>x.data.toList) h
   simpa using this
  ·intro h
   rw [this.2 h]
 simp only [ob_,e]
 cases (s.size==16) <;> rfl
theorem PU:∀n:Fin 16,Pk (qO n.val)=true:=by decide +kernel
theorem J6:∀(k u:Nat),(Bg k u).all Pk=true
 | 0,u=>rfl
 | k+1,u=>by
  show (Bg k (u / 16)++[qO (u % 16)]).all Pk=true
  rw [List.all_append,J6 k,List.all_cons,PU ⟨u % 16,Nat.mod_lt _ (by omega)⟩];rfl
theorem NA (l:List UInt8):yE (mk l)=true:=by
 unfold yE
 rw [N7]
 show ((16==16)&&(Bg 16 (fnv l).toNat).all Pk)=true
 rw [J6];rfl
def cmpL (a b:Log_):Int:=JD (uF a.Player b.Player) (xZ a.No b.No)
theorem Gg (a b:Log_):kG a b=some (cmpL a b):=by
 simp only [kG,xX,wP,Mf,ob_];rfl
theorem yN (a:ByteArray):uF a a=0:=by
 rcases wZ a a with⟨h,_⟩|⟨_,h⟩|⟨h,_⟩
 ·exact absurd h (kJ a)
 ·exact h
 ·exact absurd h (kJ a)
def GI (p:Option Log_) (x:Log_):Int:=bif rJ x != 0 then rJ x else bif !yE x.Sum then 3 else match p with
 | none=>0
 | some o=>bif decide (cmpL o x>=0)then 7 else 0
def Ic (l:List Log_):Int:=bif decide (l.length>2000)then 2 else vN GI none l
theorem logsK (l:List Log_) (hs:∀x∈l,Aw x) (hl:l.length<=1000000):kr l=some (Ic l):=by
 unfold kr Ic
 have e:decide ((l.length:Int)>2000)=decide (l.length>2000):=decide_eq_decide.2 (by omega)
 rw [e]
 cases decide (l.length>2000)with
 | true=>rfl
 | false =>
  simp only [cond_false]
  rw [jG (by omega),zW (stp:=GI) l l 0 rfl (λk x hx => ?_)]
  ·simp only [ob_,F9];rfl
  ·have hg:=hs x (List.mem_of_getElem? hx)
   simp only [lI,Dt hg,Hl hg.2.2.1,ob_,GI]
   cases hf:(rJ x != 0)with
   | true =>
    have:(rJ x==0)=false:=by simpa using hf
    simp only [cond_true,x8,this,cond_false]
   | false =>
   simp only [cond_false]
   cases yE x.Sum with
   | false=>rfl
   | true =>
   simp only [Bool.not_true,cond_false]
   by_cases hk0:0<k
   ·obtain ⟨y,h1,h2⟩:=GZ hx hk0 (by omega)
    have hd:decide ((k:Int)>0)=true:=by simp;omega
    simp only [hd,cond_true,h1,ob_,zK,if_neg (show ¬k=0 by omega),h2,Gg]
    cases decide (cmpL y x>=0) <;> rfl
   ·have hk0:k=0:=by omega
    subst hk0
    rfl
end Go.Proofs.YtmkljmjhcegapaaGreatDoor.Law

open Go Go.Eng
namespace Go.Proofs.YtmkljmjhcegapaaGreatDoor.Law
set_option linter.unusedVariables false
set_option linter.unusedSimpArgs false
def GoodB (x:Beat):Prop:=ShortK x.Player
end Go.Proofs.YtmkljmjhcegapaaGreatDoor.Law

