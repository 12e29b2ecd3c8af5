/-
  THE PLAIN LAW (part 1).
-/
import Derived.Test.YtnfojnnfidnikaeGreatDoorEng5
import Derived.Test.YtnfojnnfidnikaeGreatDoorDefs
import Derived.Lib.ItoaLen
namespace Go.Eng
set_option linter.unusedVariables false
set_option linter.unusedSimpArgs false
def EQ {α:Type} (cmp:α->α->Option Int) (I:Int) (f:(List α)×Int):Option (Ctl ((List α)×Int) (Unit)) :=
 (bif (decide (f.2>I))then (inR f.2 f.1).bind λ_=>(f.1[(0+(f.2).toNat)]?).bind λo=>(inR (w64 (f.2-1)) f.1).bind λ_=>(f.1[(0+((w64 (f.2-1))).toNat)]?).bind λB=>(cmp o B).bind λA=>some (decide (A<0))else some false).bind λF=>bif F then (inR (w64 (f.2-1)) f.1).bind λ_=>(f.1[(0+((w64 (f.2-1))).toNat)]?).bind λh=>(inR f.2 f.1).bind λ_=>(f.1[(0+(f.2).toNat)]?).bind λj=>(inR f.2 f.1).bind λ_=>(f.1[(0+(f.2).toNat)]?).bind λJ=>(inR (w64 (f.2-1)) (f.1.set (0+(f.2).toNat) h)).bind λ_=>((f.1.set (0+(f.2).toNat) h)[(0+((w64 (f.2-1))).toNat)]?).bind λL=>some (.go (((f.1.set (0+(f.2).toNat) h).set (0+((w64 (f.2-1))).toNat) j),(w64 (f.2-1))))else some (.brk (f.1,f.2))
noncomputable def zK {α:Type} (cmp:α->α->Option Int) (o:Int) (A:Int) (f:(List α)×Int):Option (Ctl ((List α)×Int) (Unit)) :=
 bif (decide (f.2<o))then (dS (f.1,f.2) (λs=>EQ cmp A s)).bind λj=>thenC j (λh=>some (.go (h.1,(w64 (f.2+1))))) (λ_=>none)else some (.brk (f.1,f.2))
noncomputable def Ct {α:Type} (cmp:α->α->Option Int) (f:(List α)) (j:Int) (A:Int):Option ((List α)) :=
 (dS (f,(w64 (j+1))) (λs=>zK cmp A j s)).bind λo=>thenC o (λh=>some h.1) (λ_=>none)
noncomputable def SB {α:Type} (cmp:α->α->Option Int) (o:Int) (A:Int) (f:(List α)) (h:Int) (B:Unit):Option (Ctl (Unit) ((List α))) :=
 bif (decide ((w64 (o-A))<=12))then (Ct cmp f A o).bind λj=>(fu j f).bind λ_=>some (.ret j)else bif (h==0)then none else none
noncomputable def OH {α:Type} (cmp:α->α->Option Int) (f:(List α)) (A:Int) (o:Int) (h:Int):Option ((List α)) :=
 (dS () (λs=>SB cmp o A f h s)).bind λj=>thenC j (λB=>some f) (λr=>some r)
theorem PI {α:Type} (u v:α) (C:List α):∀A:List α,((A++u::v::C).set (A.length+1) u).set A.length v=A++v::u::C
 | []=>rfl
 | a::A=>by simp only [List.cons_append,List.length_cons,List.set_cons_succ,PI u v C A]
theorem get_0 {α:Type} (u:α) (C A:List α):(A++u::C)[A.length]? = some u:=by simp
theorem get_1 {α:Type} (u v:α) (C A:List α):(A++u::v::C)[A.length+1]? = some v:=by
 rw [List.getElem?_append_right (by omega)];simp
theorem TM {α:Type} (u v w:α) (C:List α):∀A:List α,(A++u::v::C).set (A.length+1) w=A++u::w::C
 | []=>rfl
 | a::A=>by simp only [List.cons_append,List.length_cons,List.set_cons_succ,TM u v w C A]
theorem NQ {α:Type} {xs:List α} {i:Nat} (h:i<xs.length):inR (i:Int) xs=some ():=by
 unfold inR;rw [if_pos ⟨by omega,by simpa using h⟩]
section
variable {α:Type} {cmp:α->α->Option Int} {le:α->α->Prop} {p:α->Prop}
theorem insL1_0 (v:α) (C:List α):EQ cmp 0 (v::C,0)=some (.brk (v::C,0)):=rfl
theorem PS (u v:α) (A C:List α) {c:Int} (hc:cmp v u=some c) (hl:A.length<=1000000000):EQ cmp 0 (A++u::v::C,((A.length+1:Nat):Int))=some (bif decide (c<0)then .go (A++v::u::C,(A.length:Int))else .brk (A++u::v::C,((A.length+1:Nat):Int))):=by
 have j:w64 (((A.length+1:Nat):Int)-1)=(A.length:Int):=by rw [Ep _ (by omega)];omega
 have h1:inR ((A.length+1:Nat):Int) (A++u::v::C)=some ():=NQ (by simp)
 have h2:inR (A.length:Int) (A++u::v::C)=some ():=NQ (by simp)
 have h:inR (A.length:Int) (A++u::u::C)=some ():=NQ (by simp)
 have o:decide (((A.length+1:Nat):Int)>0)=true:=by simp <;> omega
 have B:0+((A.length+1:Nat):Int).toNat=A.length+1:=by omega
 have f:0+((A.length:Nat):Int).toNat=A.length:=by omega
 unfold EQ
 simp only [j,h1,h2,o,B,f,get_0,get_1,ob_,hc,cond_true,TM,h]
 cases decide (c<0)with
 | false=>rfl
 | true =>
  simp only [cond_true]
  have:=PI u v C A
  rw [TM]at this
  rw [this]
theorem Ju (hc:∀a b,p a->p b->∃c,cmp a b=some c/\(c<0->le a b)/\(¬c<0->le b a)) (Y:∀a b c,le a b->le b c->le a c) (v:α) (Z:p v) (R:List α):∀(n:Nat) (A B:List α),A.length=n->n<=1000000000->(∀a∈A,p a)->(A++B).Pairwise le->(∀b∈B,le v b) ->
  ∃J N,iterN (λs=>EQ cmp 0 s) (n+1) (A++v::(B++R),(A.length:Int))=some (.go (J++v::(N++R),(J.length:Int)))/\J++N=A++B/\(J++v::N).Pairwise le
 | 0,A,B,L,hn,j,I,hb=>by
  have:A=[]:=List.eq_nil_of_length_eq_zero L
  subst this
  exact⟨[],B,by simp only [List.nil_append,List.length_nil,iterN,Option.bind];rfl,rfl,by simpa using ⟨hb,I⟩⟩
 | n+1,A,B,L,hn,j,I,hb=>by
  rcases List.eq_nil_or_concat A with h|⟨F,u,h⟩
  ·rw [h]at L;cases L
  ·subst h
   simp only [List.concat_eq_append]at L I j ⊢
   have W:F.length=n:=by simpa using L
   have hl:(F++[u]).length=F.length+1:=by simp
   have e:F++[u]++v::(B++R)=F++u::v::(B++R):=by simp
   obtain ⟨c,h1,h2,h3⟩:=hc v u Z (j u (by simp))
   rw [hl,e,iterN,PS u v F (B++R) h1 (by omega),ob_]
   by_cases hcn:c<0
   ·simp only [decide_eq_true hcn,cond_true]
    have T:(F++(u::B)).Pairwise le:=by simpa using I
    obtain ⟨J,N,k1,k2,k3⟩:=Ju hc Y v Z R n F (u::B) W (by omega) (λa o=>j a (by simp [o])) T (λb f=>by
     rcases List.mem_cons.1 f with rfl|f
     ·exact h2 hcn
     ·exact hb b f)
    refine⟨J,N,?_,by rw [k2];simp,k3⟩
    rw [<- k1];simp
   ·simp only [decide_eq_false hcn,cond_false]
    refine⟨F++[u],B,by simp,rfl,?_⟩
    have M:=h3 hcn
    rw [List.pairwise_append]at I ⊢
    obtain ⟨O,p2,p3⟩:=I
    refine⟨O,List.pairwise_cons.2 ⟨hb,p2⟩,λa o b f => ?_⟩
    rcases List.mem_cons.1 f with rfl|f
    ·rcases List.mem_append.1 o with o|o
     ·rw [List.pairwise_append]at O
      exact Y _ _ _ (O.2.2 a o u (by simp)) M
     ·rw [List.mem_singleton]at o;subst o;exact M
    ·exact p3 a o b f
theorem JJ (hc:∀a b,p a->p b->∃c,cmp a b=some c/\(c<0->le a b)/\(¬c<0->le b a)) (O:∀a b c,le a b->le b c->le a c):∀(Q P:List α),P.length+Q.length<=1000000000->(∀x∈P++Q,p x)->P.Pairwise le ->
  ∃s,iterN (λs=>zK cmp ((P.length+Q.length:Nat):Int) 0 s) (Q.length+1) (P++Q,(P.length:Int))=some (.go (s,((P.length+Q.length:Nat):Int)))/\s.Perm (P++Q)/\s.Pairwise le
 | [],P,hl,f,I=>by
  refine⟨P,?_,by simp,I⟩
  have M:decide ((P.length:Int)<((P.length+([]:List α).length:Nat):Int))=false:=by simp
  simp only [iterN,zK,M,cond_false,ob_,List.append_nil]
  simp
 | v::Q,P,hl,f,I=>by
  simp only [List.length_cons]at hl
  have M:decide ((P.length:Int)<((P.length+(v::Q).length:Nat):Int))=true:=by simp only [decide_eq_true_eq,List.length_cons];omega
  obtain ⟨o,A,R,L,Z⟩:=Ju hc O v (f v (by simp)) Q P.length P [] rfl (by omega) (λa ha=>f a (by simp [ha])) (by simpa using I) (λb hb=>by cases hb)
  rw [List.nil_append]at R
  have F:=dB R
  rw [List.length_cons,iterN]
  have hw:w64 ((P.length:Int)+1)=((o++v::A).length:Int):=by
   have:=congrArg List.length L
   simp only [List.length_append,List.length_nil]at this
   rw [Ep _ (by omega)];simp only [List.length_append,List.length_cons];omega
  have h1:zK cmp ((P.length+(Q.length+1):Nat):Int) 0 (P++v::Q,(P.length:Int))=some (.go (o++v::(A++Q),((o++v::A).length:Int))):=by
   have J:decide ((P.length:Int)<((P.length+(Q.length+1):Nat):Int))=true:=M
   unfold zK
   simp only [J,cond_true,F,ob_,thenC,hw]
  have N:(o++v::A).length=P.length+1:=by
   have:=congrArg List.length L
   simp only [List.length_append,List.length_nil,List.length_cons]at this ⊢
   omega
  have hk:(o++A).Perm P:=by rw [L];simp
  have j:(o++v::A).Perm (P++[v]):=(List.perm_middle).trans ((List.Perm.cons v hk).trans (List.perm_append_comm (l₁:=[v]) (l₂:=P)))
  obtain ⟨s,Y,m2,T⟩:=JJ hc O Q (o++v::A) (by omega) (λx B=>by
   rcases List.mem_append.1 B with B|B
   ·have:=j.mem_iff.1 B
    exact f x (by rcases List.mem_append.1 this with h | h <;> simp_all)
   ·exact f x (by simp [B])) Z
  rw [h1,ob_]
  have e:o++v::(A++Q)=(o++v::A)++Q:=by simp
  have W:P.length+(Q.length+1)=(o++v::A).length+Q.length:=by omega
  simp only
  rw [e,W]
  refine⟨s,Y,m2.trans ?_,T⟩
  have:=List.Perm.append_right Q j
  simpa using this
theorem pdq_ok (hc:∀a b,p a->p b->∃c,cmp a b=some c/\(c<0->le a b)/\(¬c<0->le b a)) (J:∀a b c,le a b->le b c->le a c) (l:List α) (hl:l.length<=12) (h:∀x∈l,p x) (f:Int):∃s,OH cmp l 0 (l.length:Int) f=some s/\s.Perm l/\s.Pairwise le:=by
 have key:∃s,Ct cmp l 0 (l.length:Int)=some s/\s.Perm l/\s.Pairwise le:=by
  unfold Ct
  have M:w64 (0+1)=1:=rfl
  rw [M]
  cases l with
  | nil=>exact⟨[],by rw [dB (n:=1) (o := .go ([],1)) rfl];rfl,.nil,.nil⟩
  | cons v Q =>
   obtain ⟨s,A,N,B⟩:=JJ hc J Q [v] (by simp only [List.length_cons,List.length_nil]at hl ⊢;omega) (λx I=>h x (by simpa using I)) (List.pairwise_singleton _ _)
   have e:([v].length+Q.length:Nat)=(v::Q).length:=by simp only [List.length_cons,List.length_nil];omega
   rw [e]at A
   have:=dB A
   refine⟨s,?_,N,B⟩
   show (dS (v::Q,1) _).bind _=_
   have F:(([v]++Q,(([v]:List α).length:Int)):List α×Int)=(v::Q,1):=rfl
   rw [F]at this
   rw [this];rfl
 obtain ⟨s,h1,h2,L⟩:=key
 refine⟨s,?_,h2,L⟩
 have j:fu s l=some ():=by unfold fu;rw [if_pos h2.length_eq]
 have O:decide (w64 ((l.length:Int)-0)<=12)=true:=by
  have:(l.length:Int)-0=l.length:=by omega
  rw [this,Ep _ (by omega)];simp;omega
 have:dS () (λs=>SB cmp (l.length:Int) 0 l f s)=some (.ret s):=by
  refine dB (n:=1) ?_
  simp only [iterN,SB,O,cond_true,h1,j,ob_]
 unfold OH
 rw [this];rfl
end
end Go.Eng

namespace Go.Eng
set_option linter.unusedVariables false
set_option linter.unusedSimpArgs false
noncomputable def stL1 {α:Type} (cmp:α->α->Option Int) (j:Int) (f:(List α)×Int×Int):Option (Ctl ((List α)×Int×Int) (Unit)) :=
 bif (decide (f.2.2<=j))then (Ct cmp f.1 f.2.1 f.2.2).bind λh=>(fu h f.1).bind λ_=>some (.go (h,f.2.2,(w64 (f.2.2+20))))else some (.brk (f.1,f.2.1,f.2.2))
def stL2 (f:Int) (h:Int) (j:Unit):Option (Ctl (Unit) (Unit)) :=
 bif (decide ((w64 (2*f))<=h))then none else some (.brk ())
noncomputable def stL3 (h:Int) (f:Int):Option (Ctl (Int) (Unit)) :=
 bif (decide (f<h))then (dS () (λs=>stL2 f h s)).bind λj=>thenC j (λA=>(bif (decide ((w64 (0+f))<h))then none else some ()).bind λo=>some (.go (w64 (f*2)))) (λ_=>none)else some (.brk f)
noncomputable def Pe {α:Type} (cmp:α->α->Option Int) (f:(List α)) (j:Int):Option ((List α)) :=
 (dS (f,0,20) (λs=>stL1 cmp j s)).bind λB=>thenC B (λo=>(Ct cmp o.1 o.2.1 j).bind λh=>(fu h o.1).bind λ_=>(dS 20 (λs=>stL3 j s)).bind λA=>thenC A (λF=>some h) (λ_=>none)) (λ_=>none)
def iA {α:Type} (c:α->α->Int) (v:α):List α->List α
 | []=>[v]
 | u::R=>bif decide (c v u<0)then u::iA c v R else v::u::R
def wZ {α:Type} (c:α->α->Int):List α->List α->List α
 | R,[]=>R
 | R,v::Q=>wZ c (iA c v R) Q
def nz {α:Type} (c:α->α->Int) (l:List α):List α:=(wZ c [] l).reverse
theorem ut {α:Type} (c:α->α->Int) (v:α):∀R:List α,(iA c v R).Perm (v::R)
 | []=>List.Perm.refl _
 | u::R=>by
  unfold iA
  cases decide (c v u<0)with
  | true=>exact ((ut c v R).cons u).trans (List.Perm.swap v u R)
  | false=>exact List.Perm.refl _
theorem EL {α:Type} (c:α->α->Int):∀(Q R:List α),(wZ c R Q).Perm (Q++R)
 | [],R=>List.Perm.refl _
 | v::Q,R=>by
  have h1:=EL c Q (iA c v R)
  refine h1.trans ?_
  refine ((ut c v R).append_left Q).trans ?_
  exact List.perm_middle
theorem Jz {α:Type} (c:α->α->Int) (l:List α):(nz c l).Perm l:=by
 unfold nz
 refine (List.reverse_perm _).trans ?_
 simpa using EL c l []
theorem yJ {α:Type} (c:α->α->Int) (l:List α):(nz c l).length=l.length:=(Jz c l).length_eq
theorem Ic {α:Type} (c:α->α->Int) (v:α) (R:List α):(iA c v R).length=R.length+1:=by simpa using (ut c v R).length_eq
section
variable {α:Type} {cmp:α->α->Option Int} {c:α->α->Int} {p:α->Prop}
theorem Td (hc:∀a b,p a->p b->cmp a b=some (c a b)) (v:α) (o:p v):∀(R B:List α),R.length<=1000000000->(∀a∈R,p a) ->
  ∃i,iterN (λs=>EQ cmp 0 s) (R.length+1) (R.reverse++v::B,(R.length:Int))=some (.go ((iA c v R).reverse++B,i))
 | [],B,j,f=>⟨0,by
   show iterN (λs=>EQ cmp 0 s) 1 (v::B,0)=_
   simp only [iterN]
   show ((EQ cmp 0 (v::B,0)).bind _)=_
   rw [insL1_0];rfl⟩
 | u::R,B,j,f=>by
  simp only [List.length_cons]at j
  have h:=hc v u o (f u (by simp))
  have e:(u::R).reverse++v::B=R.reverse++u::v::B:=by simp
  have hs:=PS (cmp:=cmp) u v R.reverse B h (by simpa using (by omega:R.length<=1000000000))
  rw [List.length_reverse]at hs
  rw [e,List.length_cons,iterN,hs]
  unfold iA
  cases hd:decide (c v u<0)with
  | true =>
   obtain ⟨i,hi⟩:=Td hc v o R (u::B) (by omega) (λa A=>f a (List.mem_cons_of_mem _ A))
   refine⟨i,?_⟩
   simp only [cond_true,ob_]
   rw [hi];simp
  | false =>
   refine⟨((R.length+1:Nat):Int),?_⟩
   simp only [cond_false,ob_]
   simp
theorem Pv (hc:∀a b,p a->p b->cmp a b=some (c a b)):∀(Q R:List α),R.length+Q.length<=1000000000->(∀a∈R,p a)->(∀a∈Q,p a) ->
  iterN (λs=>zK cmp ((R.length+Q.length:Nat):Int) 0 s) (Q.length+1) (R.reverse++Q,(R.length:Int))=some (.go ((wZ c R Q).reverse,((R.length+Q.length:Nat):Int)))
 | [],R,I,o,j=>by
  have B:decide ((R.length:Int)<((R.length+([]:List α).length:Nat):Int))=false:=decide_eq_false (by simp)
  simp only [iterN]
  unfold zK
  simp only [B,cond_false,ob_]
  simp [wZ]
 | v::Q,R,I,o,j=>by
  simp only [List.length_cons]at I
  have B:decide ((R.length:Int)<((R.length+(v::Q).length:Nat):Int))=true:=decide_eq_true (by simp only [List.length_cons];omega)
  obtain ⟨i,hi⟩:=Td hc v (j v (by simp)) R Q (by omega) o
  have L:w64 ((R.length:Int)+1)=((R.length+1:Nat):Int):=by rw [Ep _ (by omega)];omega
  have f:zK cmp ((R.length+(v::Q).length:Nat):Int) 0 (R.reverse++v::Q,(R.length:Int))=some (.go ((iA c v R).reverse++Q,((R.length+1:Nat):Int))):=by
   unfold zK
   simp only [B,cond_true]
   rw [dB hi]
   simp only [ob_,L,thenC]
  have A:=Pv hc Q (iA c v R) (by rw [Ic];omega) (λa F=>by
   have:=(ut c v R).mem_iff.1 F
   rcases List.mem_cons.1 this with rfl|h
   ·exact j _ (by simp)
   ·exact o a h) (λa F=>j a (List.mem_cons_of_mem _ F))
  rw [List.length_cons,iterN]
  simp only [List.length_cons]at f
  rw [f]
  simp only [ob_]
  rw [Ic]at A
  have J:R.length+1+Q.length=R.length+(Q.length+1):=by omega
  rw [J]at A
  exact A
theorem Q5 (hc:∀a b,p a->p b->cmp a b=some (c a b)) (l:List α) (hl:l.length<=100000000) (h:∀a∈l,p a):Ct cmp l 0 (l.length:Int)=some (nz c l):=by
 unfold Ct
 have o:w64 ((0:Int)+1)=1:=by decide
 rw [o]
 cases l with
 | nil =>
  have h1:iterN (λs=>zK cmp ((([]:List α).length:Nat):Int) 0 s) 1 (([]:List α),(1:Int))=some (.go ([],1)):=by
   simp only [iterN]
   unfold zK
   have j:decide ((1:Int)<((([]:List α).length:Nat):Int))=false:=rfl
   simp only [j,cond_false,ob_]
  rw [dB h1];rfl
 | cons v Q =>
  simp only [List.length_cons]at hl
  have h1:=Pv hc Q [v] (by simp only [List.length_cons,List.length_nil];omega) (λa f=>by rw [List.mem_singleton.1 f];exact h v (by simp)) (λa f=>h a (List.mem_cons_of_mem _ f))
  have e:([v].length+Q.length:Nat)=(v::Q).length:=by simp only [List.length_cons,List.length_nil];omega
  rw [e]at h1
  have h2:=dB h1
  have A:dS (v::Q,(1:Int)) (λs=>zK cmp (((v::Q).length:Nat):Int) 0 s)=_:=h2
  rw [A];rfl
theorem M3 (hc:∀a b,p a->p b->cmp a b=some (c a b)) (l:List α) (hl:l.length<=19) (h:∀a∈l,p a):Pe cmp l (l.length:Int)=some (nz c l):=by
 unfold Pe
 have h1:iterN (λs=>stL1 cmp (l.length:Int) s) 1 (l,(0:Int),(20:Int))=some (.go (l,0,20)):=by
  simp only [iterN]
  unfold stL1
  have f:decide ((20:Int)<=(l.length:Int))=false:=decide_eq_false (by omega)
  simp only [f,cond_false,ob_]
 have h2:iterN (λs=>stL3 (l.length:Int) s) 1 (20:Int)=some (.go 20):=by
  simp only [iterN]
  unfold stL3
  have f:decide ((20:Int)<(l.length:Int))=false:=decide_eq_false (by omega)
  simp only [f,cond_false,ob_]
 rw [dB h1]
 simp only [ob_,thenC]
 rw [Q5 hc l (by omega) h]
 have hs:fu (nz c l) l=some ():=by unfold fu;rw [if_pos (yJ c l)]
 simp only [ob_,hs]
 rw [dB h2];rfl
theorem O0 {c2:α->α->Int} (l:List α) (h:∀a∈l,∀b∈l,(c a b<0↔c2 a b<0)):nz c l=nz c2 l:=by
 have h1:∀(R:List α) (v:α),v∈l->(∀a∈R,a∈l)->iA c v R=iA c2 v R:=by
  intro R
  induction R with
  | nil=>intro v _ _;rfl
  | cons u R A =>
   intro v B j
   unfold iA
   rw [decide_eq_decide.2 (h v B u (j u (by simp))),A v B (λa f=>j a (List.mem_cons_of_mem _ f))]
 have h2:∀(Q R:List α),(∀a∈Q,a∈l)->(∀a∈R,a∈l)->wZ c R Q=wZ c2 R Q:=by
  intro Q
  induction Q with
  | nil=>intro R _ _;rfl
  | cons v Q A =>
   intro R o j
   show wZ c (iA c v R) Q=wZ c2 (iA c2 v R) Q
   rw [h1 R v (o v (by simp)) j]
   refine A _ (λa f=>o a (List.mem_cons_of_mem _ f)) (λa f => ?_)
   rcases List.mem_cons.1 ((ut c2 v R).mem_iff.1 f)with rfl|f
   ·exact o _ (by simp)
   ·exact j a f
 unfold nz
 rw [h2 l [] (λa f=>f) (λa f=>by cases f)]
end
section
variable {α:Type} (eqv:α->α->Bool) (z:α)
variable {eqv} (he:∀a b,eqv a b=true↔a=b)
include he
end
end Go.Eng

namespace Go.Eng
set_option linter.unusedVariables false
set_option linter.unusedSimpArgs false
theorem jX {α σ ρ:Type} {body:Nat->α->σ->Option (Ctl σ ρ)} {xs:List α} {s:σ} (hl:xs.length<=1000000000000):forL xs s body=forR body xs 0 s:=by unfold forL;rw [if_pos hl]
theorem Ma {α σ ρ:Type} {body:Nat->α->σ->Option (Ctl σ ρ)} (I:Nat->σ->Prop) (N:Nat):∀(xs:List α) (k:Nat) (s:σ),k+xs.length=N->(∀k x s,x∈xs->k<N->I k s->∃f,body k x s=some (.go f)/\I (k+1) f)->I k s->∃f,forR body xs k s=some (.go f)/\I N f
 | [],k,s,j,h,hi=>⟨s,rfl,by simp only [List.length_nil,Nat.add_zero]at j;rw [<- j];exact hi⟩
 | x::xs,k,s,j,h,hi=>by
  simp only [List.length_cons]at j
  obtain ⟨J,h1,h2⟩:=h k x s (by simp) (by omega) hi
  obtain ⟨B,A,F⟩:=Ma I N xs (k+1) J (by omega) (λk x s o=>h k x s (by simp [o])) h2
  exact⟨B,by simp only [forR,h1,ob_];exact A,F⟩
theorem IQ {α σ ρ:Type} {body:Nat->α->σ->Option (Ctl σ ρ)} (I:Nat->σ->Prop) {xs:List α} {s:σ} (hl:xs.length<=1000000000000) (h:∀k x s,x∈xs->k<xs.length->I k s->∃f,body k x s=some (.go f)/\I (k+1) f) (j:I 0 s):∃f,forL xs s body=some (.go f)/\I xs.length f:=by
 obtain ⟨f,h1,h2⟩:=Ma I xs.length xs 0 s (by omega) h j
 exact⟨f,by rw [jX hl];exact h1,h2⟩
theorem jf {σ ρ τ:Type} (s:σ) (f:σ->Option τ) (g:ρ->Option τ):thenC (.go s) f g=f s:=rfl
theorem JP {σ ρ τ:Type} (r:ρ) (f:σ->Option τ) (g:ρ->Option τ):thenC (.ret r) f g=g r:=rfl
theorem l8 {α:Type} (xs:List α) (k:Nat):idx xs (k:Int)=xs[k]? := by simp [idx]
theorem dh {n:Int} (h : -9223372036854775808<=n/\n<=9223372036854775807):w64 n=n:=Ep n h
theorem toL (s:ByteArray):s.toList=s.data.toList:=Go.Lib.toList_data s
theorem Bt {a b:ByteArray} (h:a.toList=b.toList):a=b:=by
 rw [toL,toL]at h
 obtain ⟨⟨a⟩⟩:=a
 obtain ⟨⟨b⟩⟩:=b
 simp only at h
 rw [h]
theorem KH (a b:ByteArray):sEq a b=true↔a=b:=by
 simp only [sEq,beq_iff_eq]
 exact⟨Bt,λh=>by rw [h]⟩
theorem Gi (a b:ByteArray):sEq a b=decide (a=b):=by
 rw [Bool.eq_iff_iff,KH];simp
theorem PU (a b:ByteArray):sNe a b = !decide (a=b):=by
 have:=Gi a b;simp only [sEq,sNe]at *;rw [this]
abbrev bl:=Op.bytesLess
theorem bl_lt:∀(x y:List UInt8),bl x y=decide (x<y)
 | _,[]=>by simp [bl,Op.bytesLess]
 | [],_::_=>by simp [bl,Op.bytesLess]
 | a::x,b::y=>by
  have:=bl_lt x y
  simp only [bl,Op.bytesLess]at this ⊢
  rw [this,Bool.eq_iff_iff]
  simp only [Bool.or_eq_true,decide_eq_true_eq,Bool.and_eq_true,beq_iff_eq,List.cons_lt_cons_iff]
def lt (a b:ByteArray):Prop:=a.toList<b.toList
theorem sLt_iff (a b:ByteArray):sLt a b=true↔lt a b:=by
 show bl a.toList b.toList=true↔_
 rw [bl_lt];simp [lt]
theorem eZ (a:ByteArray):¬lt a a:=List.lt_irrefl a.toList
theorem lt_trans {a b c:ByteArray} (h:lt a b) (k:lt b c):lt a c:=List.lt_trans h k
theorem Ko (a b:ByteArray):lt a b\/a=b\/lt b a:=by
 rcases Classical.em (lt a b)with h|h
 ·exact .inl h
 ·rcases Classical.em (lt b a)with h2|h2
  ·exact .inr (.inr h2)
  ·exact .inr (.inl (Bt (List.le_antisymm (List.not_lt.1 h2) (List.not_lt.1 h))))
theorem sNe_nil (a:ByteArray):sNe a ⟨#[]⟩=decide (a.size≠0):=by
 rw [PU,Go.Lib.size_eq,Bool.eq_iff_iff]
 simp only [Bool.not_eq_true',decide_eq_false_iff_not,decide_eq_true_eq,ne_eq]
 refine not_congr ⟨λh=>by rw [h];rfl,λh => ?_⟩
 exact Bt (by rw [toL,List.eq_nil_of_length_eq_zero h,toL])
end Go.Eng

open Go Go.Eng
namespace Go.Proofs.YtnfojnnfidnikaeGreatDoor.Law
set_option linter.unusedVariables false
set_option linter.unusedSimpArgs false
def Ok (s:Stream) (b:Int):Prop:=0<=s.f_at/\s.f_at<=b
theorem Ok.mono {s:Stream} {b c:Int} (h:Ok s b) (hc:b<=c):Ok s c:=⟨h.1,Int.le_trans h.2 hc⟩
theorem He (x n:Int) (h:1<=n) (j:n<=4611686018427387904):∃r,wQ x n=some r/\0<=r/\r<n:=by
 have h1:x.tmod n<n:=Int.tmod_lt_of_pos x (by omega)
 have h2 : -n<x.tmod n:=Int.lt_tmod_of_pos x (by omega)
 have hb:decide (n<1)=false:=by simp;omega
 have f:n≠0:=by omega
 simp only [wQ,hb,cond_false,Nk,if_neg f,ob_]
 cases hd:decide (x.tmod n<0)with
 | true =>
  simp only [decide_eq_true_eq]at hd
  exact⟨_,rfl,by rw [dh (by omega)];omega,by rw [dh (by omega)];omega⟩
 | false =>
  simp only [decide_eq_false_iff_not]at hd
  exact⟨_,rfl,by omega,h1⟩
theorem Bw (s:Stream) (n:Int) {b:Int} (hs:Ok s b) (hb:b<=1000000) (h:1<=n) (B:n<=4611686018427387904):∃r F,jQ s n=some (r,F)/\0<=r/\r<n/\Ok F (b+1):=by
 obtain ⟨I,h1⟩:=hs
 have T:w64 (s.f_at+1)=s.f_at+1:=dh (by omega)
 have J:w64 (s.f_at+1-1)=s.f_at:=by rw [dh (by omega)];omega
 simp only [jQ,T,J]
 by_cases hl:s.L.length=0
 ·have:((s.L.length:Int)==0)=true:=by simp [hl]
  simp only [this,cond_true]
  obtain ⟨r,f,h2,A⟩:=He (w64 ((s.f_at+1)*7919)) n h B
  exact⟨r,_,by rw [f];rfl,h2,A,⟨by show 0<=s.f_at+1;omega,by show s.f_at+1<=b+1;omega⟩⟩
 ·have o:(s.L.length:Int)≠0:=by omega
  have:((s.L.length:Int)==0)=false:=by simpa using hl
  simp only [this,cond_false,Nk,Lv,if_neg o,ob_]
  have h2:0<=s.f_at.tmod s.L.length:=Int.tmod_nonneg _ I
  have O:(0:Int)<(s.L.length:Int):=by have:=Nat.pos_of_ne_zero hl;omega
  have A:s.f_at.tmod s.L.length<s.L.length:=Int.tmod_lt_of_pos _ O
  have hi:idx s.L (s.f_at.tmod s.L.length)=some s.L[(s.f_at.tmod s.L.length).toNat]:=by
   simp only [idx,if_pos h2]
   exact List.getElem?_eq_getElem (by omega)
  obtain ⟨M,j,_,_⟩:=He s.L[(s.f_at.tmod s.L.length).toNat] 1073741824 (by decide) (by decide)
  simp only [hi,j,ob_]
  generalize w64 (M+_)=y
  obtain ⟨r,f,N,R⟩:=He y n h B
  exact⟨r,_,by rw [f];rfl,N,R,⟨by show 0<=s.f_at+1;omega,by show s.f_at+1<=b+1;omega⟩⟩
theorem flip_ok (s:Stream) (n:Int) {b:Int} (hs:Ok s b) (hb:b<=1000000) (h:1<=n) (j:n<=1000):∃r f,mJ s n=some (r,f)/\Ok f (b+1):=by
 obtain ⟨r,f,h1,_,_,h2⟩:=Bw s n hs hb h (by omega)
 exact⟨r==0,f,by simp only [mJ,h1,ob_],h2⟩
theorem PW {α:Type} {l:List α} {r:Int} (f:0<=r) (h1:r<l.length):∃y,idx l r=some y/\y∈l:=by
 refine⟨l[r.toNat]'(by omega),?_,List.getElem_mem _⟩
 simp only [idx,if_pos f]
 exact List.getElem?_eq_getElem (by omega)
theorem Bg (s:Stream) (l:List Int) {b:Int} (hs:Ok s b) (hb:b<=1000000) (h:1<=l.length) (F:l.length<=1000):∃r f,dZ s l=some (r,f)/\r∈l/\Ok f (b+1):=by
 obtain ⟨r,f,h1,h2,A,B⟩:=Bw s l.length hs hb (by omega) (by omega)
 obtain ⟨y,o,j⟩:=PW h2 A
 exact⟨y,f,by simp only [dZ,h1,o,ob_],j,B⟩
theorem Qo (s:Stream) (l:List ByteArray) {b:Int} (hs:Ok s b) (hb:b<=1000000) (h:1<=l.length) (F:l.length<=1000):∃r f,kR s l=some (r,f)/\r∈l/\Ok f (b+1):=by
 obtain ⟨r,f,h1,h2,A,B⟩:=Bw s l.length hs hb (by omega) (by omega)
 obtain ⟨y,o,j⟩:=PW h2 A
 exact⟨y,f,by simp only [kR,h1,o,ob_],j,B⟩
theorem vK (s:Stream) (lo hi:Int) {b:Int} (hs:Ok s b) (hb:b<=1000000) (h:lo<=hi) (h1 : -1000000000000<=lo) (h2:hi<=1000000000000):∃r f,fZ s lo hi=some (r,f)/\lo<=r/\r<=hi/\Ok f (b+1):=by
 have A:decide (hi<lo)=false:=by simp;omega
 have B:w64 (hi-lo)=hi-lo:=dh (by omega)
 have o:w64 (hi-lo+1)=hi-lo+1:=dh (by omega)
 obtain ⟨r,f,F,J,I,j⟩:=Bw s (hi-lo+1) hs hb (by omega) (by omega)
 simp only [fZ,A,cond_false,B,o,F,ob_]
 exact⟨_,f,rfl,by rw [dh (by omega)];omega,by rw [dh (by omega)];omega,j⟩
end Go.Proofs.YtnfojnnfidnikaeGreatDoor.Law

open Go Go.Eng
namespace Go.Proofs.YtnfojnnfidnikaeGreatDoor.Law
set_option linter.unusedVariables false
set_option linter.unusedSimpArgs false
def lowB (b:UInt8):Bool:=decide (97<=b.toNat)&&decide (b.toNat<=122)
def moreB (b:UInt8):Bool:=(decide (48<=b.toNat)&&decide (b.toNat<=57))||(b.toNat==45)||(b.toNat==95)
def okB (i:Nat) (b:UInt8):Bool:=lowB b||(decide (0<i)&&moreB b)
def uI (s:ByteArray) (i:Nat):UInt8:=s.data.toList.getD i 0
def xn (s:ByteArray):Bool:=decide (s.size≠0)&&(decide (s.size<=40)&&(List.range s.size).all λi=>okB i (uI s i))
theorem NE (s:ByteArray) (k:Nat) (h:k<s.size):z8 s (k:Int)=some (uI s k):=by
 have h1:s[k]? = some s[k]:=by simp [h]
 have h2:uI s k=s[k]:=by
  have hl:k<s.data.toList.length:=by rw [<- Go.Lib.size_eq];exact h
  simp only [uI,List.getD_eq_getElem?_getD,List.getElem?_eq_getElem hl,Option.getD_some]
  simp
  rfl
 simp only [z8,if_pos (Int.natCast_nonneg k),Int.toNat_natCast,h1,h2]
theorem MS (s:ByteArray) (k:Nat) (hs:s.size<=1000000000):lM s (k:Int)=some (if k<s.size then (bif okB k (uI s k)then .go ((k+1:Nat):Int)else .ret false)else .brk (k:Int)):=by
 unfold lM
 by_cases h:k<s.size
 ·have f:decide ((k:Int)<(s.size:Int))=true:=by simp;omega
  have F:w64 ((k:Int)+1)=((k+1:Nat):Int):=by rw [dh (by omega)];omega
  simp only [f,cond_true,NE s k h,ob_,if_pos h,F]
  generalize uI s k=b
  simp only [okB,lowB,moreB]
  have J:decide ((b.toNat:Int)>=97)=decide (97<=b.toNat):=decide_eq_decide.2 (by omega)
  have j:decide ((b.toNat:Int)<=122)=decide (b.toNat<=122):=decide_eq_decide.2 (by omega)
  have A:decide ((k:Int)>0)=decide (0<k):=decide_eq_decide.2 (by omega)
  have I:decide ((b.toNat:Int)>=48)=decide (48<=b.toNat):=decide_eq_decide.2 (by omega)
  have L:decide ((b.toNat:Int)<=57)=decide (b.toNat<=57):=decide_eq_decide.2 (by omega)
  have o:((b.toNat:Int)==45)=(b.toNat==45):=by rw [Bool.eq_iff_iff];simp;omega
  have B:((b.toNat:Int)==95)=(b.toNat==95):=by rw [Bool.eq_iff_iff];simp;omega
  rw [J,j,A,I,L,o,B]
  cases decide (97<=b.toNat) <;> cases decide (b.toNat<=122) <;> cases decide (0<k) <;> cases decide (48<=b.toNat) <;> cases decide (b.toNat<=57) <;> cases (b.toNat==45) <;> cases (b.toNat==95) <;> rfl
 ·have f:decide ((k:Int)<(s.size:Int))=false:=by simp;omega
  simp only [f,cond_false,if_neg h]
theorem Hq (s:ByteArray) (hs:s.size<=1000000000):∀(n k:Nat),k+n=s.size->iterN (λi=>lM s i) (n+1) (k:Int)=some (bif (List.range' k n).all (λj=>okB j (uI s j))then .go (s.size:Int)else .ret false)
 | 0,k,h=>by
  have f:¬k<s.size:=by omega
  simp only [iterN,MS s k hs,if_neg f,ob_,List.range'_zero,List.all_nil,cond_true]
  rw [show (k:Int)=s.size by omega]
 | n+1,k,h=>by
  have f:k<s.size:=by omega
  rw [iterN,MS s k hs,if_pos f,ob_,List.range'_succ,List.all_cons]
  cases okB k (uI s k)with
  | true=>simp only [cond_true,Bool.true_and];exact Hq s hs n (k+1) (by omega)
  | false=>rfl
theorem wN (s:ByteArray) (hs:s.size<=1000000000):dX s=some (xn s):=by
 have h:=dB (Hq s hs s.size 0 (by omega))
 unfold dX
 have j:dS (0:Int) (λf=>lM s f)=_:=h
 rw [j,ob_,<- List.range_eq_range']
 have e:decide ((s.size:Int)<=40)=decide (s.size<=40):=decide_eq_decide.2 (by omega)
 simp only [xn]
 cases (List.range s.size).all (λi=>okB i (uI s i))with
 | true =>
  rw [cond_true,jf,sNe_nil,e,Bool.and_true]
  cases decide (s.size≠0) <;> rfl
 | false=>simp only [cond_false,JP,Bool.and_false]
end Go.Proofs.YtnfojnnfidnikaeGreatDoor.Law

open Go Go.Eng
namespace Go.Proofs.YtnfojnnfidnikaeGreatDoor.Law
set_option linter.unusedVariables false
set_option linter.unusedSimpArgs false
def ShortK (s:ByteArray):Prop:=s.size<=1000
theorem oL {s:ByteArray} (h:Nat.ble s.size 1000=true):ShortK s:=Nat.le_of_ble_eq_true h
theorem gN {α:Type} (xs ys:List α) (h:xs.length+ys.length<=1000000000):kv xs ys=some (xs++ys):=by unfold kv;rw [if_pos h]
theorem set_atK {α:Type} {xs:List α} {i:Nat} {a:α} (h:i<xs.length):(xs.set i a)[i]? = some a:=by simp [h]
theorem IU {α:Type} {p:α->Prop} {xs:List α} {i:Nat} {a:α} (h:∀x∈xs,p x) (f:p a):∀x∈xs.set i a,p x:=λx j=>by
 rcases List.mem_or_eq_of_mem_set j with h1|h1
 ·exact h x h1
 ·rw [h1];exact f
theorem yO {α:Type} {i:Int} {xs:List α} (f:0<=i) (h1:i<xs.length):inR i xs=some ():=by unfold inR;rw [if_pos ⟨f,by omega⟩]
def Ap (e:Int):Ctl Unit Int:=bif e==0 then .go ()else .ret e
theorem CS (e:Int):thenC (Ap e) (λ_=>some (0:Int)) (λr=>some r)=some e:=by
 unfold Ap
 cases h:e==0 with
 | true=>simp only [cond_true,jf];rw [eq_of_beq h]
 | false=>rfl
theorem BA {α:Type} {l:List α} {k:Nat} {x:α} (h:l[k]? = some x) (j:0<k) (hl:l.length<=1000000000):∃y,idx l (w64 ((k:Int)-1))=some y/\l[k-1]? = some y:=by
 have f:k<l.length:=(List.getElem?_eq_some_iff.1 h).1
 rw [dh (by omega),show (k:Int)-1=((k-1:Nat):Int) by omega,l8]
 exact⟨l[k-1],List.getElem?_eq_getElem (by omega),List.getElem?_eq_getElem (by omega)⟩
def xy {α:Type} (stp:Option α->α->Int):Option α->List α->Int
 | _,[]=>0
 | p,x::xs=>bif stp p x==0 then xy stp (some x) xs else stp p x
def vQ {α:Type} (l:List α) (k:Nat):Option α:=if k=0 then none else l[k-1]?
theorem yV {α:Type} {stp:Option α->α->Int} {body:Nat->α->Unit->Option (Ctl Unit Int)} (l:List α):∀(xs:List α) (k:Nat),l.drop k=xs->(∀k x,l[k]? = some x->body k x ()=some (Ap (stp (vQ l k) x))) ->
  forR body xs k ()=some (Ap (xy stp (vQ l k) xs))
 | [],k,h,hb=>rfl
 | x::xs,k,h,hb=>by
  have f:=yz h
  rw [forR,hb k x f,ob_,xy]
  cases he:stp (vQ l k) x==0 with
  | true =>
   simp only [Ap,he,cond_true]
   rw [yV l xs (k+1) (aX h) hb]
   have:vQ l (k+1)=some x:=by simp [vQ,f]
   rw [this];rfl
  | false=>simp only [Ap,he,cond_false]
theorem Uq {α:Type} {stp:Option α->α->Int}:∀{l:List α} {p:Option α},xy stp p l=0->match l with
  | []=>True
  | x::xs=>stp p x=0/\xy stp (some x) xs=0
 | [],_,_=>trivial
 | x::xs,p,h=>by
  rw [xy]at h
  cases he:stp p x==0 with
  | true=>rw [he]at h;exact⟨eq_of_beq he,h⟩
  | false=>rw [he,cond_false]at h;rw [h]at he;cases he
def l7 (n lo hi:Int):Bool:=decide (n<lo)||decide (n>hi)
theorem nk (n lo hi:Int):aS n lo hi=some (l7 n lo hi):=by
 unfold aS l7
 cases decide (n<lo) <;> cases decide (n>hi) <;> rfl
theorem BF {n lo hi:Int} (h:l7 n lo hi=false):lo<=n/\n<=hi:=by
 simp only [l7,Bool.or_eq_false_iff,decide_eq_false_iff_not]at h;omega
theorem rJ {n lo hi:Int} (h:lo<=n/\n<=hi):l7 n lo hi=false:=by
 simp only [l7,Bool.or_eq_false_iff,decide_eq_false_iff_not];omega
def momB (n:Int):Bool := !l7 n 0 345686399999
theorem uy (n:Int):cK n=some (momB n):=by
 unfold cK momB l7
 have h:decide (n>=0) = !decide (n<0):=by rw [Bool.eq_iff_iff];simp
 have f:decide (n<345686400000) = !decide (n>345686399999):=by rw [Bool.eq_iff_iff];simp;omega
 rw [h,f]
 cases decide (n<0) <;> cases decide (n>345686399999) <;> rfl
theorem Eg {n:Int} (h:momB n=true):0<=n/\n<=345686399999:=by
 unfold momB at h;exact BF (by simpa using h)
def zS (a b:Int):Int:=bif a==0 then b else a
theorem jK (a b:ByteArray):(lt a b/\AB a b = -1)\/(a=b/\AB a b=0)\/(lt b a/\AB a b=1):=by
 have key:∀(x y:List UInt8),(x<y/\Lib.compareBytes x y = -1)\/(x=y/\Lib.compareBytes x y=0)\/(y<x/\Lib.compareBytes x y=1):=by
  intro x
  induction x with
  | nil=>intro y;cases y with
   | nil=>exact .inr (.inl ⟨rfl,rfl⟩)
   | cons b y=>exact .inl ⟨by simp,rfl⟩
  | cons a x f=>intro y;cases y with
   | nil=>exact .inr (.inr ⟨by simp,rfl⟩)
   | cons b y =>
    simp only [Lib.compareBytes,List.cons_lt_cons_iff,List.cons.injEq]
    by_cases h1:a<b
    ·exact .inl ⟨.inl h1,by rw [if_pos h1]⟩
    ·by_cases h2:b<a
     ·exact .inr (.inr ⟨.inl h2,by rw [if_neg h1,if_pos h2]⟩)
     ·have e:a=b:=UInt8.le_antisymm (UInt8.not_lt.1 h2) (UInt8.not_lt.1 h1)
      subst e
      rw [if_neg h1,if_neg h1]
      rcases f y with⟨h,k⟩|⟨h,k⟩|⟨h,k⟩
      ·exact .inl ⟨.inr ⟨rfl,h⟩,k⟩
      ·exact .inr (.inl ⟨⟨rfl,h⟩,k⟩)
      ·exact .inr (.inr ⟨.inr ⟨rfl,h⟩,k⟩)
 unfold AB lt
 rw [toL,toL]
 rcases key a.data.toList b.data.toList with⟨h,k⟩|⟨h,k⟩|⟨h,k⟩
 ·exact .inl ⟨h,k⟩
 ·exact .inr (.inl ⟨Bt (by rw [toL,toL];exact h),k⟩)
 ·exact .inr (.inr ⟨h,k⟩)
theorem uB (a b:ByteArray):strings_Compare a b=some (AB a b):=rfl
def uC (a b:Int):Int:=if a<b then -1 else if a>b then 1 else 0
theorem sU (a b:Int):cmp_Compare_int a b=some (uC a b):=by
 have e:∀x:Int,(x != x)=false:=by simp
 unfold cmp_Compare_int cmp_isNaN_int uC
 simp only [e,ob_,cond_false]
 by_cases h:a<b
 ·simp only [decide_eq_true h,cond_true,if_pos h]
 ·by_cases h2:a>b
  ·simp only [decide_eq_false h,decide_eq_true h2,cond_true,cond_false,if_neg h,if_pos h2]
  ·simp only [decide_eq_false h,decide_eq_false h2,cond_false,if_neg h,if_neg h2]
theorem Lu (a b:Int):kP [a,b]=some (zS a b):=by
 unfold kP zS
 rw [jX (by simp)]
 simp only [forR,nT]
 cases ha:a==0 with
 | false =>
  have:(a != 0)=true:=by simp [bne,ha]
  simp only [this,cond_true,cond_false,ob_,thenC]
 | true =>
  have:(a != 0)=false:=by simp [bne,ha]
  simp only [this,cond_true,cond_false,ob_]
  cases hb:b==0 with
  | false =>
   have:(b != 0)=true:=by simp [bne,hb]
   simp only [this,cond_true,ob_,thenC]
  | true =>
   have:(b != 0)=false:=by simp [bne,hb]
   simp only [this,cond_false,ob_,thenC]
   rw [eq_of_beq hb]
end Go.Proofs.YtnfojnnfidnikaeGreatDoor.Law

open Go Go.Eng
namespace Go.Proofs.YtnfojnnfidnikaeGreatDoor.Law
set_option linter.unusedVariables false
set_option linter.unusedSimpArgs false
theorem wu (n:Int):IntKind.u64.wrap n=n % 18446744073709551616:=by simp [IntKind.wrap,IntKind.bits,IntKind.signed]
theorem RO {n:Int} (f:0<=n) (h1:n<18446744073709551616):IntKind.u64.wrap n=n:=by rw [wu];exact Int.emod_eq_of_lt f h1
theorem wu_in (n:Int):0<=IntKind.u64.wrap n/\IntKind.u64.wrap n<18446744073709551616:=by rw [wu];omega
abbrev BB (l:List UInt8):ByteArray:=⟨l.toArray⟩
theorem NW (l m:List UInt8):BB l++BB m=BB (l++m):=by
  apply Bt;rw [toL,toL];simp
theorem tK (l:List UInt8):(BB l).size=l.length:=by show l.toArray.size=_;simp
theorem Lg {x y:ByteArray} (h:x.size+y.size<=1000000000000):sJ x y=some (x++y):=by
  unfold sJ
  rw [if_neg]
  have:IntKind.i64.max=9223372036854775807:=by decide
  rw [this];omega
def DV (h:Int) (b:UInt8):Int:=IntKind.u64.wrap ((vM .u64 h (IntKind.u64.wrap (b.toNat:Int)))*1099511628211)
def fnv (bs:List UInt8):Int:=bs.foldl DV 14695981039346656037
theorem Qd:∀(bs:List UInt8) (h:Int),0<=h/\h<18446744073709551616->0<=bs.foldl DV h/\bs.foldl DV h<18446744073709551616
  | [],h,f=>f
  | b::bs,h,f=>Qd bs _ (wu_in _)
theorem Tf (bs:List UInt8):0<=fnv bs/\fnv bs<18446744073709551616:=Qd bs _ (by decide)
theorem M7 (s:ByteArray):∀(xs:List Nat) (k:Nat) (h:Int),k+xs.length=s.size->forR (λk x u=>qd s k x u) xs k h=some (.go ((s.data.toList.drop k).foldl DV h))
  | [],k,h,j=>by
    have:s.data.toList.drop k=[]:=List.drop_eq_nil_iff.2 (by rw [<- Go.Lib.size_eq];simp at j;omega)
    rw [this];rfl
  | x::xs,k,h,j=>by
    simp only [List.length_cons]at j
    have f:k<s.data.toList.length:=by rw [<- Go.Lib.size_eq];omega
    have hb:uI s k=s.data.toList[k]:=by simp [uI,List.getD,List.getElem?_eq_getElem f]
    simp only [forR]
    unfold qd
    rw [NE s k (by omega)]
    simp only [ob_]
    have o:=M7 s xs (k+1) (DV h (uI s k)) (by omega)
    rw [List.drop_eq_getElem_cons f,List.foldl_cons,<- hb]
    exact o
theorem FB:∀(bs:List UInt8) (k:Nat) (h:Int),forR (λk x u=>xI k x u) (bs.map λb=>(b.toNat:Int)) k h=some (.go (bs.foldl DV h))
  | [],k,h=>rfl
  | b::bs,k,h=>by
    simp only [List.map_cons,forR]
    exact FB bs (k+1) (DV h b)
def rR (n:Nat):UInt8:=if n<10 then UInt8.ofNat (48+n)else UInt8.ofNat (87+n)
def yg (u:Nat):List UInt8:=if h:u<16 then [rR u]else yg (u / 16)++[rR (u % 16)]
termination_by u
decreasing_by omega
def AQ:Nat->Nat->List UInt8
  | 0,_=>[]
  | k+1,u=>AQ k (u / 16)++[rR (u % 16)]
theorem wo {u:Nat} (h:u<16):yg u=[rR u]:=by rw [yg,dif_pos h]
theorem D6 {u:Nat} (h:¬u<16):yg u=yg (u / 16)++[rR (u % 16)]:=by rw [yg,dif_neg h]
theorem MI:∀(k u:Nat),(AQ k u).length=k
  | 0,u=>rfl
  | k+1,u=>by simp [AQ,MI k]
theorem JO:∀k,AQ k 0=List.replicate k 48
  | 0=>rfl
  | k+1=>by
    show AQ k 0++[rR 0]=_
    rw [JO k,List.replicate_succ']
    rfl
theorem hexM_N:∀(k u:Nat),u<16 ^ (k+1)->(yg u).length<=k+1/\AQ (k+1) u=List.replicate (k+1-(yg u).length) 48++yg u
  | 0,u,h=>by
    have f:u<16:=by simpa using h
    rw [wo f]
    refine⟨Nat.le_refl _,?_⟩
    simp [AQ,Nat.mod_eq_of_lt f]
  | k+1,u,h=>by
    by_cases hu:u<16
    · rw [wo hu]
      refine⟨by simp,?_⟩
      show AQ (k+1) (u / 16)++[rR (u % 16)]=_
      rw [Nat.div_eq_of_lt hu,Nat.mod_eq_of_lt hu,JO]
      simp
    · rw [D6 hu]
      have h2:u / 16<16 ^ (k+1):=by
        rw [Nat.div_lt_iff_lt_mul (by omega)]
        rw [Nat.pow_succ]at h;exact h
      obtain ⟨o,j⟩:=hexM_N k (u / 16) h2
      refine⟨by simp;omega,?_⟩
      show AQ (k+1) (u / 16)++[rR (u % 16)]=_
      rw [j,List.append_assoc]
      congr 2
      simp
def J6:ByteArray:=⟨#[48,49,50,51,52,53,54,55,56,57,97,98,99,100,101,102]⟩
def digs:ByteArray:=⟨#[48,49,50,51,52,53,54,55,56,57,97,98,99,100,101,102,103,104,105,106,107,108,109,110,111,112,113,114,115,116,117,118,119,120,121,122]⟩
theorem JG:∀n:Fin 16,Km J6 (n.val:Int) ((n.val+1:Nat):Int)=some (BB [rR n.val])/\z8 digs (n.val:Int)=some (rR n.val):=by decide +kernel
theorem Sy {n:Nat} (h:n<16):Km J6 (n:Int) ((n+1:Nat):Int)=some (BB [rR n]):=(JG ⟨n,h⟩).1
theorem Qb {n:Nat} (h:n<16):z8 digs (n:Int)=some (rR n):=(JG ⟨n,h⟩).2
theorem Ca:∀(xs:List Nat) (k:Nat) (u:Nat) (f:List UInt8),u<18446744073709551616->xs.length+f.length<=1000->∃u',forR (λk x s=>qV k x s) xs k ((u:Int),BB f)=some (.go (u',BB (AQ xs.length u++f)))
  | [],k,u,f,h,hl=>⟨_,rfl⟩
  | x::xs,k,u,f,h,hl=>by
    simp only [List.length_cons]at hl
    obtain ⟨u',A⟩:=Ca xs (k+1) (u / 16) (rR (u % 16)::f) (by omega) (by simp;omega)
    refine⟨u',?_⟩
    simp only [forR]
    have B:((u:Int).tmod 16)=((u % 16:Nat):Int):=rfl
    have F:((u:Int).tdiv 16)=((u / 16:Nat):Int):=rfl
    have o:u % 16<16:=Nat.mod_lt _ (by omega)
    have j:qV k x ((u:Int),BB f)=some (.go (((u / 16:Nat):Int),BB (rR (u % 16)::f))):=by
      unfold qV
      simp only [B,F]
      rw [RO (n:=((u % 16:Nat):Int)+1) (by omega) (by omega),RO (n:=((u / 16:Nat):Int)) (by omega) (by omega)]
      have h1:Km (⟨#[48,49,50,51,52,53,54,55,56,57,97,98,99,100,101,102]⟩:ByteArray) ((u % 16:Nat):Int) (((u % 16:Nat):Int)+1)=some (BB [rR (u % 16)]):=Sy o
      rw [h1]
      simp only [ob_]
      rw [Lg (by rw [tK,tK];simp;omega),NW]
      rfl
    rw [j]
    simp only [ob_]
    rw [A]
    simp [AQ]
theorem Oa (s:ByteArray) (hs:s.size<=1000000000):yc s=some (BB (AQ 16 (fnv s.data.toList).toNat)):=by
  unfold yc
  have hl:(fU s).length<=1000000000000:=by simp only [fU,List.length_map];rw [<- Go.Lib.size_eq];omega
  rw [jX hl]
  have h1:=FB s.data.toList 0 14695981039346656037
  unfold fU
  rw [h1]
  simp only [ob_,jf]
  obtain ⟨j,o⟩:=Tf s.data.toList
  rw [jX (by decide)]
  obtain ⟨u',f⟩:=Ca (List.range (16:Int).toNat) 0 (fnv s.data.toList).toNat [] (by omega) (by decide)
  have e:(((fnv s.data.toList).toNat:Nat):Int)=s.data.toList.foldl DV 14695981039346656037:=Int.toNat_of_nonneg j
  rw [e]at f
  have h:BB []=(⟨#[]⟩:ByteArray):=rfl
  rw [h]at f
  rw [f]
  simp only [ob_,jf,List.append_nil]
  rfl
theorem and15 {u:Nat} (h:u<18446744073709551616):EF .u64 (u:Int) 15=((u % 16:Nat):Int):=by
  show IntKind.u64.wrap (((BitVec.ofInt 64 (u:Int)) &&& (BitVec.ofInt 64 15)).toNat:Int)=_
  have h1:((BitVec.ofInt 64 (u:Int)) &&& (BitVec.ofInt 64 15)).toNat=u % 16:=by
    rw [BitVec.toNat_and]
    have j:(BitVec.ofInt 64 (u:Int)).toNat=u:=by
      rw [BitVec.ofInt_natCast,BitVec.toNat_ofNat];exact Nat.mod_eq_of_lt h
    have f:(BitVec.ofInt 64 15).toNat=15:=by decide
    rw [j,f]
    exact Nat.and_two_pow_sub_one_eq_mod u 4
  rw [h1]
  exact RO (by omega) (by omega)
theorem shr4 (u:Nat):LH .u64 (u:Int) 4=some ((u / 16:Nat):Int):=by
  unfold LH
  rw [if_neg (by decide)]
  have e:((2:Int) ^ (min (Int.toNat 4) IntKind.u64.bits))=16:=by decide
  rw [e,Int.fdiv_eq_ediv_of_nonneg _ (by decide)]
  rfl
def nums (l:List UInt8):List Int:=l.map λb=>(b.toNat:Int)
theorem O7 (l:List UInt8):Go.strOfNums (nums l)=BB l:=by
  unfold Go.strOfNums nums
  rw [List.map_map]
  have:(l.map ((λn:Int=>UInt8.ofNat n.toNat) ∘ λb:UInt8=>(b.toNat:Int)))=l:=by
    have:((λn:Int=>UInt8.ofNat n.toNat) ∘ λb:UInt8=>(b.toNat:Int))=id:=by
      funext b;simp
    rw [this,List.map_id]
  rw [this]
theorem MN {a:List Int} {i:Nat} (c:Int) (h:i<a.length):(a.set i c).drop i=c::a.drop (i+1):=by
  rw [List.drop_eq_getElem_cons (by simpa using h)]
  simp only [List.getElem_set_self]
  congr 1
  apply List.ext_getElem?
  intro j
  rw [List.getElem?_drop,List.getElem?_drop,List.getElem?_set_ne (by omega)]
theorem fb_iter:∀(u:Nat),u<18446744073709551616->∀(a:List Int) (i:Nat),a.length=65->i<=65->(yg u).length<=i ->
    ∃n A u' o,iterN (λs=>bP 16 4 s) n (a,(u:Int),(i:Int))=some (.go (A,((u':Nat):Int),((o:Nat):Int)))/\u'<16/\A.length=65/\1<=o/\o<=65/\nums [rR u']++A.drop o=nums (yg u)++a.drop i:=by
  intro u
  induction u using Nat.strongRecOn with
  | ind u Y =>
    intro hu a i N hi hl
    have B:IntKind.u64.wrap 16=16:=by decide
    have J:IntKind.u64.wrap (16-1)=15:=by decide
    have w4:IntKind.u64.wrap 4=4:=by decide
    by_cases h16:u<16
    · refine⟨1,a,u,i,?_,h16,N,?_,hi,by rw [wo h16]⟩
      · simp only [iterN]
        unfold bP
        have L:decide ((u:Int)>=16)=false:=by simp;omega
        simp only [B,L,cond_false,ob_]
      · rw [wo h16]at hl;simpa using hl
    · rw [D6 h16]at hl
      simp only [List.length_append,List.length_cons,List.length_nil]at hl
      have O:1<=(yg (u / 16)).length:=by
        by_cases h:u / 16<16
        · rw [wo h];simp
        · rw [D6 h];simp
      have I:u % 16<16:=Nat.mod_lt _ (by omega)
      obtain ⟨j,rfl⟩:∃j,i=j+1:=⟨i-1,by omega⟩
      obtain ⟨n,A,u',o,h1,h2,R,W,Z,h6⟩:=Y (u / 16) (by omega) (by omega) (a.set j ((rR (u % 16)).toNat:Int)) j (by simpa using N) (by omega) (by omega)
      refine⟨n+1,A,u',o,?_,h2,R,W,Z,?_⟩
      · simp only [iterN]
        have f:bP 16 4 (a,(u:Int),((j+1:Nat):Int))=some (.go (a.set j ((rR (u % 16)).toNat:Int),((u / 16:Nat):Int),(j:Int))):=by
          unfold bP
          have L:decide ((u:Int)>=16)=true:=by simp;omega
          have T:w64 (((j+1:Nat):Int)-1)=(j:Int):=by rw [dh (by omega)];omega
          have F:inN (j:Int) 65=some ():=by unfold inN;rw [if_pos ⟨by omega,by omega⟩]
          have hg:a[(j:Int).toNat]? = some (a[j]'(by omega)):=by rw [Int.toNat_natCast];exact List.getElem?_eq_getElem _
          simp only [B,J,w4,L,cond_true,and15 hu,T,F,hg,shr4]
          have M:z8 (⟨#[48,49,50,51,52,53,54,55,56,57,97,98,99,100,101,102,103,104,105,106,107,108,109,110,111,112,113,114,115,116,117,118,119,120,121,122]⟩:ByteArray) ((u % 16:Nat):Int)=some (rR (u % 16)):=Qb I
          rw [M]
          simp only [ob_,Int.toNat_natCast]
        rw [f]
        exact h1
      · rw [h6,D6 h16,MN _ (by omega)]
        unfold nums
        simp
theorem pow2:gX 16=some true:=by decide +kernel
theorem tz16:mQ (IntKind.u64.wrap 16)=some 4:=by decide +kernel
theorem Jc (h:Int) (h0:0<=h) (h1:h<18446744073709551616):kX h 16=some (BB (yg h.toNat)):=by
  obtain ⟨u,rfl⟩:∃u:Nat,h=u:=⟨h.toNat,by omega⟩
  have R:u<18446744073709551616:=by omega
  have hm:=hexM_N 15 u (by simpa using R)
  have M:fF ([]:List Int) (u:Int) 16 false false=some (([]:List Int),BB (yg u)):=by
    unfold fF
    obtain ⟨n,o,u',f,Z,T,e3,e4,e5,e6⟩:=fb_iter u R (List.replicate 65 (0:Int)) 65 (by simp) (by omega) (by omega)
    have F:dS ((List.replicate 65 (0:Int)),(u:Int),(65:Int)) (λs=>bP 16 4 s)=some (.go (o,((u':Nat):Int),((f:Nat):Int))):=dB Z
    have A:f-1<o.length:=by omega
    have hw:w64 ((f:Int)-1)=((f-1:Nat):Int):=by rw [dh (by omega)];omega
    have I:inN ((f-1:Nat):Int) 65=some ():=by unfold inN;rw [if_pos ⟨by omega,by omega⟩]
    have W:o[f-1]? = some (o[f-1]'A):=List.getElem?_eq_getElem _
    have N:z8 (⟨#[48,49,50,51,52,53,54,55,56,57,97,98,99,100,101,102,103,104,105,106,107,108,109,110,111,112,113,114,115,116,117,118,119,120,121,122]⟩:ByteArray) (u':Int)=some (rR u'):=Qb T
    have j:(o.set (f-1) ((rR u').toNat:Int)).length=65:=by simpa using e3
    have J:M5 (o.set (f-1) ((rR u').toNat:Int)) 65=some ():=by unfold M5;rw [if_pos j]
    have L:xX (o.set (f-1) ((rR u').toNat:Int)) ((f-1:Nat):Int) (((o.set (f-1) ((rR u').toNat:Int)).length:Nat):Int)=some ():=by
      unfold xX;rw [if_pos ⟨by omega,by omega,by rw [j];omega,by simp⟩]
    have B:FI (o.set (f-1) ((rR u').toNat:Int)) (f-1) (65-(f-1))=nums (yg u):=by
      unfold FI
      rw [MN _ A,show f-1+1=f by omega]
      have:(((rR u').toNat:Int)::o.drop f)=nums (yg u):=by
        have:=e6
        rw [show (List.replicate 65 (0:Int)).drop 65=[] by simp,List.append_nil]at this
        exact this
      rw [this,List.take_of_length_le]
      have h9:=congrArg List.length this
      simp only [List.length_cons,List.length_drop]at h9
      omega
    have Y:decide ((16:Int)<2)=false:=by decide
    have c2:((16:Int)==10)=false:=by decide
    have c3:decide ((16:Int)>36)=false:=by decide
    simp only [Y,c2,c3,cond_false,cond_true,ob_,pow2,tz16,F,jf,N,hw,I,W,Int.toNat_natCast,J,L]
    have O:(((o.set (f-1) ((rR u').toNat:Int)).length:Nat):Int).toNat=65:=by rw [j];rfl
    rw [Int.toNat_natCast]at O
    rw [O,B,O7]
  unfold kX jd
  have c2:((16:Int)==10)=false:=by decide
  rw [c2]
  simp only [cond_false,M,ob_,Int.toNat_natCast]
theorem NJ:∀n,Go.Lib.repeatL [48] n=List.replicate n 48
  | 0=>rfl
  | n+1=>by simp [Go.Lib.repeatL,NJ n,List.replicate_succ]
theorem mark_eq (s:ByteArray) (hs:s.size<=1000000000):oI s=some (BB (AQ 16 (fnv s.data.toList).toNat)):=by
  unfold oI
  have hl:(List.range ((s.size:Int)).toNat).length<=1000000000000:=by simp;omega
  rw [jX hl,M7 s _ 0 _ (by simp)]
  simp only [ob_,jf,List.drop_zero]
  obtain ⟨b1,b2⟩:=Tf s.data.toList
  have hf:=Jc (fnv s.data.toList) b1 b2
  have e:s.data.toList.foldl DV 14695981039346656037=fnv s.data.toList:=rfl
  rw [e,hf]
  simp only [ob_,tK]
  obtain ⟨m1, m2⟩ := hexM_N 15 (fnv s.data.toList).toNat (by have : (16 : Nat) ^ (15 + 1) = 18446744073709551616 := by decide
                                                             omega)
  have hw:w64 (16-((yg (fnv s.data.toList).toNat).length:Int))=((16-(yg (fnv s.data.toList).toNat).length:Nat):Int):=by rw [dh (by omega)];omega
  rw [hw]
  have hr:strings_Repeat (⟨#[48]⟩:ByteArray) ((16-(yg (fnv s.data.toList).toNat).length:Nat):Int)=some (BB (List.replicate (16-(yg (fnv s.data.toList).toNat).length) 48)):=by
    unfold strings_Repeat Gr
    rw [if_pos ⟨by omega,by omega,by rw [Int.toNat_natCast,show (⟨#[48]⟩:ByteArray).size=1 from rfl];omega⟩,Int.toNat_natCast]
    rw [show (⟨#[48]⟩:ByteArray).data.toList=[48] from rfl,NJ]
  rw [hr]
  simp only [ob_]
  rw [Lg (by rw [tK,tK];simp;omega),NW,<- m2]
  rfl
end Go.Proofs.YtnfojnnfidnikaeGreatDoor.Law

open Go Go.Eng
namespace Go.Proofs.YtnfojnnfidnikaeGreatDoor.Law
set_option linter.unusedVariables false
set_option linter.unusedSimpArgs false
def Med (n:Int):Prop := -1000000000000000<=n/\n<=1000000000000000
theorem F6 {n:Int} (h:Med n):strconv_Itoa n=some (BB (Go.Lib.itoa n)):=by
 unfold strconv_Itoa Qn
 unfold Med at h
 rw [if_pos ⟨by omega,by omega⟩]
theorem qy {n:Int} (h:Med n):(Go.Lib.itoa n).length<=21:=by
 unfold Med at h
 exact Go.Lib.itoa_length_le n (by omega) (by omega)
theorem qZ (l m:List UInt8) (h:l.length+m.length<=1000000000000):sJ (BB l) (BB m)=some (BB (l++m)):=by
 rw [Lg (by rw [tK,tK];exact h),NW]
theorem join_le (f:List UInt8) (m:Nat):∀(j:List (List UInt8)),(∀x∈j,x.length<=m)->(Go.Lib.join j f).length<=j.length*(m+f.length)
 | [],h=>by simp [Go.Lib.join_nil]
 | x::r,h=>by
  have h1:∀(r:List (List UInt8)),(∀x∈r,x.length<=m)->(Go.Lib.joinTail f r).length<=r.length*(m+f.length):=by
   intro r
   induction r with
   | nil=>intro _;simp [Go.Lib.joinTail]
   | cons y r B =>
    intro A
    have e:(Go.Lib.joinTail f (y::r))=f++y++Go.Lib.joinTail f r:=by simp [Go.Lib.joinTail]
    rw [e,List.length_append,List.length_append,List.length_cons,Nat.add_mul]
    have:=B (λx o=>A x (List.mem_cons_of_mem _ o))
    have:=A y (by simp)
    omega
  rw [Go.Lib.join_cons,List.length_append,List.length_cons,Nat.add_mul]
  have:=h1 r (λx o=>h x (List.mem_cons_of_mem _ o))
  have:=h x (by simp)
  omega
theorem TQ (j:List (List UInt8)) (f:List UInt8) (m:Nat) (h:∀x∈j,x.length<=m) (hl:j.length<=1000000) (A:m+f.length<=10000):strings_Join (j.map BB) (BB f)=some (BB (Go.Lib.join j f)):=by
 have h1:=join_le f m j h
 have h2:j.length*(m+f.length)<=1000000*10000:=Nat.mul_le_mul hl A
 have e:(j.map BB).map (λx=>x.data.toList)=j:=by rw [List.map_map];exact List.map_id' j
 unfold strings_Join Pg
 rw [e]
 have o:(BB f).data.toList=f:=rfl
 rw [o,if_pos ⟨by simp;omega,by omega⟩]
theorem Fe:∀(l:List Int) (k:Nat) (f:List ByteArray),(∀n∈l,Med n)->l.length+f.length<=1000000->forR (λk x s=>mP k x s) l k f=some (.go (f++l.map λn=>BB (Go.Lib.itoa n)))
 | [],k,f,h,hl=>by simp [forR]
 | n::l,k,f,h,hl=>by
  simp only [List.length_cons]at hl
  have A:=Fe l (k+1) (f++[BB (Go.Lib.itoa n)]) (λx o=>h x (List.mem_cons_of_mem _ o)) (by simp;omega)
  have j:mP k n f=some (.go (f++[BB (Go.Lib.itoa n)])):=by
   unfold mP
   rw [F6 (h n (by simp))]
   simp only [ob_]
   rw [gN _ _ (by simp;omega)]
   rfl
  simp only [forR,j,ob_]
  rw [A]
  simp
theorem Ov (l:List Int) (h:∀n∈l,Med n) (hl:l.length<=1000000):tY l=some (BB (Go.Lib.join (l.map Go.Lib.itoa) [32])):=by
 unfold tY
 rw [jX (by omega),Fe l 0 [] h (by simpa using hl)]
 simp only [ob_,jf,List.nil_append]
 have e:(l.map λn=>BB (Go.Lib.itoa n))=(l.map Go.Lib.itoa).map BB:=by rw [List.map_map];rfl
 have hj:=TQ (l.map Go.Lib.itoa) [32] 21 (λx j=>by
  obtain ⟨n,o,rfl⟩:=List.mem_map.1 j
  exact qy (h n o)) (by simpa using hl) (by decide)
 rw [e]
 have f:(⟨#[32]⟩:ByteArray)=BB [32]:=rfl
 rw [f,hj]
 rfl
def wM (x:Log_):Prop:=ShortK x.Player/\ShortK x.Item/\ShortK x.Sum/\Med x.No/\Med x.Clock/\Med x.Long
def IW (x:Log_):List UInt8:=x.Player.data.toList++[32]++x.Item.data.toList++[32]++Go.Lib.itoa x.No++[32]++Go.Lib.itoa x.Clock++[32]++Go.Lib.itoa x.Long
theorem nR {s:ByteArray} (h:ShortK s):s.data.toList.length<=1000:=by rw [<- Go.Lib.size_eq];exact h
theorem Kb {x:Log_} (h:wM x):(IW x).length<=2100:=by
 obtain ⟨h1,h2,_,o,f,j⟩:=h
 have:=nR h1;have:=nR h2;have:=qy o;have:=qy f;have:=qy j
 simp only [IW,List.length_append,List.length_cons,List.length_nil]
 omega
theorem line_eq {x:Log_} (h:wM x):wR x=some (BB (IW x)):=by
 obtain ⟨h1,h2,_,o,f,j⟩:=h
 have F:=nR h1;have A:=nR h2;have I:=qy o;have B:=qy f;have J:=qy j
 unfold wR
 rw [F6 o,F6 f,F6 j]
 rw [show x.Player=BB x.Player.data.toList from rfl,show x.Item=BB x.Item.data.toList from rfl,show (⟨#[32]⟩:ByteArray)=BB [32] from rfl]
 simp only [ob_]
 rw [qZ _ _ (by simp only [List.length_append,List.length_cons,List.length_nil];omega)];simp only [ob_]
 rw [qZ _ _ (by simp only [List.length_append,List.length_cons,List.length_nil];omega)];simp only [ob_]
 rw [qZ _ _ (by simp only [List.length_append,List.length_cons,List.length_nil];omega)];simp only [ob_]
 rw [qZ _ _ (by simp only [List.length_append,List.length_cons,List.length_nil];omega)];simp only [ob_]
 rw [qZ _ _ (by simp only [List.length_append,List.length_cons,List.length_nil];omega)];simp only [ob_]
 rw [qZ _ _ (by simp only [List.length_append,List.length_cons,List.length_nil];omega)];simp only [ob_]
 rw [qZ _ _ (by simp only [List.length_append,List.length_cons,List.length_nil];omega)];simp only [ob_]
 rw [qZ _ _ (by simp only [List.length_append,List.length_cons,List.length_nil];omega)];simp only [ob_]
 rfl
theorem OJ {x:Log_} (h:wM x):uh x=some (BB (IW x)):=by
 obtain ⟨h1,h2,_,A,j,o⟩:=h
 have I:=nR h1;have B:=nR h2;have J:=qy A;have F:=qy j;have L:=qy o
 have f:=Ov [x.No,x.Clock,x.Long] (λn f=>by
  simp only [List.mem_cons,List.not_mem_nil,or_false]at f
  rcases f with rfl|rfl|rfl
  ·exact A
  ·exact j
  ·exact o) (by simp)
 have hj:Go.Lib.join ([x.No,x.Clock,x.Long].map Go.Lib.itoa) [32]=Go.Lib.itoa x.No++[32]++Go.Lib.itoa x.Clock++[32]++Go.Lib.itoa x.Long:=by
  simp [Go.Lib.join_cons,Go.Lib.joinTail]
 rw [hj]at f
 unfold uh
 rw [f]
 have M:(Go.Lib.itoa x.No++[32]++Go.Lib.itoa x.Clock++[32]++Go.Lib.itoa x.Long).length<=100:=by simp only [List.length_append,List.length_cons,List.length_nil];omega
 rw [show x.Player=BB x.Player.data.toList from rfl,show x.Item=BB x.Item.data.toList from rfl,show (⟨#[32]⟩:ByteArray)=BB [32] from rfl]
 rw [qZ _ _ (by simp only [List.length_append,List.length_cons,List.length_nil];omega)];simp only [ob_]
 rw [qZ _ _ (by simp only [List.length_append,List.length_cons,List.length_nil];omega)];simp only [ob_]
 rw [qZ _ _ (by simp only [List.length_append,List.length_cons,List.length_nil];omega)];simp only [ob_]
 rw [qZ _ _ (by simp only [List.length_append,List.length_cons,List.length_nil];omega)];simp only [ob_]
 unfold IW
 simp
def mk (l:List UInt8):ByteArray:=BB (AQ 16 (fnv l).toNat)
theorem Pi (l:List UInt8):(mk l).size=16:=by unfold mk;rw [tK,MI]
theorem wy (l:List UInt8):ShortK (mk l):=by unfold ShortK;rw [Pi];decide
theorem Sg (l:List UInt8) (h:l.length<=1000000000):oI (BB l)=some (mk l):=mark_eq (BB l) (by rw [tK];exact h)
theorem markR (l:List UInt8) (h:l.length<=1000000000):yc (BB l)=some (mk l):=Oa (BB l) (by rw [tK];exact h)
def wJ (x:Log_):Int:=bif !xn x.Player then 5 else bif !xn x.Item then 5 else bif (l7 x.No 1 1000000||(l7 x.Clock 0 345686399999||l7 x.Long 1 86400000))then 1 else 0
theorem Fj {x:Log_} (h:wM x):mX x=some (wJ x):=by
 obtain ⟨h1,h2,_,_,_,_⟩:=h
 unfold ShortK at h1 h2
 unfold mX wJ
 rw [wN x.Player (by omega),wN x.Item (by omega)]
 simp only [ob_,nk]
 cases xn x.Player <;> cases xn x.Item <;> cases l7 x.No 1 1000000 <;> cases l7 x.Clock 0 345686399999 <;> cases l7 x.Long 1 86400000 <;> rfl
def QR (b:UInt8):Bool:=J6.data.toList.contains b
def ug (s:ByteArray):Bool:=(s.size==16)&&s.data.toList.all QR
theorem size16 (s:ByteArray):((s.size:Int)==16)=(s.size==16):=by
 rw [Bool.eq_iff_iff];simp only [beq_iff_eq];omega
theorem Br {p:UInt8->Bool}:∀(l:List UInt8),l.dropWhile p=[]↔l.all p=true
 | []=>by simp
 | x::l=>by
  rw [List.dropWhile_cons]
  cases h:p x with
  | true=>simp [h,Br l]
  | false=>simp [h]
theorem Sn (l cs:List UInt8):Go.Lib.trimS l cs=[]↔l.all (cs.contains ·)=true:=by
 unfold Go.Lib.trimS Go.Lib.trimLeftS Go.Lib.trimRightS
 rw [Br,List.all_reverse]
 constructor
 ·intro h
  have h2:(l.reverse.dropWhile (cs.contains ·))=[]:=by
   cases hd:l.reverse.dropWhile (cs.contains ·)with
   | nil=>rfl
   | cons x r =>
    rw [hd]at h
    have f:∀(m:List UInt8),m.dropWhile (cs.contains ·)=x::r->cs.contains x=false:=by
     intro m
     induction m with
     | nil=>intro e;simp at e
     | cons y m j =>
      intro e
      rw [List.dropWhile_cons]at e
      cases hy:cs.contains y with
      | true=>rw [hy]at e;exact j e
      | false=>rw [hy]at e;simp only [Bool.false_eq_true,if_false,List.cons.injEq]at e;rw [<- e.1];exact hy
    have:=f _ hd
    simp only [List.all_cons,this,Bool.false_and,Bool.false_eq_true]at h
  rw [Br,List.all_reverse]at h2
  exact h2
 ·intro h
  have:l.reverse.dropWhile (cs.contains ·)=[]:=by rw [Br,List.all_reverse];exact h
  rw [this];rfl
theorem Bn {s:ByteArray} (h:ShortK s):lI s=some (ug s):=by
 unfold ShortK at h
 unfold lI ug
 rw [size16]
 have f:pJ s (⟨#[48,49,50,51,52,53,54,55,56,57,97,98,99,100,101,102]⟩:ByteArray)=some (BB (Go.Lib.trimS s.data.toList J6.data.toList)):=by
  unfold pJ Kj
  rw [if_pos ⟨by omega,by decide,by decide⟩]
  rfl
 rw [f]
 have e:sEq (BB (Go.Lib.trimS s.data.toList J6.data.toList)) (⟨#[]⟩:ByteArray)=s.data.toList.all QR:=by
  rw [Bool.eq_iff_iff,KH]
  have:=Sn s.data.toList J6.data.toList
  constructor
  ·intro h
   apply this.1
   have:=congrArg (λx:ByteArray=>x.data.toList) h
   simpa using this
  ·intro h
   rw [this.2 h]
 simp only [ob_,e]
 cases (s.size==16) <;> rfl
theorem Uc:∀n:Fin 16,QR (rR n.val)=true:=by decide +kernel
theorem LY:∀(k u:Nat),(AQ k u).all QR=true
 | 0,u=>rfl
 | k+1,u=>by
  show (AQ k (u / 16)++[rR (u % 16)]).all QR=true
  rw [List.all_append,LY k,List.all_cons,Uc ⟨u % 16,Nat.mod_lt _ (by omega)⟩];rfl
theorem Ps (l:List UInt8):ug (mk l)=true:=by
 unfold ug
 rw [Pi]
 show ((16==16)&&(AQ 16 (fnv l).toNat).all QR)=true
 rw [LY];rfl
def cmpL (a b:Log_):Int:=zS (AB a.Player b.Player) (uC a.No b.No)
theorem wK (a b:Log_):gW a b=some (cmpL a b):=by
 simp only [gW,uB,sU,Lu,ob_];rfl
theorem QX (a:ByteArray):AB a a=0:=by
 rcases jK a a with⟨h,_⟩|⟨_,h⟩|⟨h,_⟩
 ·exact absurd h (eZ a)
 ·exact h
 ·exact absurd h (eZ a)
def L9 (p:Option Log_) (x:Log_):Int:=bif wJ x != 0 then wJ x else bif !ug x.Sum then 3 else match p with
 | none=>0
 | some o=>bif decide (cmpL o x>=0)then 7 else 0
def EU (l:List Log_):Int:=bif decide (l.length>2000)then 2 else xy L9 none l
theorem PH (l:List Log_) (hs:∀x∈l,wM x) (hl:l.length<=1000000):dW l=some (EU l):=by
 unfold dW EU
 have e:decide ((l.length:Int)>2000)=decide (l.length>2000):=decide_eq_decide.2 (by omega)
 rw [e]
 cases decide (l.length>2000)with
 | true=>rfl
 | false =>
  simp only [cond_false]
  rw [jX (by omega),yV (stp:=L9) l l 0 rfl (λk x j => ?_)]
  ·simp only [ob_,CS];rfl
  ·have h:=hs x (List.mem_of_getElem? j)
   simp only [nG,Fj h,Bn h.2.2.1,ob_,L9]
   cases hf:(wJ x != 0)with
   | true =>
    have:(wJ x==0)=false:=by simpa using hf
    simp only [cond_true,Ap,this,cond_false]
   | false =>
   simp only [cond_false]
   cases ug x.Sum with
   | false=>rfl
   | true =>
   simp only [Bool.not_true,cond_false]
   by_cases f:0<k
   ·obtain ⟨y,h1,h2⟩:=BA j f (by omega)
    have o:decide ((k:Int)>0)=true:=by simp;omega
    simp only [o,cond_true,h1,ob_,vQ,if_neg (show ¬k=0 by omega),h2,wK]
    cases decide (cmpL y x>=0) <;> rfl
   ·have f:k=0:=by omega
    subst f
    rfl
end Go.Proofs.YtnfojnnfidnikaeGreatDoor.Law

open Go Go.Eng
namespace Go.Proofs.YtnfojnnfidnikaeGreatDoor.Law
set_option linter.unusedVariables false
set_option linter.unusedSimpArgs false
def GoodB (x:Beat):Prop:=ShortK x.Player
end Go.Proofs.YtnfojnnfidnikaeGreatDoor.Law

