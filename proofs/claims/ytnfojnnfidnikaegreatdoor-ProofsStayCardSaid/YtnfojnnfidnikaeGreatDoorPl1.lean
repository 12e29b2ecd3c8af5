/-
  THE PLAIN LAW (part 1).
-/
import Derived.Test.YtnfojnnfidnikaeGreatDoorEng5
import Derived.Test.YtnfojnnfidnikaeGreatDoorDefs
import Derived.Lib.ItoaLen
namespace Go.Eng
set_option linter.unusedVariables false
set_option linter.unusedSimpArgs false
def EO {α:Type} (cmp:α->α->Option Int) (j:Int) (f:(List α)×Int):Option (Ctl ((List α)×Int) (Unit)) :=
 (bif (decide (f.2>j))then (inR f.2 f.1).bind λ_=>(f.1[(0+(f.2).toNat)]?).bind λe_30=>(inR (w64 (f.2-1)) f.1).bind λ_=>(f.1[(0+((w64 (f.2-1))).toNat)]?).bind λe_33=>(cmp F A).bind λr_35=>some (decide (o<0))else some false).bind λv_26=>bif B then (inR (w64 (f.2-1)) f.1).bind λ_=>(f.1[(0+((w64 (f.2-1))).toNat)]?).bind λe_39=>(inR f.2 f.1).bind λ_=>(f.1[(0+(f.2).toNat)]?).bind λe_42=>(inR f.2 f.1).bind λ_=>(f.1[(0+(f.2).toNat)]?).bind λe_45=>(inR (w64 (f.2-1)) (f.1.set (0+(f.2).toNat) h)).bind λ_=>((f.1.set (0+(f.2).toNat) h)[(0+((w64 (f.2-1))).toNat)]?).bind λe_48=>some (.go (((f.1.set (0+(f.2).toNat) h).set (0+((w64 (f.2-1))).toNat) I),(w64 (f.2-1))))else some (.brk (f.1,f.2))
noncomputable def zJ {α:Type} (cmp:α->α->Option Int) (j:Int) (h:Int) (f:(List α)×Int):Option (Ctl ((List α)×Int) (Unit)) :=
 bif (decide (f.2<j))then (dS (f.1,f.2) (λs=>EO cmp h s)).bind λo_24=>thenC A (λs_21=>some (.go (o.1,(w64 (f.2+1))))) (λ_=>none)else some (.brk (f.1,f.2))
noncomputable def Cj {α:Type} (cmp:α->α->Option Int) (f:(List α)) (h:Int) (j:Int):Option ((List α)) :=
 (dS (f,(w64 (h+1))) (λs=>zJ cmp j h s)).bind λo_13=>thenC A (λs_10=>some o.1) (λ_=>none)
noncomputable def RS {α:Type} (cmp:α->α->Option Int) (A:Int) (o:Int) (f:(List α)) (h:Int) (B:Unit):Option (Ctl (Unit) ((List α))) :=
 bif (decide ((w64 (A-o))<=12))then (Cj cmp f o A).bind λr_17=>(fw j f).bind λ_=>some (.ret j)else bif (h==0)then none else none
noncomputable def OV {α:Type} (cmp:α->α->Option Int) (f:(List α)) (j:Int) (o:Int) (h:Int):Option ((List α)) :=
 (dS () (λs=>RS cmp o j f h s)).bind λo_14=>thenC A (λs_11=>some f) (λr=>some r)
theorem PE {α:Type} (u v:α) (C:List α):∀A:List α,((A++u::v::C).set (A.length+1) u).set A.length v=A++v::u::C
 | []=>rfl
 | a::A=>by simp only [List.cons_append,List.length_cons,List.set_cons_succ,PE u v C A]
theorem get_0 {α:Type} (u:α) (C A:List α):(A++u::C)[A.length]? = some u:=by simp
theorem get_1 {α:Type} (u v:α) (C A:List α):(A++u::v::C)[A.length+1]? = some v:=by
 rw [List.getElem?_append_right (by omega)];simp
theorem Ta {α:Type} (u v w:α) (C:List α):∀A:List α,(A++u::v::C).set (A.length+1) w=A++u::w::C
 | []=>rfl
 | a::A=>by simp only [List.cons_append,List.length_cons,List.set_cons_succ,Ta u v w C A]
theorem OZ {α:Type} {xs:List α} {i:Nat} (h:i<xs.length):inR (i:Int) xs=some ():=by
 unfold inR;rw [if_pos ⟨by omega,by simpa using h⟩]
section
variable {α:Type} {cmp:α->α->Option Int} {le:α->α->Prop} {p:α->Prop}
theorem insL1_0 (v:α) (C:List α):EO cmp 0 (v::C,0)=some (.brk (v::C,0)):=rfl
theorem Qg (u v:α) (A C:List α) {c:Int} (hc:cmp v u=some c) (hl:A.length<=1000000000):EO cmp 0 (A++u::v::C,((A.length+1:Nat):Int))=some (bif decide (c<0)then .go (A++v::u::C,(A.length:Int))else .brk (A++u::v::C,((A.length+1:Nat):Int))):=by
 have j:w64 (((A.length+1:Nat):Int)-1)=(A.length:Int):=by rw [EA _ (by omega)];omega
 have h1:inR ((A.length+1:Nat):Int) (A++u::v::C)=some ():=OZ (by simp)
 have h2:inR (A.length:Int) (A++u::v::C)=some ():=OZ (by simp)
 have B:inR (A.length:Int) (A++u::u::C)=some ():=OZ (by simp)
 have o:decide (((A.length+1:Nat):Int)>0)=true:=by simp <;> omega
 have h:0+((A.length+1:Nat):Int).toNat=A.length+1:=by omega
 have f:0+((A.length:Nat):Int).toNat=A.length:=by omega
 unfold EO
 simp only [j,h1,h2,o,h,f,get_0,get_1,ob_,hc,cond_true,Ta,B]
 cases decide (c<0)with
 | false=>rfl
 | true =>
  simp only [cond_true]
  have:=PE u v C A
  rw [Ta]at this
  rw [this]
theorem JG (hc:∀a b,p a->p b->∃c,cmp a b=some c/\(c<0->le a b)/\(¬c<0->le b a)) (Y:∀a b c,le a b->le b c->le a c) (v:α) (Z:p v) (R:List α):∀(n:Nat) (A B:List α),A.length=n->n<=1000000000->(∀a∈A,p a)->(A++B).Pairwise le->(∀b∈B,le v b) ->
  ∃L M,iterN (λs=>EO cmp 0 s) (n+1) (A++v::(B++R),(A.length:Int))=some (.go (L++v::(M++R),(L.length:Int)))/\L++M=A++B/\(L++v::M).Pairwise le
 | 0,A,B,J,hn,F,I,hb=>by
  have:A=[]:=List.eq_nil_of_length_eq_zero J
  subst this
  exact⟨[],B,by simp only [List.nil_append,List.length_nil,iterN,Option.bind];rfl,rfl,by simpa using ⟨hb,I⟩⟩
 | n+1,A,B,J,hn,F,I,hb=>by
  rcases List.eq_nil_or_concat A with h|⟨j,u,h⟩
  ·rw [h]at J;cases J
  ·subst h
   simp only [List.concat_eq_append]at J I F ⊢
   have W:j.length=n:=by simpa using J
   have hl:(j++[u]).length=j.length+1:=by simp
   have e:j++[u]++v::(B++R)=j++u::v::(B++R):=by simp
   obtain ⟨c,h1,h2,h3⟩:=hc v u Z (F u (by simp))
   rw [hl,e,iterN,Qg u v j (B++R) h1 (by omega),ob_]
   by_cases hcn:c<0
   ·simp only [decide_eq_true hcn,cond_true]
    have T:(j++(u::B)).Pairwise le:=by simpa using I
    obtain ⟨L,M,k1,k2,k3⟩:=JG hc Y v Z R n j (u::B) W (by omega) (λa o=>F a (by simp [o])) T (λb f=>by
     rcases List.mem_cons.1 f with rfl|f
     ·exact h2 hcn
     ·exact hb b f)
    refine⟨L,M,?_,by rw [k2];simp,k3⟩
    rw [<- k1];simp
   ·simp only [decide_eq_false hcn,cond_false]
    refine⟨j++[u],B,by simp,rfl,?_⟩
    have N:=h3 hcn
    rw [List.pairwise_append]at I ⊢
    obtain ⟨O,p2,p3⟩:=I
    refine⟨O,List.pairwise_cons.2 ⟨hb,p2⟩,λa o b f => ?_⟩
    rcases List.mem_cons.1 f with rfl|f
    ·rcases List.mem_append.1 o with o|o
     ·rw [List.pairwise_append]at O
      exact Y _ _ _ (O.2.2 a o u (by simp)) N
     ·rw [List.mem_singleton]at o;subst o;exact N
    ·exact p3 a o b f
theorem JI (hc:∀a b,p a->p b->∃c,cmp a b=some c/\(c<0->le a b)/\(¬c<0->le b a)) (O:∀a b c,le a b->le b c->le a c):∀(Q P:List α),P.length+Q.length<=1000000000->(∀x∈P++Q,p x)->P.Pairwise le ->
  ∃s,iterN (λs=>zJ cmp ((P.length+Q.length:Nat):Int) 0 s) (Q.length+1) (P++Q,(P.length:Int))=some (.go (s,((P.length+Q.length:Nat):Int)))/\s.Perm (P++Q)/\s.Pairwise le
 | [],P,hl,j,F=>by
  refine⟨P,?_,by simp,F⟩
  have I:decide ((P.length:Int)<((P.length+([]:List α).length:Nat):Int))=false:=by simp
  simp only [iterN,zJ,I,cond_false,ob_,List.append_nil]
  simp
 | v::Q,P,hl,j,F=>by
  simp only [List.length_cons]at hl
  have I:decide ((P.length:Int)<((P.length+(v::Q).length:Nat):Int))=true:=by simp only [decide_eq_true_eq,List.length_cons];omega
  obtain ⟨A,o,R,M,W⟩:=JG hc O v (j v (by simp)) Q P.length P [] rfl (by omega) (λa Y=>j a (by simp [Y])) (by simpa using F) (λb hb=>by cases hb)
  rw [List.nil_append]at R
  have J:=dB R
  rw [List.length_cons,iterN]
  have Z:w64 ((P.length:Int)+1)=((A++v::o).length:Int):=by
   have:=congrArg List.length M
   simp only [List.length_append,List.length_nil]at this
   rw [EA _ (by omega)];simp only [List.length_append,List.length_cons];omega
  have h1:zJ cmp ((P.length+(Q.length+1):Nat):Int) 0 (P++v::Q,(P.length:Int))=some (.go (A++v::(o++Q),((A++v::o).length:Int))):=by
   have L:decide ((P.length:Int)<((P.length+(Q.length+1):Nat):Int))=true:=I
   unfold zJ
   simp only [L,cond_true,J,ob_,thenC,Z]
  have N:(A++v::o).length=P.length+1:=by
   have:=congrArg List.length M
   simp only [List.length_append,List.length_nil,List.length_cons]at this ⊢
   omega
  have hk:(A++o).Perm P:=by rw [M];simp
  have f:(A++v::o).Perm (P++[v]):=(List.perm_middle).trans ((List.Perm.cons v hk).trans (List.perm_append_comm (l₁:=[v]) (l₂:=P)))
  obtain ⟨s,m1,m2,m3⟩:=JI hc O Q (A++v::o) (by omega) (λx B=>by
   rcases List.mem_append.1 B with B|B
   ·have:=f.mem_iff.1 B
    exact j x (by rcases List.mem_append.1 this with h | h <;> simp_all)
   ·exact j x (by simp [B])) W
  rw [h1,ob_]
  have e:A++v::(o++Q)=(A++v::o)++Q:=by simp
  have T:P.length+(Q.length+1)=(A++v::o).length+Q.length:=by omega
  simp only
  rw [e,T]
  refine⟨s,m1,m2.trans ?_,m3⟩
  have:=List.Perm.append_right Q f
  simpa using this
theorem pdq_ok (hc:∀a b,p a->p b->∃c,cmp a b=some c/\(c<0->le a b)/\(¬c<0->le b a)) (F:∀a b c,le a b->le b c->le a c) (l:List α) (hl:l.length<=12) (h:∀x∈l,p x) (f:Int):∃s,OV cmp l 0 (l.length:Int) f=some s/\s.Perm l/\s.Pairwise le:=by
 have key:∃s,Cj cmp l 0 (l.length:Int)=some s/\s.Perm l/\s.Pairwise le:=by
  unfold Cj
  have I:w64 (0+1)=1:=rfl
  rw [I]
  cases l with
  | nil=>exact⟨[],by rw [dB (n:=1) (o := .go ([],1)) rfl];rfl,.nil,.nil⟩
  | cons v Q =>
   obtain ⟨s,A,M,L⟩:=JI hc F Q [v] (by simp only [List.length_cons,List.length_nil]at hl ⊢;omega) (λx J=>h x (by simpa using J)) (List.pairwise_singleton _ _)
   have e:([v].length+Q.length:Nat)=(v::Q).length:=by simp only [List.length_cons,List.length_nil];omega
   rw [e]at A
   have:=dB A
   refine⟨s,?_,M,L⟩
   show (dS (v::Q,1) _).bind _=_
   have B:(([v]++Q,(([v]:List α).length:Int)):List α×Int)=(v::Q,1):=rfl
   rw [B]at this
   rw [this];rfl
 obtain ⟨s,h1,h2,O⟩:=key
 refine⟨s,?_,h2,O⟩
 have j:fw s l=some ():=by unfold fw;rw [if_pos h2.length_eq]
 have N:decide (w64 ((l.length:Int)-0)<=12)=true:=by
  have:(l.length:Int)-0=l.length:=by omega
  rw [this,EA _ (by omega)];simp;omega
 have:dS () (λs=>RS cmp (l.length:Int) 0 l f s)=some (.ret s):=by
  refine dB (n:=1) ?_
  simp only [iterN,RS,N,cond_true,h1,j,ob_]
 unfold OV
 rw [this];rfl
end
end Go.Eng

namespace Go.Eng
set_option linter.unusedVariables false
set_option linter.unusedSimpArgs false
noncomputable def stL1 {α:Type} (cmp:α->α->Option Int) (j:Int) (f:(List α)×Int×Int):Option (Ctl ((List α)×Int×Int) (Unit)) :=
 bif (decide (f.2.2<=j))then (Cj cmp f.1 f.2.1 f.2.2).bind λr_15=>(fw h f.1).bind λ_=>some (.go (h,f.2.2,(w64 (f.2.2+20))))else some (.brk (f.1,f.2.1,f.2.2))
def stL2 (f:Int) (h:Int) (j:Unit):Option (Ctl (Unit) (Unit)) :=
 bif (decide ((w64 (2*f))<=h))then none else some (.brk ())
noncomputable def stL3 (h:Int) (f:Int):Option (Ctl (Int) (Unit)) :=
 bif (decide (f<h))then (dS () (λs=>stL2 f h s)).bind λo_40=>thenC j (λs_37=>(bif (decide ((w64 (0+f))<h))then none else some ()).bind λv_43=>some (.go (w64 (f*2)))) (λ_=>none)else some (.brk f)
noncomputable def PY {α:Type} (cmp:α->α->Option Int) (f:(List α)) (h:Int):Option ((List α)) :=
 (dS (f,0,20) (λs=>stL1 cmp h s)).bind λo_12=>thenC A (λs_9=>(Cj cmp j.1 j.2.1 h).bind λr_18=>(fw o j.1).bind λ_=>(dS 20 (λs=>stL3 h s)).bind λo_29=>thenC B (λs_26=>some o) (λ_=>none)) (λ_=>none)
def iw {α:Type} (c:α->α->Int) (v:α):List α->List α
 | []=>[v]
 | u::R=>bif decide (c v u<0)then u::iw c v R else v::u::R
def xg {α:Type} (c:α->α->Int):List α->List α->List α
 | R,[]=>R
 | R,v::Q=>xg c (iw c v R) Q
def nz {α:Type} (c:α->α->Int) (l:List α):List α:=(xg c [] l).reverse
theorem uj {α:Type} (c:α->α->Int) (v:α):∀R:List α,(iw c v R).Perm (v::R)
 | []=>List.Perm.refl _
 | u::R=>by
  unfold iw
  cases decide (c v u<0)with
  | true=>exact ((uj c v R).cons u).trans (List.Perm.swap v u R)
  | false=>exact List.Perm.refl _
theorem Ey {α:Type} (c:α->α->Int):∀(Q R:List α),(xg c R Q).Perm (Q++R)
 | [],R=>List.Perm.refl _
 | v::Q,R=>by
  have h1:=Ey c Q (iw c v R)
  refine h1.trans ?_
  refine ((uj c v R).append_left Q).trans ?_
  exact List.perm_middle
theorem J4 {α:Type} (c:α->α->Int) (l:List α):(nz c l).Perm l:=by
 unfold nz
 refine (List.reverse_perm _).trans ?_
 simpa using Ey c l []
theorem yI {α:Type} (c:α->α->Int) (l:List α):(nz c l).length=l.length:=(J4 c l).length_eq
theorem Ia {α:Type} (c:α->α->Int) (v:α) (R:List α):(iw c v R).length=R.length+1:=by simpa using (uj c v R).length_eq
section
variable {α:Type} {cmp:α->α->Option Int} {c:α->α->Int} {p:α->Prop}
theorem SK (hc:∀a b,p a->p b->cmp a b=some (c a b)) (v:α) (o:p v):∀(R B:List α),R.length<=1000000000->(∀a∈R,p a) ->
  ∃i,iterN (λs=>EO cmp 0 s) (R.length+1) (R.reverse++v::B,(R.length:Int))=some (.go ((iw c v R).reverse++B,i))
 | [],B,j,h=>⟨0,by
   show iterN (λs=>EO cmp 0 s) 1 (v::B,0)=_
   simp only [iterN]
   show ((EO cmp 0 (v::B,0)).bind _)=_
   rw [insL1_0];rfl⟩
 | u::R,B,j,h=>by
  simp only [List.length_cons]at j
  have f:=hc v u o (h u (by simp))
  have e:(u::R).reverse++v::B=R.reverse++u::v::B:=by simp
  have hs:=Qg (cmp:=cmp) u v R.reverse B f (by simpa using (by omega:R.length<=1000000000))
  rw [List.length_reverse]at hs
  rw [e,List.length_cons,iterN,hs]
  unfold iw
  cases hd:decide (c v u<0)with
  | true =>
   obtain ⟨i,hi⟩:=SK hc v o R (u::B) (by omega) (λa A=>h a (List.mem_cons_of_mem _ A))
   refine⟨i,?_⟩
   simp only [cond_true,ob_]
   rw [hi];simp
  | false =>
   refine⟨((R.length+1:Nat):Int),?_⟩
   simp only [cond_false,ob_]
   simp
theorem Qp (hc:∀a b,p a->p b->cmp a b=some (c a b)):∀(Q R:List α),R.length+Q.length<=1000000000->(∀a∈R,p a)->(∀a∈Q,p a) ->
  iterN (λs=>zJ cmp ((R.length+Q.length:Nat):Int) 0 s) (Q.length+1) (R.reverse++Q,(R.length:Int))=some (.go ((xg c R Q).reverse,((R.length+Q.length:Nat):Int)))
 | [],R,I,o,j=>by
  have F:decide ((R.length:Int)<((R.length+([]:List α).length:Nat):Int))=false:=decide_eq_false (by simp)
  simp only [iterN]
  unfold zJ
  simp only [F,cond_false,ob_]
  simp [xg]
 | v::Q,R,I,o,j=>by
  simp only [List.length_cons]at I
  have F:decide ((R.length:Int)<((R.length+(v::Q).length:Nat):Int))=true:=decide_eq_true (by simp only [List.length_cons];omega)
  obtain ⟨i,hi⟩:=SK hc v (j v (by simp)) R Q (by omega) o
  have L:w64 ((R.length:Int)+1)=((R.length+1:Nat):Int):=by rw [EA _ (by omega)];omega
  have f:zJ cmp ((R.length+(v::Q).length:Nat):Int) 0 (R.reverse++v::Q,(R.length:Int))=some (.go ((iw c v R).reverse++Q,((R.length+1:Nat):Int))):=by
   unfold zJ
   simp only [F,cond_true]
   rw [dB hi]
   simp only [ob_,L,thenC]
  have A:=Qp hc Q (iw c v R) (by rw [Ia];omega) (λa B=>by
   have:=(uj c v R).mem_iff.1 B
   rcases List.mem_cons.1 this with rfl|h
   ·exact j _ (by simp)
   ·exact o a h) (λa B=>j a (List.mem_cons_of_mem _ B))
  rw [List.length_cons,iterN]
  simp only [List.length_cons]at f
  rw [f]
  simp only [ob_]
  rw [Ia]at A
  have J:R.length+1+Q.length=R.length+(Q.length+1):=by omega
  rw [J]at A
  exact A
theorem QR (hc:∀a b,p a->p b->cmp a b=some (c a b)) (l:List α) (hl:l.length<=100000000) (h:∀a∈l,p a):Cj cmp l 0 (l.length:Int)=some (nz c l):=by
 unfold Cj
 have j:w64 ((0:Int)+1)=1:=by decide
 rw [j]
 cases l with
 | nil =>
  have h1:iterN (λs=>zJ cmp ((([]:List α).length:Nat):Int) 0 s) 1 (([]:List α),(1:Int))=some (.go ([],1)):=by
   simp only [iterN]
   unfold zJ
   have o:decide ((1:Int)<((([]:List α).length:Nat):Int))=false:=rfl
   simp only [o,cond_false,ob_]
  rw [dB h1];rfl
 | cons v Q =>
  simp only [List.length_cons]at hl
  have h1:=Qp hc Q [v] (by simp only [List.length_cons,List.length_nil];omega) (λa f=>by rw [List.mem_singleton.1 f];exact h v (by simp)) (λa f=>h a (List.mem_cons_of_mem _ f))
  have e:([v].length+Q.length:Nat)=(v::Q).length:=by simp only [List.length_cons,List.length_nil];omega
  rw [e]at h1
  have h2:=dB h1
  have A:dS (v::Q,(1:Int)) (λs=>zJ cmp (((v::Q).length:Nat):Int) 0 s)=_:=h2
  rw [A];rfl
theorem Mf (hc:∀a b,p a->p b->cmp a b=some (c a b)) (l:List α) (hl:l.length<=19) (h:∀a∈l,p a):PY cmp l (l.length:Int)=some (nz c l):=by
 unfold PY
 have h1:iterN (λs=>stL1 cmp (l.length:Int) s) 1 (l,(0:Int),(20:Int))=some (.go (l,0,20)):=by
  simp only [iterN]
  unfold stL1
  have f:decide ((20:Int)<=(l.length:Int))=false:=decide_eq_false (by omega)
  simp only [f,cond_false,ob_]
 have h2:iterN (λs=>stL3 (l.length:Int) s) 1 (20:Int)=some (.go 20):=by
  simp only [iterN]
  unfold stL3
  have f:decide ((20:Int)<(l.length:Int))=false:=decide_eq_false (by omega)
  simp only [f,cond_false,ob_]
 rw [dB h1]
 simp only [ob_,thenC]
 rw [QR hc l (by omega) h]
 have hs:fw (nz c l) l=some ():=by unfold fw;rw [if_pos (yI c l)]
 simp only [ob_,hs]
 rw [dB h2];rfl
theorem OO {c2:α->α->Int} (l:List α) (h:∀a∈l,∀b∈l,(c a b<0↔c2 a b<0)):nz c l=nz c2 l:=by
 have h1:∀(R:List α) (v:α),v∈l->(∀a∈R,a∈l)->iw c v R=iw c2 v R:=by
  intro R
  induction R with
  | nil=>intro v _ _;rfl
  | cons u R o =>
   intro v B j
   unfold iw
   rw [decide_eq_decide.2 (h v B u (j u (by simp))),o v B (λa f=>j a (List.mem_cons_of_mem _ f))]
 have h2:∀(Q R:List α),(∀a∈Q,a∈l)->(∀a∈R,a∈l)->xg c R Q=xg c2 R Q:=by
  intro Q
  induction Q with
  | nil=>intro R _ _;rfl
  | cons v Q o =>
   intro R A j
   show xg c (iw c v R) Q=xg c2 (iw c2 v R) Q
   rw [h1 R v (A v (by simp)) j]
   refine o _ (λa f=>A a (List.mem_cons_of_mem _ f)) (λa f => ?_)
   rcases List.mem_cons.1 ((uj c2 v R).mem_iff.1 f)with rfl|f
   ·exact A _ (by simp)
   ·exact j a f
 unfold nz
 rw [h2 l [] (λa f=>f) (λa f=>by cases f)]
end
section
variable {α:Type} (eqv:α->α->Bool) (z:α)
variable {eqv} (he:∀a b,eqv a b=true↔a=b)
include he
end
end Go.Eng

namespace Go.Eng
set_option linter.unusedVariables false
set_option linter.unusedSimpArgs false
theorem jY {α σ ρ:Type} {body:Nat->α->σ->Option (Ctl σ ρ)} {xs:List α} {s:σ} (hl:xs.length<=1000000000000):forL xs s body=forR body xs 0 s:=by unfold forL;rw [if_pos hl]
theorem NC {α σ ρ:Type} {body:Nat->α->σ->Option (Ctl σ ρ)} (I:Nat->σ->Prop) (N:Nat):∀(xs:List α) (k:Nat) (s:σ),k+xs.length=N->(∀k x s,x∈xs->k<N->I k s->∃f,body k x s=some (.go f)/\I (k+1) f)->I k s->∃f,forR body xs k s=some (.go f)/\I N f
 | [],k,s,j,h,hi=>⟨s,rfl,by simp only [List.length_nil,Nat.add_zero]at j;rw [<- j];exact hi⟩
 | x::xs,k,s,j,h,hi=>by
  simp only [List.length_cons]at j
  obtain ⟨F,h1,h2⟩:=h k x s (by simp) (by omega) hi
  obtain ⟨o,J,A⟩:=NC I N xs (k+1) F (by omega) (λk x s B=>h k x s (by simp [B])) h2
  exact⟨o,by simp only [forR,h1,ob_];exact J,A⟩
theorem IJ {α σ ρ:Type} {body:Nat->α->σ->Option (Ctl σ ρ)} (I:Nat->σ->Prop) {xs:List α} {s:σ} (hl:xs.length<=1000000000000) (h:∀k x s,x∈xs->k<xs.length->I k s->∃f,body k x s=some (.go f)/\I (k+1) f) (j:I 0 s):∃f,forL xs s body=some (.go f)/\I xs.length f:=by
 obtain ⟨f,h1,h2⟩:=NC I xs.length xs 0 s (by omega) h j
 exact⟨f,by rw [jY hl];exact h1,h2⟩
theorem jk {σ ρ τ:Type} (s:σ) (f:σ->Option τ) (g:ρ->Option τ):thenC (.go s) f g=f s:=rfl
theorem Jy {σ ρ τ:Type} (r:ρ) (f:σ->Option τ) (g:ρ->Option τ):thenC (.ret r) f g=g r:=rfl
theorem mf {α:Type} (xs:List α) (k:Nat):idx xs (k:Int)=xs[k]? := by simp [idx]
theorem dh {n:Int} (h : -9223372036854775808<=n/\n<=9223372036854775807):w64 n=n:=EA n h
theorem toL (s:ByteArray):s.toList=s.data.toList:=Go.Lib.toList_data s
theorem Bt {a b:ByteArray} (h:a.toList=b.toList):a=b:=by
 rw [toL,toL]at h
 obtain ⟨⟨a⟩⟩:=a
 obtain ⟨⟨b⟩⟩:=b
 simp only at h
 rw [h]
theorem Lv (a b:ByteArray):sEq a b=true↔a=b:=by
 simp only [sEq,beq_iff_eq]
 exact⟨Bt,λh=>by rw [h]⟩
theorem Gr (a b:ByteArray):sEq a b=decide (a=b):=by
 rw [Bool.eq_iff_iff,Lv];simp
theorem PR (a b:ByteArray):sNe a b = !decide (a=b):=by
 have:=Gr a b;simp only [sEq,sNe]at *;rw [this]
abbrev bl:=Op.bytesLess
theorem bl_lt:∀(x y:List UInt8),bl x y=decide (x<y)
 | _,[]=>by simp [bl,Op.bytesLess]
 | [],_::_=>by simp [bl,Op.bytesLess]
 | a::x,b::y=>by
  have:=bl_lt x y
  simp only [bl,Op.bytesLess]at this ⊢
  rw [this,Bool.eq_iff_iff]
  simp only [Bool.or_eq_true,decide_eq_true_eq,Bool.and_eq_true,beq_iff_eq,List.cons_lt_cons_iff]
def lt (a b:ByteArray):Prop:=a.toList<b.toList
theorem sLt_iff (a b:ByteArray):sLt a b=true↔lt a b:=by
 show bl a.toList b.toList=true↔_
 rw [bl_lt];simp [lt]
theorem fu (a:ByteArray):¬lt a a:=List.lt_irrefl a.toList
theorem lt_trans {a b c:ByteArray} (h:lt a b) (k:lt b c):lt a c:=List.lt_trans h k
theorem Kv (a b:ByteArray):lt a b\/a=b\/lt b a:=by
 rcases Classical.em (lt a b)with h|h
 ·exact .inl h
 ·rcases Classical.em (lt b a)with h2|h2
  ·exact .inr (.inr h2)
  ·exact .inr (.inl (Bt (List.le_antisymm (List.not_lt.1 h2) (List.not_lt.1 h))))
theorem sNe_nil (a:ByteArray):sNe a ⟨#[]⟩=decide (a.size≠0):=by
 rw [PR,Go.Lib.size_eq,Bool.eq_iff_iff]
 simp only [Bool.not_eq_true',decide_eq_false_iff_not,decide_eq_true_eq,ne_eq]
 refine not_congr ⟨λh=>by rw [h];rfl,λh => ?_⟩
 exact Bt (by rw [toL,List.eq_nil_of_length_eq_zero h,toL])
end Go.Eng

open Go Go.Eng
namespace Go.Proofs.YtnfojnnfidnikaeGreatDoor.Law
set_option linter.unusedVariables false
set_option linter.unusedSimpArgs false
def Ok (s:Stream) (b:Int):Prop:=0<=s.f_at/\s.f_at<=b
theorem Ok.mono {s:Stream} {b c:Int} (h:Ok s b) (hc:b<=c):Ok s c:=⟨h.1,Int.le_trans h.2 hc⟩
theorem He (x n:Int) (h:1<=n) (j:n<=4611686018427387904):∃r,wZ x n=some r/\0<=r/\r<n:=by
 have h1:x.tmod n<n:=Int.tmod_lt_of_pos x (by omega)
 have h2 : -n<x.tmod n:=Int.lt_tmod_of_pos x (by omega)
 have hb:decide (n<1)=false:=by simp;omega
 have f:n≠0:=by omega
 simp only [wZ,hb,cond_false,ME,if_neg f,ob_]
 cases hd:decide (x.tmod n<0)with
 | true =>
  simp only [decide_eq_true_eq]at hd
  exact⟨_,rfl,by rw [dh (by omega)];omega,by rw [dh (by omega)];omega⟩
 | false =>
  simp only [decide_eq_false_iff_not]at hd
  exact⟨_,rfl,by omega,h1⟩
theorem Bj (s:Stream) (n:Int) {b:Int} (hs:Ok s b) (hb:b<=1000000) (h:1<=n) (A:n<=4611686018427387904):∃r B,jT s n=some (r,B)/\0<=r/\r<n/\Ok B (b+1):=by
 obtain ⟨R,h1⟩:=hs
 have J:w64 (s.f_at+1)=s.f_at+1:=dh (by omega)
 have I:w64 (s.f_at+1-1)=s.f_at:=by rw [dh (by omega)];omega
 simp only [jT,J,I]
 by_cases hl:s.L.length=0
 ·have:((s.L.length:Int)==0)=true:=by simp [hl]
  simp only [this,cond_true]
  obtain ⟨r,j,h2,F⟩:=He (w64 ((s.f_at+1)*7919)) n h A
  exact⟨r,_,by rw [j];rfl,h2,F,⟨by show 0<=s.f_at+1;omega,by show s.f_at+1<=b+1;omega⟩⟩
 ·have f:(s.L.length:Int)≠0:=by omega
  have:((s.L.length:Int)==0)=false:=by simpa using hl
  simp only [this,cond_false,ME,Ku,if_neg f,ob_]
  have h2:0<=s.f_at.tmod s.L.length:=Int.tmod_nonneg _ R
  have N:(0:Int)<(s.L.length:Int):=by have:=Nat.pos_of_ne_zero hl;omega
  have F:s.f_at.tmod s.L.length<s.L.length:=Int.tmod_lt_of_pos _ N
  have hi:idx s.L (s.f_at.tmod s.L.length)=some s.L[(s.f_at.tmod s.L.length).toNat]:=by
   simp only [idx,if_pos h2]
   exact List.getElem?_eq_getElem (by omega)
  obtain ⟨O,o,_,_⟩:=He s.L[(s.f_at.tmod s.L.length).toNat] 1073741824 (by decide) (by decide)
  simp only [hi,o,ob_]
  generalize w64 (O+_)=y
  obtain ⟨r,j,M,T⟩:=He y n h A
  exact⟨r,_,by rw [j];rfl,M,T,⟨by show 0<=s.f_at+1;omega,by show s.f_at+1<=b+1;omega⟩⟩
theorem flip_ok (s:Stream) (n:Int) {b:Int} (hs:Ok s b) (hb:b<=1000000) (h:1<=n) (j:n<=1000):∃r f,mD s n=some (r,f)/\Ok f (b+1):=by
 obtain ⟨r,f,h1,_,_,h2⟩:=Bj s n hs hb h (by omega)
 exact⟨r==0,f,by simp only [mD,h1,ob_],h2⟩
theorem Pv {α:Type} {l:List α} {r:Int} (f:0<=r) (h1:r<l.length):∃y,idx l r=some y/\y∈l:=by
 refine⟨l[r.toNat]'(by omega),?_,List.getElem_mem _⟩
 simp only [idx,if_pos f]
 exact List.getElem?_eq_getElem (by omega)
theorem Bl (s:Stream) (l:List Int) {b:Int} (hs:Ok s b) (hb:b<=1000000) (h:1<=l.length) (F:l.length<=1000):∃r f,dY s l=some (r,f)/\r∈l/\Ok f (b+1):=by
 obtain ⟨r,f,h1,h2,o,A⟩:=Bj s l.length hs hb (by omega) (by omega)
 obtain ⟨y,j,B⟩:=Pv h2 o
 exact⟨y,f,by simp only [dY,h1,j,ob_],B,A⟩
theorem Ps (s:Stream) (l:List ByteArray) {b:Int} (hs:Ok s b) (hb:b<=1000000) (h:1<=l.length) (F:l.length<=1000):∃r f,kR s l=some (r,f)/\r∈l/\Ok f (b+1):=by
 obtain ⟨r,f,h1,h2,o,A⟩:=Bj s l.length hs hb (by omega) (by omega)
 obtain ⟨y,j,B⟩:=Pv h2 o
 exact⟨y,f,by simp only [kR,h1,j,ob_],B,A⟩
theorem wY (s:Stream) (lo hi:Int) {b:Int} (hs:Ok s b) (hb:b<=1000000) (h:lo<=hi) (h1 : -1000000000000<=lo) (h2:hi<=1000000000000):∃r f,fZ s lo hi=some (r,f)/\lo<=r/\r<=hi/\Ok f (b+1):=by
 have j:decide (hi<lo)=false:=by simp;omega
 have A:w64 (hi-lo)=hi-lo:=dh (by omega)
 have o:w64 (hi-lo+1)=hi-lo+1:=dh (by omega)
 obtain ⟨r,f,B,J,I,F⟩:=Bj s (hi-lo+1) hs hb (by omega) (by omega)
 simp only [fZ,j,cond_false,A,o,B,ob_]
 exact⟨_,f,rfl,by rw [dh (by omega)];omega,by rw [dh (by omega)];omega,F⟩
end Go.Proofs.YtnfojnnfidnikaeGreatDoor.Law

open Go Go.Eng
namespace Go.Proofs.YtnfojnnfidnikaeGreatDoor.Law
set_option linter.unusedVariables false
set_option linter.unusedSimpArgs false
def lowB (b:UInt8):Bool:=decide (97<=b.toNat)&&decide (b.toNat<=122)
def moreB (b:UInt8):Bool:=(decide (48<=b.toNat)&&decide (b.toNat<=57))||(b.toNat==45)||(b.toNat==95)
def okB (i:Nat) (b:UInt8):Bool:=lowB b||(decide (0<i)&&moreB b)
def uK (s:ByteArray) (i:Nat):UInt8:=s.data.toList.getD i 0
def xq (s:ByteArray):Bool:=decide (s.size≠0)&&(decide (s.size<=40)&&(List.range s.size).all λi=>okB i (uK s i))
theorem L9 (s:ByteArray) (k:Nat) (h:k<s.size):Ay s (k:Int)=some (uK s k):=by
 have h1:s[k]? = some s[k]:=by simp [h]
 have h2:uK s k=s[k]:=by
  have hl:k<s.data.toList.length:=by rw [<- Go.Lib.size_eq];exact h
  simp only [uK,List.getD_eq_getElem?_getD,List.getElem?_eq_getElem hl,Option.getD_some]
  simp
  rfl
 simp only [Ay,if_pos (Int.natCast_nonneg k),Int.toNat_natCast,h1,h2]
theorem Ms (s:ByteArray) (k:Nat) (hs:s.size<=1000000000):lM s (k:Int)=some (if k<s.size then (bif okB k (uK s k)then .go ((k+1:Nat):Int)else .ret false)else .brk (k:Int)):=by
 unfold lM
 by_cases h:k<s.size
 ·have f:decide ((k:Int)<(s.size:Int))=true:=by simp;omega
  have j:w64 ((k:Int)+1)=((k+1:Nat):Int):=by rw [dh (by omega)];omega
  simp only [f,cond_true,L9 s k h,ob_,if_pos h,j]
  generalize uK s k=b
  simp only [okB,lowB,moreB]
  have J:decide ((b.toNat:Int)>=97)=decide (97<=b.toNat):=decide_eq_decide.2 (by omega)
  have B:decide ((b.toNat:Int)<=122)=decide (b.toNat<=122):=decide_eq_decide.2 (by omega)
  have L:decide ((k:Int)>0)=decide (0<k):=decide_eq_decide.2 (by omega)
  have I:decide ((b.toNat:Int)>=48)=decide (48<=b.toNat):=decide_eq_decide.2 (by omega)
  have F:decide ((b.toNat:Int)<=57)=decide (b.toNat<=57):=decide_eq_decide.2 (by omega)
  have A:((b.toNat:Int)==45)=(b.toNat==45):=by rw [Bool.eq_iff_iff];simp;omega
  have o:((b.toNat:Int)==95)=(b.toNat==95):=by rw [Bool.eq_iff_iff];simp;omega
  rw [J,B,L,I,F,A,o]
  cases decide (97<=b.toNat) <;> cases decide (b.toNat<=122) <;> cases decide (0<k) <;> cases decide (48<=b.toNat) <;> cases decide (b.toNat<=57) <;> cases (b.toNat==45) <;> cases (b.toNat==95) <;> rfl
 ·have f:decide ((k:Int)<(s.size:Int))=false:=by simp;omega
  simp only [f,cond_false,if_neg h]
theorem H8 (s:ByteArray) (hs:s.size<=1000000000):∀(n k:Nat),k+n=s.size->iterN (λi=>lM s i) (n+1) (k:Int)=some (bif (List.range' k n).all (λj=>okB j (uK s j))then .go (s.size:Int)else .ret false)
 | 0,k,h=>by
  have f:¬k<s.size:=by omega
  simp only [iterN,Ms s k hs,if_neg f,ob_,List.range'_zero,List.all_nil,cond_true]
  rw [show (k:Int)=s.size by omega]
 | n+1,k,h=>by
  have f:k<s.size:=by omega
  rw [iterN,Ms s k hs,if_pos f,ob_,List.range'_succ,List.all_cons]
  cases okB k (uK s k)with
  | true=>simp only [cond_true,Bool.true_and];exact H8 s hs n (k+1) (by omega)
  | false=>rfl
theorem wh (s:ByteArray) (hs:s.size<=1000000000):d9 s=some (xq s):=by
 have h:=dB (H8 s hs s.size 0 (by omega))
 unfold d9
 have f:dS (0:Int) (λs_1=>lM s j)=_:=h
 rw [f,ob_,<- List.range_eq_range']
 have e:decide ((s.size:Int)<=40)=decide (s.size<=40):=decide_eq_decide.2 (by omega)
 simp only [xq]
 cases (List.range s.size).all (λi=>okB i (uK s i))with
 | true =>
  rw [cond_true,jk,sNe_nil,e,Bool.and_true]
  cases decide (s.size≠0) <;> rfl
 | false=>simp only [cond_false,Jy,Bool.and_false]
end Go.Proofs.YtnfojnnfidnikaeGreatDoor.Law

open Go Go.Eng
namespace Go.Proofs.YtnfojnnfidnikaeGreatDoor.Law
set_option linter.unusedVariables false
set_option linter.unusedSimpArgs false
def ShortK (s:ByteArray):Prop:=s.size<=1000
theorem oF {s:ByteArray} (h:Nat.ble s.size 1000=true):ShortK s:=Nat.le_of_ble_eq_true h
theorem gL {α:Type} (xs ys:List α) (h:xs.length+ys.length<=1000000000):ku xs ys=some (xs++ys):=by unfold ku;rw [if_pos h]
theorem set_atK {α:Type} {xs:List α} {i:Nat} {a:α} (h:i<xs.length):(xs.set i a)[i]? = some a:=by simp [h]
theorem IL {α:Type} {p:α->Prop} {xs:List α} {i:Nat} {a:α} (h:∀x∈xs,p x) (f:p a):∀x∈xs.set i a,p x:=λx j=>by
 rcases List.mem_or_eq_of_mem_set j with h1|h1
 ·exact h x h1
 ·rw [h1];exact f
theorem zq {α:Type} {i:Int} {xs:List α} (f:0<=i) (h1:i<xs.length):inR i xs=some ():=by unfold inR;rw [if_pos ⟨f,by omega⟩]
def Af (e:Int):Ctl Unit Int:=bif e==0 then .go ()else .ret e
theorem CG (e:Int):thenC (Af e) (λ_=>some (0:Int)) (λr=>some r)=some e:=by
 unfold Af
 cases h:e==0 with
 | true=>simp only [cond_true,jk];rw [eq_of_beq h]
 | false=>rfl
theorem Bc {α:Type} {l:List α} {k:Nat} {x:α} (h:l[k]? = some x) (j:0<k) (hl:l.length<=1000000000):∃y,idx l (w64 ((k:Int)-1))=some y/\l[k-1]? = some y:=by
 have f:k<l.length:=(List.getElem?_eq_some_iff.1 h).1
 rw [dh (by omega),show (k:Int)-1=((k-1:Nat):Int) by omega,mf]
 exact⟨l[k-1],List.getElem?_eq_getElem (by omega),List.getElem?_eq_getElem (by omega)⟩
def xy {α:Type} (stp:Option α->α->Int):Option α->List α->Int
 | _,[]=>0
 | p,x::xs=>bif stp p x==0 then xy stp (some x) xs else stp p x
def vK {α:Type} (l:List α) (k:Nat):Option α:=if k=0 then none else l[k-1]?
theorem yS {α:Type} {stp:Option α->α->Int} {body:Nat->α->Unit->Option (Ctl Unit Int)} (l:List α):∀(xs:List α) (k:Nat),l.drop k=xs->(∀k x,l[k]? = some x->body k x ()=some (Af (stp (vK l k) x))) ->
  forR body xs k ()=some (Af (xy stp (vK l k) xs))
 | [],k,h,hb=>rfl
 | x::xs,k,h,hb=>by
  have f:=yl h
  rw [forR,hb k x f,ob_,xy]
  cases he:stp (vK l k) x==0 with
  | true =>
   simp only [Af,he,cond_true]
   rw [yS l xs (k+1) (aX h) hb]
   have:vK l (k+1)=some x:=by simp [vK,f]
   rw [this];rfl
  | false=>simp only [Af,he,cond_false]
theorem RB {α:Type} {stp:Option α->α->Int}:∀{l:List α} {p:Option α},xy stp p l=0->match l with
  | []=>True
  | x::xs=>stp p x=0/\xy stp (some x) xs=0
 | [],_,_=>trivial
 | x::xs,p,h=>by
  rw [xy]at h
  cases he:stp p x==0 with
  | true=>rw [he]at h;exact⟨eq_of_beq he,h⟩
  | false=>rw [he,cond_false]at h;rw [h]at he;cases he
def l7 (n lo hi:Int):Bool:=decide (n<lo)||decide (n>hi)
theorem nk (n lo hi:Int):aS n lo hi=some (l7 n lo hi):=by
 unfold aS l7
 cases decide (n<lo) <;> cases decide (n>hi) <;> rfl
theorem Bg {n lo hi:Int} (h:l7 n lo hi=false):lo<=n/\n<=hi:=by
 simp only [l7,Bool.or_eq_false_iff,decide_eq_false_iff_not]at h;omega
theorem rP {n lo hi:Int} (h:lo<=n/\n<=hi):l7 n lo hi=false:=by
 simp only [l7,Bool.or_eq_false_iff,decide_eq_false_iff_not];omega
def momB (n:Int):Bool := !l7 n 0 345686399999
theorem tV (n:Int):cK n=some (momB n):=by
 unfold cK momB l7
 have h:decide (n>=0) = !decide (n<0):=by rw [Bool.eq_iff_iff];simp
 have f:decide (n<345686400000) = !decide (n>345686399999):=by rw [Bool.eq_iff_iff];simp;omega
 rw [h,f]
 cases decide (n<0) <;> cases decide (n>345686399999) <;> rfl
theorem Ed {n:Int} (h:momB n=true):0<=n/\n<=345686399999:=by
 unfold momB at h;exact Bg (by simpa using h)
def zU (a b:Int):Int:=bif a==0 then b else a
theorem jI (a b:ByteArray):(lt a b/\AV a b = -1)\/(a=b/\AV a b=0)\/(lt b a/\AV a b=1):=by
 have key:∀(x y:List UInt8),(x<y/\Lib.compareBytes x y = -1)\/(x=y/\Lib.compareBytes x y=0)\/(y<x/\Lib.compareBytes x y=1):=by
  intro x
  induction x with
  | nil=>intro y;cases y with
   | nil=>exact .inr (.inl ⟨rfl,rfl⟩)
   | cons b y=>exact .inl ⟨by simp,rfl⟩
  | cons a x f=>intro y;cases y with
   | nil=>exact .inr (.inr ⟨by simp,rfl⟩)
   | cons b y =>
    simp only [Lib.compareBytes,List.cons_lt_cons_iff,List.cons.injEq]
    by_cases h1:a<b
    ·exact .inl ⟨.inl h1,by rw [if_pos h1]⟩
    ·by_cases h2:b<a
     ·exact .inr (.inr ⟨.inl h2,by rw [if_neg h1,if_pos h2]⟩)
     ·have e:a=b:=UInt8.le_antisymm (UInt8.not_lt.1 h2) (UInt8.not_lt.1 h1)
      subst e
      rw [if_neg h1,if_neg h1]
      rcases f y with⟨h,k⟩|⟨h,k⟩|⟨h,k⟩
      ·exact .inl ⟨.inr ⟨rfl,h⟩,k⟩
      ·exact .inr (.inl ⟨⟨rfl,h⟩,k⟩)
      ·exact .inr (.inr ⟨.inr ⟨rfl,h⟩,k⟩)
 unfold AV lt
 rw [toL,toL]
 rcases key a.data.toList b.data.toList with⟨h,k⟩|⟨h,k⟩|⟨h,k⟩
 ·exact .inl ⟨h,k⟩
 ·exact .inr (.inl ⟨Bt (by rw [toL,toL];exact h),k⟩)
 ·exact .inr (.inr ⟨h,k⟩)
theorem uE (a b:ByteArray):strings_Compare a b=some (AV a b):=rfl
def uy (a b:Int):Int:=if a<b then -1 else if a>b then 1 else 0
theorem sK (a b:Int):cmp_Compare_int a b=some (uy a b):=by
 have e:∀x:Int,(x != x)=false:=by simp
 unfold cmp_Compare_int cmp_isNaN_int uy
 simp only [e,ob_,cond_false]
 by_cases h:a<b
 ·simp only [decide_eq_true h,cond_true,if_pos h]
 ·by_cases h2:a>b
  ·simp only [decide_eq_false h,decide_eq_true h2,cond_true,cond_false,if_neg h,if_pos h2]
  ·simp only [decide_eq_false h,decide_eq_false h2,cond_false,if_neg h,if_neg h2]
theorem Lb (a b:Int):kW [a,b]=some (zU a b):=by
 unfold kW zU
 rw [jY (by simp)]
 simp only [forR,nT]
 cases ha:a==0 with
 | false =>
  have:(a != 0)=true:=by simp [bne,ha]
  simp only [this,cond_true,cond_false,ob_,thenC]
 | true =>
  have:(a != 0)=false:=by simp [bne,ha]
  simp only [this,cond_true,cond_false,ob_]
  cases hb:b==0 with
  | false =>
   have:(b != 0)=true:=by simp [bne,hb]
   simp only [this,cond_true,ob_,thenC]
  | true =>
   have:(b != 0)=false:=by simp [bne,hb]
   simp only [this,cond_false,ob_,thenC]
   rw [eq_of_beq hb]
end Go.Proofs.YtnfojnnfidnikaeGreatDoor.Law

open Go Go.Eng
namespace Go.Proofs.YtnfojnnfidnikaeGreatDoor.Law
set_option linter.unusedVariables false
set_option linter.unusedSimpArgs false
theorem wu (n:Int):IntKind.u64.wrap n=n % 18446744073709551616:=by simp [IntKind.wrap,IntKind.bits,IntKind.signed]
theorem R9 {n:Int} (f:0<=n) (h1:n<18446744073709551616):IntKind.u64.wrap n=n:=by rw [wu];exact Int.emod_eq_of_lt f h1
theorem wu_in (n:Int):0<=IntKind.u64.wrap n/\IntKind.u64.wrap n<18446744073709551616:=by rw [wu];omega
abbrev BB (l:List UInt8):ByteArray:=⟨l.toArray⟩
theorem Oo (l m:List UInt8):BB l++BB m=BB (l++m):=by
  apply Bt;rw [toL,toL];simp
theorem tN (l:List UInt8):(BB l).size=l.length:=by show l.toArray.size=_;simp
theorem LM {x y:ByteArray} (h:x.size+y.size<=1000000000000):sZ x y=some (x++y):=by
  unfold sZ
  rw [if_neg]
  have:IntKind.i64.max=9223372036854775807:=by decide
  rw [this];omega
def DV (h:Int) (b:UInt8):Int:=IntKind.u64.wrap ((wm .u64 h (IntKind.u64.wrap (b.toNat:Int)))*1099511628211)
def fnv (bs:List UInt8):Int:=bs.foldl DV 14695981039346656037
theorem PV:∀(bs:List UInt8) (h:Int),0<=h/\h<18446744073709551616->0<=bs.foldl DV h/\bs.foldl DV h<18446744073709551616
  | [],h,f=>f
  | b::bs,h,f=>PV bs _ (wu_in _)
theorem Ue (bs:List UInt8):0<=fnv bs/\fnv bs<18446744073709551616:=PV bs _ (by decide)
theorem Mx (s:ByteArray):∀(xs:List Nat) (k:Nat) (h:Int),k+xs.length=s.size->forR (λk x u=>qm s k x u) xs k h=some (.go ((s.data.toList.drop k).foldl DV h))
  | [],k,h,j=>by
    have:s.data.toList.drop k=[]:=List.drop_eq_nil_iff.2 (by rw [<- Go.Lib.size_eq];simp at j;omega)
    rw [this];rfl
  | x::xs,k,h,j=>by
    simp only [List.length_cons]at j
    have f:k<s.data.toList.length:=by rw [<- Go.Lib.size_eq];omega
    have hb:uK s k=s.data.toList[k]:=by simp [uK,List.getD,List.getElem?_eq_getElem f]
    simp only [forR]
    unfold qm
    rw [L9 s k (by omega)]
    simp only [ob_]
    have o:=Mx s xs (k+1) (DV h (uK s k)) (by omega)
    rw [List.drop_eq_getElem_cons f,List.foldl_cons,<- hb]
    exact o
theorem EU:∀(bs:List UInt8) (k:Nat) (h:Int),forR (λk x u=>xz k x u) (bs.map λb=>(b.toNat:Int)) k h=some (.go (bs.foldl DV h))
  | [],k,h=>rfl
  | b::bs,k,h=>by
    simp only [List.map_cons,forR]
    exact EU bs (k+1) (DV h b)
def rF (n:Nat):UInt8:=if n<10 then UInt8.ofNat (48+n)else UInt8.ofNat (87+n)
def ym (u:Nat):List UInt8:=if h:u<16 then [rF u]else ym (u / 16)++[rF (u % 16)]
termination_by u
decreasing_by omega
def z8:Nat->Nat->List UInt8
  | 0,_=>[]
  | k+1,u=>z8 k (u / 16)++[rF (u % 16)]
theorem wF {u:Nat} (h:u<16):ym u=[rF u]:=by rw [ym,dif_pos h]
theorem DR {u:Nat} (h:¬u<16):ym u=ym (u / 16)++[rF (u % 16)]:=by rw [ym,dif_neg h]
theorem NB:∀(k u:Nat),(z8 k u).length=k
  | 0,u=>rfl
  | k+1,u=>by simp [z8,NB k]
theorem JU:∀k,z8 k 0=List.replicate k 48
  | 0=>rfl
  | k+1=>by
    show z8 k 0++[rF 0]=_
    rw [JU k,List.replicate_succ']
    rfl
theorem hexM_N:∀(k u:Nat),u<16 ^ (k+1)->(ym u).length<=k+1/\z8 (k+1) u=List.replicate (k+1-(ym u).length) 48++ym u
  | 0,u,h=>by
    have f:u<16:=by simpa using h
    rw [wF f]
    refine⟨Nat.le_refl _,?_⟩
    simp [z8,Nat.mod_eq_of_lt f]
  | k+1,u,h=>by
    by_cases hu:u<16
    · rw [wF hu]
      refine⟨by simp,?_⟩
      show z8 (k+1) (u / 16)++[rF (u % 16)]=_
      rw [Nat.div_eq_of_lt hu,Nat.mod_eq_of_lt hu,JU]
      simp
    · rw [DR hu]
      have h2:u / 16<16 ^ (k+1):=by
        rw [Nat.div_lt_iff_lt_mul (by omega)]
        rw [Nat.pow_succ]at h;exact h
      obtain ⟨o,j⟩:=hexM_N k (u / 16) h2
      refine⟨by simp;omega,?_⟩
      show z8 (k+1) (u / 16)++[rF (u % 16)]=_
      rw [j,List.append_assoc]
      congr 2
      simp
def JD:ByteArray:=⟨#[48,49,50,51,52,53,54,55,56,57,97,98,99,100,101,102]⟩
def digs:ByteArray:=⟨#[48,49,50,51,52,53,54,55,56,57,97,98,99,100,101,102,103,104,105,106,107,108,109,110,111,112,113,114,115,116,117,118,119,120,121,122]⟩
theorem JF:∀n:Fin 16,LB JD (n.val:Int) ((n.val+1:Nat):Int)=some (BB [rF n.val])/\Ay digs (n.val:Int)=some (rF n.val):=by decide +kernel
theorem SB {n:Nat} (h:n<16):LB JD (n:Int) ((n+1:Nat):Int)=some (BB [rF n]):=(JF ⟨n,h⟩).1
theorem PH {n:Nat} (h:n<16):Ay digs (n:Int)=some (rF n):=(JF ⟨n,h⟩).2
theorem BR:∀(xs:List Nat) (k:Nat) (u:Nat) (f:List UInt8),u<18446744073709551616->xs.length+f.length<=1000->∃u',forR (λk x s=>qY k x s) xs k ((u:Int),BB f)=some (.go (u',BB (z8 xs.length u++f)))
  | [],k,u,f,h,hl=>⟨_,rfl⟩
  | x::xs,k,u,f,h,hl=>by
    simp only [List.length_cons]at hl
    obtain ⟨u',o⟩:=BR xs (k+1) (u / 16) (rF (u % 16)::f) (by omega) (by simp;omega)
    refine⟨u',?_⟩
    simp only [forR]
    have F:((u:Int).tmod 16)=((u % 16:Nat):Int):=rfl
    have B:((u:Int).tdiv 16)=((u / 16:Nat):Int):=rfl
    have A:u % 16<16:=Nat.mod_lt _ (by omega)
    have j:qY k x ((u:Int),BB f)=some (.go (((u / 16:Nat):Int),BB (rF (u % 16)::f))):=by
      unfold qY
      simp only [F,B]
      rw [R9 (n:=((u % 16:Nat):Int)+1) (by omega) (by omega),R9 (n:=((u / 16:Nat):Int)) (by omega) (by omega)]
      have h1:LB (⟨#[48,49,50,51,52,53,54,55,56,57,97,98,99,100,101,102]⟩:ByteArray) ((u % 16:Nat):Int) (((u % 16:Nat):Int)+1)=some (BB [rF (u % 16)]):=SB A
      rw [h1]
      simp only [ob_]
      rw [LM (by rw [tN,tN];simp;omega),Oo]
      rfl
    rw [j]
    simp only [ob_]
    rw [o]
    simp [z8]
theorem Oe (s:ByteArray) (hs:s.size<=1000000000):yD s=some (BB (z8 16 (fnv s.data.toList).toNat)):=by
  unfold yD
  have hl:(fU s).length<=1000000000000:=by simp only [fU,List.length_map];rw [<- Go.Lib.size_eq];omega
  rw [jY hl]
  have h1:=EU s.data.toList 0 14695981039346656037
  unfold fU
  rw [h1]
  simp only [ob_,jk]
  obtain ⟨j,o⟩:=Ue s.data.toList
  rw [jY (by decide)]
  obtain ⟨u',f⟩:=BR (List.range (16:Int).toNat) 0 (fnv s.data.toList).toNat [] (by omega) (by decide)
  have e:(((fnv s.data.toList).toNat:Nat):Int)=s.data.toList.foldl DV 14695981039346656037:=Int.toNat_of_nonneg j
  rw [e]at f
  have h:BB []=(⟨#[]⟩:ByteArray):=rfl
  rw [h]at f
  rw [f]
  simp only [ob_,jk,List.append_nil]
  rfl
theorem and15 {u:Nat} (h:u<18446744073709551616):Eb .u64 (u:Int) 15=((u % 16:Nat):Int):=by
  show IntKind.u64.wrap (((BitVec.ofInt 64 (u:Int)) &&& (BitVec.ofInt 64 15)).toNat:Int)=_
  have h1:((BitVec.ofInt 64 (u:Int)) &&& (BitVec.ofInt 64 15)).toNat=u % 16:=by
    rw [BitVec.toNat_and]
    have j:(BitVec.ofInt 64 (u:Int)).toNat=u:=by
      rw [BitVec.ofInt_natCast,BitVec.toNat_ofNat];exact Nat.mod_eq_of_lt h
    have f:(BitVec.ofInt 64 15).toNat=15:=by decide
    rw [j,f]
    exact Nat.and_two_pow_sub_one_eq_mod u 4
  rw [h1]
  exact R9 (by omega) (by omega)
theorem shr4 (u:Nat):KQ .u64 (u:Int) 4=some ((u / 16:Nat):Int):=by
  unfold KQ
  rw [if_neg (by decide)]
  have e:((2:Int) ^ (min (Int.toNat 4) IntKind.u64.bits))=16:=by decide
  rw [e,Int.fdiv_eq_ediv_of_nonneg _ (by decide)]
  rfl
def nums (l:List UInt8):List Int:=l.map λb=>(b.toNat:Int)
theorem Ov (l:List UInt8):Go.strOfNums (nums l)=BB l:=by
  unfold Go.strOfNums nums
  rw [List.map_map]
  have:(l.map ((λn:Int=>UInt8.ofNat n.toNat) ∘ λb:UInt8=>(b.toNat:Int)))=l:=by
    have:((λn:Int=>UInt8.ofNat n.toNat) ∘ λb:UInt8=>(b.toNat:Int))=id:=by
      funext b;simp
    rw [this,List.map_id]
  rw [this]
theorem LY {a:List Int} {i:Nat} (c:Int) (h:i<a.length):(a.set i c).drop i=c::a.drop (i+1):=by
  rw [List.drop_eq_getElem_cons (by simpa using h)]
  simp only [List.getElem_set_self]
  congr 1
  apply List.ext_getElem?
  intro j
  rw [List.getElem?_drop,List.getElem?_drop,List.getElem?_set_ne (by omega)]
theorem fb_iter:∀(u:Nat),u<18446744073709551616->∀(a:List Int) (i:Nat),a.length=65->i<=65->(ym u).length<=i ->
    ∃n A u' o,iterN (λs=>bP 16 4 s) n (a,(u:Int),(i:Int))=some (.go (A,((u':Nat):Int),((o:Nat):Int)))/\u'<16/\A.length=65/\1<=o/\o<=65/\nums [rF u']++A.drop o=nums (ym u)++a.drop i:=by
  intro u
  induction u using Nat.strongRecOn with
  | ind u T =>
    intro R a i N hi hl
    have B:IntKind.u64.wrap 16=16:=by decide
    have J:IntKind.u64.wrap (16-1)=15:=by decide
    have w4:IntKind.u64.wrap 4=4:=by decide
    by_cases h16:u<16
    · refine⟨1,a,u,i,?_,h16,N,?_,hi,by rw [wF h16]⟩
      · simp only [iterN]
        unfold bP
        have L:decide ((u:Int)>=16)=false:=by simp;omega
        simp only [B,L,cond_false,ob_]
      · rw [wF h16]at hl;simpa using hl
    · rw [DR h16]at hl
      simp only [List.length_append,List.length_cons,List.length_nil]at hl
      have O:1<=(ym (u / 16)).length:=by
        by_cases h:u / 16<16
        · rw [wF h];simp
        · rw [DR h];simp
      have M:u % 16<16:=Nat.mod_lt _ (by omega)
      obtain ⟨j,rfl⟩:∃j,i=j+1:=⟨i-1,by omega⟩
      obtain ⟨n,A,u',o,h1,h2,h3,Y,h5,W⟩:=T (u / 16) (by omega) (by omega) (a.set j ((rF (u % 16)).toNat:Int)) j (by simpa using N) (by omega) (by omega)
      refine⟨n+1,A,u',o,?_,h2,h3,Y,h5,?_⟩
      · simp only [iterN]
        have f:bP 16 4 (a,(u:Int),((j+1:Nat):Int))=some (.go (a.set j ((rF (u % 16)).toNat:Int),((u / 16:Nat):Int),(j:Int))):=by
          unfold bP
          have L:decide ((u:Int)>=16)=true:=by simp;omega
          have hw:w64 (((j+1:Nat):Int)-1)=(j:Int):=by rw [dh (by omega)];omega
          have F:inN (j:Int) 65=some ():=by unfold inN;rw [if_pos ⟨by omega,by omega⟩]
          have Z:a[(j:Int).toNat]? = some (a[j]'(by omega)):=by rw [Int.toNat_natCast];exact List.getElem?_eq_getElem _
          simp only [B,J,w4,L,cond_true,and15 R,hw,F,Z,shr4]
          have I:Ay (⟨#[48,49,50,51,52,53,54,55,56,57,97,98,99,100,101,102,103,104,105,106,107,108,109,110,111,112,113,114,115,116,117,118,119,120,121,122]⟩:ByteArray) ((u % 16:Nat):Int)=some (rF (u % 16)):=PH M
          rw [I]
          simp only [ob_,Int.toNat_natCast]
        rw [f]
        exact h1
      · rw [W,DR h16,LY _ (by omega)]
        unfold nums
        simp
theorem pow2:gZ 16=some true:=by decide +kernel
theorem tz16:mW (IntKind.u64.wrap 16)=some 4:=by decide +kernel
theorem Jh (h:Int) (h0:0<=h) (h1:h<18446744073709551616):kZ h 16=some (BB (ym h.toNat)):=by
  obtain ⟨u,rfl⟩:∃u:Nat,h=u:=⟨h.toNat,by omega⟩
  have R:u<18446744073709551616:=by omega
  have hm:=hexM_N 15 u (by simpa using R)
  have F:fE ([]:List Int) (u:Int) 16 false false=some (([]:List Int),BB (ym u)):=by
    unfold fE
    obtain ⟨n,j,u',f,W,T,e3,e4,e5,e6⟩:=fb_iter u R (List.replicate 65 (0:Int)) 65 (by simp) (by omega) (by omega)
    have M:dS ((List.replicate 65 (0:Int)),(u:Int),(65:Int)) (λs=>bP 16 4 s)=some (.go (j,((u':Nat):Int),((f:Nat):Int))):=dB W
    have N:f-1<j.length:=by omega
    have Y:w64 ((f:Int)-1)=((f-1:Nat):Int):=by rw [dh (by omega)];omega
    have B:inN ((f-1:Nat):Int) 65=some ():=by unfold inN;rw [if_pos ⟨by omega,by omega⟩]
    have hg:j[f-1]? = some (j[f-1]'hlt):=List.getElem?_eq_getElem _
    have J:Ay (⟨#[48,49,50,51,52,53,54,55,56,57,97,98,99,100,101,102,103,104,105,106,107,108,109,110,111,112,113,114,115,116,117,118,119,120,121,122]⟩:ByteArray) (u':Int)=some (rF u'):=PH T
    have o:(j.set (f-1) ((rF u').toNat:Int)).length=65:=by simpa using e3
    have L:MU (j.set (f-1) ((rF u').toNat:Int)) 65=some ():=by unfold MU;rw [if_pos o]
    have I:xQ (j.set (f-1) ((rF u').toNat:Int)) ((f-1:Nat):Int) (((j.set (f-1) ((rF u').toNat:Int)).length:Nat):Int)=some ():=by
      unfold xQ;rw [if_pos ⟨by omega,by omega,by rw [o];omega,by simp⟩]
    have A:FJ (j.set (f-1) ((rF u').toNat:Int)) (f-1) (65-(f-1))=nums (ym u):=by
      unfold FJ
      rw [LY _ N,show f-1+1=f by omega]
      have:(((rF u').toNat:Int)::j.drop f)=nums (ym u):=by
        have:=e6
        rw [show (List.replicate 65 (0:Int)).drop 65=[] by simp,List.append_nil]at this
        exact this
      rw [this,List.take_of_length_le]
      have h9:=congrArg List.length this
      simp only [List.length_cons,List.length_drop]at h9
      omega
    have c1:decide ((16:Int)<2)=false:=by decide
    have c2:((16:Int)==10)=false:=by decide
    have Z:decide ((16:Int)>36)=false:=by decide
    simp only [c1,c2,Z,cond_false,cond_true,ob_,pow2,tz16,M,jk,J,Y,B,hg,Int.toNat_natCast,L,I]
    have O:(((j.set (f-1) ((rF u').toNat:Int)).length:Nat):Int).toNat=65:=by rw [o];rfl
    rw [Int.toNat_natCast]at O
    rw [O,A,Ov]
  unfold kZ jb
  have c2:((16:Int)==10)=false:=by decide
  rw [c2]
  simp only [cond_false,F,ob_,Int.toNat_natCast]
theorem LZ:∀n,Go.Lib.repeatL [48] n=List.replicate n 48
  | 0=>rfl
  | n+1=>by simp [Go.Lib.repeatL,LZ n,List.replicate_succ]
theorem mark_eq (s:ByteArray) (hs:s.size<=1000000000):oC s=some (BB (z8 16 (fnv s.data.toList).toNat)):=by
  unfold oC
  have hl:(List.range ((s.size:Int)).toNat).length<=1000000000000:=by simp;omega
  rw [jY hl,Mx s _ 0 _ (by simp)]
  simp only [ob_,jk,List.drop_zero]
  obtain ⟨B,A⟩:=Ue s.data.toList
  have h:=Jh (fnv s.data.toList) B A
  have e:s.data.toList.foldl DV 14695981039346656037=fnv s.data.toList:=rfl
  rw [e,h]
  simp only [ob_,tN]
  obtain ⟨F, o⟩ := hexM_N 15 (fnv s.data.toList).toNat (by have : (16 : Nat) ^ (15 + 1) = 18446744073709551616 := by decide
                                                             omega)
  have j:w64 (16-((ym (fnv s.data.toList).toNat).length:Int))=((16-(ym (fnv s.data.toList).toNat).length:Nat):Int):=by rw [dh (by omega)];omega
  rw [j]
  have f:strings_Repeat (⟨#[48]⟩:ByteArray) ((16-(ym (fnv s.data.toList).toNat).length:Nat):Int)=some (BB (List.replicate (16-(ym (fnv s.data.toList).toNat).length) 48)):=by
    unfold strings_Repeat Gm
    rw [if_pos ⟨by omega,by omega,by rw [Int.toNat_natCast,show (⟨#[48]⟩:ByteArray).size=1 from rfl];omega⟩,Int.toNat_natCast]
    rw [show (⟨#[48]⟩:ByteArray).data.toList=[48] from rfl,LZ]
  rw [f]
  simp only [ob_]
  rw [LM (by rw [tN,tN];simp;omega),Oo,<- o]
  rfl
end Go.Proofs.YtnfojnnfidnikaeGreatDoor.Law

open Go Go.Eng
namespace Go.Proofs.YtnfojnnfidnikaeGreatDoor.Law
set_option linter.unusedVariables false
set_option linter.unusedSimpArgs false
def Med (n:Int):Prop := -1000000000000000<=n/\n<=1000000000000000
theorem Ga {n:Int} (h:Med n):strconv_Itoa n=some (BB (Go.Lib.itoa n)):=by
 unfold strconv_Itoa P6
 unfold Med at h
 rw [if_pos ⟨by omega,by omega⟩]
theorem qg {n:Int} (h:Med n):(Go.Lib.itoa n).length<=21:=by
 unfold Med at h
 exact Go.Lib.itoa_length_le n (by omega) (by omega)
theorem qV (l m:List UInt8) (h:l.length+m.length<=1000000000000):sZ (BB l) (BB m)=some (BB (l++m)):=by
 rw [LM (by rw [tN,tN];exact h),Oo]
theorem join_le (f:List UInt8) (m:Nat):∀(j:List (List UInt8)),(∀x∈j,x.length<=m)->(Go.Lib.join j f).length<=j.length*(m+f.length)
 | [],h=>by simp [Go.Lib.join_nil]
 | x::r,h=>by
  have h1:∀(r:List (List UInt8)),(∀x∈r,x.length<=m)->(Go.Lib.joinTail f r).length<=r.length*(m+f.length):=by
   intro r
   induction r with
   | nil=>intro _;simp [Go.Lib.joinTail]
   | cons y r B =>
    intro A
    have e:(Go.Lib.joinTail f (y::r))=f++y++Go.Lib.joinTail f r:=by simp [Go.Lib.joinTail]
    rw [e,List.length_append,List.length_append,List.length_cons,Nat.add_mul]
    have:=B (λx o=>A x (List.mem_cons_of_mem _ o))
    have:=A y (by simp)
    omega
  rw [Go.Lib.join_cons,List.length_append,List.length_cons,Nat.add_mul]
  have:=h1 r (λx o=>h x (List.mem_cons_of_mem _ o))
  have:=h x (by simp)
  omega
theorem RG (j:List (List UInt8)) (f:List UInt8) (m:Nat) (h:∀x∈j,x.length<=m) (hl:j.length<=1000000) (A:m+f.length<=10000):strings_Join (j.map BB) (BB f)=some (BB (Go.Lib.join j f)):=by
 have h1:=join_le f m j h
 have h2:j.length*(m+f.length)<=1000000*10000:=Nat.mul_le_mul hl A
 have e:(j.map BB).map (λx=>x.data.toList)=j:=by rw [List.map_map];exact List.map_id' j
 unfold strings_Join Pg
 rw [e]
 have o:(BB f).data.toList=f:=rfl
 rw [o,if_pos ⟨by simp;omega,by omega⟩]
theorem FD:∀(l:List Int) (k:Nat) (f:List ByteArray),(∀n∈l,Med n)->l.length+f.length<=1000000->forR (λk x s=>mM k x s) l k f=some (.go (f++l.map λn=>BB (Go.Lib.itoa n)))
 | [],k,f,h,hl=>by simp [forR]
 | n::l,k,f,h,hl=>by
  simp only [List.length_cons]at hl
  have o:=FD l (k+1) (f++[BB (Go.Lib.itoa n)]) (λx A=>h x (List.mem_cons_of_mem _ A)) (by simp;omega)
  have j:mM k n f=some (.go (f++[BB (Go.Lib.itoa n)])):=by
   unfold mM
   rw [Ga (h n (by simp))]
   simp only [ob_]
   rw [gL _ _ (by simp;omega)]
   rfl
  simp only [forR,j,ob_]
  rw [o]
  simp
theorem Oa (l:List Int) (h:∀n∈l,Med n) (hl:l.length<=1000000):uw l=some (BB (Go.Lib.join (l.map Go.Lib.itoa) [32])):=by
 unfold uw
 rw [jY (by omega),FD l 0 [] h (by simpa using hl)]
 simp only [ob_,jk,List.nil_append]
 have e:(l.map λn=>BB (Go.Lib.itoa n))=(l.map Go.Lib.itoa).map BB:=by rw [List.map_map];rfl
 have hj:=RG (l.map Go.Lib.itoa) [32] 21 (λx j=>by
  obtain ⟨n,o,rfl⟩:=List.mem_map.1 j
  exact qg (h n o)) (by simpa using hl) (by decide)
 rw [e]
 have f:(⟨#[32]⟩:ByteArray)=BB [32]:=rfl
 rw [f,hj]
 rfl
def wI (x:Log_):Prop:=ShortK x.Player/\ShortK x.Item/\ShortK x.Sum/\Med x.No/\Med x.Clock/\Med x.Long
def GJ (x:Log_):List UInt8:=x.Player.data.toList++[32]++x.Item.data.toList++[32]++Go.Lib.itoa x.No++[32]++Go.Lib.itoa x.Clock++[32]++Go.Lib.itoa x.Long
theorem nQ {s:ByteArray} (h:ShortK s):s.data.toList.length<=1000:=by rw [<- Go.Lib.size_eq];exact h
theorem JA {x:Log_} (h:wI x):(GJ x).length<=2100:=by
 obtain ⟨h1,h2,_,j,o,f⟩:=h
 have:=nQ h1;have:=nQ h2;have:=qg j;have:=qg o;have:=qg f
 simp only [GJ,List.length_append,List.length_cons,List.length_nil]
 omega
theorem line_eq {x:Log_} (h:wI x):vR x=some (BB (GJ x)):=by
 obtain ⟨h1,h2,_,j,o,f⟩:=h
 have F:=nQ h1;have J:=nQ h2;have B:=qg j;have A:=qg o;have I:=qg f
 unfold vR
 rw [Ga j,Ga o,Ga f]
 rw [show x.Player=BB x.Player.data.toList from rfl,show x.Item=BB x.Item.data.toList from rfl,show (⟨#[32]⟩:ByteArray)=BB [32] from rfl]
 simp only [ob_]
 rw [qV _ _ (by simp only [List.length_append,List.length_cons,List.length_nil];omega)];simp only [ob_]
 rw [qV _ _ (by simp only [List.length_append,List.length_cons,List.length_nil];omega)];simp only [ob_]
 rw [qV _ _ (by simp only [List.length_append,List.length_cons,List.length_nil];omega)];simp only [ob_]
 rw [qV _ _ (by simp only [List.length_append,List.length_cons,List.length_nil];omega)];simp only [ob_]
 rw [qV _ _ (by simp only [List.length_append,List.length_cons,List.length_nil];omega)];simp only [ob_]
 rw [qV _ _ (by simp only [List.length_append,List.length_cons,List.length_nil];omega)];simp only [ob_]
 rw [qV _ _ (by simp only [List.length_append,List.length_cons,List.length_nil];omega)];simp only [ob_]
 rw [qV _ _ (by simp only [List.length_append,List.length_cons,List.length_nil];omega)];simp only [ob_]
 rfl
theorem OW {x:Log_} (h:wI x):uC x=some (BB (GJ x)):=by
 obtain ⟨h1,h2,_,A,j,o⟩:=h
 have J:=nQ h1;have M:=nQ h2;have I:=qg A;have F:=qg j;have L:=qg o
 have f:=Oa [x.No,x.Clock,x.Long] (λn f=>by
  simp only [List.mem_cons,List.not_mem_nil,or_false]at f
  rcases f with rfl|rfl|rfl
  ·exact A
  ·exact j
  ·exact o) (by simp)
 have hj:Go.Lib.join ([x.No,x.Clock,x.Long].map Go.Lib.itoa) [32]=Go.Lib.itoa x.No++[32]++Go.Lib.itoa x.Clock++[32]++Go.Lib.itoa x.Long:=by
  simp [Go.Lib.join_cons,Go.Lib.joinTail]
 rw [hj]at f
 unfold uC
 rw [f]
 have B:(Go.Lib.itoa x.No++[32]++Go.Lib.itoa x.Clock++[32]++Go.Lib.itoa x.Long).length<=100:=by simp only [List.length_append,List.length_cons,List.length_nil];omega
 rw [show x.Player=BB x.Player.data.toList from rfl,show x.Item=BB x.Item.data.toList from rfl,show (⟨#[32]⟩:ByteArray)=BB [32] from rfl]
 rw [qV _ _ (by simp only [List.length_append,List.length_cons,List.length_nil];omega)];simp only [ob_]
 rw [qV _ _ (by simp only [List.length_append,List.length_cons,List.length_nil];omega)];simp only [ob_]
 rw [qV _ _ (by simp only [List.length_append,List.length_cons,List.length_nil];omega)];simp only [ob_]
 rw [qV _ _ (by simp only [List.length_append,List.length_cons,List.length_nil];omega)];simp only [ob_]
 unfold GJ
 simp
def mk (l:List UInt8):ByteArray:=BB (z8 16 (fnv l).toNat)
theorem PU (l:List UInt8):(mk l).size=16:=by unfold mk;rw [tN,NB]
theorem vM (l:List UInt8):ShortK (mk l):=by unfold ShortK;rw [PU];decide
theorem TV (l:List UInt8) (h:l.length<=1000000000):oC (BB l)=some (mk l):=mark_eq (BB l) (by rw [tN];exact h)
theorem markR (l:List UInt8) (h:l.length<=1000000000):yD (BB l)=some (mk l):=Oe (BB l) (by rw [tN];exact h)
def wT (x:Log_):Int:=bif !xq x.Player then 5 else bif !xq x.Item then 5 else bif (l7 x.No 1 1000000||(l7 x.Clock 0 345686399999||l7 x.Long 1 86400000))then 1 else 0
theorem Fx {x:Log_} (h:wI x):mQ x=some (wT x):=by
 obtain ⟨h1,h2,_,_,_,_⟩:=h
 unfold ShortK at h1 h2
 unfold mQ wT
 rw [wh x.Player (by omega),wh x.Item (by omega)]
 simp only [ob_,nk]
 cases xq x.Player <;> cases xq x.Item <;> cases l7 x.No 1 1000000 <;> cases l7 x.Clock 0 345686399999 <;> cases l7 x.Long 1 86400000 <;> rfl
def QG (b:UInt8):Bool:=JD.data.toList.contains b
def uq (s:ByteArray):Bool:=(s.size==16)&&s.data.toList.all QG
theorem size16 (s:ByteArray):((s.size:Int)==16)=(s.size==16):=by
 rw [Bool.eq_iff_iff];simp only [beq_iff_eq];omega
theorem BC {p:UInt8->Bool}:∀(l:List UInt8),l.dropWhile p=[]↔l.all p=true
 | []=>by simp
 | x::l=>by
  rw [List.dropWhile_cons]
  cases h:p x with
  | true=>simp [h,BC l]
  | false=>simp [h]
theorem RV (l cs:List UInt8):Go.Lib.trimS l cs=[]↔l.all (cs.contains ·)=true:=by
 unfold Go.Lib.trimS Go.Lib.trimLeftS Go.Lib.trimRightS
 rw [BC,List.all_reverse]
 constructor
 ·intro h
  have h2:(l.reverse.dropWhile (cs.contains ·))=[]:=by
   cases hd:l.reverse.dropWhile (cs.contains ·)with
   | nil=>rfl
   | cons x r =>
    rw [hd]at h
    have j:∀(m:List UInt8),m.dropWhile (cs.contains ·)=x::r->cs.contains x=false:=by
     intro m
     induction m with
     | nil=>intro e;simp at e
     | cons y m f =>
      intro e
      rw [List.dropWhile_cons]at e
      cases hy:cs.contains y with
      | true=>rw [hy]at e;exact f e
      | false=>rw [hy]at e;simp only [Bool.false_eq_true,if_false,List.cons.injEq]at e;rw [<- e.1];exact hy
    have:=j _ hd
    simp only [List.all_cons,this,Bool.false_and,Bool.false_eq_true]at h
  rw [BC,List.all_reverse]at h2
  exact h2
 ·intro h
  have:l.reverse.dropWhile (cs.contains ·)=[]:=by rw [BC,List.all_reverse];exact h
  rw [this];rfl
theorem BG {s:ByteArray} (h:ShortK s):lJ s=some (uq s):=by
 unfold ShortK at h
 unfold lJ uq
 rw [size16]
 have f:pE s (⟨#[48,49,50,51,52,53,54,55,56,57,97,98,99,100,101,102]⟩:ByteArray)=some (BB (Go.Lib.trimS s.data.toList JD.data.toList)):=by
  unfold pE Lx
  rw [if_pos ⟨by omega,by decide,by decide⟩]
  rfl
 rw [f]
 have e:sEq (BB (Go.Lib.trimS s.data.toList JD.data.toList)) (⟨#[]⟩:ByteArray)=s.data.toList.all QG:=by
  rw [Bool.eq_iff_iff,Lv]
  have:=RV s.data.toList JD.data.toList
  constructor
  ·intro h
   apply this.1
   have:=congrArg (λx:ByteArray=>x.data.toList) h
   simpa using this
  ·intro h
   rw [this.2 h]
 simp only [ob_,e]
 cases (s.size==16) <;> rfl
theorem UE:∀n:Fin 16,QG (rF n.val)=true:=by decide +kernel
theorem Ns:∀(k u:Nat),(z8 k u).all QG=true
 | 0,u=>rfl
 | k+1,u=>by
  show (z8 k (u / 16)++[rF (u % 16)]).all QG=true
  rw [List.all_append,Ns k,List.all_cons,UE ⟨u % 16,Nat.mod_lt _ (by omega)⟩];rfl
theorem Pj (l:List UInt8):uq (mk l)=true:=by
 unfold uq
 rw [PU]
 show ((16==16)&&(z8 16 (fnv l).toNat).all QG)=true
 rw [Ns];rfl
def cmpL (a b:Log_):Int:=zU (AV a.Player b.Player) (uy a.No b.No)
theorem vO (a b:Log_):gX a b=some (cmpL a b):=by
 simp only [gX,uE,sK,Lb,ob_];rfl
theorem Q0 (a:ByteArray):AV a a=0:=by
 rcases jI a a with⟨h,_⟩|⟨_,h⟩|⟨h,_⟩
 ·exact absurd h (fu a)
 ·exact h
 ·exact absurd h (fu a)
def MM (p:Option Log_) (x:Log_):Int:=bif wT x != 0 then wT x else bif !uq x.Sum then 3 else match p with
 | none=>0
 | some o=>bif decide (cmpL o x>=0)then 7 else 0
def Fu (l:List Log_):Int:=bif decide (l.length>2000)then 2 else xy MM none l
theorem Qc (l:List Log_) (hs:∀x∈l,wI x) (hl:l.length<=1000000):dW l=some (Fu l):=by
 unfold dW Fu
 have e:decide ((l.length:Int)>2000)=decide (l.length>2000):=decide_eq_decide.2 (by omega)
 rw [e]
 cases decide (l.length>2000)with
 | true=>rfl
 | false =>
  simp only [cond_false]
  rw [jY (by omega),yS (stp:=MM) l l 0 rfl (λk x h => ?_)]
  ·simp only [ob_,CG];rfl
  ·have j:=hs x (List.mem_of_getElem? h)
   simp only [nC,Fx j,BG j.2.2.1,ob_,MM]
   cases hf:(wT x != 0)with
   | true =>
    have:(wT x==0)=false:=by simpa using hf
    simp only [cond_true,Af,this,cond_false]
   | false =>
   simp only [cond_false]
   cases uq x.Sum with
   | false=>rfl
   | true =>
   simp only [Bool.not_true,cond_false]
   by_cases f:0<k
   ·obtain ⟨y,h1,h2⟩:=Bc h f (by omega)
    have o:decide ((k:Int)>0)=true:=by simp;omega
    simp only [o,cond_true,h1,ob_,vK,if_neg (show ¬k=0 by omega),h2,vO]
    cases decide (cmpL y x>=0) <;> rfl
   ·have f:k=0:=by omega
    subst f
    rfl
end Go.Proofs.YtnfojnnfidnikaeGreatDoor.Law

open Go Go.Eng
namespace Go.Proofs.YtnfojnnfidnikaeGreatDoor.Law
set_option linter.unusedVariables false
set_option linter.unusedSimpArgs false
def GoodB (x:Beat):Prop:=ShortK x.Player
end Go.Proofs.YtnfojnnfidnikaeGreatDoor.Law

