/-
  THE PLAIN LAW (part 5).
-/
import Derived.Test.YtkjlhdminmpmkaaGreatDoorPl4
import Derived.Test.YtkjlhdminmpmkaaGreatDoorEng5
import Derived.Lib.ItoaLen
namespace Go.Eng
set_option linter.unusedVariables false
set_option linter.unusedSimpArgs false
def FJ {α:Type} (cmp:α->α->Option Int) (a_2:Int) (s_21:(List α)×Int):Option (Ctl ((List α)×Int) (Unit)) :=
 (bif (decide (s_21.2>a_2))then (inR s_21.2 s_21.1).bind λ_=>(s_21.1[(0+(s_21.2).toNat)]?).bind λe_30=>(inR (w64 (s_21.2-1)) s_21.1).bind λ_=>(s_21.1[(0+((w64 (s_21.2-1))).toNat)]?).bind λe_33=>(cmp e_30 e_33).bind λr_35=>some (decide (r_35<0))else some false).bind λv_26=>bif v_26 then (inR (w64 (s_21.2-1)) s_21.1).bind λ_=>(s_21.1[(0+((w64 (s_21.2-1))).toNat)]?).bind λe_39=>(inR s_21.2 s_21.1).bind λ_=>(s_21.1[(0+(s_21.2).toNat)]?).bind λe_42=>(inR s_21.2 s_21.1).bind λ_=>(s_21.1[(0+(s_21.2).toNat)]?).bind λe_45=>(inR (w64 (s_21.2-1)) (s_21.1.set (0+(s_21.2).toNat) e_39)).bind λ_=>((s_21.1.set (0+(s_21.2).toNat) e_39)[(0+((w64 (s_21.2-1))).toNat)]?).bind λe_48=>some (.go (((s_21.1.set (0+(s_21.2).toNat) e_39).set (0+((w64 (s_21.2-1))).toNat) e_42),(w64 (s_21.2-1))))else some (.brk (s_21.1,s_21.2))
noncomputable def CO {α:Type} (cmp:α->α->Option Int) (b_3:Int) (a_2:Int) (s_10:(List α)×Int):Option (Ctl ((List α)×Int) (Unit)) :=
 bif (decide (s_10.2<b_3))then (fZ (s_10.1,s_10.2) (λs=>FJ cmp a_2 s)).bind λo_24=>thenC o_24 (λs_21=>some (.go (s_21.1,(w64 (s_10.2+1))))) (λ_=>none)else some (.brk (s_10.1,s_10.2))
noncomputable def Ij {α:Type} (cmp:α->α->Option Int) (data_1:(List α)) (a_2:Int) (b_3:Int):Option ((List α)) :=
 (fZ (data_1,(w64 (a_2+1))) (λs=>CO cmp b_3 a_2 s)).bind λo_13=>thenC o_13 (λs_10=>some s_10.1) (λ_=>none)
theorem NB {α:Type} (u v:α) (C:List α):∀A:List α,((A++u::v::C).set (A.length+1) u).set A.length v=A++v::u::C
 | []=>rfl
 | a::A=>by simp only [List.cons_append,List.length_cons,List.set_cons_succ,NB u v C A]
theorem get_0 {α:Type} (u:α) (C A:List α):(A++u::C)[A.length]? = some u:=by simp
theorem get_1 {α:Type} (u v:α) (C A:List α):(A++u::v::C)[A.length+1]? = some v:=by
 rw [List.getElem?_append_right (by omega)];simp
theorem RL {α:Type} (u v w:α) (C:List α):∀A:List α,(A++u::v::C).set (A.length+1) w=A++u::w::C
 | []=>rfl
 | a::A=>by simp only [List.cons_append,List.length_cons,List.set_cons_succ,RL u v w C A]
theorem inR_at {α:Type} {xs:List α} {i:Nat} (h:i<xs.length):inR (i:Int) xs=some ():=by
 unfold inR;rw [if_pos ⟨by omega,by simpa using h⟩]
section
variable {α:Type} {cmp:α->α->Option Int} {le:α->α->Prop} {p:α->Prop}
theorem insL1_0 (v:α) (C:List α):FJ cmp 0 (v::C,0)=some (.brk (v::C,0)):=rfl
theorem insL1_s (u v:α) (A C:List α) {c:Int} (hc:cmp v u=some c) (hl:A.length<=1000000000):FJ cmp 0 (A++u::v::C,((A.length+1:Nat):Int))=some (bif decide (c<0)then .go (A++v::u::C,(A.length:Int))else .brk (A++u::v::C,((A.length+1:Nat):Int))):=by
 have hw:w64 (((A.length+1:Nat):Int)-1)=(A.length:Int):=by rw [I9 _ (by omega)];omega
 have h1:inR ((A.length+1:Nat):Int) (A++u::v::C)=some ():=inR_at (by simp)
 have h2:inR (A.length:Int) (A++u::v::C)=some ():=inR_at (by simp)
 have h3:inR (A.length:Int) (A++u::u::C)=some ():=inR_at (by simp)
 have hd:decide (((A.length+1:Nat):Int)>0)=true:=by simp <;> omega
 have e1:0+((A.length+1:Nat):Int).toNat=A.length+1:=by omega
 have e2:0+((A.length:Nat):Int).toNat=A.length:=by omega
 unfold FJ
 simp only [hw,h1,h2,hd,e1,e2,get_0,get_1,ob_,hc,cond_true,RL,h3]
 cases decide (c<0)with
 | false=>rfl
 | true =>
  simp only [cond_true]
  have:=NB u v C A
  rw [RL]at this
  rw [this]
end
end Go.Eng

namespace Go.Eng
set_option linter.unusedVariables false
set_option linter.unusedSimpArgs false
noncomputable def stL1 {α:Type} (cmp:α->α->Option Int) (n_2:Int) (s_9:(List α)×Int×Int):Option (Ctl ((List α)×Int×Int) (Unit)) :=
 bif (decide (s_9.2.2<=n_2))then (Ij cmp s_9.1 s_9.2.1 s_9.2.2).bind λr_15=>(j5 r_15 s_9.1).bind λ_=>some (.go (r_15,s_9.2.2,(w64 (s_9.2.2+20))))else some (.brk (s_9.1,s_9.2.1,s_9.2.2))
def stL2 (s_26:Int) (n_2:Int) (s_37:Unit):Option (Ctl (Unit) (Unit)) :=
 bif (decide ((w64 (2*s_26))<=n_2))then none else some (.brk ())
noncomputable def stL3 (n_2:Int) (s_26:Int):Option (Ctl (Int) (Unit)) :=
 bif (decide (s_26<n_2))then (fZ () (λs=>stL2 s_26 n_2 s)).bind λo_40=>thenC o_40 (λs_37=>(bif (decide ((w64 (0+s_26))<n_2))then none else some ()).bind λv_43=>some (.go (w64 (s_26*2)))) (λ_=>none)else some (.brk s_26)
noncomputable def Qu {α:Type} (cmp:α->α->Option Int) (data_1:(List α)) (n_2:Int):Option ((List α)) :=
 (fZ (data_1,0,20) (λs=>stL1 cmp n_2 s)).bind λo_12=>thenC o_12 (λs_9=>(Ij cmp s_9.1 s_9.2.1 n_2).bind λr_18=>(j5 r_18 s_9.1).bind λ_=>(fZ 20 (λs=>stL3 n_2 s)).bind λo_29=>thenC o_29 (λs_26=>some r_18) (λ_=>none)) (λ_=>none)
def gm {α:Type} (c:α->α->Int) (v:α):List α->List α
 | []=>[v]
 | u::R=>bif decide (c v u<0)then u::gm c v R else v::u::R
def sI {α:Type} (c:α->α->Int):List α->List α->List α
 | R,[]=>R
 | R,v::Q=>sI c (gm c v R) Q
def lM {α:Type} (c:α->α->Int) (l:List α):List α:=(sI c [] l).reverse
theorem qf {α:Type} (c:α->α->Int) (v:α):∀R:List α,(gm c v R).Perm (v::R)
 | []=>List.Perm.refl _
 | u::R=>by
  unfold gm
  cases decide (c v u<0)with
  | true=>exact ((qf c v R).cons u).trans (List.Perm.swap v u R)
  | false=>exact List.Perm.refl _
theorem BL {α:Type} (c:α->α->Int):∀(Q R:List α),(sI c R Q).Perm (Q++R)
 | [],R=>List.Perm.refl _
 | v::Q,R=>by
  have h1:=BL c Q (gm c v R)
  refine h1.trans ?_
  refine ((qf c v R).append_left Q).trans ?_
  exact List.perm_middle
theorem Hm {α:Type} (c:α->α->Int) (l:List α):(lM c l).Perm l:=by
 unfold lM
 refine (List.reverse_perm _).trans ?_
 simpa using BL c l []
theorem xe {α:Type} (c:α->α->Int) (l:List α):(lM c l).length=l.length:=(Hm c l).length_eq
theorem FP {α:Type} (c:α->α->Int) (v:α) (R:List α):(gm c v R).length=R.length+1:=by simpa using (qf c v R).length_eq
section
variable {α:Type} {cmp:α->α->Option Int} {c:α->α->Int} {p:α->Prop}
theorem Rv (hc:∀a b,p a->p b->cmp a b=some (c a b)) (v:α) (hv:p v):∀(R B:List α),R.length<=1000000000->(∀a∈R,p a) ->
  ∃i,iterN (λs=>FJ cmp 0 s) (R.length+1) (R.reverse++v::B,(R.length:Int))=some (.go ((gm c v R).reverse++B,i))
 | [],B,hn,hp=>⟨0,by
   show iterN (λs=>FJ cmp 0 s) 1 (v::B,0)=_
   simp only [iterN]
   show ((FJ cmp 0 (v::B,0)).bind _)=_
   rw [insL1_0];rfl⟩
 | u::R,B,hn,hp=>by
  simp only [List.length_cons]at hn
  have hcu:=hc v u hv (hp u (by simp))
  have e:(u::R).reverse++v::B=R.reverse++u::v::B:=by simp
  have hs:=insL1_s (cmp:=cmp) u v R.reverse B hcu (by simpa using (by omega:R.length<=1000000000))
  rw [List.length_reverse]at hs
  rw [e,List.length_cons,iterN,hs]
  unfold gm
  cases hd:decide (c v u<0)with
  | true =>
   obtain ⟨i,hi⟩:=Rv hc v hv R (u::B) (by omega) (λa ha=>hp a (List.mem_cons_of_mem _ ha))
   refine⟨i,?_⟩
   simp only [cond_true,ob_]
   rw [hi];simp
  | false =>
   refine⟨((R.length+1:Nat):Int),?_⟩
   simp only [cond_false,ob_]
   simp
theorem N7 (hc:∀a b,p a->p b->cmp a b=some (c a b)):∀(Q R:List α),R.length+Q.length<=1000000000->(∀a∈R,p a)->(∀a∈Q,p a) ->
  iterN (λs=>CO cmp ((R.length+Q.length:Nat):Int) 0 s) (Q.length+1) (R.reverse++Q,(R.length:Int))=some (.go ((sI c R Q).reverse,((R.length+Q.length:Nat):Int)))
 | [],R,hn,hr,hq=>by
  have hd:decide ((R.length:Int)<((R.length+([]:List α).length:Nat):Int))=false:=decide_eq_false (by simp)
  simp only [iterN]
  unfold CO
  simp only [hd,cond_false,ob_]
  simp [sI]
 | v::Q,R,hn,hr,hq=>by
  simp only [List.length_cons]at hn
  have hd:decide ((R.length:Int)<((R.length+(v::Q).length:Nat):Int))=true:=decide_eq_true (by simp only [List.length_cons];omega)
  obtain ⟨i,hi⟩:=Rv hc v (hq v (by simp)) R Q (by omega) hr
  have hw:w64 ((R.length:Int)+1)=((R.length+1:Nat):Int):=by rw [I9 _ (by omega)];omega
  have hstep:CO cmp ((R.length+(v::Q).length:Nat):Int) 0 (R.reverse++v::Q,(R.length:Int))=some (.go ((gm c v R).reverse++Q,((R.length+1:Nat):Int))):=by
   unfold CO
   simp only [hd,cond_true]
   rw [fC hi]
   simp only [ob_,hw,thenC]
  have ih:=N7 hc Q (gm c v R) (by rw [FP];omega) (λa ha=>by
   have:=(qf c v R).mem_iff.1 ha
   rcases List.mem_cons.1 this with rfl|h
   ·exact hq _ (by simp)
   ·exact hr a h) (λa ha=>hq a (List.mem_cons_of_mem _ ha))
  rw [List.length_cons,iterN]
  simp only [List.length_cons]at hstep
  rw [hstep]
  simp only [ob_]
  rw [FP]at ih
  have e2:R.length+1+Q.length=R.length+(Q.length+1):=by omega
  rw [e2]at ih
  exact ih
theorem Pb (hc:∀a b,p a->p b->cmp a b=some (c a b)) (l:List α) (hl:l.length<=100000000) (hp:∀a∈l,p a):Ij cmp l 0 (l.length:Int)=some (lM c l):=by
 unfold Ij
 have hw:w64 ((0:Int)+1)=1:=by decide
 rw [hw]
 cases l with
 | nil =>
  have h1:iterN (λs=>CO cmp ((([]:List α).length:Nat):Int) 0 s) 1 (([]:List α),(1:Int))=some (.go ([],1)):=by
   simp only [iterN]
   unfold CO
   have hd:decide ((1:Int)<((([]:List α).length:Nat):Int))=false:=rfl
   simp only [hd,cond_false,ob_]
  rw [fC h1];rfl
 | cons v Q =>
  simp only [List.length_cons]at hl
  have h1:=N7 hc Q [v] (by simp only [List.length_cons,List.length_nil];omega) (λa ha=>by rw [List.mem_singleton.1 ha];exact hp v (by simp)) (λa ha=>hp a (List.mem_cons_of_mem _ ha))
  have e:([v].length+Q.length:Nat)=(v::Q).length:=by simp only [List.length_cons,List.length_nil];omega
  rw [e]at h1
  have h2:=fC h1
  have h3:fZ (v::Q,(1:Int)) (λs=>CO cmp (((v::Q).length:Nat):Int) 0 s)=_:=h2
  rw [h3];rfl
theorem Qg (hc:∀a b,p a->p b->cmp a b=some (c a b)) (l:List α) (hl:l.length<=19) (hp:∀a∈l,p a):Qu cmp l (l.length:Int)=some (lM c l):=by
 unfold Qu
 have h1:iterN (λs=>stL1 cmp (l.length:Int) s) 1 (l,(0:Int),(20:Int))=some (.go (l,0,20)):=by
  simp only [iterN]
  unfold stL1
  have hd:decide ((20:Int)<=(l.length:Int))=false:=decide_eq_false (by omega)
  simp only [hd,cond_false,ob_]
 have h2:iterN (λs=>stL3 (l.length:Int) s) 1 (20:Int)=some (.go 20):=by
  simp only [iterN]
  unfold stL3
  have hd:decide ((20:Int)<(l.length:Int))=false:=decide_eq_false (by omega)
  simp only [hd,cond_false,ob_]
 rw [fC h1]
 simp only [ob_,thenC]
 rw [Pb hc l (by omega) hp]
 have hs:j5 (lM c l) l=some ():=by unfold j5;rw [if_pos (xe c l)]
 simp only [ob_,hs]
 rw [fC h2];rfl
theorem Mo {c2:α->α->Int} (l:List α) (h:∀a∈l,∀b∈l,(c a b<0↔c2 a b<0)):lM c l=lM c2 l:=by
 have h1:∀(R:List α) (v:α),v∈l->(∀a∈R,a∈l)->gm c v R=gm c2 v R:=by
  intro R
  induction R with
  | nil=>intro v _ _;rfl
  | cons u R ih =>
   intro v hv hR
   unfold gm
   rw [decide_eq_decide.2 (h v hv u (hR u (by simp))),ih v hv (λa ha=>hR a (List.mem_cons_of_mem _ ha))]
 have h2:∀(Q R:List α),(∀a∈Q,a∈l)->(∀a∈R,a∈l)->sI c R Q=sI c2 R Q:=by
  intro Q
  induction Q with
  | nil=>intro R _ _;rfl
  | cons v Q ih =>
   intro R hQ hR
   show sI c (gm c v R) Q=sI c2 (gm c2 v R) Q
   rw [h1 R v (hQ v (by simp)) hR]
   refine ih _ (λa ha=>hQ a (List.mem_cons_of_mem _ ha)) (λa ha => ?_)
   rcases List.mem_cons.1 ((qf c2 v R).mem_iff.1 ha)with rfl|ha
   ·exact hQ _ (by simp)
   ·exact hR a ha
 unfold lM
 rw [h2 l [] (λa ha=>ha) (λa ha=>by cases ha)]
end
section
variable {α:Type} (eqv:α->α->Bool) (z:α)
variable {eqv} (he:∀a b,eqv a b=true↔a=b)
include he
end
end Go.Eng


open Go Go.Eng
namespace Go.Proofs.YtkjlhdminmpmkaaGreatDoor.Law
set_option linter.unusedVariables false
set_option linter.unusedSimpArgs false
def ShortK (s:ByteArray):Prop:=s.size<=1000
theorem zh {s:ByteArray} (h:Nat.ble s.size 1000=true):ShortK s:=Nat.le_of_ble_eq_true h
theorem ql {α:Type} (xs ys:List α) (h:xs.length+ys.length<=1000000000):iJ xs ys=some (xs++ys):=by unfold iJ;rw [if_pos h]
theorem inR_okK {α:Type} {i:Int} {xs:List α} (h0:0<=i) (h1:i<xs.length):inR i xs=some ():=by unfold inR;rw [if_pos ⟨h0,by omega⟩]
def xV (e:Int):Ctl Unit Int:=bif e==0 then .go ()else .ret e
theorem Ev (e:Int):thenC (xV e) (λ_=>some (0:Int)) (λr=>some r)=some e:=by
 unfold xV
 cases h:e==0 with
 | true=>simp only [cond_true,eu];rw [eq_of_beq h]
 | false=>rfl
theorem Hr {α:Type} {l:List α} {k:Nat} {x:α} (h:l[k]? = some x) (hk:0<k) (hl:l.length<=1000000000):∃y,idx l (w64 ((k:Int)-1))=some y/\l[k-1]? = some y:=by
 have hlt:k<l.length:=(List.getElem?_eq_some_iff.1 h).1
 rw [dw (by omega),show (k:Int)-1=((k-1:Nat):Int) by omega,jV]
 exact⟨l[k-1],List.getElem?_eq_getElem (by omega),List.getElem?_eq_getElem (by omega)⟩
def wK {α:Type} (stp:Option α->α->Int):Option α->List α->Int
 | _,[]=>0
 | p,x::xs=>bif stp p x==0 then wK stp (some x) xs else stp p x
def zz {α:Type} (l:List α) (k:Nat):Option α:=if k=0 then none else l[k-1]?
theorem zx {α:Type} {stp:Option α->α->Int} {body:Nat->α->Unit->Option (Ctl Unit Int)} (l:List α):∀(xs:List α) (k:Nat),l.drop k=xs->(∀k x,l[k]? = some x->body k x ()=some (xV (stp (zz l k) x))) ->
  forR body xs k ()=some (xV (wK stp (zz l k) xs))
 | [],k,h,hb=>rfl
 | x::xs,k,h,hb=>by
  have hg:=lq h
  rw [forR,hb k x hg,ob_,wK]
  cases he:stp (zz l k) x==0 with
  | true =>
   simp only [xV,he,cond_true]
   rw [zx l xs (k+1) (aV h) hb]
   have:zz l (k+1)=some x:=by simp [zz,hg]
   rw [this];rfl
  | false=>simp only [xV,he,cond_false]
theorem chkG_0 {α:Type} {stp:Option α->α->Int}:∀{l:List α} {p:Option α},wK stp p l=0->match l with
  | []=>True
  | x::xs=>stp p x=0/\wK stp (some x) xs=0
 | [],_,_=>trivial
 | x::xs,p,h=>by
  rw [wK]at h
  cases he:stp p x==0 with
  | true=>rw [he]at h;exact⟨eq_of_beq he,h⟩
  | false=>rw [he,cond_false]at h;rw [h]at he;cases he
def qh (n lo hi:Int):Bool:=decide (n<lo)||decide (n>hi)
theorem Cs (n lo hi:Int):aX n lo hi=some (qh n lo hi):=by
 unfold aX qh
 cases decide (n<lo) <;> cases decide (n>hi) <;> rfl
theorem IB {n lo hi:Int} (h:qh n lo hi=false):lo<=n/\n<=hi:=by
 simp only [qh,Bool.or_eq_false_iff,decide_eq_false_iff_not]at h;omega
theorem AQ {n lo hi:Int} (h:lo<=n/\n<=hi):qh n lo hi=false:=by
 simp only [qh,Bool.or_eq_false_iff,decide_eq_false_iff_not];omega
def momB (n:Int):Bool := !qh n 0 345686399999
theorem xS (n:Int):bR n=some (momB n):=by
 unfold bR momB qh
 have e1:decide (n>=0) = !decide (n<0):=by rw [Bool.eq_iff_iff];simp
 have e2:decide (n<345686400000) = !decide (n>345686399999):=by rw [Bool.eq_iff_iff];simp;omega
 rw [e1,e2]
 cases decide (n<0) <;> cases decide (n>345686399999) <;> rfl
theorem Bl {n:Int} (h:momB n=true):0<=n/\n<=345686399999:=by
 unfold momB at h;exact IB (by simpa using h)
def KU (a b:Int):Int:=bif a==0 then b else a
theorem vQ (a b:ByteArray):(lt a b/\Aa a b = -1)\/(a=b/\Aa a b=0)\/(lt b a/\Aa a b=1):=by
 have key:∀(x y:List UInt8),(x<y/\Lib.compareBytes x y = -1)\/(x=y/\Lib.compareBytes x y=0)\/(y<x/\Lib.compareBytes x y=1):=by
  intro x
  induction x with
  | nil=>intro y;cases y with
   | nil=>exact .inr (.inl ⟨rfl,rfl⟩)
   | cons b y=>exact .inl ⟨by simp,rfl⟩
  | cons a x ih=>intro y;cases y with
   | nil=>exact .inr (.inr ⟨by simp,rfl⟩)
   | cons b y =>
    simp only [Lib.compareBytes,List.cons_lt_cons_iff,List.cons.injEq]
    by_cases h1:a<b
    ·exact .inl ⟨.inl h1,by rw [if_pos h1]⟩
    ·by_cases h2:b<a
     ·exact .inr (.inr ⟨.inl h2,by rw [if_neg h1,if_pos h2]⟩)
     ·have e:a=b:=UInt8.le_antisymm (UInt8.not_lt.1 h2) (UInt8.not_lt.1 h1)
      subst e
      rw [if_neg h1,if_neg h1]
      rcases ih y with⟨h,k⟩|⟨h,k⟩|⟨h,k⟩
      ·exact .inl ⟨.inr ⟨rfl,h⟩,k⟩
      ·exact .inr (.inl ⟨⟨rfl,h⟩,k⟩)
      ·exact .inr (.inr ⟨.inr ⟨rfl,h⟩,k⟩)
 unfold Aa lt
 rw [toL,toL]
 rcases key a.data.toList b.data.toList with⟨h,k⟩|⟨h,k⟩|⟨h,k⟩
 ·exact .inl ⟨h,k⟩
 ·exact .inr (.inl ⟨Ay (by rw [toL,toL];exact h),k⟩)
 ·exact .inr (.inr ⟨h,k⟩)
theorem CR (a b:ByteArray):strings_Compare a b=some (Aa a b):=rfl
def yT (a b:Int):Int:=if a<b then -1 else if a>b then 1 else 0
theorem zI (a b:Int):cmp_Compare_int a b=some (yT a b):=by
 have e:∀x:Int,(x != x)=false:=by simp
 unfold cmp_Compare_int cmp_isNaN_int yT
 simp only [e,ob_,cond_false]
 by_cases h:a<b
 ·simp only [decide_eq_true h,cond_true,if_pos h]
 ·by_cases h2:a>b
  ·simp only [decide_eq_false h,decide_eq_true h2,cond_true,cond_false,if_neg h,if_pos h2]
  ·simp only [decide_eq_false h,decide_eq_false h2,cond_false,if_neg h,if_neg h2]
theorem QP (a b:Int):pJ [a,b]=some (KU a b):=by
 unfold pJ KU
 rw [jE (by simp)]
 simp only [forR,p9]
 cases ha:a==0 with
 | false =>
  have:(a != 0)=true:=by simp [bne,ha]
  simp only [this,cond_true,cond_false,ob_,thenC]
 | true =>
  have:(a != 0)=false:=by simp [bne,ha]
  simp only [this,cond_true,cond_false,ob_]
  cases hb:b==0 with
  | false =>
   have:(b != 0)=true:=by simp [bne,hb]
   simp only [this,cond_true,ob_,thenC]
  | true =>
   have:(b != 0)=false:=by simp [bne,hb]
   simp only [this,cond_false,ob_,thenC]
   rw [eq_of_beq hb]
end Go.Proofs.YtkjlhdminmpmkaaGreatDoor.Law

open Go Go.Eng
namespace Go.Proofs.YtkjlhdminmpmkaaGreatDoor.Law
set_option linter.unusedVariables false
set_option linter.unusedSimpArgs false
theorem wu (n:Int):IntKind.u64.wrap n=n % 18446744073709551616:=by simp [IntKind.wrap,IntKind.bits,IntKind.signed]
theorem wu_id {n:Int} (h0:0<=n) (h1:n<18446744073709551616):IntKind.u64.wrap n=n:=by rw [wu];exact Int.emod_eq_of_lt h0 h1
theorem wu_in (n:Int):0<=IntKind.u64.wrap n/\IntKind.u64.wrap n<18446744073709551616:=by rw [wu];omega
abbrev BB (l:List UInt8):ByteArray:=⟨l.toArray⟩
theorem RX (l m:List UInt8):BB l++BB m=BB (l++m):=by
  apply Ay;rw [toL,toL];simp
theorem wm (l:List UInt8):(BB l).size=l.length:=by show l.toArray.size=_;simp
theorem NS {x y:ByteArray} (h:x.size+y.size<=1000000000000):yD x y=some (x++y):=by
  unfold yD
  rw [if_neg]
  have:IntKind.i64.max=9223372036854775807:=by decide
  rw [this];omega
def Gi (h:Int) (b:UInt8):Int:=IntKind.u64.wrap ((O0 .u64 h (IntKind.u64.wrap (b.toNat:Int)))*1099511628211)
def fnv (bs:List UInt8):Int:=bs.foldl Gi 14695981039346656037
theorem NN:∀(bs:List UInt8) (h:Int),0<=h/\h<18446744073709551616->0<=bs.foldl Gi h/\bs.foldl Gi h<18446744073709551616
  | [],h,hh=>hh
  | b::bs,h,hh=>NN bs _ (wu_in _)
theorem fnv_in (bs:List UInt8):0<=fnv bs/\fnv bs<18446744073709551616:=NN bs _ (by decide)
theorem KL (s:ByteArray):∀(xs:List Nat) (k:Nat) (h:Int),k+xs.length=s.size->forR (λk x u=>nG s k x u) xs k h=some (.go ((s.data.toList.drop k).foldl Gi h))
  | [],k,h,hk=>by
    have:s.data.toList.drop k=[]:=List.drop_eq_nil_iff.2 (by rw [<- Go.Lib.size_eq];simp at hk;omega)
    rw [this];rfl
  | x::xs,k,h,hk=>by
    simp only [List.length_cons]at hk
    have hlt:k<s.data.toList.length:=by rw [<- Go.Lib.size_eq];omega
    have hb:qW s k=s.data.toList[k]:=by simp [qW,List.getD,List.getElem?_eq_getElem hlt]
    simp only [forR]
    unfold nG
    rw [J4 s k (by omega)]
    simp only [ob_]
    have ih:=KL s xs (k+1) (Gi h (qW s k)) (by omega)
    rw [List.drop_eq_getElem_cons hlt,List.foldl_cons,<- hb]
    exact ih
def qX (n:Nat):UInt8:=if n<10 then UInt8.ofNat (48+n)else UInt8.ofNat (87+n)
def uM (u:Nat):List UInt8:=if h:u<16 then [qX u]else uM (u / 16)++[qX (u % 16)]
termination_by u
decreasing_by omega
def zU:Nat->Nat->List UInt8
  | 0,_=>[]
  | k+1,u=>zU k (u / 16)++[qX (u % 16)]
theorem rV {u:Nat} (h:u<16):uM u=[qX u]:=by rw [uM,dif_pos h]
theorem Am {u:Nat} (h:¬u<16):uM u=uM (u / 16)++[qX (u % 16)]:=by rw [uM,dif_neg h]
theorem K6:∀(k u:Nat),(zU k u).length=k
  | 0,u=>rfl
  | k+1,u=>by simp [zU,K6 k]
theorem Gt:∀k,zU k 0=List.replicate k 48
  | 0=>rfl
  | k+1=>by
    show zU k 0++[qX 0]=_
    rw [Gt k,List.replicate_succ']
    rfl
theorem hexM_N:∀(k u:Nat),u<16 ^ (k+1)->(uM u).length<=k+1/\zU (k+1) u=List.replicate (k+1-(uM u).length) 48++uM u
  | 0,u,h=>by
    have h':u<16:=by simpa using h
    rw [rV h']
    refine⟨Nat.le_refl _,?_⟩
    simp [zU,Nat.mod_eq_of_lt h']
  | k+1,u,h=>by
    by_cases hu:u<16
    · rw [rV hu]
      refine⟨by simp,?_⟩
      show zU (k+1) (u / 16)++[qX (u % 16)]=_
      rw [Nat.div_eq_of_lt hu,Nat.mod_eq_of_lt hu,Gt]
      simp
    · rw [Am hu]
      have h2:u / 16<16 ^ (k+1):=by
        rw [Nat.div_lt_iff_lt_mul (by omega)]
        rw [Nat.pow_succ]at h;exact h
      obtain ⟨h3,h4⟩:=hexM_N k (u / 16) h2
      refine⟨by simp;omega,?_⟩
      show zU (k+1) (u / 16)++[qX (u % 16)]=_
      rw [h4,List.append_assoc]
      congr 2
      simp
def Kl:ByteArray:=⟨#[48,49,50,51,52,53,54,55,56,57,97,98,99,100,101,102]⟩
def digs:ByteArray:=⟨#[48,49,50,51,52,53,54,55,56,57,97,98,99,100,101,102,103,104,105,106,107,108,109,110,111,112,113,114,115,116,117,118,119,120,121,122]⟩
theorem OA:∀n:Fin 16,subS Kl (n.val:Int) ((n.val+1:Nat):Int)=some (BB [qX n.val])/\zF digs (n.val:Int)=some (qX n.val):=by decide +kernel
theorem Oc {n:Nat} (h:n<16):zF digs (n:Int)=some (qX n):=(OA ⟨n,h⟩).2
theorem and15 {u:Nat} (h:u<18446744073709551616):Cf .u64 (u:Int) 15=((u % 16:Nat):Int):=by
  show IntKind.u64.wrap (((BitVec.ofInt 64 (u:Int)) &&& (BitVec.ofInt 64 15)).toNat:Int)=_
  have h1:((BitVec.ofInt 64 (u:Int)) &&& (BitVec.ofInt 64 15)).toNat=u % 16:=by
    rw [BitVec.toNat_and]
    have e1:(BitVec.ofInt 64 (u:Int)).toNat=u:=by
      rw [BitVec.ofInt_natCast,BitVec.toNat_ofNat];exact Nat.mod_eq_of_lt h
    have e2:(BitVec.ofInt 64 15).toNat=15:=by decide
    rw [e1,e2]
    exact Nat.and_two_pow_sub_one_eq_mod u 4
  rw [h1]
  exact wu_id (by omega) (by omega)
theorem shr4 (u:Nat):Dm .u64 (u:Int) 4=some ((u / 16:Nat):Int):=by
  unfold Dm
  rw [if_neg (by decide)]
  have e:((2:Int) ^ (min (Int.toNat 4) IntKind.u64.bits))=16:=by decide
  rw [e,Int.fdiv_eq_ediv_of_nonneg _ (by decide)]
  rfl
def nums (l:List UInt8):List Int:=l.map λb=>(b.toNat:Int)
theorem Ma (l:List UInt8):Go.strOfNums (nums l)=BB l:=by
  unfold Go.strOfNums nums
  rw [List.map_map]
  have:(l.map ((λn:Int=>UInt8.ofNat n.toNat) ∘ λb:UInt8=>(b.toNat:Int)))=l:=by
    have:((λn:Int=>UInt8.ofNat n.toNat) ∘ λb:UInt8=>(b.toNat:Int))=id:=by
      funext b;simp
    rw [this,List.map_id]
  rw [this]
theorem Kg {a:List Int} {i:Nat} (c:Int) (h:i<a.length):(a.set i c).drop i=c::a.drop (i+1):=by
  rw [List.drop_eq_getElem_cons (by simpa using h)]
  simp only [List.getElem_set_self]
  congr 1
  apply List.ext_getElem?
  intro j
  rw [List.getElem?_drop,List.getElem?_drop,List.getElem?_set_ne (by omega)]
theorem fb_iter:∀(u:Nat),u<18446744073709551616->∀(a:List Int) (i:Nat),a.length=65->i<=65->(uM u).length<=i ->
    ∃n a' u' i',iterN (λs=>bJ 16 4 s) n (a,(u:Int),(i:Int))=some (.go (a',((u':Nat):Int),((i':Nat):Int)))/\u'<16/\a'.length=65/\1<=i'/\i'<=65/\nums [qX u']++a'.drop i'=nums (uM u)++a.drop i:=by
  intro u
  induction u using Nat.strongRecOn with
  | ind u ih =>
    intro hu a i ha hi hl
    have w16:IntKind.u64.wrap 16=16:=by decide
    have w15:IntKind.u64.wrap (16-1)=15:=by decide
    have w4:IntKind.u64.wrap 4=4:=by decide
    by_cases h16:u<16
    · refine⟨1,a,u,i,?_,h16,ha,?_,hi,by rw [rV h16]⟩
      · simp only [iterN]
        unfold bJ
        have hd:decide ((u:Int)>=16)=false:=by simp;omega
        simp only [w16,hd,cond_false,ob_]
      · rw [rV h16]at hl;simpa using hl
    · rw [Am h16]at hl
      simp only [List.length_append,List.length_cons,List.length_nil]at hl
      have hpos:1<=(uM (u / 16)).length:=by
        by_cases h:u / 16<16
        · rw [rV h];simp
        · rw [Am h];simp
      have hlt:u % 16<16:=Nat.mod_lt _ (by omega)
      obtain ⟨j,rfl⟩:∃j,i=j+1:=⟨i-1,by omega⟩
      obtain ⟨n,a',u',i',h1,h2,h3,h4,h5,h6⟩:=ih (u / 16) (by omega) (by omega) (a.set j ((qX (u % 16)).toNat:Int)) j (by simpa using ha) (by omega) (by omega)
      refine⟨n+1,a',u',i',?_,h2,h3,h4,h5,?_⟩
      · simp only [iterN]
        have hstep:bJ 16 4 (a,(u:Int),((j+1:Nat):Int))=some (.go (a.set j ((qX (u % 16)).toNat:Int),((u / 16:Nat):Int),(j:Int))):=by
          unfold bJ
          have hd:decide ((u:Int)>=16)=true:=by simp;omega
          have hw:w64 (((j+1:Nat):Int)-1)=(j:Int):=by rw [dw (by omega)];omega
          have hi1:inN (j:Int) 65=some ():=by unfold inN;rw [if_pos ⟨by omega,by omega⟩]
          have hg:a[(j:Int).toNat]? = some (a[j]'(by omega)):=by rw [Int.toNat_natCast];exact List.getElem?_eq_getElem _
          simp only [w16,w15,w4,hd,cond_true,and15 hu,hw,hi1,hg,shr4]
          have hdg:zF (⟨#[48,49,50,51,52,53,54,55,56,57,97,98,99,100,101,102,103,104,105,106,107,108,109,110,111,112,113,114,115,116,117,118,119,120,121,122]⟩:ByteArray) ((u % 16:Nat):Int)=some (qX (u % 16)):=Oc hlt
          rw [hdg]
          simp only [ob_,Int.toNat_natCast]
        rw [hstep]
        exact h1
      · rw [h6,Am h16,Kg _ (by omega)]
        unfold nums
        simp
theorem pow2:fG 16=some true:=by decide +kernel
theorem tz16:kD (IntKind.u64.wrap 16)=some 4:=by decide +kernel
theorem F5 (h:Int) (h0:0<=h) (h1:h<18446744073709551616):jl h 16=some (BB (uM h.toNat)):=by
  obtain ⟨u,rfl⟩:∃u:Nat,h=u:=⟨h.toNat,by omega⟩
  have hu:u<18446744073709551616:=by omega
  have hm:=hexM_N 15 u (by simpa using hu)
  have hfb:eD ([]:List Int) (u:Int) 16 false false=some (([]:List Int),BB (uM u)):=by
    unfold eD
    obtain ⟨n,a',u',i',e1,e2,e3,e4,e5,e6⟩:=fb_iter u hu (List.replicate 65 (0:Int)) 65 (by simp) (by omega) (by omega)
    have hlp:fZ ((List.replicate 65 (0:Int)),(u:Int),(65:Int)) (λs=>bJ 16 4 s)=some (.go (a',((u':Nat):Int),((i':Nat):Int))):=fC e1
    have hlt:i'-1<a'.length:=by omega
    have hw:w64 ((i':Int)-1)=((i'-1:Nat):Int):=by rw [dw (by omega)];omega
    have hi1:inN ((i'-1:Nat):Int) 65=some ():=by unfold inN;rw [if_pos ⟨by omega,by omega⟩]
    have hg:a'[i'-1]? = some (a'[i'-1]'hlt):=List.getElem?_eq_getElem _
    have hdg:zF (⟨#[48,49,50,51,52,53,54,55,56,57,97,98,99,100,101,102,103,104,105,106,107,108,109,110,111,112,113,114,115,116,117,118,119,120,121,122]⟩:ByteArray) (u':Int)=some (qX u'):=Oc e2
    have hset:(a'.set (i'-1) ((qX u').toNat:Int)).length=65:=by simpa using e3
    have hln:uT (a'.set (i'-1) ((qX u').toNat:Int)) 65=some ():=by unfold uT;rw [if_pos hset]
    have hsr:wP (a'.set (i'-1) ((qX u').toNat:Int)) ((i'-1:Nat):Int) (((a'.set (i'-1) ((qX u').toNat:Int)).length:Nat):Int)=some ():=by
      unfold wP;rw [if_pos ⟨by omega,by omega,by rw [hset];omega,by simp⟩]
    have hcut:Dh (a'.set (i'-1) ((qX u').toNat:Int)) (i'-1) (65-(i'-1))=nums (uM u):=by
      unfold Dh
      rw [Kg _ hlt,show i'-1+1=i' by omega]
      have:(((qX u').toNat:Int)::a'.drop i')=nums (uM u):=by
        have:=e6
        rw [show (List.replicate 65 (0:Int)).drop 65=[] by simp,List.append_nil]at this
        exact this
      rw [this,List.take_of_length_le]
      have h9:=congrArg List.length this
      simp only [List.length_cons,List.length_drop]at h9
      omega
    have c1:decide ((16:Int)<2)=false:=by decide
    have c2:((16:Int)==10)=false:=by decide
    have c3:decide ((16:Int)>36)=false:=by decide
    simp only [c1,c2,c3,cond_false,cond_true,ob_,pow2,tz16,hlp,eu,hdg,hw,hi1,hg,Int.toNat_natCast,hln,hsr]
    have e7:(((a'.set (i'-1) ((qX u').toNat:Int)).length:Nat):Int).toNat=65:=by rw [hset];rfl
    rw [Int.toNat_natCast]at e7
    rw [e7,hcut,Ma]
  unfold jl gU
  have c2:((16:Int)==10)=false:=by decide
  rw [c2]
  simp only [cond_false,hfb,ob_,Int.toNat_natCast]
theorem Kb:∀n,Go.Lib.repeatL [48] n=List.replicate n 48
  | 0=>rfl
  | n+1=>by simp [Go.Lib.repeatL,Kb n,List.replicate_succ]
theorem mark_eq (s:ByteArray) (hs:s.size<=1000000000):pU s=some (BB (zU 16 (fnv s.data.toList).toNat)):=by
  unfold pU
  have hl:(List.range ((s.size:Int)).toNat).length<=1000000000000:=by simp;omega
  rw [jE hl,KL s _ 0 _ (by simp)]
  simp only [ob_,eu,List.drop_zero]
  obtain ⟨b1,b2⟩:=fnv_in s.data.toList
  have hf:=F5 (fnv s.data.toList) b1 b2
  have e:s.data.toList.foldl Gi 14695981039346656037=fnv s.data.toList:=rfl
  rw [e,hf]
  simp only [ob_,wm]
  obtain ⟨m1, m2⟩ := hexM_N 15 (fnv s.data.toList).toNat (by have : (16 : Nat) ^ (15 + 1) = 18446744073709551616 := by decide
                                                             omega)
  have hw:w64 (16-((uM (fnv s.data.toList).toNat).length:Int))=((16-(uM (fnv s.data.toList).toNat).length:Nat):Int):=by rw [dw (by omega)];omega
  rw [hw]
  have hr:strings_Repeat (⟨#[48]⟩:ByteArray) ((16-(uM (fnv s.data.toList).toNat).length:Nat):Int)=some (BB (List.replicate (16-(uM (fnv s.data.toList).toNat).length) 48)):=by
    unfold strings_Repeat Dn
    rw [if_pos ⟨by omega,by omega,by rw [Int.toNat_natCast,show (⟨#[48]⟩:ByteArray).size=1 from rfl];omega⟩,Int.toNat_natCast]
    rw [show (⟨#[48]⟩:ByteArray).data.toList=[48] from rfl,Kb]
  rw [hr]
  simp only [ob_]
  rw [NS (by rw [wm,wm];simp;omega),RX,<- m2]
  rfl
end Go.Proofs.YtkjlhdminmpmkaaGreatDoor.Law

open Go Go.Eng
namespace Go.Proofs.YtkjlhdminmpmkaaGreatDoor.Law
set_option linter.unusedVariables false
set_option linter.unusedSimpArgs false
def Med (n:Int):Prop := -1000000000000000<=n/\n<=1000000000000000
theorem Jp {n:Int} (h:Med n):strconv_Itoa n=some (BB (Go.Lib.itoa n)):=by
 unfold strconv_Itoa Nt
 unfold Med at h
 rw [if_pos ⟨by omega,by omega⟩]
theorem uR {n:Int} (h:Med n):(Go.Lib.itoa n).length<=21:=by
 unfold Med at h
 exact Go.Lib.itoa_length_le n (by omega) (by omega)
theorem zf (l m:List UInt8) (h:l.length+m.length<=1000000000000):yD (BB l) (BB m)=some (BB (l++m)):=by
 rw [NS (by rw [wm,wm];exact h),RX]
def Ai (x:Log_):Prop:=ShortK x.Player/\ShortK x.Item/\ShortK x.Sum/\Med x.No/\Med x.Clock/\Med x.Long
def NJ (x:Log_):List UInt8:=x.Player.data.toList++[32]++x.Item.data.toList++[32]++Go.Lib.itoa x.No++[32]++Go.Lib.itoa x.Clock++[32]++Go.Lib.itoa x.Long
theorem u7 {s:ByteArray} (h:ShortK s):s.data.toList.length<=1000:=by rw [<- Go.Lib.size_eq];exact h
theorem Pf {x:Log_} (h:Ai x):(NJ x).length<=2100:=by
 obtain ⟨h1,h2,_,h4,h5,h6⟩:=h
 have:=u7 h1;have:=u7 h2;have:=uR h4;have:=uR h5;have:=uR h6
 simp only [NJ,List.length_append,List.length_cons,List.length_nil]
 omega
theorem line_eq {x:Log_} (h:Ai x):si x=some (BB (NJ x)):=by
 obtain ⟨h1,h2,_,h4,h5,h6⟩:=h
 have l1:=u7 h1;have l2:=u7 h2;have l4:=uR h4;have l5:=uR h5;have l6:=uR h6
 unfold si
 rw [Jp h4,Jp h5,Jp h6]
 rw [show x.Player=BB x.Player.data.toList from rfl,show x.Item=BB x.Item.data.toList from rfl,show (⟨#[32]⟩:ByteArray)=BB [32] from rfl]
 simp only [ob_]
 rw [zf _ _ (by simp only [List.length_append,List.length_cons,List.length_nil];omega)];simp only [ob_]
 rw [zf _ _ (by simp only [List.length_append,List.length_cons,List.length_nil];omega)];simp only [ob_]
 rw [zf _ _ (by simp only [List.length_append,List.length_cons,List.length_nil];omega)];simp only [ob_]
 rw [zf _ _ (by simp only [List.length_append,List.length_cons,List.length_nil];omega)];simp only [ob_]
 rw [zf _ _ (by simp only [List.length_append,List.length_cons,List.length_nil];omega)];simp only [ob_]
 rw [zf _ _ (by simp only [List.length_append,List.length_cons,List.length_nil];omega)];simp only [ob_]
 rw [zf _ _ (by simp only [List.length_append,List.length_cons,List.length_nil];omega)];simp only [ob_]
 rw [zf _ _ (by simp only [List.length_append,List.length_cons,List.length_nil];omega)];simp only [ob_]
 rfl
def mk (l:List UInt8):ByteArray:=BB (zU 16 (fnv l).toNat)
theorem NU (l:List UInt8):(mk l).size=16:=by unfold mk;rw [wm,K6]
theorem P9 (l:List UInt8):ShortK (mk l):=by unfold ShortK;rw [NU];decide
theorem markP (l:List UInt8) (h:l.length<=1000000000):pU (BB l)=some (mk l):=mark_eq (BB l) (by rw [wm];exact h)
def rf (x:Log_):Int:=bif !keyB x.Player then 5 else bif !keyB x.Item then 5 else bif (qh x.No 1 1000000||(qh x.Clock 0 345686399999||qh x.Long 1 86400000))then 1 else 0
theorem CL {x:Log_} (h:Ai x):ku x=some (rf x):=by
 obtain ⟨h1,h2,_,_,_,_⟩:=h
 unfold ShortK at h1 h2
 unfold ku rf
 rw [oM x.Player (by omega),oM x.Item (by omega)]
 simp only [ob_,Cs]
 cases keyB x.Player <;> cases keyB x.Item <;> cases qh x.No 1 1000000 <;> cases qh x.Clock 0 345686399999 <;> cases qh x.Long 1 86400000 <;> rfl
def O8 (b:UInt8):Bool:=Kl.data.toList.contains b
def xg (s:ByteArray):Bool:=(s.size==16)&&s.data.toList.all O8
theorem size16 (s:ByteArray):((s.size:Int)==16)=(s.size==16):=by
 rw [Bool.eq_iff_iff];simp only [beq_iff_eq];omega
theorem yA {p:UInt8->Bool}:∀(l:List UInt8),l.dropWhile p=[]↔l.all p=true
 | []=>by simp
 | x::l=>by
  rw [List.dropWhile_cons]
  cases h:p x with
  | true=>simp [h,yA l]
  | false=>simp [h]
theorem Qo (l cs:List UInt8):Go.Lib.trimS l cs=[]↔l.all (cs.contains ·)=true:=by
 unfold Go.Lib.trimS Go.Lib.trimLeftS Go.Lib.trimRightS
 rw [yA,List.all_reverse]
 constructor
 ·intro h
  have h2:(l.reverse.dropWhile (cs.contains ·))=[]:=by
   cases hd:l.reverse.dropWhile (cs.contains ·)with
   | nil=>rfl
   | cons x r =>
    rw [hd]at h
    have h3:∀(m:List UInt8),m.dropWhile (cs.contains ·)=x::r->cs.contains x=false:=by
     intro m
     induction m with
     | nil=>intro e;simp at e
     | cons y m ih =>
      intro e
      rw [List.dropWhile_cons]at e
      cases hy:cs.contains y with
      | true=>rw [hy]at e;exact ih e
      | false=>rw [hy]at e;simp only [Bool.false_eq_true,if_false,List.cons.injEq]at e;rw [<- e.1];exact hy
    have:=h3 _ hd
    simp only [List.all_cons,this,Bool.false_and,Bool.false_eq_true]at h
  rw [yA,List.all_reverse]at h2
  exact h2
 ·intro h
  have:l.reverse.dropWhile (cs.contains ·)=[]:=by rw [yA,List.all_reverse];exact h
  rw [this];rfl
theorem G8 {s:ByteArray} (h:ShortK s):mZ s=some (xg s):=by
 unfold ShortK at h
 unfold mZ xg
 rw [size16]
 have ht:rE s (⟨#[48,49,50,51,52,53,54,55,56,57,97,98,99,100,101,102]⟩:ByteArray)=some (BB (Go.Lib.trimS s.data.toList Kl.data.toList)):=by
  unfold rE I4
  rw [if_pos ⟨by omega,by decide,by decide⟩]
  rfl
 rw [ht]
 have e:sEq (BB (Go.Lib.trimS s.data.toList Kl.data.toList)) (⟨#[]⟩:ByteArray)=s.data.toList.all O8:=by
  rw [Bool.eq_iff_iff,yw]
  have:=Qo s.data.toList Kl.data.toList
  constructor
  ·intro h
   apply this.1
   have:=congrArg (λx:ByteArray=>x.data.toList) h
   simpa using this
  ·intro h
   rw [this.2 h]
 simp only [ob_,e]
 cases (s.size==16) <;> rfl
theorem RZ:∀n:Fin 16,O8 (qX n.val)=true:=by decide +kernel
theorem Ko:∀(k u:Nat),(zU k u).all O8=true
 | 0,u=>rfl
 | k+1,u=>by
  show (zU k (u / 16)++[qX (u % 16)]).all O8=true
  rw [List.all_append,Ko k,List.all_cons,RZ ⟨u % 16,Nat.mod_lt _ (by omega)⟩];rfl
theorem NW (l:List UInt8):xg (mk l)=true:=by
 unfold xg
 rw [NU]
 show ((16==16)&&(zU 16 (fnv l).toNat).all O8)=true
 rw [Ko];rfl
def cmpL (a b:Log_):Int:=KU (Aa a.Player b.Player) (yT a.No b.No)
theorem Ei (a b:Log_):jT a b=some (cmpL a b):=by
 simp only [jT,CR,zI,QP,ob_];rfl
theorem BR (a:ByteArray):Aa a a=0:=by
 rcases vQ a a with⟨h,_⟩|⟨_,h⟩|⟨h,_⟩
 ·exact absurd h (oW a)
 ·exact h
 ·exact absurd h (oW a)
def Gb (p:Option Log_) (x:Log_):Int:=bif rf x != 0 then rf x else bif !xg x.Sum then 3 else match p with
 | none=>0
 | some o=>bif decide (cmpL o x>=0)then 7 else 0
def GK (l:List Log_):Int:=bif decide (l.length>2000)then 2 else wK Gb none l
theorem logsK (l:List Log_) (hs:∀x∈l,Ai x) (hl:l.length<=1000000):jL l=some (GK l):=by
 unfold jL GK
 have e:decide ((l.length:Int)>2000)=decide (l.length>2000):=decide_eq_decide.2 (by omega)
 rw [e]
 cases decide (l.length>2000)with
 | true=>rfl
 | false =>
  simp only [cond_false]
  rw [jE (by omega),zx (stp:=Gb) l l 0 rfl (λk x hx => ?_)]
  ·simp only [ob_,Ev];rfl
  ·have hg:=hs x (List.mem_of_getElem? hx)
   simp only [kZ,CL hg,G8 hg.2.2.1,ob_,Gb]
   cases hf:(rf x != 0)with
   | true =>
    have:(rf x==0)=false:=by simpa using hf
    simp only [cond_true,xV,this,cond_false]
   | false =>
   simp only [cond_false]
   cases xg x.Sum with
   | false=>rfl
   | true =>
   simp only [Bool.not_true,cond_false]
   by_cases hk0:0<k
   ·obtain ⟨y,h1,h2⟩:=Hr hx hk0 (by omega)
    have hd:decide ((k:Int)>0)=true:=by simp;omega
    simp only [hd,cond_true,h1,ob_,zz,if_neg (show ¬k=0 by omega),h2,Ei]
    cases decide (cmpL y x>=0) <;> rfl
   ·have hk0:k=0:=by omega
    subst hk0
    rfl
end Go.Proofs.YtkjlhdminmpmkaaGreatDoor.Law

open Go Go.Eng
namespace Go.Proofs.YtkjlhdminmpmkaaGreatDoor.Law
set_option linter.unusedVariables false
set_option linter.unusedSimpArgs false
def GoodB (x:Beat):Prop:=ShortK x.Player
end Go.Proofs.YtkjlhdminmpmkaaGreatDoor.Law

open Go Go.Eng
namespace Go.Proofs.YtkjlhdminmpmkaaGreatDoor.Law
set_option linter.unusedVariables false
set_option linter.unusedSimpArgs false
def yf (o b:Beat):Prop:=lt o.Player b.Player\/o.Player=b.Player/\o.At<b.At
instance (o b:Beat):Decidable (yf o b):=by unfold yf lt;infer_instance
def bStp (p:Option Beat) (b:Beat):Int :=
 bif !keyB b.Player then 5 else bif !momB b.At || !momB b.Clock then 1 else match p with
  | none=>0
  | some o=>if yf o b then (if b.Player=o.Player/\b.Clock<=o.Clock then 16 else 0)else 7
def Rm (l:List Beat):Int:=bif decide (l.length>500)then 2 else wK bStp none l
theorem Da (a b:Beat):∃n,iy a b=some n/\(n>=0↔¬yf a b):=by
 refine⟨_,by simp only [iy,CR,zI,QP,ob_];rfl,?_⟩
 unfold KU yf yT
 rcases vQ a.Player b.Player with⟨h,k⟩|⟨h,k⟩|⟨h,k⟩
 ·rw [k];simp [h]
 ·rw [k,h]
  have:=oW b.Player
  by_cases h1:a.At<b.At
  ·simp [h1]
  ·by_cases h2:a.At>b.At
   ·simp [h1,h2,this]
   ·simp [h1,h2,this]
 ·rw [k]
  have h1:¬lt a.Player b.Player:=λh2=>oW _ (lt_trans h h2)
  have h2:a.Player≠b.Player:=λe=>oW _ (e ▸ h)
  simp [h1,h2]
theorem beatsK (l:List Beat) (hs:∀x∈l,GoodB x) (hl:l.length<=1000000):fq l=some (Rm l):=by
 unfold fq Rm
 have e:decide ((l.length:Int)>500)=decide (l.length>500):=decide_eq_decide.2 (by omega)
 rw [e]
 cases decide (l.length>500)with
 | true=>rfl
 | false =>
  simp only [cond_false]
  rw [jE (by omega),zx (stp:=bStp) l l 0 rfl (λk x hx => ?_)]
  ·simp only [ob_,Ev];rfl
  ·have hxs:ShortK x.Player:=hs x (List.mem_of_getElem? hx)
   have eo:aX x.Clock 0 345686399999=some (!momB x.Clock):=by rw [Cs];simp [momB]
   simp only [ib,oM x.Player (by unfold ShortK at hxs;omega),xS,eo,ob_,bStp]
   cases hk:keyB x.Player with
   | false=>rfl
   | true =>
   simp only [Bool.not_true,cond_false]
   cases momB x.At with
   | false=>rfl
   | true =>
   simp only [Bool.not_true,cond_false,Bool.false_or,ob_]
   cases momB x.Clock with
   | false=>rfl
   | true =>
   simp only [Bool.not_true,cond_false]
   by_cases hk0:0<k
   ·obtain ⟨y,h1,h2⟩:=Hr hx hk0 (by omega)
    have hd:decide ((k:Int)>0)=true:=by simp;omega
    obtain ⟨n,hn,hn2⟩:=Da y x
    simp only [hd,cond_true,h1,ob_,zz,if_neg (show ¬k=0 by omega),h2,hn]
    by_cases hb:yf y x
    ·have:decide (n>=0)=false:=by simp only [decide_eq_false_iff_not];exact λh=>(hn2.1 h) hb
     simp only [this,cond_false,if_pos hb,xZ]
     by_cases he:x.Player=y.Player
     ·by_cases hc:x.Clock<=y.Clock
      ·simp [he,hc,xV]
      ·simp [he,hc,xV]
     ·simp [he,xV]
    ·have:decide (n>=0)=true:=decide_eq_true (hn2.2 hb)
     simp only [this,cond_true,if_neg hb,xV];rfl
   ·have hk0:k=0:=by omega
    subst hk0
    rfl
end Go.Proofs.YtkjlhdminmpmkaaGreatDoor.Law


namespace Go.Eng
set_option linter.unusedVariables false
set_option linter.unusedSimpArgs false
end Go.Eng

