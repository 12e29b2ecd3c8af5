import Derived.Test.YtdenjndllgahgaaGreatDoorCkCheck
import Derived.Test.YtdenjndllgahgaaGreatDoorPlSl
/-
  PLAIN LEMMAS: what belongs to a number by beats.
-/
open Go Go.Eng
namespace Go.Proofs.YtdenjndllgahgaaGreatDoor.Law
set_option linter.unusedVariables false
set_option linter.unusedSimpArgs false
structure Cut (m:List Beat_) (n:Int) (k:Nat):Prop where
 le:k<=m.length
 lo:∀i (h:i<m.length),i<k->m[i].f_from<=n
 hi:∀(h:k<m.length),n<m[k].f_from
theorem cut_ex (m:List Beat_) (n:Int):∃k,Cut m n k:=by
 induction m with
 | nil=>exact⟨0,⟨Nat.le_refl _,λi h=>absurd h (Nat.not_lt_zero i),λh=>absurd h (Nat.lt_irrefl 0)⟩⟩
 | cons x m ih =>
  by_cases hx:x.f_from<=n
  ·obtain ⟨k,h1,h2,h3⟩:=ih
   refine⟨k+1,⟨by simp;omega,λi h hik => ?_,λh => ?_⟩⟩
   ·cases i with
    | zero=>exact hx
    | succ i=>exact h2 i (by simpa using h) (by omega)
   ·exact h3 (by simpa using h)
  ·exact⟨0,⟨Nat.zero_le _,λi h hik=>absurd hik (Nat.not_lt_zero i),λh=>by simpa using hx⟩⟩
def Ch (x:Int):Int×Int:=bif jM x then (x,0)else (0,11)
def farB (p q:Beat_):Bool:=decide (w64 (q.f_from-p.f_from)>2592000000)||decide (w64 (q.f_to-p.f_to)>2592000000)
def between (p q:Beat_) (n:Int):Int:=w64 (p.f_to+w64 ((w64 ((w64 (n-p.f_from))*(w64 (q.f_to-p.f_to)))).tdiv (w64 (q.f_from-p.f_from))))
def z2:Beat_:=⟨0,0⟩
def mapV (m:List Beat_) (n:Int) (k:Nat):Int×Int :=
 if m.length=0 then (0,8)else if k=0 then Ch ((m.getD 0 z2).f_to+n-(m.getD 0 z2).f_from)else
 if k=m.length then Ch (w64 (w64 ((m.getD (k-1) z2).f_to+n)-(m.getD (k-1) z2).f_from))else
 bif farB (m.getD (k-1) z2) (m.getD k z2)then (0,2)else Ch (between (m.getD (k-1) z2) (m.getD k z2) n)
def inM (x:Int):Prop:=0<=x/\x<=345686399999
def BndM (m:List Beat_):Prop:=∀x∈m,inM x.f_from/\inM x.f_to
theorem getD_at {α:Type} {m:List α} {i:Nat} {z:α} (h:i<m.length):m.getD i z=m[i]:=by
 rw [List.getD_eq_getElem?_getD,List.getElem?_eq_getElem h];rfl
theorem xZ (x:Int):((dK x).bind λr=>bif (!r)then some (0,11)else some (x,0))=some (Ch x):=by
 rw [og,ob_];unfold Ch
 cases jM x <;> rfl
theorem sP {m:List Beat_} {n:Int} {k:Nat} (hc:Cut m n k) (hl:m.length<=1000000):∀(d j:Nat),j+d=k->fE (λs=>dC m n s) (d+1) (j:Int)=some (.go (k:Int))
 | 0,j,h=>by
  have hj:j=k:=by omega
  subst hj
  have hst:dC m n (j:Int)=some (.brk (j:Int)):=by
   unfold dC
   by_cases hlt:j<m.length
   ·have h1:decide ((j:Int)<(m.length:Int))=true:=by simp;omega
    have h2:decide ((m[j]).f_from<=n)=false:=by have:=hc.hi hlt;simp;omega
    simp only [h1,cond_true,mK,List.getElem?_eq_getElem hlt,ob_,h2,cond_false]
   ·have h1:decide ((j:Int)<(m.length:Int))=false:=by simp;omega
    simp only [h1,cond_false,ob_]
  rw [fE,hst];rfl
 | d+1,j,h=>by
  have hjk:j<k:=by omega
  have hlt:j<m.length:=by have:=hc.le;omega
  have hst:dC m n (j:Int)=some (.go ((j+1:Nat):Int)):=by
   unfold dC
   have h1:decide ((j:Int)<(m.length:Int))=true:=by simp;omega
   have h2:decide ((m[j]).f_from<=n)=true:=decide_eq_true (hc.lo j hlt hjk)
   simp only [h1,cond_true,mK,List.getElem?_eq_getElem hlt,ob_,h2]
   rw [dI (by omega)];congr 2
  rw [fE,hst,ob_]
  exact sP hc hl d (j+1) (by omega)
theorem CV {m:List Beat_} {n:Int} {k:Nat} (hc:Cut m n k) (hb:BndM m) (hn:inM n) (hl:m.length<=1000000):jb m n=some (mapV m n k):=by
 unfold jb mapV
 by_cases h0:m.length=0
 ·have:((m.length:Int)==0)=true:=by simp [h0]
  simp only [this,cond_true,if_pos h0]
 ·have:((m.length:Int)==0)=false:=by simpa using h0
  have hlo:=mX (sP hc hl k 0 (by omega))
  rw [show ((0:Nat):Int)=0 from rfl]at hlo
  simp only [this,cond_false,if_neg h0,hlo,ob_,gL]
  by_cases hk0:k=0
  ·subst hk0
   have h1:(((0:Nat):Int)==0)=true:=rfl
   have h2:idx m 0=some (m.getD 0 z2):=by
    have:=mK m 0
    rw [show ((0:Nat):Int)=0 from rfl]at this
    rw [this,getD_at (by omega)];exact List.getElem?_eq_getElem _
   have hm:m.getD 0 z2∈m:=by rw [getD_at (by omega)];exact List.getElem_mem _
   obtain ⟨⟨b1,b2⟩,b3,b4⟩:=hb _ hm
   obtain ⟨n1,n2⟩:=hn
   simp only [h1,cond_true,h2,ob_,if_true]
   rw [dI (n:=(m.getD 0 z2).f_from-n) (by omega),dI (by omega),show (m.getD 0 z2).f_to-((m.getD 0 z2).f_from-n)=(m.getD 0 z2).f_to+n-(m.getD 0 z2).f_from by omega]
   exact xZ _
  ·have h1:((k:Int)==0)=false:=by simpa using hk0
   have hle:=hc.le
   have hw:w64 ((k:Int)-1)=((k-1:Nat):Int):=by rw [dI (by omega)];omega
   have hp:idx m (w64 ((k:Int)-1))=some (m.getD (k-1) z2):=by rw [hw,mK,getD_at (by omega)];exact List.getElem?_eq_getElem _
   have hpl:(m.getD (k-1) z2).f_from<=n:=by rw [getD_at (by omega)];exact hc.lo _ _ (by omega)
   simp only [h1,cond_false,if_neg hk0,hp,ob_]
   by_cases hkl:k=m.length
   ·have h2:((k:Int)==(m.length:Int))=true:=by simp [hkl]
    simp only [h2,cond_true,if_pos hkl]
    exact xZ _
   ·have hlt:k<m.length:=by omega
    have h2:((k:Int)==(m.length:Int))=false:=by simp;omega
    have hq:idx m (k:Int)=some (m.getD k z2):=by rw [mK,getD_at hlt];exact List.getElem?_eq_getElem _
    have hqh:n<(m.getD k z2).f_from:=by rw [getD_at hlt];exact hc.hi hlt
    have hbp:=hb (m.getD (k-1) z2) (by rw [getD_at (by omega)];exact List.getElem_mem _)
    have hbq:=hb (m.getD k z2) (by rw [getD_at hlt];exact List.getElem_mem _)
    obtain ⟨⟨b1,b2⟩,_⟩:=hbp
    obtain ⟨⟨b5,b6⟩,_⟩:=hbq
    have hdne:w64 ((m.getD k z2).f_from-(m.getD (k-1) z2).f_from)≠0:=by rw [dI (by omega)];omega
    simp only [h2,cond_false,if_neg hkl,hq,ob_]
    have hfar:(bif (decide ((w64 ((m.getD k z2).f_from-(m.getD (k-1) z2).f_from))>2592000000))then some true else some (decide ((w64 ((m.getD k z2).f_to-(m.getD (k-1) z2).f_to))>2592000000)))=some (farB (m.getD (k-1) z2) (m.getD k z2)):=by
     unfold farB
     cases decide ((w64 ((m.getD k z2).f_from-(m.getD (k-1) z2).f_from))>2592000000) <;> rfl
    rw [hfar,ob_]
    cases farB (m.getD (k-1) z2) (m.getD k z2)with
    | true=>rfl
    | false =>
     simp only [cond_false,Ah,if_neg hdne,ob_]
     exact xZ _
def gB (b:Beat):Beat_:=⟨b.Clock,b.At⟩
end Go.Proofs.YtdenjndllgahgaaGreatDoor.Law

