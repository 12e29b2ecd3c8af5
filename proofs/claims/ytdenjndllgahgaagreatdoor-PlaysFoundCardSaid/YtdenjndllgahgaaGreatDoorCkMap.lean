import Derived.Test.YtdenjndllgahgaaGreatDoorCkCheck
import Derived.Test.YtdenjndllgahgaaGreatDoorPlSl
/-
  PLAIN LEMMAS: what belongs to a number by beats.
-/
open Go Go.Eng
namespace Go.Proofs.YtdenjndllgahgaaGreatDoor.Law
set_option linter.unusedVariables false
set_option linter.unusedSimpArgs false
structure Cut (m:List Beat_) (n:Int) (k:Nat):Prop where
 le:k<=m.length
 lo:∀i (h:i<m.length),i<k->m[i].f_from<=n
 hi:∀(h:k<m.length),n<m[k].f_from
theorem FW (m:List Beat_) (n:Int):∃k,Cut m n k:=by
 induction m with
 | nil=>exact⟨0,⟨Nat.le_refl _,λi h=>absurd h (Nat.not_lt_zero i),λh=>absurd h (Nat.lt_irrefl 0)⟩⟩
 | cons x m ih =>
  by_cases hx:x.f_from<=n
  ·obtain ⟨k,h1,h2,h3⟩:=ih
   refine⟨k+1,⟨by simp;omega,λi h hik => ?_,λh => ?_⟩⟩
   ·cases i with
    | zero=>exact hx
    | succ i=>exact h2 i (by simpa using h) (by omega)
   ·exact h3 (by simpa using h)
  ·exact⟨0,⟨Nat.zero_le _,λi h hik=>absurd hik (Nat.not_lt_zero i),λh=>by simpa using hx⟩⟩
def kQ (x:Int):Int×Int:=bif momB x then (x,0)else (0,11)
def u6 (p q:Beat_):Bool:=decide (w64 (q.f_from-p.f_from)>2592000000)||decide (w64 (q.f_to-p.f_to)>2592000000)
def between (p q:Beat_) (n:Int):Int:=w64 (p.f_to+w64 ((w64 ((w64 (n-p.f_from))*(w64 (q.f_to-p.f_to)))).tdiv (w64 (q.f_from-p.f_from))))
def z2:Beat_:=⟨0,0⟩
def xx (m:List Beat_) (n:Int) (k:Nat):Int×Int :=
 if m.length=0 then (0,8)else if k=0 then kQ ((m.getD 0 z2).f_to+n-(m.getD 0 z2).f_from)else
 if k=m.length then kQ (w64 (w64 ((m.getD (k-1) z2).f_to+n)-(m.getD (k-1) z2).f_from))else
 bif u6 (m.getD (k-1) z2) (m.getD k z2)then (0,2)else kQ (between (m.getD (k-1) z2) (m.getD k z2) n)
def inM (x:Int):Prop:=0<=x/\x<=345686399999
def Fy (m:List Beat_):Prop:=∀x∈m,inM x.f_from/\inM x.f_to
theorem getD_at {α:Type} {m:List α} {i:Nat} {z:α} (h:i<m.length):m.getD i z=m[i]:=by
 rw [List.getD_eq_getElem?_getD,List.getElem?_eq_getElem h];rfl
theorem zJ (x:Int):((eQ x).bind λr=>bif (!r)then some (0,11)else some (x,0))=some (kQ x):=by
 rw [mP,ob_];unfold kQ
 cases momB x <;> rfl
theorem Al (x:Int):((gQ x).bind λr=>bif (!r)then some (0,11)else some (x,0))=some (kQ x):=by
 rw [lU,ob_];unfold kQ
 cases momB x <;> rfl
theorem uI {m:List Beat_} {n:Int} {k:Nat} (hc:Cut m n k) (hl:m.length<=1000000):∀(d j:Nat),j+d=k->bL (λs=>fe m n s) (d+1) (j:Int)=some (.go (k:Int))
 | 0,j,h=>by
  have hj:j=k:=by omega
  subst hj
  have hst:fe m n (j:Int)=some (.brk (j:Int)):=by
   unfold fe
   by_cases hlt:j<m.length
   ·have h1:decide ((j:Int)<(m.length:Int))=true:=by simp;omega
    have h2:decide ((m[j]).f_from<=n)=false:=by have:=hc.hi hlt;simp;omega
    simp only [h1,cond_true,jL,List.getElem?_eq_getElem hlt,ob_,h2,cond_false]
   ·have h1:decide ((j:Int)<(m.length:Int))=false:=by simp;omega
    simp only [h1,cond_false,ob_]
  rw [bL,hst];rfl
 | d+1,j,h=>by
  have hjk:j<k:=by omega
  have hlt:j<m.length:=by have:=hc.le;omega
  have hst:fe m n (j:Int)=some (.go ((j+1:Nat):Int)):=by
   unfold fe
   have h1:decide ((j:Int)<(m.length:Int))=true:=by simp;omega
   have h2:decide ((m[j]).f_from<=n)=true:=decide_eq_true (hc.lo j hlt hjk)
   simp only [h1,cond_true,jL,List.getElem?_eq_getElem hlt,ob_,h2]
   rw [dx (by omega)];congr 2
  rw [bL,hst,ob_]
  exact uI hc hl d (j+1) (by omega)
theorem yJ {m:List Beat_} {n:Int} {k:Nat} (hc:Cut m n k) (hb:Fy m) (hn:inM n) (hl:m.length<=1000000):gH m n=some (xx m n k):=by
 unfold gH xx
 by_cases h0:m.length=0
 ·have:((m.length:Int)==0)=true:=by simp [h0]
  simp only [this,cond_true,if_pos h0]
 ·have:((m.length:Int)==0)=false:=by simpa using h0
  have hlo:=fZ (uI hc hl k 0 (by omega))
  rw [show ((0:Nat):Int)=0 from rfl]at hlo
  simp only [this,cond_false,if_neg h0,hlo,ob_,fo]
  by_cases hk0:k=0
  ·subst hk0
   have h1:(((0:Nat):Int)==0)=true:=rfl
   have h2:idx m 0=some (m.getD 0 z2):=by
    have:=jL m 0
    rw [show ((0:Nat):Int)=0 from rfl]at this
    rw [this,getD_at (by omega)];exact List.getElem?_eq_getElem _
   have hm:m.getD 0 z2∈m:=by rw [getD_at (by omega)];exact List.getElem_mem _
   obtain ⟨⟨b1,b2⟩,b3,b4⟩:=hb _ hm
   obtain ⟨n1,n2⟩:=hn
   simp only [h1,cond_true,h2,ob_,if_true]
   rw [dx (n:=(m.getD 0 z2).f_from-n) (by omega),dx (by omega),show (m.getD 0 z2).f_to-((m.getD 0 z2).f_from-n)=(m.getD 0 z2).f_to+n-(m.getD 0 z2).f_from by omega]
   exact zJ _
  ·have h1:((k:Int)==0)=false:=by simpa using hk0
   have hle:=hc.le
   have hw:w64 ((k:Int)-1)=((k-1:Nat):Int):=by rw [dx (by omega)];omega
   have hp:idx m (w64 ((k:Int)-1))=some (m.getD (k-1) z2):=by rw [hw,jL,getD_at (by omega)];exact List.getElem?_eq_getElem _
   have hpl:(m.getD (k-1) z2).f_from<=n:=by rw [getD_at (by omega)];exact hc.lo _ _ (by omega)
   simp only [h1,cond_false,if_neg hk0,hp,ob_]
   by_cases hkl:k=m.length
   ·have h2:((k:Int)==(m.length:Int))=true:=by simp [hkl]
    simp only [h2,cond_true,if_pos hkl]
    exact zJ _
   ·have hlt:k<m.length:=by omega
    have h2:((k:Int)==(m.length:Int))=false:=by simp;omega
    have hq:idx m (k:Int)=some (m.getD k z2):=by rw [jL,getD_at hlt];exact List.getElem?_eq_getElem _
    have hqh:n<(m.getD k z2).f_from:=by rw [getD_at hlt];exact hc.hi hlt
    have hbp:=hb (m.getD (k-1) z2) (by rw [getD_at (by omega)];exact List.getElem_mem _)
    have hbq:=hb (m.getD k z2) (by rw [getD_at hlt];exact List.getElem_mem _)
    obtain ⟨⟨b1,b2⟩,_⟩:=hbp
    obtain ⟨⟨b5,b6⟩,_⟩:=hbq
    have hdne:w64 ((m.getD k z2).f_from-(m.getD (k-1) z2).f_from)≠0:=by rw [dx (by omega)];omega
    simp only [h2,cond_false,if_neg hkl,hq,ob_]
    have hfar:(bif (decide ((w64 ((m.getD k z2).f_from-(m.getD (k-1) z2).f_from))>2592000000))then some true else some (decide ((w64 ((m.getD k z2).f_to-(m.getD (k-1) z2).f_to))>2592000000)))=some (u6 (m.getD (k-1) z2) (m.getD k z2)):=by
     unfold u6
     cases decide ((w64 ((m.getD k z2).f_from-(m.getD (k-1) z2).f_from))>2592000000) <;> rfl
    rw [hfar,ob_]
    cases u6 (m.getD (k-1) z2) (m.getD k z2)with
    | true=>rfl
    | false =>
     simp only [cond_false,Br,if_neg hdne,ob_]
     exact zJ _
def gB (b:Beat):Beat_:=⟨b.Clock,b.At⟩
theorem tN {r:List Beat} {n:Int} {k:Nat} (hc:Cut (r.map gB) n k) (hb:Fy (r.map gB)) (hn:inM n) (hl:r.length<=1000000) :
  ∀(xs:List Beat) (j:Nat) (s:Int),r.drop j=xs->j<=k ->
   (j=k->dY (λk x s=>bR n r k x s) xs j s=some (.go s)) /\
   (j<k->dY (λk x s=>bR n r k x s) xs j s=some (if k=r.length then .go (w64 (w64 (((r.map gB).getD (k-1) z2).f_to+n)-((r.map gB).getD (k-1) z2).f_from))else
    bif u6 ((r.map gB).getD (k-1) z2) ((r.map gB).getD k z2)then .ret (0,2)else .go (between ((r.map gB).getD (k-1) z2) ((r.map gB).getD k z2) n)))
 | [],j,s,hd,hj=>by
  have h1:r.length<=j:=List.drop_eq_nil_iff.1 hd
  have h2:=hc.le
  rw [List.length_map]at h2
  exact⟨λ_=>rfl,λh=>by omega⟩
 | x::xs,j,s,hd,hj=>by
  have hlt:=vC hd
  have hx:r[j]=x:=by
   have:=nH hd
   rw [List.getElem?_eq_getElem hlt]at this
   exact Option.some.inj this
  have hgx:(r.map gB)[j]'(by simpa using hlt)=gB x:=by simp [hx]
  refine⟨λhjk => ?_,λhjk => ?_⟩
  ·subst hjk
   have h1:n<x.Clock:=by have:=hc.hi (by simpa using hlt);rw [hgx]at this;exact this
   have hst:bR n r j x s=some (.brk s):=by
    unfold bR
    simp only [decide_eq_true (show x.Clock>n from h1),cond_true]
   rw [dY,hst];rfl
  ·have h1:x.Clock<=n:=by have:=hc.lo j (by simpa using hlt) hjk;rw [hgx]at this;exact this
   have hd1:decide (x.Clock>n)=false:=decide_eq_false (by omega)
   have hw:w64 ((j:Int)+1)=((j+1:Nat):Int):=by rw [dx (by omega)];omega
   obtain ⟨ih1,ih2⟩:=tN hc hb hn hl xs (j+1) (w64 ((w64 (x.At+n))-x.Clock)) (aU hd) (by omega)
   by_cases hend:j+1=r.length
   ·have hk:k=j+1:=by have:=hc.le;rw [List.length_map]at this;omega
    have he:(((j+1:Nat):Int)==(r.length:Int))=true:=by simp [hend]
    have hst:bR n r j x s=some (.go (w64 ((w64 (x.At+n))-x.Clock))):=by
     unfold bR
     simp only [hd1,cond_false,hw,he,cond_true,ob_]
    rw [dY,hst,ob_]
    simp only
    rw [ih1 hk.symm,if_pos (by omega)]
    subst hk
    rw [Nat.add_sub_cancel,getD_at (by simpa using hlt),hgx];rfl
   ·have he:(((j+1:Nat):Int)==(r.length:Int))=false:=by simp;omega
    have hlt2:j+1<r.length:=by omega
    have hy:idx r ((j+1:Nat):Int)=some r[j+1]:=by rw [jL];exact List.getElem?_eq_getElem _
    have hgy:(r.map gB)[j+1]'(by simpa using hlt2)=gB r[j+1]:=by simp
    by_cases hjk2:j+1<k
    ·have h2:r[j+1].Clock<=n:=by have:=hc.lo (j+1) (by simpa using hlt2) hjk2;rw [hgy]at this;exact this
     have hst:bR n r j x s=some (.go (w64 ((w64 (x.At+n))-x.Clock))):=by
      unfold bR
      simp only [hd1,cond_false,hw,he,cond_true,ob_,hy,decide_eq_true h2]
     rw [dY,hst,ob_]
     exact ih2 hjk2
    ·have hk:k=j+1:=by omega
     have h2:n<r[j+1].Clock:=by have:=hc.hi (by rw [hk];simpa using hlt2);simp only [hk,hgy]at this;exact this
     have hbx:=hb (gB x) (by rw [<- hgx];exact List.getElem_mem _)
     have hby:=hb (gB r[j+1]) (by rw [<- hgy];exact List.getElem_mem _)
     obtain ⟨⟨b1,b2⟩,_⟩:=hbx
     obtain ⟨⟨b5,b6⟩,_⟩:=hby
     simp only [gB]at b1 b2 b5 b6
     have hdne:w64 (r[j+1].Clock-x.Clock)≠0:=by rw [dx (by omega)];omega
     have hfar:(bif (decide ((w64 (r[j+1].At-x.At))>2592000000))then some true else some (decide ((w64 (r[j+1].Clock-x.Clock))>2592000000)))=some (u6 (gB x) (gB r[j+1])):=by
      unfold u6 gB
      simp only
      cases decide ((w64 (r[j+1].At-x.At))>2592000000) <;> cases decide ((w64 (r[j+1].Clock-x.Clock))>2592000000) <;> rfl
     have hst:bR n r j x s=some (bif u6 (gB x) (gB r[j+1])then .ret (0,2)else .go (between (gB x) (gB r[j+1]) n)):=by
      unfold bR
      simp only [hd1,cond_false,hw,he,ob_,hy,decide_eq_false (show ¬r[j+1].Clock<=n by omega),hfar]
      cases u6 (gB x) (gB r[j+1])with
      | true=>rfl
      | false=>simp only [cond_false,Br,if_neg hdne,ob_];rfl
     have e1:(r.map gB).getD (k-1) z2=gB x:=by rw [hk,Nat.add_sub_cancel,getD_at (by simpa using hlt),hgx]
     have e2:(r.map gB).getD k z2=gB r[j+1]:=by rw [hk,getD_at (by simpa using hlt2),hgy]
     rw [e1,e2,if_neg (by omega),dY,hst,ob_]
     cases u6 (gB x) (gB r[j+1])with
     | true=>rfl
     | false =>
      simp only [cond_false]
      obtain ⟨ih3,_⟩:=tN hc hb hn hl xs (j+1) (between (gB x) (gB r[j+1]) n) (aU hd) (by omega)
      exact ih3 hk.symm
theorem right_eq {all r:List Beat} {p:ByteArray} {n:Int} {k:Nat} (hr:jU all p=some r) (hc:Cut (r.map gB) n k) (hb:Fy (r.map gB)) (hn:inM n) (hl:r.length<=1000000):jX all p n=some (xx (r.map gB) n k):=by
 unfold jX xx
 rw [hr,ob_,List.length_map]
 by_cases h0:r.length=0
 ·have:((r.length:Int)==0)=true:=by simp [h0]
  simp only [this,cond_true,if_pos h0]
 ·have:((r.length:Int)==0)=false:=by simpa using h0
  have h2:idx r 0=some r[0]:=by
   have:=jL r 0
   rw [show ((0:Nat):Int)=0 from rfl]at this
   rw [this];exact List.getElem?_eq_getElem _
  have hg0:(r.map gB).getD 0 z2=gB r[0]:=by rw [getD_at (by simp;omega)];simp
  obtain ⟨g1,g2⟩:=tN hc hb hn hl r 0 (w64 ((w64 (r[0].At+n))-r[0].Clock)) rfl (Nat.zero_le _)
  simp only [this,cond_false,if_neg h0,h2,ob_,fK (show r.length<=1000000000000 by omega)]
  by_cases hk0:k=0
  ·subst hk0
   have hbx:=hb (gB r[0]) (by rw [<- hg0,getD_at (by simp;omega)];exact List.getElem_mem _)
   obtain ⟨⟨b1,b2⟩,b3,b4⟩:=hbx
   obtain ⟨n1,n2⟩:=hn
   rw [g1 rfl,ob_,fo,if_pos rfl,hg0,Al]
   simp only [gB]at b1 b2 b3 b4
   rw [dx (n:=r[0].At+n) (by omega),dx (by omega)];rfl
  ·rw [g2 (by omega),if_neg hk0,ob_]
   by_cases hkl:k=r.length
   ·rw [if_pos hkl,if_pos hkl,fo,Al]
   ·rw [if_neg hkl,if_neg hkl]
    cases u6 ((r.map gB).getD (k-1) z2) ((r.map gB).getD k z2)with
    | true=>rfl
    | false=>simp only [cond_false,fo,Al]
end Go.Proofs.YtdenjndllgahgaaGreatDoor.Law

