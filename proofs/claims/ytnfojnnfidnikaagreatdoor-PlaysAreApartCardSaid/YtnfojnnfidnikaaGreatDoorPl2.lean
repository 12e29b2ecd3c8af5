/-
  THE PLAIN LAW (part 2).
-/
import Derived.Test.YtnfojnnfidnikaaGreatDoorPl1
import Derived.Test.YtnfojnnfidnikaaGreatDoorEng5
open Go Go.Eng
namespace Go.Proofs.YtnfojnnfidnikaaGreatDoor.Law
set_option linter.unusedVariables false
set_option linter.unusedSimpArgs false
def ko (o b:Beat):Prop:=lt o.Player b.Player\/o.Player=b.Player/\o.At<b.At
instance (o b:Beat):Decidable (ko o b):=by unfold ko lt;infer_instance
def Je (p:Option Beat) (b:Beat):Int :=
 bif !oV b.Player then 5 else bif !momB b.At || !momB b.Clock then 1 else match p with
  | none=>0
  | some o=>if ko o b then (if b.Player=o.Player/\b.Clock<=o.Clock then 16 else 0)else 7
def zS (l:List Beat):Int:=bif decide (l.length>500)then 2 else qU Je none l
theorem Br (a b:Beat):∃n,gp a b=some n/\(n>=0↔¬ko a b):=by
 refine⟨_,by simp only [gp,rQ,qQ,KU,ob_];rfl,?_⟩
 unfold vG ko rP
 rcases jr a.Player b.Player with⟨h,k⟩|⟨h,k⟩|⟨h,k⟩
 ·rw [k];simp [h]
 ·rw [k,h]
  have:=fK b.Player
  by_cases h1:a.At<b.At
  ·simp [h1]
  ·by_cases h2:a.At>b.At
   ·simp [h1,h2,this]
   ·simp [h1,h2,this]
 ·rw [k]
  have h1:¬lt a.Player b.Player:=λh2=>fK _ (lt_trans h h2)
  have h2:a.Player≠b.Player:=λe=>fK _ (e ▸ h)
  simp [h1,h2]
theorem beatsK (l:List Beat) (hs:∀x∈l,GoodB x) (hl:l.length<=1000000):dZ l=some (zS l):=by
 unfold dZ zS
 have e:decide ((l.length:Int)>500)=decide (l.length>500):=decide_eq_decide.2 (by omega)
 rw [e]
 cases decide (l.length>500)with
 | true=>rfl
 | false =>
  simp only [cond_false]
  rw [kM (by omega),uH (stp:=Je) l l 0 rfl (λk x hx => ?_)]
  ·simp only [ob_,yo];rfl
  ·have hxs:ShortK x.Player:=hs x (List.mem_of_getElem? hx)
   have eo:aO x.Clock 0 345686399999=some (!momB x.Clock):=by rw [rR];simp [momB]
   simp only [fO,wD x.Player (by unfold ShortK at hxs;omega),rT,eo,ob_,Je]
   cases hk:oV x.Player with
   | false=>rfl
   | true =>
   simp only [Bool.not_true,cond_false]
   cases momB x.At with
   | false=>rfl
   | true =>
   simp only [Bool.not_true,cond_false,Bool.false_or,ob_]
   cases momB x.Clock with
   | false=>rfl
   | true =>
   simp only [Bool.not_true,cond_false]
   by_cases hk0:0<k
   ·obtain ⟨y,h1,h2⟩:=wR hx hk0 (by omega)
    have hd:decide ((k:Int)>0)=true:=by simp;omega
    obtain ⟨n,hn,hn2⟩:=Br y x
    simp only [hd,cond_true,h1,ob_,rq,if_neg (show ¬k=0 by omega),h2,hn]
    by_cases hb:ko y x
    ·have:decide (n>=0)=false:=by simp only [decide_eq_false_iff_not];exact λh=>(hn2.1 h) hb
     simp only [this,cond_false,if_pos hb,BZ]
     by_cases he:x.Player=y.Player
     ·by_cases hc:x.Clock<=y.Clock
      ·simp [he,hc,wG]
      ·simp [he,hc,wG]
     ·simp [he,wG]
    ·have:decide (n>=0)=true:=decide_eq_true (hn2.2 hb)
     simp only [this,cond_true,if_neg hb,wG];rfl
   ·have hk0:k=0:=by omega
    subst hk0
    rfl
theorem before_trans {a b c:Beat} (h:ko a b) (k:ko b c):ko a c:=by
 rcases h with h|⟨h1,h2⟩
 ·rcases k with k|⟨k1,_⟩
  ·exact .inl (lt_trans h k)
  ·exact .inl (k1 ▸ h)
 ·rcases k with k|⟨k1,k2⟩
  ·exact .inl (h1 ▸ k)
  ·exact .inr ⟨h1.trans k1,by omega⟩
theorem bStp_0 {p:Option Beat} {b:Beat} (h:Je p b=0):momB b.At=true/\momB b.Clock=true/\∀o,p=some o->ko o b:=by
 unfold Je at h
 cases hk:oV b.Player with
 | false=>rw [hk]at h;cases h
 | true =>
 rw [hk]at h
 simp only [Bool.not_true,cond_false]at h
 cases ha:momB b.At with
 | false=>rw [ha]at h;cases h
 | true =>
 cases hc:momB b.Clock with
 | false=>rw [ha,hc]at h;cases h
 | true =>
 rw [ha,hc]at h
 simp only [Bool.not_true,Bool.or_self,cond_false]at h
 refine⟨rfl,rfl,λo ho => ?_⟩
 subst ho
 simp only at h
 by_cases hb:ko o b
 ·exact hb
 ·rw [if_neg hb]at h;cases h
def F3:List Beat->Prop
 | []=>True
 | x::xs=>(∀y∈xs,ko x y)/\F3 xs
theorem Bg:∀{l:List Beat} {p:Option Beat},qU Je p l=0->(∀o,p=some o->∀y∈l,ko o y)/\F3 l/\∀x∈l,momB x.At=true/\momB x.Clock=true
 | [],_,_=>⟨λ_ _ y hy=>(by cases hy),trivial,λx hx=>(by cases hx)⟩
 | x::xs,p,h=>by
  obtain ⟨h1,h2⟩:=Jv h
  obtain ⟨i1,i2,i3⟩:=Bg h2
  obtain ⟨j1,j2,j3⟩:=bStp_0 h1
  refine⟨λo ho y hy => ?_,⟨i1 x rfl,i2⟩,λy hy => ?_⟩
  ·rcases List.mem_cons.1 hy with rfl|hy
   ·exact j3 o ho
   ·exact before_trans (j3 o ho) (i1 x rfl y hy)
  ·rcases List.mem_cons.1 hy with rfl|hy
   ·exact⟨j1,j2⟩
   ·exact i3 y hy
theorem OX {l:List Beat} (h:zS l=0):F3 l/\∀x∈l,momB x.At=true/\momB x.Clock=true:=by
 unfold zS at h
 cases hl:decide (l.length>500)with
 | true=>rw [hl]at h;cases h
 | false=>rw [hl,cond_false]at h;exact (Bg h).2
end Go.Proofs.YtnfojnnfidnikaaGreatDoor.Law

namespace Go.Eng
set_option linter.unusedVariables false
set_option linter.unusedSimpArgs false
end Go.Eng

open Go Go.Eng
namespace Go.Proofs.YtnfojnnfidnikaaGreatDoor.Law
set_option linter.unusedVariables false
set_option linter.unusedSimpArgs false
structure Cut (m:List Beat_) (n:Int) (k:Nat):Prop where
 le:k<=m.length
 lo:∀i (h:i<m.length),i<k->m[i].f_from<=n
 hi:∀(h:k<m.length),n<m[k].f_from
theorem cut_ex (m:List Beat_) (n:Int):∃k,Cut m n k:=by
 induction m with
 | nil=>exact⟨0,⟨Nat.le_refl _,λi h=>absurd h (Nat.not_lt_zero i),λh=>absurd h (Nat.lt_irrefl 0)⟩⟩
 | cons x m ih =>
  by_cases hx:x.f_from<=n
  ·obtain ⟨k,h1,h2,h3⟩:=ih
   refine⟨k+1,⟨by simp;omega,λi h hik => ?_,λh => ?_⟩⟩
   ·cases i with
    | zero=>exact hx
    | succ i=>exact h2 i (by simpa using h) (by omega)
   ·exact h3 (by simpa using h)
  ·exact⟨0,⟨Nat.zero_le _,λi h hik=>absurd hik (Nat.not_lt_zero i),λh=>by simpa using hx⟩⟩
def qb (x:Int):Int×Int:=bif momB x then (x,0)else (0,11)
def PN (p q:Beat_):Bool:=decide (w64 (q.f_from-p.f_from)>2592000000)||decide (w64 (q.f_to-p.f_to)>2592000000)
def between (p q:Beat_) (n:Int):Int:=w64 (p.f_to+w64 ((w64 ((w64 (n-p.f_from))*(w64 (q.f_to-p.f_to)))).tdiv (w64 (q.f_from-p.f_from))))
def z2:Beat_:=⟨0,0⟩
def IX (m:List Beat_) (n:Int) (k:Nat):Int×Int :=
 if m.length=0 then (0,8)else if k=0 then qb ((m.getD 0 z2).f_to+n-(m.getD 0 z2).f_from)else
 if k=m.length then qb (w64 (w64 ((m.getD (k-1) z2).f_to+n)-(m.getD (k-1) z2).f_from))else
 bif PN (m.getD (k-1) z2) (m.getD k z2)then (0,2)else qb (between (m.getD (k-1) z2) (m.getD k z2) n)
def inM (x:Int):Prop:=0<=x/\x<=345686399999
def BndM (m:List Beat_):Prop:=∀x∈m,inM x.f_from/\inM x.f_to
theorem getD_at {α:Type} {m:List α} {i:Nat} {z:α} (h:i<m.length):m.getD i z=m[i]:=by
 rw [List.getD_eq_getElem?_getD,List.getElem?_eq_getElem h];rfl
theorem Gz (x:Int):((bO x).bind λr=>bif (!r)then some (0,11)else some (x,0))=some (qb x):=by
 rw [rT,ob_];unfold qb
 cases momB x <;> rfl
theorem Az {m:List Beat_} {n:Int} {k:Nat} (hc:Cut m n k) (hl:m.length<=1000000):∀(d j:Nat),j+d=k->iterN (λs=>eZ m n s) (d+1) (j:Int)=some (.go (k:Int))
 | 0,j,h=>by
  have hj:j=k:=by omega
  subst hj
  have hst:eZ m n (j:Int)=some (.brk (j:Int)):=by
   unfold eZ
   by_cases hlt:j<m.length
   ·have h1:decide ((j:Int)<(m.length:Int))=true:=by simp;omega
    have h2:decide ((m[j]).f_from<=n)=false:=by have:=hc.hi hlt;simp;omega
    simp only [h1,cond_true,oM,List.getElem?_eq_getElem hlt,ob_,h2,cond_false]
   ·have h1:decide ((j:Int)<(m.length:Int))=false:=by simp;omega
    simp only [h1,cond_false,ob_]
  rw [iterN,hst];rfl
 | d+1,j,h=>by
  have hjk:j<k:=by omega
  have hlt:j<m.length:=by have:=hc.le;omega
  have hst:eZ m n (j:Int)=some (.go ((j+1:Nat):Int)):=by
   unfold eZ
   have h1:decide ((j:Int)<(m.length:Int))=true:=by simp;omega
   have h2:decide ((m[j]).f_from<=n)=true:=decide_eq_true (hc.lo j hlt hjk)
   simp only [h1,cond_true,oM,List.getElem?_eq_getElem hlt,ob_,h2]
   rw [dR (by omega)];congr 2
  rw [iterN,hst,ob_]
  exact Az hc hl d (j+1) (by omega)
theorem Nf {m:List Beat_} {n:Int} {k:Nat} (hc:Cut m n k) (hb:BndM m) (hn:inM n) (hl:m.length<=1000000):gz m n=some (IX m n k):=by
 unfold gz IX
 by_cases h0:m.length=0
 ·have:((m.length:Int)==0)=true:=by simp [h0]
  simp only [this,cond_true,if_pos h0]
 ·have:((m.length:Int)==0)=false:=by simpa using h0
  have hlo:=iO (Az hc hl k 0 (by omega))
  rw [show ((0:Nat):Int)=0 from rfl]at hlo
  simp only [this,cond_false,if_neg h0,hlo,ob_,kz]
  by_cases hk0:k=0
  ·subst hk0
   have h1:(((0:Nat):Int)==0)=true:=rfl
   have h2:idx m 0=some (m.getD 0 z2):=by
    have:=oM m 0
    rw [show ((0:Nat):Int)=0 from rfl]at this
    rw [this,getD_at (by omega)];exact List.getElem?_eq_getElem _
   have hm:m.getD 0 z2∈m:=by rw [getD_at (by omega)];exact List.getElem_mem _
   obtain ⟨⟨b1,b2⟩,b3,b4⟩:=hb _ hm
   obtain ⟨n1,n2⟩:=hn
   simp only [h1,cond_true,h2,ob_,if_true]
   rw [dR (n:=(m.getD 0 z2).f_from-n) (by omega),dR (by omega),show (m.getD 0 z2).f_to-((m.getD 0 z2).f_from-n)=(m.getD 0 z2).f_to+n-(m.getD 0 z2).f_from by omega]
   exact Gz _
  ·have h1:((k:Int)==0)=false:=by simpa using hk0
   have hle:=hc.le
   have hw:w64 ((k:Int)-1)=((k-1:Nat):Int):=by rw [dR (by omega)];omega
   have hp:idx m (w64 ((k:Int)-1))=some (m.getD (k-1) z2):=by rw [hw,oM,getD_at (by omega)];exact List.getElem?_eq_getElem _
   have hpl:(m.getD (k-1) z2).f_from<=n:=by rw [getD_at (by omega)];exact hc.lo _ _ (by omega)
   simp only [h1,cond_false,if_neg hk0,hp,ob_]
   by_cases hkl:k=m.length
   ·have h2:((k:Int)==(m.length:Int))=true:=by simp [hkl]
    simp only [h2,cond_true,if_pos hkl]
    exact Gz _
   ·have hlt:k<m.length:=by omega
    have h2:((k:Int)==(m.length:Int))=false:=by simp;omega
    have hq:idx m (k:Int)=some (m.getD k z2):=by rw [oM,getD_at hlt];exact List.getElem?_eq_getElem _
    have hqh:n<(m.getD k z2).f_from:=by rw [getD_at hlt];exact hc.hi hlt
    have hbp:=hb (m.getD (k-1) z2) (by rw [getD_at (by omega)];exact List.getElem_mem _)
    have hbq:=hb (m.getD k z2) (by rw [getD_at hlt];exact List.getElem_mem _)
    obtain ⟨⟨b1,b2⟩,_⟩:=hbp
    obtain ⟨⟨b5,b6⟩,_⟩:=hbq
    have hdne:w64 ((m.getD k z2).f_from-(m.getD (k-1) z2).f_from)≠0:=by rw [dR (by omega)];omega
    simp only [h2,cond_false,if_neg hkl,hq,ob_]
    have hfar:(bif (decide ((w64 ((m.getD k z2).f_from-(m.getD (k-1) z2).f_from))>2592000000))then some true else some (decide ((w64 ((m.getD k z2).f_to-(m.getD (k-1) z2).f_to))>2592000000)))=some (PN (m.getD (k-1) z2) (m.getD k z2)):=by
     unfold PN
     cases decide ((w64 ((m.getD k z2).f_from-(m.getD (k-1) z2).f_from))>2592000000) <;> rfl
    rw [hfar,ob_]
    cases PN (m.getD (k-1) z2) (m.getD k z2)with
    | true=>rfl
    | false =>
     simp only [cond_false,Ji,if_neg hdne,ob_]
     exact Gz _
def gB (b:Beat):Beat_:=⟨b.Clock,b.At⟩
end Go.Proofs.YtnfojnnfidnikaaGreatDoor.Law

open Go Go.Eng
namespace Go.Proofs.YtnfojnnfidnikaaGreatDoor.Law
set_option linter.unusedVariables false
set_option linter.unusedSimpArgs false
def ofB (p:ByteArray) (b:Beat):Bool:=decide (b.Player=p)
def gK (b:Beat):Beat_:=⟨b.At,b.Clock⟩
theorem Jw (l:List Beat) (p:ByteArray) (back:Bool) (hl:l.length<=1000000):jq l p back=some ((l.filter (ofB p)).map (bif back then gK else gB)):=by
 have run:∀(xs:List Beat) (k:Nat) (acc:List Beat_),acc.length+xs.length<=1000000->forR (λk x s=>iy p back k x s) xs k acc=some (.go (acc++(xs.filter (ofB p)).map (bif back then gK else gB))):=by
  intro xs
  induction xs with
  | nil=>intro k acc _;simp [forR]
  | cons x xs ih =>
   intro k acc hlen
   simp only [List.length_cons]at hlen
   have hst:iy p back k x acc=some (.go (acc++(bif ofB p x then [(bif back then gK else gB) x]else []))):=by
    have hsn:sNe x.Player p = !ofB p x:=K4 _ _
    unfold iy
    rw [hsn]
    cases ofB p x with
    | false=>simp
    | true =>
     simp only [Bool.not_true,cond_false,cond_true]
     cases back with
     | true=>simp only [cond_true,lF acc [_] (show acc.length+1<=_ by omega),ob_];rfl
     | false=>simp only [cond_false,lF acc [_] (show acc.length+1<=_ by omega),ob_];rfl
   rw [forR,hst,ob_]
   simp only
   rw [ih _ _ (by cases ofB p x <;> simp <;> omega),List.filter_cons]
   cases ofB p x <;> simp
 unfold jq
 rw [kM (by omega),run l 0 [] (by simpa using hl),ob_,kz,List.nil_append]
theorem bnd_of {l:List Beat} {p:ByteArray} (h:∀x∈l,momB x.At=true/\momB x.Clock=true) (back:Bool):BndM ((l.filter (ofB p)).map (bif back then gK else gB)):=by
 intro y hy
 obtain ⟨x,hx,rfl⟩:=List.mem_map.1 hy
 obtain ⟨h1,h2⟩:=h x (List.mem_filter.1 hx).1
 cases back with
 | true=>exact⟨yf h1,yf h2⟩
 | false=>exact⟨yf h2,yf h1⟩
end Go.Proofs.YtnfojnnfidnikaaGreatDoor.Law

open Go Go.Eng
namespace Go.Proofs.YtnfojnnfidnikaaGreatDoor.Law
set_option linter.unusedVariables false
set_option linter.unusedSimpArgs false
section
variable {α β:Type}
theorem DT (c:α->α->Int) (v:α) (R0:List α) (h:∀a∈R0,¬c v a<0):∀R,eT c v (R++R0)=eT c v R++R0
 | []=>by
  cases R0 with
  | nil=>rfl
  | cons u R1 =>
   show (bif decide (c v u<0)then u::eT c v R1 else v::u::R1)=v::u::R1
   rw [decide_eq_false (h u (by simp))];rfl
 | u::R=>by
  show (bif decide (c v u<0)then u::eT c v (R++R0)else v::u::(R++R0))=(bif decide (c v u<0)then u::eT c v R else v::u::R)++R0
  rw [DT c v R0 h R]
  cases decide (c v u<0) <;> rfl
theorem Jg (c:α->α->Int) (R0:List α):∀(Q R:List α),(∀v∈Q,∀a∈R0,¬c v a<0)->rJ c (R++R0) Q=rJ c R Q++R0
 | [],R,h=>rfl
 | v::Q,R,h=>by
  show rJ c (eT c v (R++R0)) Q=rJ c (eT c v R) Q++R0
  rw [DT c v R0 (h v (by simp)) R]
  exact Jg c R0 Q _ (λw hw=>h w (List.mem_cons_of_mem _ hw))
theorem H7 (c:α->α->Int) (l2:List α):∀(l1 R:List α),rJ c R (l1++l2)=rJ c (rJ c R l1) l2
 | [],R=>rfl
 | v::l1,R=>H7 c l2 l1 (eT c v R)
theorem OZ (c:α->α->Int) (l1 l2:List α) (h:∀v∈l2,∀a∈l1,¬c v a<0):jX c (l1++l2)=jX c l1++jX c l2:=by
 unfold jX
 rw [H7]
 have:=Jg c (rJ c [] l1) l2 [] (λv hv a ha=>h v hv a (by have:=(Ak c l1 []).mem_iff.1 ha;simpa using this))
 rw [List.nil_append]at this
 rw [this,List.reverse_append]
theorem DW (f:α->β) {c:α->α->Int} {c':β->β->Int} (h:∀a b,c' (f a) (f b)=c a b) (v:α):∀R:List α,eT c' (f v) (R.map f)=(eT c v R).map f
 | []=>rfl
 | u::R=>by
  show (bif decide (c' (f v) (f u)<0)then f u::eT c' (f v) (R.map f)else f v::f u::R.map f)=(bif decide (c v u<0)then u::eT c v R else v::u::R).map f
  rw [h,DW f h v R]
  cases decide (c v u<0) <;> rfl
theorem IW (f:α->β) {c:α->α->Int} {c':β->β->Int} (h:∀a b,c' (f a) (f b)=c a b):∀Q R:List α,rJ c' (R.map f) (Q.map f)=(rJ c R Q).map f
 | [],R=>rfl
 | v::Q,R=>by
  show rJ c' (eT c' (f v) (R.map f)) (Q.map f)=(rJ c (eT c v R) Q).map f
  rw [DW f h,IW f h Q]
theorem OE (f:α->β) {c:α->α->Int} {c':β->β->Int} (h:∀a b,c' (f a) (f b)=c a b) (l:List α):jX c' (l.map f)=(jX c l).map f:=by
 unfold jX
 have:=IW f h l []
 rw [List.map_nil]at this
 rw [this,List.map_reverse]
theorem vw (c:α->α->Int) (l:List α) (x:α):x∈jX c l↔x∈l:=(Fa c l).mem_iff
end
structure Dated where
 f_at:Int
 f_i:Int
def MB (B:List Beat) (p:ByteArray):List Beat_:=(B.filter (ofB p)).map gB
noncomputable def plF (B:List Beat) (x:Log_):Int×Int:=(gz (MB B x.Player) x.Clock).getD (0,0)
theorem J3 (x:Int):(qb x).2=0/\momB (qb x).1=true\/(qb x).2=11:=by
 unfold qb
 cases h:momB x with
 | true=>exact .inl ⟨rfl,h⟩
 | false=>exact .inr rfl
theorem JY (m:List Beat_) (n:Int) (k:Nat):(IX m n k).2=0/\momB (IX m n k).1=true\/(IX m n k).2=8\/(IX m n k).2=2\/(IX m n k).2=11:=by
 have f:∀x,(qb x).2=0/\momB (qb x).1=true\/(qb x).2=8\/(qb x).2=2\/(qb x).2=11:=λx=>by
  rcases J3 x with h|h
  ·exact .inl h
  ·exact .inr (.inr (.inr h))
 unfold IX
 split
 ·exact .inr (.inl rfl)
 ·split
  ·exact f _
  ·split
   ·exact f _
   ·cases PN (m.getD (k-1) z2) (m.getD k z2)with
    | true=>exact .inr (.inr (.inl rfl))
    | false=>exact f _
structure BOk (B:List Beat):Prop where
 mom:∀x∈B,momB x.At=true/\momB x.Clock=true
 few:B.length<=1000000
theorem NR {B:List Beat} (hB:BOk B) (x:Log_) (hx:inM x.Clock):gz (MB B x.Player) x.Clock=some (plF B x) /\
  ((plF B x).2=0/\momB (plF B x).1=true\/(plF B x).2=8\/(plF B x).2=2\/(plF B x).2=11):=by
 obtain ⟨k,hk⟩:=cut_ex (MB B x.Player) x.Clock
 have hb:BndM (MB B x.Player):=bnd_of hB.mom false
 have hf:(B.filter (ofB x.Player)).length<=1000000:=Nat.le_trans (List.length_filter_le _ _) hB.few
 have h1:=Nf hk hb hx (by unfold MB;simpa using hf)
 unfold plF
 rw [h1]
 exact⟨rfl,JY _ _ _⟩
noncomputable def atF (B:List Beat) (x:Log_):Option Int:=bif (plF B x).2==0 then some (plF B x).1 else bif (plF B x).2==8 then some x.Clock else none
theorem atF_in {B:List Beat} (hB:BOk B) {x:Log_} (hx:inM x.Clock) {a:Int} (h:atF B x=some a):inM a:=by
 unfold atF at h
 rcases (NR hB x hx).2 with⟨h0,h1⟩|h0|h0|h0
 ·rw [h0]at h;cases h;exact yf h1
 ·rw [h0]at h;cases h;exact hx
 ·rw [h0]at h;cases h
 ·rw [h0]at h;cases h
noncomputable def dts (B:List Beat):Nat->List Log_->List Dated
 | _,[]=>[]
 | k,x::xs=>(match atF B x with | some a=>[⟨a,(k:Int)⟩] | none=>[])++dts B (k+1) xs
noncomputable def lfs (B:List Beat):Nat->List Log_->List Int
 | _,[]=>[]
 | k,x::xs=>(match atF B x with | some _=>[] | none=>[(k:Int)])++lfs B (k+1) xs
theorem LM (B:List Beat) (ys:List Log_):∀(xs:List Log_) (k:Nat),dts B k (xs++ys)=dts B k xs++dts B (k+xs.length) ys
 | [],k=>rfl
 | x::xs,k=>by
  rw [List.cons_append,dts,dts,LM B ys xs (k+1),List.append_assoc,List.length_cons,show k+1+xs.length=k+(xs.length+1) by omega]
theorem KZ (B:List Beat) (ys:List Log_):∀(xs:List Log_) (k:Nat),lfs B k (xs++ys)=lfs B k xs++lfs B (k+xs.length) ys
 | [],k=>rfl
 | x::xs,k=>by
  rw [List.cons_append,lfs,lfs,KZ B ys xs (k+1),List.append_assoc,List.length_cons,show k+1+xs.length=k+(xs.length+1) by omega]
theorem Lu (B:List Beat):∀(xs:List Log_) (k:Nat) (d:Dated),d∈dts B k xs->∃i x,xs[i]? = some x/\d.f_i=((k+i:Nat):Int)/\atF B x=some d.f_at
 | [],k,d,h=>by cases h
 | x::xs,k,d,h=>by
  rw [dts]at h
  rcases List.mem_append.1 h with h|h
  ·cases ha:atF B x with
   | none=>rw [ha]at h;cases h
   | some a=>rw [ha]at h;rw [List.mem_singleton.1 h];exact⟨0,x,rfl,rfl,ha⟩
  ·obtain ⟨i,y,h1,h2,h3⟩:=Lu B xs (k+1) d h
   exact⟨i+1,y,by simpa using h1,by rw [h2];congr 1;omega,h3⟩
theorem Hy (B:List Beat):∀(xs:List Log_) (k:Nat),(dts B k xs).length+(lfs B k xs).length=xs.length
 | [],k=>rfl
 | x::xs,k=>by
  have:=Hy B xs (k+1)
  rw [dts,lfs]
  cases atF B x <;> simp <;> omega
def zL:Log_:=⟨⟨#[]⟩,⟨#[]⟩,0,0,0,⟨#[]⟩⟩
def yL (L:List Log_) (d:Dated):Log_:=L.getD d.f_i.toNat zL
def og (L:List Log_) (pl:List Play) (d:Dated):Int×Int :=
 match pl.getLast? with
 | some q=>bif decide (q.Player=(yL L d).Player)&&decide (q.At+q.Long>d.f_at)then (q.At+q.Long,d.f_at+(yL L d).Long-(q.At+q.Long))else (d.f_at,(yL L d).Long)
 | none=>(d.f_at,(yL L d).Long)
def stp (L:List Log_) (pl:List Play) (d:Dated):Option Play:=bif decide ((og L pl d).2<=0) || !momB (og L pl d).1 then none else some ⟨(yL L d).Player,(yL L d).Item,(og L pl d).1,(og L pl d).2⟩
def mZ (L:List Log_):List Play->List Dated->List Play×List Int
 | pl,[]=>(pl,[])
 | pl,d::ds=>match stp L pl d with
  | some q=>mZ L (pl++[q]) ds
  | none=>((mZ L pl ds).1,d.f_i::(mZ L pl ds).2)
theorem CP (L:List Log_) (es:List Dated):∀(ds:List Dated) (pl:List Play),mZ L pl (ds++es)=((mZ L (mZ L pl ds).1 es).1,(mZ L pl ds).2++(mZ L (mZ L pl ds).1 es).2)
 | [],pl=>rfl
 | d::ds,pl=>by
  rw [List.cons_append,mZ,mZ]
  cases stp L pl d with
  | some q=>exact CP L es ds _
  | none=>simp only [CP L es ds pl];rfl
def nL (q:Play):Prop:=0<=q.At/\q.At<=345686399999/\0<q.Long/\q.Long<=86400000
structure VD (L:List Log_) (d:Dated):Prop where
 i0:0<=d.f_i
 il:d.f_i<L.length
 a0:0<=d.f_at
 al:d.f_at<=345686399999
 l0:1<=(yL L d).Long
 ll:(yL L d).Long<=86400000
theorem VD.at {L:List Log_} {d:Dated} (h:VD L d):idx L d.f_i=some (yL L d):=by
 have h0:=h.i0
 have h1:=h.il
 unfold idx yL
 rw [if_pos h0,getD_at (by omega)]
 exact List.getElem?_eq_getElem _
theorem Db {L:List Log_} {pl:List Play} {d:Dated} {q:Play} (hd:VD L d) (hp:∀q∈pl,nL q) (h:stp L pl d=some q):nL q/\q.Player=(yL L d).Player:=by
 obtain ⟨h1,h2,h3,h4,h5,h6⟩:=hd
 unfold stp at h
 cases hc:(decide ((og L pl d).2<=0) || !momB (og L pl d).1)with
 | true=>rw [hc]at h;cases h
 | false =>
  rw [hc,cond_false]at h
  cases h
  rw [Bool.or_eq_false_iff]at hc
  obtain ⟨c1,c2⟩:=hc
  have c1:=of_decide_eq_false c1
  have c2:=yf (by simpa using c2:momB (og L pl d).1=true)
  refine⟨⟨c2.1,c2.2,by show 0<(og L pl d).2;omega,?_⟩,rfl⟩
  show (og L pl d).2<=86400000
  unfold og
  split
  ·rename_i q hq
   cases hb:(decide (q.Player=(yL L d).Player)&&decide (q.At+q.Long>d.f_at))with
   | true =>
    rw [Bool.and_eq_true]at hb
    have:=of_decide_eq_true hb.2
    simp only [cond_true];omega
   | false=>exact h6
  ·exact h6
theorem xh {L:List Log_}:∀(ds:List Dated) (pl:List Play),(∀d∈ds,VD L d)->(∀q∈pl,nL q)->(∀q∈(mZ L pl ds).1,nL q)/\(∀q∈(mZ L pl ds).1,q∈pl\/∃d∈ds,q.Player=(yL L d).Player)
 | [],pl,hd,hp=>⟨hp,λq hq => .inl hq⟩
 | d::ds,pl,hd,hp=>by
  rw [mZ]
  cases hs:stp L pl d with
  | some q =>
   obtain ⟨g1,g2⟩:=Db (hd d (by simp)) hp hs
   obtain ⟨i1,i2⟩:=xh ds (pl++[q]) (λd hd'=>hd d (List.mem_cons_of_mem _ hd')) (λz hz=>by
    rcases List.mem_append.1 hz with hz|hz
    ·exact hp z hz
    ·rw [List.mem_singleton.1 hz];exact g1)
   refine⟨i1,λz hz => ?_⟩
   rcases i2 z hz with h|⟨e,he,h⟩
   ·rcases List.mem_append.1 h with h|h
    ·exact .inl h
    ·rw [List.mem_singleton.1 h];exact .inr ⟨d,by simp,g2⟩
   ·exact .inr ⟨e,List.mem_cons_of_mem _ he,h⟩
  | none =>
   obtain ⟨i1,i2⟩:=xh ds pl (λd hd'=>hd d (List.mem_cons_of_mem _ hd')) hp
   refine⟨i1,λz hz => ?_⟩
   rcases i2 z hz with h|⟨e,he,h⟩
   ·exact .inl h
   ·exact .inr ⟨e,List.mem_cons_of_mem _ he,h⟩
theorem yN {L:List Log_}:∀(ds:List Dated) (pl:List Play),(mZ L pl ds).1.length+(mZ L pl ds).2.length=pl.length+ds.length
 | [],pl=>rfl
 | d::ds,pl=>by
  rw [mZ]
  cases stp L pl d with
  | some q=>have:=yN ds (pl++[q]) (L:=L);simp only [List.length_append,List.length_cons,List.length_nil]at *;omega
  | none=>have:=yN ds pl (L:=L);simp only [List.length_cons]at *;omega
end Go.Proofs.YtnfojnnfidnikaaGreatDoor.Law

open Go Go.Eng
namespace Go.Proofs.YtnfojnnfidnikaaGreatDoor.Law
set_option linter.unusedVariables false
set_option linter.unusedSimpArgs false
end Go.Proofs.YtnfojnnfidnikaaGreatDoor.Law

open Go Go.Eng
namespace Go.Proofs.YtnfojnnfidnikaaGreatDoor.Law
set_option linter.unusedVariables false
set_option linter.unusedSimpArgs false
theorem mb {α β:Type} {E:Option α} {f:α->Option β} {P:α->Prop} {Q:β->Prop} (h:∃a,E=some a/\P a) (k:∀a,P a->∃r,f a=some r/\Q r):∃r,E.bind f=some r/\Q r:=by
 obtain ⟨a,h1,h2⟩:=h
 obtain ⟨r,h3,h4⟩:=k a h2
 exact⟨r,by rw [h1];exact h3,h4⟩
theorem mr {β:Type} {a:β} {Q:β->Prop} (h:Q a):∃r,some a=some r/\Q r:=⟨a,rfl,h⟩
theorem flip_w (s:Stream) (n:Int) {b:Int} (hs:Ok s b) (hb:b<=1000000) (h:1<=n) (hn:n<=1000):∃a,jC s n=some a/\Ok a.2 (b+1):=by
 obtain ⟨r,s',h1,h2⟩:=flip_ok s n hs hb h hn
 exact⟨(r,s'),h1,h2⟩
theorem F4 (s:Stream) (l:List Int) {b:Int} (hs:Ok s b) (hb:b<=1000000) (h:1<=l.length) (hn:l.length<=1000):∃a,dN s l=some a/\(a.1∈l/\Ok a.2 (b+1)):=by
 obtain ⟨r,s',h1,h2,h3⟩:=GG s l hs hb h hn
 exact⟨(r,s'),h1,h2,h3⟩
theorem some_w (s:Stream) (l:List ByteArray) {b:Int} (hs:Ok s b) (hb:b<=1000000) (h:1<=l.length) (hn:l.length<=1000):∃a,jB s l=some a/\(a.1∈l/\Ok a.2 (b+1)):=by
 obtain ⟨r,s',h1,h2,h3⟩:=some_ok s l hs hb h hn
 exact⟨(r,s'),h1,h2,h3⟩
theorem range_w (s:Stream) (lo hi:Int) {b:Int} (hs:Ok s b) (hb:b<=1000000) (h:lo<=hi) (h1 : -1000000000000<=lo) (h2:hi<=1000000000000):∃a,fe s lo hi=some a/\(lo<=a.1/\a.1<=hi/\Ok a.2 (b+1)):=by
 obtain ⟨r,s',k1,k2,k3,k4⟩:=tK s lo hi hs hb h h1 h2
 exact⟨(r,s'),k1,k2,k3,k4⟩
theorem NM (last:ByteArray) {x:Log_} (hl:ShortK last) (h:Dt x):sN last x=some (mk (last.data.toList++[32]++Iq x)):=by
 have l1:=Mq h;have l2:=sJ hl
 unfold sN
 rw [KA h,show last=BB last.data.toList from rfl,show (⟨#[32]⟩:ByteArray)=BB [32] from rfl]
 simp only [ob_]
 rw [EL _ _ (by simp only [List.length_append,List.length_cons,List.length_nil];omega)];simp only [ob_]
 rw [EL _ _ (by simp only [List.length_append,List.length_cons,List.length_nil];omega)];simp only [ob_]
 rw [markR _ (by simp only [List.length_append,List.length_cons,List.length_nil];omega)]
 rfl
end Go.Proofs.YtnfojnnfidnikaaGreatDoor.Law

