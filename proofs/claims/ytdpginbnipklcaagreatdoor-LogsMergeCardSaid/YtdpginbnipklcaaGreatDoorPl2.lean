/-
  THE PLAIN LAW (part 2).
-/
import Derived.Test.YtdpginbnipklcaaGreatDoorPl1
import Derived.Test.YtdpginbnipklcaaGreatDoorEng5
open Go Go.Eng
namespace Go.Proofs.YtdpginbnipklcaaGreatDoor.Law
set_option linter.unusedVariables false
set_option linter.unusedSimpArgs false
def lW (o b:Beat):Prop:=lt o.Player b.Player\/o.Player=b.Player/\o.At<b.At
instance (o b:Beat):Decidable (lW o b):=by unfold lW lt;infer_instance
def GV (p:Option Beat) (b:Beat):Int :=
 bif !sj b.Player then 5 else bif !oq b.At || !oq b.Clock then 1 else match p with
  | none=>0
  | some o=>if lW o b then (if b.Player=o.Player/\b.Clock<=o.Clock then 16 else 0)else 7
def mK (l:List Beat):Int:=bif decide (l.length>500)then 2 else BM GV none l
theorem yf (a b:Beat):∃n,jZ a b=some n/\(n>=0↔¬lW a b):=by
 refine⟨_,by simp only [jZ,vw,Bc,JD,ob_];rfl,?_⟩
 unfold or0 lW HZ
 rcases xu a.Player b.Player with⟨h,k⟩|⟨h,k⟩|⟨h,k⟩
 ·rw [k];simp [h]
 ·rw [k,h]
  have:=zZ b.Player
  by_cases h1:a.At<b.At
  ·simp [h1]
  ·by_cases h2:a.At>b.At
   ·simp [h1,h2,this]
   ·simp [h1,h2,this]
 ·rw [k]
  have h1:¬lt a.Player b.Player:=λh2=>zZ _ (lt_trans h h2)
  have h2:a.Player≠b.Player:=λe=>zZ _ (e ▸ h)
  simp [h1,h2]
theorem beatsK (l:List Beat) (hs:∀x∈l,GoodB x) (hl:l.length<=1000000):kR l=some (mK l):=by
 unfold kR mK
 have e:decide ((l.length:Int)>500)=decide (l.length>500):=decide_eq_decide.2 (by omega)
 rw [e]
 cases decide (l.length>500)with
 | true=>rfl
 | false =>
  simp only [cond_false]
  rw [iX (by omega),uf (stp:=GV) l l 0 rfl (λk x hx => ?_)]
  ·simp only [ob_,wO];rfl
  ·have hxs:iR x.Player:=hs x (List.mem_of_getElem? hx)
   have eo:kC x.Clock 0 345686399999=some (!oq x.Clock):=by rw [zF];simp [oq]
   simp only [kM,vN x.Player (by unfold iR at hxs;omega),tN,eo,ob_,GV]
   cases hk:sj x.Player with
   | false=>rfl
   | true =>
   simp only [Bool.not_true,cond_false]
   cases oq x.At with
   | false=>rfl
   | true =>
   simp only [Bool.not_true,cond_false,Bool.false_or,ob_]
   cases oq x.Clock with
   | false=>rfl
   | true =>
   simp only [Bool.not_true,cond_false]
   by_cases hk0:0<k
   ·obtain ⟨y,h1,h2⟩:=Ae hx hk0 (by omega)
    have hd:decide ((k:Int)>0)=true:=by simp;omega
    obtain ⟨n,hn,hn2⟩:=yf y x
    simp only [hd,cond_true,h1,ob_,xG,if_neg (show ¬k=0 by omega),h2,hn]
    by_cases hb:lW y x
    ·have:decide (n>=0)=false:=by simp only [decide_eq_false_iff_not];exact λh=>(hn2.1 h) hb
     simp only [this,cond_false,if_pos hb,Ga]
     by_cases he:x.Player=y.Player
     ·by_cases hc:x.Clock<=y.Clock
      ·simp [he,hc,yC]
      ·simp [he,hc,yC]
     ·simp [he,yC]
    ·have:decide (n>=0)=true:=decide_eq_true (hn2.2 hb)
     simp only [this,cond_true,if_neg hb,yC];rfl
   ·have hk0:k=0:=by omega
    subst hk0
    rfl
theorem before_trans {a b c:Beat} (h:lW a b) (k:lW b c):lW a c:=by
 rcases h with h|⟨h1,h2⟩
 ·rcases k with k|⟨k1,_⟩
  ·exact .inl (lt_trans h k)
  ·exact .inl (k1 ▸ h)
 ·rcases k with k|⟨k1,k2⟩
  ·exact .inl (h1 ▸ k)
  ·exact .inr ⟨h1.trans k1,by omega⟩
theorem bStp_0 {p:Option Beat} {b:Beat} (h:GV p b=0):oq b.At=true/\oq b.Clock=true/\∀o,p=some o->lW o b:=by
 unfold GV at h
 cases hk:sj b.Player with
 | false=>rw [hk]at h;cases h
 | true =>
 rw [hk]at h
 simp only [Bool.not_true,cond_false]at h
 cases ha:oq b.At with
 | false=>rw [ha]at h;cases h
 | true =>
 cases hc:oq b.Clock with
 | false=>rw [ha,hc]at h;cases h
 | true =>
 rw [ha,hc]at h
 simp only [Bool.not_true,Bool.or_self,cond_false]at h
 refine⟨rfl,rfl,λo ho => ?_⟩
 subst ho
 simp only at h
 by_cases hb:lW o b
 ·exact hb
 ·rw [if_neg hb]at h;cases h
def Ci:List Beat->Prop
 | []=>True
 | x::xs=>(∀y∈xs,lW x y)/\Ci xs
theorem xS:∀{l:List Beat} {p:Option Beat},BM GV p l=0->(∀o,p=some o->∀y∈l,lW o y)/\Ci l/\∀x∈l,oq x.At=true/\oq x.Clock=true
 | [],_,_=>⟨λ_ _ y hy=>(by cases hy),trivial,λx hx=>(by cases hx)⟩
 | x::xs,p,h=>by
  obtain ⟨h1,h2⟩:=chkG_0 h
  obtain ⟨i1,i2,i3⟩:=xS h2
  obtain ⟨j1,j2,j3⟩:=bStp_0 h1
  refine⟨λo ho y hy => ?_,⟨i1 x rfl,i2⟩,λy hy => ?_⟩
  ·rcases List.mem_cons.1 hy with rfl|hy
   ·exact j3 o ho
   ·exact before_trans (j3 o ho) (i1 x rfl y hy)
  ·rcases List.mem_cons.1 hy with rfl|hy
   ·exact⟨j1,j2⟩
   ·exact i3 y hy
theorem Jl {l:List Beat} (h:mK l=0):Ci l/\∀x∈l,oq x.At=true/\oq x.Clock=true:=by
 unfold mK at h
 cases hl:decide (l.length>500)with
 | true=>rw [hl]at h;cases h
 | false=>rw [hl,cond_false]at h;exact (xS h).2
end Go.Proofs.YtdpginbnipklcaaGreatDoor.Law

namespace Go.Eng
set_option linter.unusedVariables false
set_option linter.unusedSimpArgs false
end Go.Eng

open Go Go.Eng
namespace Go.Proofs.YtdpginbnipklcaaGreatDoor.Law
set_option linter.unusedVariables false
set_option linter.unusedSimpArgs false
structure Cut (m:List Beat_) (n:Int) (k:Nat):Prop where
 le:k<=m.length
 lo:∀i (h:i<m.length),i<k->m[i].f_from<=n
 hi:∀(h:k<m.length),n<m[k].f_from
theorem cut_ex (m:List Beat_) (n:Int):∃k,Cut m n k:=by
 induction m with
 | nil=>exact⟨0,⟨Nat.le_refl _,λi h=>absurd h (Nat.not_lt_zero i),λh=>absurd h (Nat.lt_irrefl 0)⟩⟩
 | cons x m ih =>
  by_cases hx:x.f_from<=n
  ·obtain ⟨k,h1,h2,h3⟩:=ih
   refine⟨k+1,⟨by simp;omega,λi h hik => ?_,λh => ?_⟩⟩
   ·cases i with
    | zero=>exact hx
    | succ i=>exact h2 i (by simpa using h) (by omega)
   ·exact h3 (by simpa using h)
  ·exact⟨0,⟨Nat.zero_le _,λi h hik=>absurd hik (Nat.not_lt_zero i),λh=>by simpa using hx⟩⟩
def jO (x:Int):Int×Int:=bif oq x then (x,0)else (0,11)
def farB (p q:Beat_):Bool:=decide (w64 (q.f_from-p.f_from)>2592000000)||decide (w64 (q.f_to-p.f_to)>2592000000)
def between (p q:Beat_) (n:Int):Int:=w64 (p.f_to+w64 ((w64 ((w64 (n-p.f_from))*(w64 (q.f_to-p.f_to)))).tdiv (w64 (q.f_from-p.f_from))))
def z2:Beat_:=⟨0,0⟩
def mapV (m:List Beat_) (n:Int) (k:Nat):Int×Int :=
 if m.length=0 then (0,8)else if k=0 then jO ((m.getD 0 z2).f_to+n-(m.getD 0 z2).f_from)else
 if k=m.length then jO (w64 (w64 ((m.getD (k-1) z2).f_to+n)-(m.getD (k-1) z2).f_from))else
 bif farB (m.getD (k-1) z2) (m.getD k z2)then (0,2)else jO (between (m.getD (k-1) z2) (m.getD k z2) n)
def inM (x:Int):Prop:=0<=x/\x<=345686399999
def BndM (m:List Beat_):Prop:=∀x∈m,inM x.f_from/\inM x.f_to
theorem getD_at {α:Type} {m:List α} {i:Nat} {z:α} (h:i<m.length):m.getD i z=m[i]:=by
 rw [List.getD_eq_getElem?_getD,List.getElem?_eq_getElem h];rfl
theorem CE (x:Int):((jr x).bind λr=>bif (!r)then some (0,11)else some (x,0))=some (jO x):=by
 rw [tN,ob_];unfold jO
 cases oq x <;> rfl
theorem xU {m:List Beat_} {n:Int} {k:Nat} (hc:Cut m n k) (hl:m.length<=1000000):∀(d j:Nat),j+d=k->iZ (λs=>jc m n s) (d+1) (j:Int)=some (.go (k:Int))
 | 0,j,h=>by
  have hj:j=k:=by omega
  subst hj
  have hst:jc m n (j:Int)=some (.brk (j:Int)):=by
   unfold jc
   by_cases hlt:j<m.length
   ·have h1:decide ((j:Int)<(m.length:Int))=true:=by simp;omega
    have h2:decide ((m[j]).f_from<=n)=false:=by have:=hc.hi hlt;simp;omega
    simp only [h1,cond_true,nH,List.getElem?_eq_getElem hlt,ob_,h2,cond_false]
   ·have h1:decide ((j:Int)<(m.length:Int))=false:=by simp;omega
    simp only [h1,cond_false,ob_]
  rw [iZ,hst];rfl
 | d+1,j,h=>by
  have hjk:j<k:=by omega
  have hlt:j<m.length:=by have:=hc.le;omega
  have hst:jc m n (j:Int)=some (.go ((j+1:Nat):Int)):=by
   unfold jc
   have h1:decide ((j:Int)<(m.length:Int))=true:=by simp;omega
   have h2:decide ((m[j]).f_from<=n)=true:=decide_eq_true (hc.lo j hlt hjk)
   simp only [h1,cond_true,nH,List.getElem?_eq_getElem hlt,ob_,h2]
   rw [bG (by omega)];congr 2
  rw [iZ,hst,ob_]
  exact xU hc hl d (j+1) (by omega)
theorem G8 {m:List Beat_} {n:Int} {k:Nat} (hc:Cut m n k) (hb:BndM m) (hn:inM n) (hl:m.length<=1000000):nG m n=some (mapV m n k):=by
 unfold nG mapV
 by_cases h0:m.length=0
 ·have:((m.length:Int)==0)=true:=by simp [h0]
  simp only [this,cond_true,if_pos h0]
 ·have:((m.length:Int)==0)=false:=by simpa using h0
  have hlo:=j6 (xU hc hl k 0 (by omega))
  rw [show ((0:Nat):Int)=0 from rfl]at hlo
  simp only [this,cond_false,if_neg h0,hlo,ob_,jd]
  by_cases hk0:k=0
  ·subst hk0
   have h1:(((0:Nat):Int)==0)=true:=rfl
   have h2:idx m 0=some (m.getD 0 z2):=by
    have:=nH m 0
    rw [show ((0:Nat):Int)=0 from rfl]at this
    rw [this,getD_at (by omega)];exact List.getElem?_eq_getElem _
   have hm:m.getD 0 z2∈m:=by rw [getD_at (by omega)];exact List.getElem_mem _
   obtain ⟨⟨b1,b2⟩,b3,b4⟩:=hb _ hm
   obtain ⟨n1,n2⟩:=hn
   simp only [h1,cond_true,h2,ob_,if_true]
   rw [bG (n:=(m.getD 0 z2).f_from-n) (by omega),bG (by omega),show (m.getD 0 z2).f_to-((m.getD 0 z2).f_from-n)=(m.getD 0 z2).f_to+n-(m.getD 0 z2).f_from by omega]
   exact CE _
  ·have h1:((k:Int)==0)=false:=by simpa using hk0
   have hle:=hc.le
   have hw:w64 ((k:Int)-1)=((k-1:Nat):Int):=by rw [bG (by omega)];omega
   have hp:idx m (w64 ((k:Int)-1))=some (m.getD (k-1) z2):=by rw [hw,nH,getD_at (by omega)];exact List.getElem?_eq_getElem _
   have hpl:(m.getD (k-1) z2).f_from<=n:=by rw [getD_at (by omega)];exact hc.lo _ _ (by omega)
   simp only [h1,cond_false,if_neg hk0,hp,ob_]
   by_cases hkl:k=m.length
   ·have h2:((k:Int)==(m.length:Int))=true:=by simp [hkl]
    simp only [h2,cond_true,if_pos hkl]
    exact CE _
   ·have hlt:k<m.length:=by omega
    have h2:((k:Int)==(m.length:Int))=false:=by simp;omega
    have hq:idx m (k:Int)=some (m.getD k z2):=by rw [nH,getD_at hlt];exact List.getElem?_eq_getElem _
    have hqh:n<(m.getD k z2).f_from:=by rw [getD_at hlt];exact hc.hi hlt
    have hbp:=hb (m.getD (k-1) z2) (by rw [getD_at (by omega)];exact List.getElem_mem _)
    have hbq:=hb (m.getD k z2) (by rw [getD_at hlt];exact List.getElem_mem _)
    obtain ⟨⟨b1,b2⟩,_⟩:=hbp
    obtain ⟨⟨b5,b6⟩,_⟩:=hbq
    have hdne:w64 ((m.getD k z2).f_from-(m.getD (k-1) z2).f_from)≠0:=by rw [bG (by omega)];omega
    simp only [h2,cond_false,if_neg hkl,hq,ob_]
    have hfar:(bif (decide ((w64 ((m.getD k z2).f_from-(m.getD (k-1) z2).f_from))>2592000000))then some true else some (decide ((w64 ((m.getD k z2).f_to-(m.getD (k-1) z2).f_to))>2592000000)))=some (farB (m.getD (k-1) z2) (m.getD k z2)):=by
     unfold farB
     cases decide ((w64 ((m.getD k z2).f_from-(m.getD (k-1) z2).f_from))>2592000000) <;> rfl
    rw [hfar,ob_]
    cases farB (m.getD (k-1) z2) (m.getD k z2)with
    | true=>rfl
    | false =>
     simp only [cond_false,EU,if_neg hdne,ob_]
     exact CE _
def gB (b:Beat):Beat_:=⟨b.Clock,b.At⟩
end Go.Proofs.YtdpginbnipklcaaGreatDoor.Law

open Go Go.Eng
namespace Go.Proofs.YtdpginbnipklcaaGreatDoor.Law
set_option linter.unusedVariables false
set_option linter.unusedSimpArgs false
def ofB (p:ByteArray) (b:Beat):Bool:=decide (b.Player=p)
def gK (b:Beat):Beat_:=⟨b.At,b.Clock⟩
theorem EM (l:List Beat) (p:ByteArray) (back:Bool) (hl:l.length<=1000000):mf l p back=some ((l.filter (ofB p)).map (bif back then gK else gB)):=by
 have run:∀(xs:List Beat) (k:Nat) (acc:List Beat_),acc.length+xs.length<=1000000->jU (λk x s=>jR p back k x s) xs k acc=some (.go (acc++(xs.filter (ofB p)).map (bif back then gK else gB))):=by
  intro xs
  induction xs with
  | nil=>intro k acc _;simp [jU]
  | cons x xs ih =>
   intro k acc hlen
   simp only [List.length_cons]at hlen
   have hst:jR p back k x acc=some (.go (acc++(bif ofB p x then [(bif back then gK else gB) x]else []))):=by
    have hsn:sNe x.Player p = !ofB p x:=vO _ _
    unfold jR
    rw [hsn]
    cases ofB p x with
    | false=>simp
    | true =>
     simp only [Bool.not_true,cond_false,cond_true]
     cases back with
     | true=>simp only [cond_true,oW acc [_] (show acc.length+1<=_ by omega),ob_];rfl
     | false=>simp only [cond_false,oW acc [_] (show acc.length+1<=_ by omega),ob_];rfl
   rw [jU,hst,ob_]
   simp only
   rw [ih _ _ (by cases ofB p x <;> simp <;> omega),List.filter_cons]
   cases ofB p x <;> simp
 unfold mf
 rw [iX (by omega),run l 0 [] (by simpa using hl),ob_,jd,List.nil_append]
def tu (p:ByteArray):Int:=bif sj p then 0 else 5
def Dk (n:Int):Int:=bif oq n then 0 else 1
theorem bnd_of {l:List Beat} {p:ByteArray} (h:∀x∈l,oq x.At=true/\oq x.Clock=true) (back:Bool):BndM ((l.filter (ofB p)).map (bif back then gK else gB)):=by
 intro y hy
 obtain ⟨x,hx,rfl⟩:=List.mem_map.1 hy
 obtain ⟨h1,h2⟩:=h x (List.mem_filter.1 hx).1
 cases back with
 | true=>exact⟨zz h1,zz h2⟩
 | false=>exact⟨zz h2,zz h1⟩
theorem Ju (l:List Beat) (p:ByteArray) (n:Int) (back:Bool) (hs:∀x∈l,GoodB x) (hl:l.length<=1000000) (hp:iR p) :
  ∃k,(or0 (mK l) (or0 (tu p) (Dk n))=0->Cut ((l.filter (ofB p)).map (bif back then gK else gB)) n k) /\
   mW l p n back=some (bif or0 (mK l) (or0 (tu p) (Dk n))==0 then mapV ((l.filter (ofB p)).map (bif back then gK else gB)) n k else (0,or0 (mK l) (or0 (tu p) (Dk n)))):=by
 obtain ⟨k,hk⟩:=cut_ex ((l.filter (ofB p)).map (bif back then gK else gB)) n
 refine⟨k,λ_=>hk,?_⟩
 unfold mW
 simp only [beatsK l hs hl,ob_,vN p (by unfold iR at hp;omega),tN,EM l p back hl]
 cases hb:mK l==0 with
 | false =>
  have h1:(mK l != 0)=true:=by simp [bne,hb]
  have h2:or0 (mK l) (or0 (tu p) (Dk n))=mK l:=by unfold or0;rw [hb];rfl
  simp only [h1,cond_true,h2,hb,cond_false]
 | true =>
  have h1:(mK l != 0)=false:=by simp [bne,hb]
  have h0:mK l=0:=eq_of_beq hb
  have h2:or0 (mK l) (or0 (tu p) (Dk n))=or0 (tu p) (Dk n):=by rw [h0];rfl
  simp only [h1,cond_false,h2]
  unfold tu Dk or0
  cases sj p with
  | false=>rfl
  | true =>
   simp only [Bool.not_true,cond_false,cond_true]
   cases hm:oq n with
   | false=>rfl
   | true =>
    simp only [Bool.not_true,cond_false,cond_true]
    have hlen:(l.filter (ofB p)).length<=1000000:=Nat.le_trans (List.length_filter_le _ _) hl
    rw [G8 hk (bnd_of (Jl h0).2 back) (zz hm) (by simpa using hlen)]
    rfl
theorem eta2 {α β:Type} (o:Option (α×β)):(o.bind λr=>some (r.1,r.2))=o:=by cases o <;> rfl
theorem rightA (b:List Beat) (p:ByteArray) (n:Int):qo b p n=mW b p n false:=eta2 _
theorem G9:pz=some true:=by
 unfold pz
 rw [rightA]
 obtain ⟨k,hk,h⟩:=Ju ([(⟨(⟨#[112]⟩:ByteArray),0,100⟩:Beat),(⟨(⟨#[112]⟩:ByteArray),1000,1300⟩:Beat)]:List Beat) (⟨#[112]⟩:ByteArray) 700 false
  (by intro x hx;simp only [List.mem_cons,List.not_mem_nil,or_false]at hx;rcases hx with rfl | rfl <;> exact jf rfl) (by simp) (jf rfl)
 rw [h]
 have h0:or0 (mK ([(⟨(⟨#[112]⟩:ByteArray),0,100⟩:Beat),(⟨(⟨#[112]⟩:ByteArray),1000,1300⟩:Beat)]:List Beat)) (or0 (tu (⟨#[112]⟩:ByteArray)) (Dk 700))=0:=by decide +kernel
 have hc:=hk h0
 have hf:(([(⟨(⟨#[112]⟩:ByteArray),0,100⟩:Beat),(⟨(⟨#[112]⟩:ByteArray),1000,1300⟩:Beat)]:List Beat).filter (ofB (⟨#[112]⟩:ByteArray))).map (bif false then gK else gB)=[⟨100,0⟩,⟨1300,1000⟩]:=by kernel_rfl
 have hk1:k=1:=by
  rw [hf]at hc
  have h1:=hc.le
  have h2:k<=2:=h1
  by_cases e0:k=0
  ·subst e0;have:=hc.hi (by decide);simp at this
  ·by_cases e2:k=2
   ·subst e2;have:=hc.lo 1 (by decide) (by decide);simp at this
   ·omega
 subst hk1
 rw [h0,hf]
 decide +kernel
end Go.Proofs.YtdpginbnipklcaaGreatDoor.Law

open Go Go.Eng
namespace Go.Proofs.YtdpginbnipklcaaGreatDoor.Law
set_option linter.unusedVariables false
set_option linter.unusedSimpArgs false
def sumM (last:ByteArray) (x:Log_):ByteArray:=mk (last.data.toList++[32]++xX x)
theorem sumP (last:ByteArray) {x:Log_} (hl:iR last) (h:GoodL x):mO last x=some (sumM last x):=by
 have l1:=Br h;have l2:=mR hl
 unfold mO
 rw [line_eq h,show last=BB last.data.toList from rfl,show (⟨#[32]⟩:ByteArray)=BB [32] from rfl]
 simp only [ob_]
 rw [oQ _ _ (by simp only [List.length_append,List.length_cons,List.length_nil];omega)];simp only [ob_]
 rw [oQ _ _ (by simp only [List.length_append,List.length_cons,List.length_nil];omega)];simp only [ob_]
 rw [markP _ (by simp only [List.length_append,List.length_cons,List.length_nil];omega)]
 rfl
theorem sumR (last:ByteArray) {x:Log_} (hl:iR last) (h:GoodL x):lY last x=some (sumM last x):=DX last hl h
theorem Aj (l2:List Log_):∀(xs:List Log_) (k:Nat),l2.drop k=xs->jU (λk x s=>bZ l2 k x s) xs k ()=some (.go ())
 | [],k,h=>rfl
 | x::xs,k,h=>by
  have hstep:bZ l2 k x ()=some (.go ()):=by
   unfold bZ
   rw [iW h]
   simp
  simp only [jU,hstep,ob_]
  exact Aj l2 xs (k+1) (bR h)
theorem xV (l:List Log_) (hl:l.length<=1000000000):dw l l=some true:=by
 unfold dw
 have e:((l.length:Int) != (l.length:Int))=false:=by simp
 rw [e,cond_false,iX (by omega),Aj l l 0 rfl]
 rfl
end Go.Proofs.YtdpginbnipklcaaGreatDoor.Law

namespace Go.Proofs.YtdpginbnipklcaaGreatDoor.Law
open Go Go.Eng
set_option linter.unusedVariables false
set_option linter.unusedSimpArgs false
end Go.Proofs.YtdpginbnipklcaaGreatDoor.Law

open Go Go.Eng
namespace Go.Proofs.YtdpginbnipklcaaGreatDoor.Law
set_option linter.unusedVariables false
set_option linter.unusedSimpArgs false
structure SeqL (pl:ByteArray) (n:Nat) (l:List Log_):Prop where
 good:∀x∈l,GoodL x
 form:∀x∈l,formF x=0
 mark:∀x∈l,markB x.Sum=true
 player:∀x∈l,x.Player=pl
 no:∀(i:Nat) (x:Log_),l[i]? = some x->x.No=((n+i:Nat):Int)+1
 few:l.length<=1000
theorem SeqL.tail {pl:ByteArray} {n:Nat} {x:Log_} {l:List Log_} (h:SeqL pl n (x::l)):SeqL pl (n+1) l :=
 ⟨λy hy=>h.good y (List.mem_cons_of_mem _ hy),λy hy=>h.form y (List.mem_cons_of_mem _ hy),λy hy=>h.mark y (List.mem_cons_of_mem _ hy),λy hy=>h.player y (List.mem_cons_of_mem _ hy),
  λi y hi=>by rw [h.no (i+1) y (by simpa using hi),show n+(i+1)=n+1+i by omega],by have:=h.few;simp only [List.length_cons]at this;omega⟩
theorem SeqL.drop {pl:ByteArray}:∀(k n:Nat) {l:List Log_},SeqL pl n l->SeqL pl (n+k) (l.drop k)
 | 0,n,l,h=>h
 | k+1,n,[],h=>by
  rw [List.drop_nil]
  exact⟨λx hx=>(by cases hx),λx hx=>(by cases hx),λx hx=>(by cases hx),λx hx=>(by cases hx),λi x hi=>(by simp at hi),(by simp)⟩
 | k+1,n,x::l,h=>by
  have:=SeqL.drop k (n+1) h.tail
  rw [show n+(k+1)=n+1+k by omega]
  exact this
theorem SeqL.take {pl:ByteArray} (k:Nat) {n:Nat} {l:List Log_} (h:SeqL pl n l):SeqL pl n (l.take k) :=
 ⟨λy hy=>h.good y (List.mem_of_mem_take hy),λy hy=>h.form y (List.mem_of_mem_take hy),λy hy=>h.mark y (List.mem_of_mem_take hy),λy hy=>h.player y (List.mem_of_mem_take hy),
  λi y hi=>h.no i y (by
   rw [List.getElem?_take]at hi
   split at hi
   ·exact hi
   ·cases hi),by have:=h.few;rw [List.length_take];omega⟩
end Go.Proofs.YtdpginbnipklcaaGreatDoor.Law

namespace Go.Eng
set_option linter.unusedVariables false
set_option linter.unusedSimpArgs false
def p9 {α:Type} (cmp:α->α->Option Int) (a_2:Int) (s_21:(List α)×Int):Option (Ctl ((List α)×Int) (Unit)) :=
 (bif (decide (s_21.2>a_2))then (inR s_21.2 s_21.1).bind λ_=>(s_21.1[(0+(s_21.2).toNat)]?).bind λe_30=>(inR (w64 (s_21.2-1)) s_21.1).bind λ_=>(s_21.1[(0+((w64 (s_21.2-1))).toNat)]?).bind λe_33=>(cmp e_30 e_33).bind λr_35=>some (decide (r_35<0))else some false).bind λv_26=>bif v_26 then (inR (w64 (s_21.2-1)) s_21.1).bind λ_=>(s_21.1[(0+((w64 (s_21.2-1))).toNat)]?).bind λe_39=>(inR s_21.2 s_21.1).bind λ_=>(s_21.1[(0+(s_21.2).toNat)]?).bind λe_42=>(inR s_21.2 s_21.1).bind λ_=>(s_21.1[(0+(s_21.2).toNat)]?).bind λe_45=>(inR (w64 (s_21.2-1)) (s_21.1.set (0+(s_21.2).toNat) e_39)).bind λ_=>((s_21.1.set (0+(s_21.2).toNat) e_39)[(0+((w64 (s_21.2-1))).toNat)]?).bind λe_48=>some (.go (((s_21.1.set (0+(s_21.2).toNat) e_39).set (0+((w64 (s_21.2-1))).toNat) e_42),(w64 (s_21.2-1))))else some (.brk (s_21.1,s_21.2))
noncomputable def sI {α:Type} (cmp:α->α->Option Int) (b_3:Int) (a_2:Int) (s_10:(List α)×Int):Option (Ctl ((List α)×Int) (Unit)) :=
 bif (decide (s_10.2<b_3))then (bn (s_10.1,s_10.2) (λs=>p9 cmp a_2 s)).bind λo_24=>aY o_24 (λs_21=>some (.go (s_21.1,(w64 (s_10.2+1))))) (λ_=>none)else some (.brk (s_10.1,s_10.2))
noncomputable def xy {α:Type} (cmp:α->α->Option Int) (data_1:(List α)) (a_2:Int) (b_3:Int):Option ((List α)) :=
 (bn (data_1,(w64 (a_2+1))) (λs=>sI cmp b_3 a_2 s)).bind λo_13=>aY o_13 (λs_10=>some s_10.1) (λ_=>none)
theorem Fx {α:Type} {xs:List α} {i:Nat} (h:i<xs.length):inR (i:Int) xs=some ():=by
 unfold inR;rw [if_pos ⟨by omega,by simpa using h⟩]
section
variable {α:Type} {cmp:α->α->Option Int} {le:α->α->Prop} {p:α->Prop}
end
end Go.Eng

