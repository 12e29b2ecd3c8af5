/-
  THE PLAIN LAW (part 2).
-/
import Derived.Test.YtmkljmjhcegapaaGreatDoorPl1
import Derived.Test.YtmkljmjhcegapaaGreatDoorEng5
open Go Go.Eng
namespace Go.Proofs.YtmkljmjhcegapaaGreatDoor.Law
set_option linter.unusedVariables false
set_option linter.unusedSimpArgs false
def xe (o b:Beat):Prop:=lt o.Player b.Player\/o.Player=b.Player/\o.At<b.At
instance (o b:Beat):Decidable (xe o b):=by unfold xe lt;infer_instance
def bStp (p:Option Beat) (b:Beat):Int :=
 bif !keyB b.Player then 5 else bif !momB b.At || !momB b.Clock then 1 else match p with
  | none=>0
  | some o=>if xe o b then (if b.Player=o.Player/\b.Clock<=o.Clock then 16 else 0)else 7
def Ms (l:List Beat):Int:=bif decide (l.length>500)then 2 else vN bStp none l
theorem DF (a b:Beat):∃n,jc a b=some n/\(n>=0↔¬xe a b):=by
 refine⟨_,by simp only [jc,xX,wP,Mf,ob_];rfl,?_⟩
 unfold JD xe xZ
 rcases wZ a.Player b.Player with⟨h,k⟩|⟨h,k⟩|⟨h,k⟩
 ·rw [k];simp [h]
 ·rw [k,h]
  have:=kJ b.Player
  by_cases h1:a.At<b.At
  ·simp [h1]
  ·by_cases h2:a.At>b.At
   ·simp [h1,h2,this]
   ·simp [h1,h2,this]
 ·rw [k]
  have h1:¬lt a.Player b.Player:=λh2=>kJ _ (lt_trans h h2)
  have h2:a.Player≠b.Player:=λe=>kJ _ (e ▸ h)
  simp [h1,h2]
theorem beatsK (l:List Beat) (hs:∀x∈l,GoodB x) (hl:l.length<=1000000):fT l=some (Ms l):=by
 unfold fT Ms
 have e:decide ((l.length:Int)>500)=decide (l.length>500):=decide_eq_decide.2 (by omega)
 rw [e]
 cases decide (l.length>500)with
 | true=>rfl
 | false =>
  simp only [cond_false]
  rw [jG (by omega),zW (stp:=bStp) l l 0 rfl (λk x hx => ?_)]
  ·simp only [ob_,F9];rfl
  ·have hxs:ShortK x.Player:=hs x (List.mem_of_getElem? hx)
   have eo:aU x.Clock 0 345686399999=some (!momB x.Clock):=by rw [uq];simp [momB]
   simp only [iU,ng x.Player (by unfold ShortK at hxs;omega),uB,eo,ob_,bStp]
   cases hk:keyB x.Player with
   | false=>rfl
   | true =>
   simp only [Bool.not_true,cond_false]
   cases momB x.At with
   | false=>rfl
   | true =>
   simp only [Bool.not_true,cond_false,Bool.false_or,ob_]
   cases momB x.Clock with
   | false=>rfl
   | true =>
   simp only [Bool.not_true,cond_false]
   by_cases hk0:0<k
   ·obtain ⟨y,h1,h2⟩:=GZ hx hk0 (by omega)
    have hd:decide ((k:Int)>0)=true:=by simp;omega
    obtain ⟨n,hn,hn2⟩:=DF y x
    simp only [hd,cond_true,h1,ob_,zK,if_neg (show ¬k=0 by omega),h2,hn]
    by_cases hb:xe y x
    ·have:decide (n>=0)=false:=by simp only [decide_eq_false_iff_not];exact λh=>(hn2.1 h) hb
     simp only [this,cond_false,if_pos hb,yO]
     by_cases he:x.Player=y.Player
     ·by_cases hc:x.Clock<=y.Clock
      ·simp [he,hc,x8]
      ·simp [he,hc,x8]
     ·simp [he,x8]
    ·have:decide (n>=0)=true:=decide_eq_true (hn2.2 hb)
     simp only [this,cond_true,if_neg hb,x8];rfl
   ·have hk0:k=0:=by omega
    subst hk0
    rfl
end Go.Proofs.YtmkljmjhcegapaaGreatDoor.Law

namespace Go.Eng
set_option linter.unusedVariables false
set_option linter.unusedSimpArgs false
def EF {α:Type} (f:α->Option Bool) (xs:List α) (k x:Nat) (s:Unit):Option (Ctl Unit Int) :=
 (inR (k:Int) xs).bind λ_=>(xs[(0+((k:Int)).toNat)]?).bind λe=>(f e).bind λr=>bif r then some (.ret (k:Int))else some (.go ())
def ixF {α:Type} (f:α->Option Bool) (xs:List α):Option Int :=
 (forL (List.range ((xs.length:Int)).toNat) () (λk x s=>EF f xs k x s)).bind λo=>thenC o (λ_=>some (-1)) (λr=>some r)
def xc {α:Type} (f:α->Option Bool) (s:List α×Int×Int):Option (Ctl (List α×Int×Int) Unit) :=
 bif (decide (s.2.2<(s.1.length:Int)))then (inR s.2.2 s.1).bind λ_=>(s.1[(0+(s.2.2).toNat)]?).bind λe=>(f e).bind λr=>(bif (!r)then (inR s.2.1 s.1).bind λ_=>(s.1[(0+(s.2.1).toNat)]?).bind λe_29=>some ((s.1.set (0+(s.2.1).toNat) e),(w64 (s.2.1+1)))else some (s.1,s.2.1)).bind λv=>some (.go (v.1,v.2,(w64 (s.2.2+1))))else some (.brk (s.1,s.2.1,s.2.2))
theorem uu {α:Type} {xs:List α} {k:Nat} (h:k<xs.length):inR (k:Int) xs=some ():=by unfold inR;rw [if_pos ⟨by omega,by omega⟩]
theorem ixF_eq {α:Type} {f:α->Option Bool} {q:α->Bool} {xs:List α} (hf:∀x∈xs,f x=some (q x)) (hl:xs.length<=1000000000) :
  (ixF f xs=some (-1)/\∀x∈xs,q x=false)\/∃(k:Nat) (h:k<xs.length),ixF f xs=some (k:Int)/\q xs[k]=true/\∀x∈xs.take k,q x=false:=by
 have run:∀(ys:List Nat) (k:Nat),k+ys.length=xs.length->(∀x∈xs.take k,q x=false) ->
   (forR (λk x s=>EF f xs k x s) ys k ()=some (.go ())/\∀x∈xs,q x=false)\/∃(j:Nat) (h:j<xs.length),forR (λk x s=>EF f xs k x s) ys k ()=some (.ret (j:Int))/\q xs[j]=true/\∀x∈xs.take j,q x=false:=by
  intro ys
  induction ys with
  | nil=>intro k h hq;exact .inl ⟨rfl,by rw [List.length_nil,Nat.add_zero]at h;rw [h,List.take_length]at hq;exact hq⟩
  | cons y ys ih =>
   intro k h hq
   simp only [List.length_cons]at h
   have hk:k<xs.length:=by omega
   have hst:EF f xs k y ()=some (bif q xs[k]then .ret (k:Int)else .go ()):=by
    unfold EF
    simp only [uu hk,ob_,Int.toNat_natCast,Nat.zero_add,List.getElem?_eq_getElem hk,hf _ (List.getElem_mem hk)]
    cases q xs[k] <;> rfl
   rw [forR,hst,ob_]
   cases hqk:q xs[k]with
   | true=>exact .inr ⟨k,hk,rfl,hqk,hq⟩
   | false =>
    refine ih (k+1) (by omega) (λx hx => ?_)
    rw [List.take_succ_eq_append_getElem hk]at hx
    rcases List.mem_append.1 hx with hx|hx
    ·exact hq x hx
    ·rw [List.mem_singleton.1 hx];exact hqk
 unfold ixF
 rw [Int.toNat_natCast,jG (by simp;omega)]
 rcases run (List.range xs.length) 0 (by simp) (by simp)with⟨h1,h2⟩|⟨k,hk,h1,h2,h3⟩
 ·exact .inl ⟨by rw [h1];rfl,h2⟩
 ·exact .inr ⟨k,hk,by rw [h1];rfl,h2,h3⟩
theorem filter_all {α:Type} {p:α->Bool} {xs:List α} (h:∀x∈xs,p x=true):xs.filter p=xs:=List.filter_eq_self.2 h
theorem FT {α:Type} {f:α->Option Bool} {q:α->Bool} {xs:List α} (hf:∀x∈xs,f x=some (q x)) (hl:xs.length<=1000000000) :
  ∀(m:Nat) (l:List α) (i j:Nat),j+m=xs.length->i<=j->l.length=xs.length->l.take i=(xs.take j).filter (λx => !q x)->l.drop j=xs.drop j ->
   ∃l' i',iterN (λs=>xc f s) (m+1) (l,(i:Int),(j:Int))=some (.go (l',(i':Nat),(xs.length:Int)))/\i'<=xs.length/\l'.length=xs.length/\l'.take i'=xs.filter (λx => !q x)
 | 0,l,i,j,hj,hij,hll,ht,hd=>by
  have hj':j=xs.length:=by omega
  subst hj'
  have hc:decide ((xs.length:Int)<(l.length:Int))=false:=by simp [hll]
  refine⟨l,i,?_,hij,hll,by rw [ht,List.take_length]⟩
  simp only [iterN,xc,hc,cond_false,ob_]
 | m+1,l,i,j,hj,hij,hll,ht,hd=>by
  have hjx:j<xs.length:=by omega
  have hjl:j<l.length:=by omega
  have hil:i<l.length:=by omega
  have hc:decide ((j:Int)<(l.length:Int))=true:=by simp;omega
  have he:l[j]=xs[j]:=by
   have h1:(l.drop j)[0]? = (xs.drop j)[0]? := by rw [hd]
   rw [List.getElem?_drop,List.getElem?_drop,Nat.add_zero,List.getElem?_eq_getElem hjl,List.getElem?_eq_getElem hjx]at h1
   exact Option.some.inj h1
  have w1:w64 ((j:Int)+1)=((j+1:Nat):Int):=by rw [aZ (by omega)];omega
  have w2:w64 ((i:Int)+1)=((i+1:Nat):Int):=by rw [aZ (by omega)];omega
  have hfe:=hf _ (List.getElem_mem hjx)
  have hdrop:(l.drop j).drop 1=(xs.drop j).drop 1:=by rw [hd]
  rw [List.drop_drop,List.drop_drop]at hdrop
  cases hq:q xs[j]with
  | false =>
   have hst:xc f (l,(i:Int),(j:Int))=some (.go (l.set i xs[j],((i+1:Nat):Int),((j+1:Nat):Int))):=by
    simp only [xc,hc,cond_true,uu hjl,uu hil,ob_,Int.toNat_natCast,Nat.zero_add,List.getElem?_eq_getElem hjl,List.getElem?_eq_getElem hil,he,hfe,hq,Bool.not_false,w1,w2]
   rw [iterN,hst,ob_]
   refine FT hf hl m (l.set i xs[j]) (i+1) (j+1) (by omega) (by omega) (by simpa using hll) ?_ ?_
   ·rw [List.take_succ_eq_append_getElem (by simpa using hil),List.take_set_of_le (Nat.le_refl _),ht,List.take_succ_eq_append_getElem hjx,List.filter_append]
    simp [hq]
   ·rw [List.drop_set_of_lt (by omega)];exact hdrop
  | true =>
   have hst:xc f (l,(i:Int),(j:Int))=some (.go (l,(i:Int),((j+1:Nat):Int))):=by
    simp only [xc,hc,cond_true,uu hjl,ob_,Int.toNat_natCast,Nat.zero_add,List.getElem?_eq_getElem hjl,he,hfe,hq,Bool.not_true,cond_false,w1]
   rw [iterN,hst,ob_]
   refine FT hf hl m l i (j+1) (by omega) (by omega) hll ?_ hdrop
   rw [ht,List.take_succ_eq_append_getElem hjx,List.filter_append]
   simp [hq]
end Go.Eng

open Go Go.Eng
namespace Go.Proofs.YtmkljmjhcegapaaGreatDoor.Law
set_option linter.unusedVariables false
set_option linter.unusedSimpArgs false
structure Cut (m:List Beat_) (n:Int) (k:Nat):Prop where
 le:k<=m.length
 lo:∀i (h:i<m.length),i<k->m[i].f_from<=n
 hi:∀(h:k<m.length),n<m[k].f_from
theorem cut_ex (m:List Beat_) (n:Int):∃k,Cut m n k:=by
 induction m with
 | nil=>exact⟨0,⟨Nat.le_refl _,λi h=>absurd h (Nat.not_lt_zero i),λh=>absurd h (Nat.lt_irrefl 0)⟩⟩
 | cons x m ih =>
  by_cases hx:x.f_from<=n
  ·obtain ⟨k,h1,h2,h3⟩:=ih
   refine⟨k+1,⟨by simp;omega,λi h hik => ?_,λh => ?_⟩⟩
   ·cases i with
    | zero=>exact hx
    | succ i=>exact h2 i (by simpa using h) (by omega)
   ·exact h3 (by simpa using h)
  ·exact⟨0,⟨Nat.zero_le _,λi h hik=>absurd hik (Nat.not_lt_zero i),λh=>by simpa using hx⟩⟩
def pG (x:Int):Int×Int:=bif momB x then (x,0)else (0,11)
def Kr (p q:Beat_):Bool:=decide (w64 (q.f_from-p.f_from)>2592000000)||decide (w64 (q.f_to-p.f_to)>2592000000)
def between (p q:Beat_) (n:Int):Int:=w64 (p.f_to+w64 ((w64 ((w64 (n-p.f_from))*(w64 (q.f_to-p.f_to)))).tdiv (w64 (q.f_from-p.f_from))))
def z2:Beat_:=⟨0,0⟩
def Jm (m:List Beat_) (n:Int) (k:Nat):Int×Int :=
 if m.length=0 then (0,8)else if k=0 then pG ((m.getD 0 z2).f_to+n-(m.getD 0 z2).f_from)else
 if k=m.length then pG (w64 (w64 ((m.getD (k-1) z2).f_to+n)-(m.getD (k-1) z2).f_from))else
 bif Kr (m.getD (k-1) z2) (m.getD k z2)then (0,2)else pG (between (m.getD (k-1) z2) (m.getD k z2) n)
def inM (x:Int):Prop:=0<=x/\x<=345686399999
def BndM (m:List Beat_):Prop:=∀x∈m,inM x.f_from/\inM x.f_to
theorem getD_at {α:Type} {m:List α} {i:Nat} {z:α} (h:i<m.length):m.getD i z=m[i]:=by
 rw [List.getD_eq_getElem?_getD,List.getElem?_eq_getElem h];rfl
theorem JJ (x:Int):((cO x).bind λr=>bif (!r)then some (0,11)else some (x,0))=some (pG x):=by
 rw [uB,ob_];unfold pG
 cases momB x <;> rfl
theorem Dw {m:List Beat_} {n:Int} {k:Nat} (hc:Cut m n k) (hl:m.length<=1000000):∀(d j:Nat),j+d=k->iterN (λs=>gX m n s) (d+1) (j:Int)=some (.go (k:Int))
 | 0,j,h=>by
  have hj:j=k:=by omega
  subst hj
  have hst:gX m n (j:Int)=some (.brk (j:Int)):=by
   unfold gX
   by_cases hlt:j<m.length
   ·have h1:decide ((j:Int)<(m.length:Int))=true:=by simp;omega
    have h2:decide ((m[j]).f_from<=n)=false:=by have:=hc.hi hlt;simp;omega
    simp only [h1,cond_true,iH,List.getElem?_eq_getElem hlt,ob_,h2,cond_false]
   ·have h1:decide ((j:Int)<(m.length:Int))=false:=by simp;omega
    simp only [h1,cond_false,ob_]
  rw [iterN,hst];rfl
 | d+1,j,h=>by
  have hjk:j<k:=by omega
  have hlt:j<m.length:=by have:=hc.le;omega
  have hst:gX m n (j:Int)=some (.go ((j+1:Nat):Int)):=by
   unfold gX
   have h1:decide ((j:Int)<(m.length:Int))=true:=by simp;omega
   have h2:decide ((m[j]).f_from<=n)=true:=decide_eq_true (hc.lo j hlt hjk)
   simp only [h1,cond_true,iH,List.getElem?_eq_getElem hlt,ob_,h2]
   rw [aZ (by omega)];congr 2
  rw [iterN,hst,ob_]
  exact Dw hc hl d (j+1) (by omega)
theorem Hf {m:List Beat_} {n:Int} {k:Nat} (hc:Cut m n k) (hb:BndM m) (hn:inM n) (hl:m.length<=1000000):ji m n=some (Jm m n k):=by
 unfold ji Jm
 by_cases h0:m.length=0
 ·have:((m.length:Int)==0)=true:=by simp [h0]
  simp only [this,cond_true,if_pos h0]
 ·have:((m.length:Int)==0)=false:=by simpa using h0
  have hlo:=eu (Dw hc hl k 0 (by omega))
  rw [show ((0:Nat):Int)=0 from rfl]at hlo
  simp only [this,cond_false,if_neg h0,hlo,ob_,gN]
  by_cases hk0:k=0
  ·subst hk0
   have h1:(((0:Nat):Int)==0)=true:=rfl
   have h2:idx m 0=some (m.getD 0 z2):=by
    have:=iH m 0
    rw [show ((0:Nat):Int)=0 from rfl]at this
    rw [this,getD_at (by omega)];exact List.getElem?_eq_getElem _
   have hm:m.getD 0 z2∈m:=by rw [getD_at (by omega)];exact List.getElem_mem _
   obtain ⟨⟨b1,b2⟩,b3,b4⟩:=hb _ hm
   obtain ⟨n1,n2⟩:=hn
   simp only [h1,cond_true,h2,ob_,if_true]
   rw [aZ (n:=(m.getD 0 z2).f_from-n) (by omega),aZ (by omega),show (m.getD 0 z2).f_to-((m.getD 0 z2).f_from-n)=(m.getD 0 z2).f_to+n-(m.getD 0 z2).f_from by omega]
   exact JJ _
  ·have h1:((k:Int)==0)=false:=by simpa using hk0
   have hle:=hc.le
   have hw:w64 ((k:Int)-1)=((k-1:Nat):Int):=by rw [aZ (by omega)];omega
   have hp:idx m (w64 ((k:Int)-1))=some (m.getD (k-1) z2):=by rw [hw,iH,getD_at (by omega)];exact List.getElem?_eq_getElem _
   have hpl:(m.getD (k-1) z2).f_from<=n:=by rw [getD_at (by omega)];exact hc.lo _ _ (by omega)
   simp only [h1,cond_false,if_neg hk0,hp,ob_]
   by_cases hkl:k=m.length
   ·have h2:((k:Int)==(m.length:Int))=true:=by simp [hkl]
    simp only [h2,cond_true,if_pos hkl]
    exact JJ _
   ·have hlt:k<m.length:=by omega
    have h2:((k:Int)==(m.length:Int))=false:=by simp;omega
    have hq:idx m (k:Int)=some (m.getD k z2):=by rw [iH,getD_at hlt];exact List.getElem?_eq_getElem _
    have hqh:n<(m.getD k z2).f_from:=by rw [getD_at hlt];exact hc.hi hlt
    have hbp:=hb (m.getD (k-1) z2) (by rw [getD_at (by omega)];exact List.getElem_mem _)
    have hbq:=hb (m.getD k z2) (by rw [getD_at hlt];exact List.getElem_mem _)
    obtain ⟨⟨b1,b2⟩,_⟩:=hbp
    obtain ⟨⟨b5,b6⟩,_⟩:=hbq
    have hdne:w64 ((m.getD k z2).f_from-(m.getD (k-1) z2).f_from)≠0:=by rw [aZ (by omega)];omega
    simp only [h2,cond_false,if_neg hkl,hq,ob_]
    have hfar:(bif (decide ((w64 ((m.getD k z2).f_from-(m.getD (k-1) z2).f_from))>2592000000))then some true else some (decide ((w64 ((m.getD k z2).f_to-(m.getD (k-1) z2).f_to))>2592000000)))=some (Kr (m.getD (k-1) z2) (m.getD k z2)):=by
     unfold Kr
     cases decide ((w64 ((m.getD k z2).f_from-(m.getD (k-1) z2).f_from))>2592000000) <;> rfl
    rw [hfar,ob_]
    cases Kr (m.getD (k-1) z2) (m.getD k z2)with
    | true=>rfl
    | false =>
     simp only [cond_false,Jr,if_neg hdne,ob_]
     exact JJ _
def gB (b:Beat):Beat_:=⟨b.Clock,b.At⟩
end Go.Proofs.YtmkljmjhcegapaaGreatDoor.Law

open Go Go.Eng
namespace Go.Proofs.YtmkljmjhcegapaaGreatDoor.Law
set_option linter.unusedVariables false
set_option linter.unusedSimpArgs false
def ofB (p:ByteArray) (b:Beat):Bool:=decide (b.Player=p)
def gK (b:Beat):Beat_:=⟨b.At,b.Clock⟩
theorem Nb (l:List Beat) (p:ByteArray) (back:Bool) (hl:l.length<=1000000):kN l p back=some ((l.filter (ofB p)).map (bif back then gK else gB)):=by
 have run:∀(xs:List Beat) (k:Nat) (acc:List Beat_),acc.length+xs.length<=1000000->forR (λk x s=>jI p back k x s) xs k acc=some (.go (acc++(xs.filter (ofB p)).map (bif back then gK else gB))):=by
  intro xs
  induction xs with
  | nil=>intro k acc _;simp [forR]
  | cons x xs ih =>
   intro k acc hlen
   simp only [List.length_cons]at hlen
   have hst:jI p back k x acc=some (.go (acc++(bif ofB p x then [(bif back then gK else gB) x]else []))):=by
    have hsn:sNe x.Player p = !ofB p x:=Ej _ _
    unfold jI
    rw [hsn]
    cases ofB p x with
    | false=>simp
    | true =>
     simp only [Bool.not_true,cond_false,cond_true]
     cases back with
     | true=>simp only [cond_true,oP acc [_] (show acc.length+1<=_ by omega),ob_];rfl
     | false=>simp only [cond_false,oP acc [_] (show acc.length+1<=_ by omega),ob_];rfl
   rw [forR,hst,ob_]
   simp only
   rw [ih _ _ (by cases ofB p x <;> simp <;> omega),List.filter_cons]
   cases ofB p x <;> simp
 unfold kN
 rw [jG (by omega),run l 0 [] (by simpa using hl),ob_,gN,List.nil_append]
theorem PI {l:List Beat} {p:ByteArray} (h:∀x∈l,momB x.At=true/\momB x.Clock=true) (back:Bool):BndM ((l.filter (ofB p)).map (bif back then gK else gB)):=by
 intro y hy
 obtain ⟨x,hx,rfl⟩:=List.mem_map.1 hy
 obtain ⟨h1,h2⟩:=h x (List.mem_filter.1 hx).1
 cases back with
 | true=>exact⟨Cy h1,Cy h2⟩
 | false=>exact⟨Cy h2,Cy h1⟩
end Go.Proofs.YtmkljmjhcegapaaGreatDoor.Law

open Go Go.Eng
namespace Go.Proofs.YtmkljmjhcegapaaGreatDoor.Law
set_option linter.unusedVariables false
set_option linter.unusedSimpArgs false
section
variable {α β:Type}
theorem Ew (c:α->α->Int) (v:α) (R0:List α) (h:∀a∈R0,¬c v a<0):∀R,gU c v (R++R0)=gU c v R++R0
 | []=>by
  cases R0 with
  | nil=>rfl
  | cons u R1 =>
   show (bif decide (c v u<0)then u::gU c v R1 else v::u::R1)=v::u::R1
   rw [decide_eq_false (h u (by simp))];rfl
 | u::R=>by
  show (bif decide (c v u<0)then u::gU c v (R++R0)else v::u::(R++R0))=(bif decide (c v u<0)then u::gU c v R else v::u::R)++R0
  rw [Ew c v R0 h R]
  cases decide (c v u<0) <;> rfl
theorem K6 (c:α->α->Int) (R0:List α):∀(Q R:List α),(∀v∈Q,∀a∈R0,¬c v a<0)->sO c (R++R0) Q=sO c R Q++R0
 | [],R,h=>rfl
 | v::Q,R,h=>by
  show sO c (gU c v (R++R0)) Q=sO c (gU c v R) Q++R0
  rw [Ew c v R0 (h v (by simp)) R]
  exact K6 c R0 Q _ (λw hw=>h w (List.mem_cons_of_mem _ hw))
theorem KR (c:α->α->Int) (l2:List α):∀(l1 R:List α),sO c R (l1++l2)=sO c (sO c R l1) l2
 | [],R=>rfl
 | v::l1,R=>KR c l2 l1 (gU c v R)
theorem PQ (c:α->α->Int) (l1 l2:List α) (h:∀v∈l2,∀a∈l1,¬c v a<0):mg c (l1++l2)=mg c l1++mg c l2:=by
 unfold mg
 rw [KR]
 have:=K6 c (sO c [] l1) l2 [] (λv hv a ha=>h v hv a (by have:=(Cs c l1 []).mem_iff.1 ha;simpa using this))
 rw [List.nil_append]at this
 rw [this,List.reverse_append]
theorem EW (f:α->β) {c:α->α->Int} {c':β->β->Int} (h:∀a b,c' (f a) (f b)=c a b) (v:α):∀R:List α,gU c' (f v) (R.map f)=(gU c v R).map f
 | []=>rfl
 | u::R=>by
  show (bif decide (c' (f v) (f u)<0)then f u::gU c' (f v) (R.map f)else f v::f u::R.map f)=(bif decide (c v u<0)then u::gU c v R else v::u::R).map f
  rw [h,EW f h v R]
  cases decide (c v u<0) <;> rfl
theorem JW (f:α->β) {c:α->α->Int} {c':β->β->Int} (h:∀a b,c' (f a) (f b)=c a b):∀Q R:List α,sO c' (R.map f) (Q.map f)=(sO c R Q).map f
 | [],R=>rfl
 | v::Q,R=>by
  show sO c' (gU c' (f v) (R.map f)) (Q.map f)=(sO c (gU c v R) Q).map f
  rw [EW f h,JW f h Q]
theorem Rk (f:α->β) {c:α->α->Int} {c':β->β->Int} (h:∀a b,c' (f a) (f b)=c a b) (l:List α):mg c' (l.map f)=(mg c l).map f:=by
 unfold mg
 have:=JW f h l []
 rw [List.map_nil]at this
 rw [this,List.map_reverse]
theorem F7 (c:α->α->Int) (l:List α) (x:α):x∈mg c l↔x∈l:=(Ha c l).mem_iff
end
structure Dated where
 f_at:Int
 f_i:Int
def MB (B:List Beat) (p:ByteArray):List Beat_:=(B.filter (ofB p)).map gB
noncomputable def plF (B:List Beat) (x:Log_):Int×Int:=(ji (MB B x.Player) x.Clock).getD (0,0)
theorem Mq (x:Int):(pG x).2=0/\momB (pG x).1=true\/(pG x).2=11:=by
 unfold pG
 cases h:momB x with
 | true=>exact .inl ⟨rfl,h⟩
 | false=>exact .inr rfl
theorem LQ (m:List Beat_) (n:Int) (k:Nat):(Jm m n k).2=0/\momB (Jm m n k).1=true\/(Jm m n k).2=8\/(Jm m n k).2=2\/(Jm m n k).2=11:=by
 have f:∀x,(pG x).2=0/\momB (pG x).1=true\/(pG x).2=8\/(pG x).2=2\/(pG x).2=11:=λx=>by
  rcases Mq x with h|h
  ·exact .inl h
  ·exact .inr (.inr (.inr h))
 unfold Jm
 split
 ·exact .inr (.inl rfl)
 ·split
  ·exact f _
  ·split
   ·exact f _
   ·cases Kr (m.getD (k-1) z2) (m.getD k z2)with
    | true=>exact .inr (.inr (.inl rfl))
    | false=>exact f _
structure BOk (B:List Beat):Prop where
 mom:∀x∈B,momB x.At=true/\momB x.Clock=true
 few:B.length<=1000000
theorem RL {B:List Beat} (hB:BOk B) (x:Log_) (hx:inM x.Clock):ji (MB B x.Player) x.Clock=some (plF B x) /\
  ((plF B x).2=0/\momB (plF B x).1=true\/(plF B x).2=8\/(plF B x).2=2\/(plF B x).2=11):=by
 obtain ⟨k,hk⟩:=cut_ex (MB B x.Player) x.Clock
 have hb:BndM (MB B x.Player):=PI hB.mom false
 have hf:(B.filter (ofB x.Player)).length<=1000000:=Nat.le_trans (List.length_filter_le _ _) hB.few
 have h1:=Hf hk hb hx (by unfold MB;simpa using hf)
 unfold plF
 rw [h1]
 exact⟨rfl,LQ _ _ _⟩
noncomputable def atF (B:List Beat) (x:Log_):Option Int:=bif (plF B x).2==0 then some (plF B x).1 else bif (plF B x).2==8 then some x.Clock else none
theorem atF_in {B:List Beat} (hB:BOk B) {x:Log_} (hx:inM x.Clock) {a:Int} (h:atF B x=some a):inM a:=by
 unfold atF at h
 rcases (RL hB x hx).2 with⟨h0,h1⟩|h0|h0|h0
 ·rw [h0]at h;cases h;exact Cy h1
 ·rw [h0]at h;cases h;exact hx
 ·rw [h0]at h;cases h
 ·rw [h0]at h;cases h
noncomputable def dts (B:List Beat):Nat->List Log_->List Dated
 | _,[]=>[]
 | k,x::xs=>(match atF B x with | some a=>[⟨a,(k:Int)⟩] | none=>[])++dts B (k+1) xs
noncomputable def lfs (B:List Beat):Nat->List Log_->List Int
 | _,[]=>[]
 | k,x::xs=>(match atF B x with | some _=>[] | none=>[(k:Int)])++lfs B (k+1) xs
theorem Ns (B:List Beat) (ys:List Log_):∀(xs:List Log_) (k:Nat),dts B k (xs++ys)=dts B k xs++dts B (k+xs.length) ys
 | [],k=>rfl
 | x::xs,k=>by
  rw [List.cons_append,dts,dts,Ns B ys xs (k+1),List.append_assoc,List.length_cons,show k+1+xs.length=k+(xs.length+1) by omega]
theorem Nu (B:List Beat) (ys:List Log_):∀(xs:List Log_) (k:Nat),lfs B k (xs++ys)=lfs B k xs++lfs B (k+xs.length) ys
 | [],k=>rfl
 | x::xs,k=>by
  rw [List.cons_append,lfs,lfs,Nu B ys xs (k+1),List.append_assoc,List.length_cons,show k+1+xs.length=k+(xs.length+1) by omega]
theorem NY (B:List Beat):∀(xs:List Log_) (k:Nat) (d:Dated),d∈dts B k xs->∃i x,xs[i]? = some x/\d.f_i=((k+i:Nat):Int)/\atF B x=some d.f_at
 | [],k,d,h=>by cases h
 | x::xs,k,d,h=>by
  rw [dts]at h
  rcases List.mem_append.1 h with h|h
  ·cases ha:atF B x with
   | none=>rw [ha]at h;cases h
   | some a=>rw [ha]at h;rw [List.mem_singleton.1 h];exact⟨0,x,rfl,rfl,ha⟩
  ·obtain ⟨i,y,h1,h2,h3⟩:=NY B xs (k+1) d h
   exact⟨i+1,y,by simpa using h1,by rw [h2];congr 1;omega,h3⟩
theorem MH (B:List Beat):∀(xs:List Log_) (k:Nat),(dts B k xs).length+(lfs B k xs).length=xs.length
 | [],k=>rfl
 | x::xs,k=>by
  have:=MH B xs (k+1)
  rw [dts,lfs]
  cases atF B x <;> simp <;> omega
def zL:Log_:=⟨⟨#[]⟩,⟨#[]⟩,0,0,0,⟨#[]⟩⟩
def yL (L:List Log_) (d:Dated):Log_:=L.getD d.f_i.toNat zL
def qC (L:List Log_) (pl:List Play) (d:Dated):Int×Int :=
 match pl.getLast? with
 | some q=>bif decide (q.Player=(yL L d).Player)&&decide (q.At+q.Long>d.f_at)then (q.At+q.Long,d.f_at+(yL L d).Long-(q.At+q.Long))else (d.f_at,(yL L d).Long)
 | none=>(d.f_at,(yL L d).Long)
def stp (L:List Log_) (pl:List Play) (d:Dated):Option Play:=bif decide ((qC L pl d).2<=0) || !momB (qC L pl d).1 then none else some ⟨(yL L d).Player,(yL L d).Item,(qC L pl d).1,(qC L pl d).2⟩
def oo (L:List Log_):List Play->List Dated->List Play×List Int
 | pl,[]=>(pl,[])
 | pl,d::ds=>match stp L pl d with
  | some q=>oo L (pl++[q]) ds
  | none=>((oo L pl ds).1,d.f_i::(oo L pl ds).2)
theorem ER (L:List Log_) (es:List Dated):∀(ds:List Dated) (pl:List Play),oo L pl (ds++es)=((oo L (oo L pl ds).1 es).1,(oo L pl ds).2++(oo L (oo L pl ds).1 es).2)
 | [],pl=>rfl
 | d::ds,pl=>by
  rw [List.cons_append,oo,oo]
  cases stp L pl d with
  | some q=>exact ER L es ds _
  | none=>simp only [ER L es ds pl];rfl
def BF (q:Play):Prop:=0<=q.At/\q.At<=345686399999/\0<q.Long/\q.Long<=86400000
structure VD (L:List Log_) (d:Dated):Prop where
 i0:0<=d.f_i
 il:d.f_i<L.length
 a0:0<=d.f_at
 al:d.f_at<=345686399999
 l0:1<=(yL L d).Long
 ll:(yL L d).Long<=86400000
theorem VD.at {L:List Log_} {d:Dated} (h:VD L d):idx L d.f_i=some (yL L d):=by
 have h0:=h.i0
 have h1:=h.il
 unfold idx yL
 rw [if_pos h0,getD_at (by omega)]
 exact List.getElem?_eq_getElem _
theorem KM {L:List Log_} {pl:List Play} {d:Dated} {q:Play} (hd:VD L d) (hp:∀q∈pl,BF q) (h:stp L pl d=some q):BF q/\q.Player=(yL L d).Player:=by
 obtain ⟨h1,h2,h3,h4,h5,h6⟩:=hd
 unfold stp at h
 cases hc:(decide ((qC L pl d).2<=0) || !momB (qC L pl d).1)with
 | true=>rw [hc]at h;cases h
 | false =>
  rw [hc,cond_false]at h
  cases h
  rw [Bool.or_eq_false_iff]at hc
  obtain ⟨c1,c2⟩:=hc
  have c1:=of_decide_eq_false c1
  have c2:=Cy (by simpa using c2:momB (qC L pl d).1=true)
  refine⟨⟨c2.1,c2.2,by show 0<(qC L pl d).2;omega,?_⟩,rfl⟩
  show (qC L pl d).2<=86400000
  unfold qC
  split
  ·rename_i q hq
   cases hb:(decide (q.Player=(yL L d).Player)&&decide (q.At+q.Long>d.f_at))with
   | true =>
    rw [Bool.and_eq_true]at hb
    have:=of_decide_eq_true hb.2
    simp only [cond_true];omega
   | false=>exact h6
  ·exact h6
theorem Ck {L:List Log_}:∀(ds:List Dated) (pl:List Play),(∀d∈ds,VD L d)->(∀q∈pl,BF q)->(∀q∈(oo L pl ds).1,BF q)/\(∀q∈(oo L pl ds).1,q∈pl\/∃d∈ds,q.Player=(yL L d).Player)
 | [],pl,hd,hp=>⟨hp,λq hq => .inl hq⟩
 | d::ds,pl,hd,hp=>by
  rw [oo]
  cases hs:stp L pl d with
  | some q =>
   obtain ⟨g1,g2⟩:=KM (hd d (by simp)) hp hs
   obtain ⟨i1,i2⟩:=Ck ds (pl++[q]) (λd hd'=>hd d (List.mem_cons_of_mem _ hd')) (λz hz=>by
    rcases List.mem_append.1 hz with hz|hz
    ·exact hp z hz
    ·rw [List.mem_singleton.1 hz];exact g1)
   refine⟨i1,λz hz => ?_⟩
   rcases i2 z hz with h|⟨e,he,h⟩
   ·rcases List.mem_append.1 h with h|h
    ·exact .inl h
    ·rw [List.mem_singleton.1 h];exact .inr ⟨d,by simp,g2⟩
   ·exact .inr ⟨e,List.mem_cons_of_mem _ he,h⟩
  | none =>
   obtain ⟨i1,i2⟩:=Ck ds pl (λd hd'=>hd d (List.mem_cons_of_mem _ hd')) hp
   refine⟨i1,λz hz => ?_⟩
   rcases i2 z hz with h|⟨e,he,h⟩
   ·exact .inl h
   ·exact .inr ⟨e,List.mem_cons_of_mem _ he,h⟩
theorem Gv {L:List Log_}:∀(ds:List Dated) (pl:List Play),(oo L pl ds).1.length+(oo L pl ds).2.length=pl.length+ds.length
 | [],pl=>rfl
 | d::ds,pl=>by
  rw [oo]
  cases stp L pl d with
  | some q=>have:=Gv ds (pl++[q]) (L:=L);simp only [List.length_append,List.length_cons,List.length_nil]at *;omega
  | none=>have:=Gv ds pl (L:=L);simp only [List.length_cons]at *;omega
end Go.Proofs.YtmkljmjhcegapaaGreatDoor.Law

open Go Go.Eng
namespace Go.Proofs.YtmkljmjhcegapaaGreatDoor.Law
set_option linter.unusedVariables false
set_option linter.unusedSimpArgs false
end Go.Proofs.YtmkljmjhcegapaaGreatDoor.Law

open Go Go.Eng
namespace Go.Proofs.YtmkljmjhcegapaaGreatDoor.Law
set_option linter.unusedVariables false
set_option linter.unusedSimpArgs false
end Go.Proofs.YtmkljmjhcegapaaGreatDoor.Law

