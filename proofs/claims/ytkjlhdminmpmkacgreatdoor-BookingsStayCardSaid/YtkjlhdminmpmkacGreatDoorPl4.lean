/-
  THE PLAIN LAW (part 4).
-/
import Derived.Test.YtkjlhdminmpmkacGreatDoorPl3
open Go Go.Eng Go.Flow
namespace Go.Proofs.YtkjlhdminmpmkacGreatDoor.Law
set_option linter.unusedVariables false
set_option linter.unusedSimpArgs false
set_option linter.unusedSectionVars false
theorem G8 {N N':Net} (hm:N.m=N'.m) (hq:N.q=N'.q) (hr:∀k,k<N.m->N.room k=N'.room k) (hg:∀i,i<N.q->N.goal i=N'.goal i) (ho:∀i,i<N.q->N.most i=N'.most i) (hs:∀i k,i<N.q->k<N.m->N.suits i k=N'.suits i k) (B:Nat->Bool):N.cutV B=N'.cutV B:=by
 unfold Net.cutV Net.ways
 rw [<- hm,<- hq]
 congr 1
 ·exact bT (λk hk=>by rw [hr k hk])
 ·refine bT (λi hi => ?_)
  rw [hg i hi]
  congr 1
  exact bT (λk hk=>by rw [hs i k hi hk,ho i hi])
theorem jw.same {N N':Net} (hm:N.m=N'.m) (hq:N.q=N'.q) (hr:∀k,k<N.m->N.room k=N'.room k) (hg:∀i,i<N.q->N.goal i=N'.goal i) (ho:∀i,i<N.q->N.most i=N'.most i) (hs:∀i k,i<N.q->k<N.m->N.suits i k=N'.suits i k) {r:Int} (h:jw N r):jw N' r:=by
 obtain ⟨h1,B,h2⟩:=h
 exact⟨λB=>by rw [<- G8 hm hq hr hg ho hs];exact h1 B,B,by rw [<- G8 hm hq hr hg ho hs];exact h2⟩
section
variable {spots:List Spot} {l:List Campaign}
theorem QF {k:Nat} {s:Spot} (hk:spots[k]? = some s) (d:Int) {r:Int} (h:jw (netOf (spots.set k (⟨s.Key,s.Time,s.Room+d,s.Tags⟩:Spot)) l) r):jw (bump (netOf spots l) k d) r:=by
 have hkl:k<spots.length:=(List.getElem?_eq_some_iff.1 hk).1
 have hget:∀j,(spots.set k (⟨s.Key,s.Time,s.Room+d,s.Tags⟩:Spot))[j]? = if j=k then some (⟨s.Key,s.Time,s.Room+d,s.Tags⟩:Spot)else spots[j]? := λj=>by
  rw [List.getElem?_set]
  by_cases hj:k=j
  ·subst hj;rw [if_pos rfl,if_pos rfl,if_pos hkl]
  ·rw [if_neg hj,if_neg (λe=>hj e.symm)]
 refine jw.same (N:=netOf (spots.set k (⟨s.Key,s.Time,s.Room+d,s.Tags⟩:Spot)) l) (N':=bump (netOf spots l) k d) (by show (spots.set k (⟨s.Key,s.Time,s.Room+d,s.Tags⟩:Spot)).length=spots.length;rw [List.length_set]) rfl (λj hj => ?_) (λi hi=>rfl) (λi hi=>rfl) (λi j hi hj => ?_) h
 ·show (match (spots.set k (⟨s.Key,s.Time,s.Room+d,s.Tags⟩:Spot))[j]? with | some s=>s.Room | none=>0)=if j=k then (match spots[j]? with | some s=>s.Room | none=>0)+d else (match spots[j]? with | some s=>s.Room | none=>0)
  rw [hget]
  by_cases hjk:j=k
  ·subst hjk;rw [if_pos rfl,if_pos rfl,hk]
  ·rw [if_neg hjk,if_neg hjk]
 ·show (match l[i]?,(spots.set k (⟨s.Key,s.Time,s.Room+d,s.Tags⟩:Spot))[j]? with | some c,some s=>zq c s | _,_=>false)=(match l[i]?,spots[j]? with | some c,some s=>zq c s | _,_=>false)
  rw [hget]
  by_cases hjk:j=k
  ·subst hjk;rw [if_pos rfl,hk]
   cases l[i]? <;> rfl
  ·rw [if_neg hjk]
theorem NC (h:Office spots l) {k:Nat} {s:Spot} (hk:spots[k]? = some s) {n:Int} (h0:0<=n) (h1:n<=10000000):Office (spots.set k (⟨s.Key,s.Time,n,s.Tags⟩:Spot)) l:=by
 have hm:=List.mem_of_getElem? hk
 have hr:=h.sr s hm
 refine⟨λy hy => ?_,λy hy => ?_,h.cr,by rw [List.length_set];exact h.sn,h.ln⟩
 ·rcases List.mem_or_eq_of_mem_set hy with hy|hy
  ·exact h.tg y hy
  ·rw [hy];exact h.tg s hm
 ·rcases List.mem_or_eq_of_mem_set hy with hy|hy
  ·exact h.sr y hy
  ·rw [hy];exact⟨h0,h1,hr.2.2⟩
theorem M3 (h:Office spots l):∃v,ib spots l=some v/\0<=v/\jw (netOf spots l) v:=by
 obtain ⟨rows,e1,q1,n1,v,rows',e2,s2,q2,f2,v0,hv⟩:=JU h
 refine⟨v,?_,v0,hv⟩
 unfold ib
 simp only [e1,ob_,n1,r9 rfl,e2,s2]
theorem PP (l:List Spot) (hl:l.length<=1000000000):dH l=some l:=by
 simp only [dH,iZ,List.length_nil,Nat.zero_add,hl,if_true,ob_,List.nil_append]
theorem tightK (h:Office spots l) (hb:dD spots l=some 0) {v:Int} (hv:ib spots l=some v):∃t,nU spots l=some (t,0)/\t.length<=spots.length /\
  ∀(j:Nat) (x:Spot),spots[j]? = some x->0<x.Room->(∀v',jw (bump (netOf spots l) j (-1)) v'->v'<v)->x.Key∈t:=by
 have hsn:=h.sn
 obtain ⟨t,r1,r2,r3⟩:=ow (body:=λk x s=>kW spots l v k x s) (λk t=>t.length<=k/\∀(j:Nat) (x:Spot),j<k->spots[j]? = some x->0<x.Room->(∀v',jw (bump (netOf spots l) j (-1)) v'->v'<v)->x.Key∈t) (xs:=spots) (s:=([]:List ByteArray)) (by omega) (λk x t hk ht=>by
  obtain ⟨ht,hm⟩:=ht
  have hkl:k<spots.length:=(List.getElem?_eq_some_iff.1 hk).1
  have hr:=h.sr x (List.mem_of_getElem? hk)
  have hw:w64 (x.Room-1)=x.Room-1:=fG (by have:=hr.1;have:=hr.2.1;omega)
  unfold kW
  simp only [PP spots (by omega),ob_,lh hkl,toN,hk,hw]
  by_cases h0:x.Room=0
  ·have e1:(x.Room==0)=true:=by simp [h0]
   rw [e1]
   refine⟨t,rfl,by omega,λj y hj hy hy0 hl => ?_⟩
   by_cases hjk:j=k
   ·subst hjk;rw [hk]at hy;simp only [so_]at hy;subst hy;omega
   ·exact hm j y (by omega) hy hy0 hl
  ·have e1:(x.Room==0)=false:=by simp [h0]
   obtain ⟨v',m1',_,m3'⟩:=M3 (NC h hk (n:=x.Room-1) (by have:=hr.1;omega) (by have:=hr.2.1;omega))
   have hap:iZ t [x.Key]=some (t++[x.Key]):=o9 _ _ (by simp;omega)
   rw [e1]
   simp only [cond_false,m1',ob_]
   by_cases hlt:v'<v
   ·rw [decide_eq_true hlt]
    simp only [cond_true,hap,ob_]
    refine⟨_,rfl,by simp;omega,λj y hj hy hy0 hl => ?_⟩
    by_cases hjk:j=k
    ·subst hjk;rw [hk]at hy;simp only [so_]at hy;subst hy
     exact List.mem_append_right _ (by simp)
    ·exact List.mem_append_left _ (hm j y (by omega) hy hy0 hl)
   ·rw [decide_eq_false hlt]
    simp only [cond_false,ob_]
    refine⟨_,rfl,by omega,λj y hj hy hy0 hl => ?_⟩
    by_cases hjk:j=k
    ·subst hjk
     exact absurd (hl v' (QF hk (-1) m3')) hlt
    ·exact hm j y (by omega) hy hy0 hl) ⟨Nat.le_refl _,λj x hj=>absurd hj (Nat.not_lt_zero j)⟩
 refine⟨t,?_,r2,λj x hx h0 hl=>r3 j x (List.getElem?_eq_some_iff.1 hx).1 hx h0 hl⟩
 unfold nU
 simp only [hb,ob_,bne_self_eq_false,cond_false,hv]
 rw [r1,ob_,mh]
end
end Go.Proofs.YtkjlhdminmpmkacGreatDoor.Law

open Go Go.Eng Go.Flow
namespace Go.Proofs.YtkjlhdminmpmkacGreatDoor.Law
set_option linter.unusedVariables false
set_option linter.unusedSimpArgs false
set_option linter.unusedSectionVars false
theorem Hl (l:List Campaign) (f:Campaign->Option Bool) (p:Campaign->Bool) (hf:∀x∈l,f x=some (p x)) (hl:l.length<=1000000):bg l f=some (l.any p):=by
 have run:∀(xs:List Campaign) (k:Nat),(∀x∈xs,f x=some (p x))->∃o,forR (λk x s=>bB f k x s) xs k ()=some o/\∃r:Int,thenC o (λ_=>some (-1)) (λr=>some r)=some r/\decide (r>=0)=xs.any p:=by
  intro xs
  induction xs with
  | nil=>exact λk _=>⟨.go (),rfl,-1,rfl,by simp⟩
  | cons x xs ih =>
   intro k hf
   have hst:bB f k x ()=some (bif p x then .ret (k:Int)else .go ()):=by
    simp only [bB,hf x (by simp),ob_];cases p x <;> rfl
   rw [forR,hst,ob_]
   cases hp:p x with
   | true=>exact⟨_,rfl,_,rfl,by simp [hp]⟩
   | false =>
    simp only [cond_false]
    obtain ⟨o,h1,r,h2,h3⟩:=ih (k+1) (λy hy=>hf y (by simp [hy]))
    exact⟨o,h1,r,h2,by rw [h3];simp [hp]⟩
 obtain ⟨o,h1,r,h2,h3⟩:=run l 0 hf
 unfold bg di
 rw [oC (by omega),h1,ob_,h2,ob_,h3]
theorem Kl (xs:List ByteArray) (hl:xs.length<=1000000):eU xs xs=some true:=by
 unfold eU
 have e:((xs.length:Int) != (xs.length:Int))=false:=by simp
 rw [e]
 obtain ⟨s',h1,_⟩:=ow (body:=λk x s=>dM xs k x s) (λ_ _=>True) (xs:=xs) (s:=()) (by omega) (λk x s hx _=>by
  unfold dM
  rw [uI,hx,ob_]
  refine⟨(),?_,trivial⟩
  simp [sNe]) trivial
 simp only [cond_false,h1,ob_,mh]
section
variable {spots:List Spot} {l:List Campaign}
end
end Go.Proofs.YtkjlhdminmpmkacGreatDoor.Law

open Go Go.Eng Go.Flow
namespace Go.Proofs.YtkjlhdminmpmkacGreatDoor.Law
set_option linter.unusedVariables false
set_option linter.unusedSimpArgs false
set_option linter.unusedSectionVars false
section
variable {spots:List Spot} {l:List Campaign}
theorem Jn (h:Office spots l) (hl:l.length<=99) {c:Campaign} (hc:CampR c):Office spots (l++[c]):=by
 refine⟨h.tg,h.sr,λy hy => ?_,h.sn,by rw [List.length_append];simp;omega⟩
 rcases List.mem_append.1 hy with hy|hy
 ·exact h.cr y hy
 ·rw [List.mem_singleton]at hy
  subst hy
  exact hc
end
def zz (g m:Int):Campaign:=(⟨(⟨#[122,122]⟩:ByteArray),(⟨#[]⟩:ByteArray),(⟨0,100⟩:Window),([]:List ByteArray),g,m,0⟩:Campaign)
theorem zz_stp {g m:Int} (hg:0<=g/\g<=1000000) (hm:0<=m/\m<=1000000):gy nT (zz g m)=0:=by
 unfold gy out zz
 simp only
 rw [decide_eq_false (show ¬g<0 by omega),decide_eq_false (show ¬g>1000000 by omega),decide_eq_false (show ¬m<0 by omega),decide_eq_false (show ¬m>1000000 by omega)]
 kernel_rfl
theorem zz_good (g m:Int):Cy (zz g m):=⟨jI rfl,jI rfl,by simp [zz],by simp [zz]⟩
theorem zz_not {c:List Campaign} (h:(c.map Campaign.Key).Sublist uC) (g m:Int):(c.any λy=>sEq y.Key (zz g m).Key)=false:=by
 rw [List.any_eq_false]
 intro y hy
 have hm:y.Key∈uC:=h.subset (List.mem_map_of_mem hy)
 have hk:∀k∈uC,sEq k (⟨#[122,122]⟩:ByteArray)=false:=by
  intro k hk
  simp only [uC,List.mem_cons,List.not_mem_nil,or_false]at hk
  rcases hk with rfl|rfl|rfl|rfl <;> kernel_rfl
 show ¬sEq y.Key (⟨#[122,122]⟩:ByteArray)=true
 rw [hk _ hm]
 exact Bool.false_ne_true
end Go.Proofs.YtkjlhdminmpmkacGreatDoor.Law

open Go Go.Eng
namespace Go.Proofs.YtkjlhdminmpmkacGreatDoor.Law
set_option linter.unusedVariables false
set_option linter.unusedSimpArgs false
structure EndsK {α:Type} (key:α->ByteArray) (l:List α) (t:ByteArray) (i j:Nat):Prop where
 le:i<=j
 len:j<=l.length
 lo:∀k (h:k<l.length),k<i->lt (key l[k]) t
 hi:∀k (h:k<l.length),j<=k->¬lt (key l[k]) t
section
variable {α:Type} {key:α->ByteArray} {cmp:α->ByteArray->Option Int}
end
end Go.Proofs.YtkjlhdminmpmkacGreatDoor.Law

open Go Go.Eng
namespace Go.Proofs.YtkjlhdminmpmkacGreatDoor.Law
set_option linter.unusedVariables false
set_option linter.unusedSimpArgs false
end Go.Proofs.YtkjlhdminmpmkacGreatDoor.Law

open Go Go.Eng
namespace Go.Proofs.YtkjlhdminmpmkacGreatDoor.Law
set_option linter.unusedVariables false
set_option linter.unusedSimpArgs false
section
variable {K T:Type} {eq:K->K->Bool}
end
end Go.Proofs.YtkjlhdminmpmkacGreatDoor.Law

open Go Go.Eng Go.Flow
namespace Go.Proofs.YtkjlhdminmpmkacGreatDoor.Law
set_option linter.unusedVariables false
set_option linter.unusedSimpArgs false
set_option linter.unusedSectionVars false
section
variable {spots:List Spot} {l:List Campaign}
theorem dealK (h:Office spots l) (hb:dD spots l=some 0):∃v,ib spots l=some v/\v<=(netOf spots l).goals/\((v=(netOf spots l).goals/\∃x,(netOf spots l).Deal x/\jL spots l=some (shA spots l x l.length,0))\/(v<(netOf spots l).goals/\jL spots l=some ([],12))):=by
 have hsz:=size_eq (spots:=spots) (l:=l)
 have hsn:=h.sn
 have hln:=h.ln
 obtain ⟨v1,m1,_,m3⟩:=M3 h
 obtain ⟨rows,e1,q1,n1,v,rows',e2,s2,q2,f2,v0,hv⟩:=JU h
 have:v1=v:=m3.uniq hv
 subst this
 have g2:=MG h.cr (by omega) spots
 have hle:=(KT (vQ h) hv).1
 have hstart:jL spots l=bif decide (v1<(netOf spots l).goals)then some (([]:(List Share)),12)else (forL l (rows',([]:List Share),(l.length:Int)) (λk x s=>jJ spots ⟨rows,(l.length:Int)⟩ k x s)).bind λo_31=>thenC o_31 (λs_25=>some (s_25.2.1,0)) (λ_=>none):=by
  unfold jL
  simp only [hb,ob_,e1,n1,r9 rfl,e2,s2,g2]
  rfl
 refine⟨v1,m1,hle,?_⟩
 by_cases hlt:v1<(netOf spots l).goals
 ·right
  rw [hstart,decide_eq_true hlt]
  exact⟨hlt,rfl⟩
 ·left
  have hveq:v1=(netOf spots l).goals:=by omega
  rw [hstart,decide_eq_false hlt]
  obtain ⟨d1,d2⟩:=Net.flow_deal f2 hveq
  have hres:=Net.flow_res f2 hveq
  have hst:DealSt spots l 0 0 [] (rows',([]:List Share),(l.length:Int)):=by
   refine⟨rfl,q2,_,d1,λa b ha hb' => ?_,λj m hj hm hp => ?_,?_⟩
   ·rw [hres a b ha hb']
    refine yO (λj m _ _ => ?_) a b ha hb'
    cases hp:Net.prior 0 0 j m with
    | false=>rfl
    | true=>rw [kz]at hp;omega
   ·rw [kz]at hp;omega
   ·show ([]:List Share)=[]++_
    split <;> rfl
  obtain ⟨s',r1,r2⟩:=ow (body:=λk x s=>jJ spots ⟨rows,(l.length:Int)⟩ k x s) (λi s=>DealSt spots l i 0 [] s) (xs:=l) (s:=(rows',([]:List Share),(l.length:Int))) (by omega) (λi c s hc hs=>by
   unfold jJ
   obtain ⟨s1,p1,p2⟩:=ow (body:=λk x s=>jH c ⟨rows,(l.length:Int)⟩ i k x s) (λk s=>DealSt spots l i k [] s) (xs:=spots) (s:=(s.1,s.2.1,s.2.2)) (by omega) (λk sp s hk hs=>deal_L1 h (w:=⟨rows,(l.length:Int)⟩) (by show rows.length=_;exact q1.len) hc hk hs) hs
   rw [p1,ob_,mh]
   refine⟨_,rfl,?_⟩
   obtain ⟨c1,c2,x,c3,c4,c5,c6⟩:=p2
   refine⟨c1,c2,x,c3,λa b ha hb' => ?_,λj m hj hm hp => ?_,?_⟩
   ·show at2 s1.1 a b=_
    rw [c4 a b ha hb']
    exact yO (λj m _ hm=>Gs hm) a b ha hb'
   ·exact c5 j m hj hm (by rw [Gs (show m<spots.length from hm)];exact hp)
   ·show s1.2.1=_
    rw [c6,hc,shA,hc]
    simp only
    split <;> simp [shC]) hst
  rw [r1]
  obtain ⟨_,_,x,x1,x2,x3,x4⟩:=r2
  refine⟨hveq,x,x1,?_⟩
  simp only [cond_false,ob_,mh]
  rw [x4,List.getElem?_eq_none (Nat.le_refl _)]
  simp
def bef (a b:Share):Prop:=lt a.Campaign b.Campaign\/(a.Campaign=b.Campaign/\lt a.Spot b.Spot)
end
end Go.Proofs.YtkjlhdminmpmkacGreatDoor.Law

