/-
  THE PLAIN LAW (part 4).
-/
import Derived.Test.YtekmkepojbhafabGreatDoorPl3
open Go Go.Eng Go.Flow
namespace Go.Proofs.YtekmkepojbhafabGreatDoor.Law
set_option linter.unusedVariables false
set_option linter.unusedSimpArgs false
set_option linter.unusedSectionVars false
theorem Fz (l:List Campaign) (f:Campaign->Option Bool) (p:Campaign->Bool) (hf:∀x∈l,f x=some (p x)) (hl:l.length<=1000000):aV l f=some (l.any p):=by
 have run:∀(xs:List Campaign) (k:Nat),(∀x∈xs,f x=some (p x))->∃o,forR (λk x s=>bn f k x s) xs k ()=some o/\∃r:Int,thenC o (λ_=>some (-1)) (λr=>some r)=some r/\decide (r>=0)=xs.any p:=by
  intro xs
  induction xs with
  | nil=>exact λk _=>⟨.go (),rfl,-1,rfl,by simp⟩
  | cons x xs ih =>
   intro k hf
   have hst:bn f k x ()=some (bif p x then .ret (k:Int)else .go ()):=by
    simp only [bn,hf x (by simp),ob_];cases p x <;> rfl
   rw [forR,hst,ob_]
   cases hp:p x with
   | true=>exact⟨_,rfl,_,rfl,by simp [hp]⟩
   | false =>
    simp only [cond_false]
    obtain ⟨o,h1,r,h2,h3⟩:=ih (k+1) (λy hy=>hf y (by simp [hy]))
    exact⟨o,h1,r,h2,by rw [h3];simp [hp]⟩
 obtain ⟨o,h1,r,h2,h3⟩:=run l 0 hf
 unfold aV cB
 rw [qK (by omega),h1,ob_,h2,ob_,h3]
section
variable {spots:List Spot} {l:List Campaign}
end
end Go.Proofs.YtekmkepojbhafabGreatDoor.Law

open Go Go.Eng Go.Flow
namespace Go.Proofs.YtekmkepojbhafabGreatDoor.Law
set_option linter.unusedVariables false
set_option linter.unusedSimpArgs false
set_option linter.unusedSectionVars false
theorem Mj {N:Net} {g m rg:Int} {su:Nat->Bool} (hg:fH (more N g m su) rg):rg<=N.goals+S N.m (λk=>bif su k then min (N.room k) m else 0):=by
 have h:=hg.1 (λk=>su k&&decide (N.room k<=m))
 rw [qQ]at h
 have e1:N.cutV (λk=>su k&&decide (N.room k<=m))<=S N.m (λk=>bif (su k&&decide (N.room k<=m))then N.room k else 0)+N.goals:=by
  unfold Net.cutV Net.goals
  show S N.m (λk=>bif (su k&&decide (N.room k<=m))then N.room k else 0)+S N.q (λi=>min (N.goal i) (N.ways (λk=>su k&&decide (N.room k<=m)) i))<=_
  have h2:S N.q (λi=>min (N.goal i) (N.ways (λk=>su k&&decide (N.room k<=m)) i))<=S N.q N.goal:=Ob (λi _=>by omega)
  omega
 have e2:S N.m (λk=>bif su k then min (N.room k) m else 0)=S N.m (λk=>bif (su k&&decide (N.room k<=m))then N.room k else 0)+S N.m (λk=>bif !(su k&&decide (N.room k<=m))&&su k then m else 0):=by
  rw [<- Bl]
  refine cO (λk _ => ?_)
  cases hs:su k with
  | false=>rfl
  | true =>
   by_cases hr:N.room k<=m
   ·rw [decide_eq_true hr]
    simp only [Bool.and_true,Bool.not_true,Bool.and_self,cond_true,cond_false]
    omega
   ·rw [decide_eq_false hr]
    simp only [Bool.and_false,Bool.not_false,Bool.and_self,cond_true,cond_false,Bool.and_true]
    omega
 omega
theorem I8 {N:Net} {g m r rg:Int} {su:Nat->Bool} (h0:0<=g) (hm:0<=m) (h:fH N r) (hg:fH (more N g m su) rg):r<=rg:=by
 obtain ⟨_,B,hB⟩:=hg
 rw [qQ]at hB
 have h1:=h.1 B
 have h2:0<=S N.m (λk=>bif !B k&&su k then m else 0):=yU (λk _=>by
  cases (!B k&&su k) <;> simp <;> omega)
 omega
section
variable {spots:List Spot} {l:List Campaign}
theorem DK (c:Campaign) {r:Int} (h:fH (bE spots (l++[c])) r):fH (more (bE spots l) c.Goal c.Most (λk=>match spots[k]? with | some s=>l6 c s | none=>false)) r:=by
 have hget:∀i,i<l.length+1->(l++[c])[i]? = if i=l.length then some c else l[i]? := λi hi=>by
  by_cases e:i=l.length
  ·subst e;rw [if_pos rfl,List.getElem?_append_right (Nat.le_refl _),Nat.sub_self];rfl
  ·rw [if_neg e,List.getElem?_append_left (by omega)]
 refine fH.same (N:=bE spots (l++[c])) (N':=more (bE spots l) c.Goal c.Most (λk=>match spots[k]? with | some s=>l6 c s | none=>false)) rfl (by show (l++[c]).length=l.length+1;simp) (λk hk=>rfl) (λi hi => ?_) (λi hi => ?_) (λi k hi hk => ?_) h
 ·have hi:i<l.length+1:=by have:i<(l++[c]).length:=hi;simpa using this
  show (match (l++[c])[i]? with | some c=>c.Goal | none=>0)=if i=l.length then c.Goal else (match l[i]? with | some c=>c.Goal | none=>0)
  rw [hget i hi]
  by_cases e:i=l.length
  ·rw [if_pos e,if_pos e]
  ·rw [if_neg e,if_neg e]
 ·have hi:i<l.length+1:=by have:i<(l++[c]).length:=hi;simpa using this
  show (match (l++[c])[i]? with | some c=>c.Most | none=>0)=if i=l.length then c.Most else (match l[i]? with | some c=>c.Most | none=>0)
  rw [hget i hi]
  by_cases e:i=l.length
  ·rw [if_pos e,if_pos e]
  ·rw [if_neg e,if_neg e]
 ·have hi:i<l.length+1:=by have:i<(l++[c]).length:=hi;simpa using this
  show (match (l++[c])[i]?,spots[k]? with | some c,some s=>l6 c s | _,_=>false)=if i=l.length then (match spots[k]? with | some s=>l6 c s | none=>false)else (match l[i]?,spots[k]? with | some c,some s=>l6 c s | _,_=>false)
  rw [hget i hi]
  by_cases e:i=l.length
  ·rw [if_pos e,if_pos e]
   cases spots[k]? <;> rfl
  ·rw [if_neg e,if_neg e]
theorem roomK (h:Office spots l) {c:Campaign} (hc:0<=c.Most/\c.Most<=10000000/\c.Tags.length<=1000) (hb:dw spots [c]=some 0):∃n,nN spots c=some (n,0)/\n=S spots.length (λk=>bif (match spots[k]? with | some s=>l6 c s | none=>false)then min ((bE spots l).room k) c.Most else 0):=by
 have hsn:=h.sn
 obtain ⟨n,r1,r2,r3,r4⟩:=uG (body:=λk x s=>kJ c k x s) (λk n=>n=S k (λk=>bif (match spots[k]? with|some s=>l6 c s|none=>false)then min ((bE spots l).room k) c.Most else 0)/\0<=n/\n<=10000000*k) (xs:=spots) (s:=(0:Int)) (by omega) (λk x n hk ⟨e1,e2,e3⟩=>by
  have hkl:k<spots.length:=(List.getElem?_eq_some_iff.1 hk).1
  have hm:=List.mem_of_getElem? hk
  have hr:=h.sr x hm
  have hroom:(bE spots l).room k=x.Room:=by
   show (match spots[k]? with | some s=>s.Room | none=>0)=x.Room
   rw [hk]
  unfold kJ
  simp only [Og c x hc.2.2 (h.tg x hm),ob_,ME]
  have hs:S (k+1) (λk=>bif (match spots[k]? with | some s=>l6 c s | none=>false)then min ((bE spots l).room k) c.Most else 0)=n+(bif l6 c x then min x.Room c.Most else 0):=by
   show S k (λk=>bif (match spots[k]? with | some s=>l6 c s | none=>false)then min ((bE spots l).room k) c.Most else 0)+(bif (match spots[k]? with | some s=>l6 c s | none=>false)then min ((bE spots l).room k) c.Most else 0)=_
   rw [<- e1,hk,hroom]
  have h1:=hr.1
  have h2:=hr.2.1
  cases hsu:l6 c x with
  | false =>
   rw [hsu]at hs
   refine⟨n,rfl,by rw [hs];simp,e2,by omega⟩
  | true =>
   rw [hsu]at hs
   have hw:w64 (n+min x.Room c.Most)=n+min x.Room c.Most:=iq (by omega)
   refine⟨n+min x.Room c.Most,by simp only [cond_true,hw,ob_],by rw [hs];rfl,by omega,by omega⟩) ⟨rfl,Int.le_refl _,by omega⟩
 refine⟨n,?_,r2⟩
 unfold nN
 simp only [hb,ob_,bne_self_eq_false,cond_false]
 rw [r1,ob_,rz]
theorem errsKp (a b c:Int):oG [a,b,c]=some (or0 a (or0 b c)):=by
 unfold oG or0
 rw [qK (by simp)]
 simp only [forR,qI]
 by_cases ha:a=0
 ·subst ha
  by_cases hb:b=0
  ·subst hb
   by_cases hc:c=0
   ·subst hc;rfl
   ·have e:(c != 0)=true:=by simp [hc]
    simp [e,thenC]
  ·have e:(b != 0)=true:=by simp [hb]
   have e':(b==0)=false:=by simp [hb]
   simp [e,e',thenC]
 ·have e:(a != 0)=true:=by simp [ha]
  have e':(a==0)=false:=by simp [ha]
  simp [e,e',thenC]
theorem IB (h:Office spots l) (hl:l.length<=99) {c:Campaign} (hc:CampR c):Office spots (l++[c]):=by
 refine⟨h.tg,h.sr,λy hy => ?_,h.sn,by rw [List.length_append];simp;omega⟩
 rcases List.mem_append.1 hy with hy|hy
 ·exact h.cr y hy
 ·rw [List.mem_singleton]at hy
  subst hy
  exact hc
theorem canK (h:Office spots l) (hb:dw spots l=some 0) {v:Int} (hv:jf spots l=some v):jg spots l=some (v==(bE spots l).goals,0):=by
 unfold jg
 simp only [hb,ob_,bne_self_eq_false,cond_false,hv,Kr h.cr (by have:=h.ln;omega) spots]
theorem DR (c:Campaign):(bE spots (l++[c])).goals=(bE spots l).goals+c.Goal:=by
 show S (l++[c]).length (λi=>match (l++[c])[i]? with | some c=>c.Goal | none=>0)=S l.length (λi=>match l[i]? with | some c=>c.Goal | none=>0)+c.Goal
 rw [List.length_append]
 show S l.length (λi=>match (l++[c])[i]? with | some c=>c.Goal | none=>0)+(match (l++[c])[l.length]? with | some c=>c.Goal | none=>0)=_
 rw [List.getElem?_append_right (Nat.le_refl _),Nat.sub_self]
 congr 1
 exact cO (λi hi=>by rw [List.getElem?_append_left hi])
end
def zz (g m:Int):Campaign:=(⟨(⟨#[122,122]⟩:ByteArray),(⟨#[]⟩:ByteArray),(⟨0,100⟩:Window),([]:List ByteArray),g,m,0⟩:Campaign)
theorem NV {g m:Int} (hg:0<=g/\g<=1000000) (hm:0<=m/\m<=1000000):gK mg (zz g m)=0:=by
 unfold gK out zz
 simp only
 rw [decide_eq_false (show ¬g<0 by omega),decide_eq_false (show ¬g>1000000 by omega),decide_eq_false (show ¬m<0 by omega),decide_eq_false (show ¬m>1000000 by omega)]
 kernel_rfl
theorem zz_good (g m:Int):AX (zz g m):=⟨nz rfl,nz rfl,by simp [zz],by simp [zz]⟩
theorem zz_rise {c:List Campaign} (h:(c.map Campaign.Key).Sublist qj) (g m:Int):((c++[zz g m]).map Campaign.Key).Pairwise lt:=by
 rw [List.map_append]
 have h2:(c.map Campaign.Key++[zz g m].map Campaign.Key).Sublist (qj++[(⟨#[122,122]⟩:ByteArray)]):=h.append (List.Sublist.refl _)
 refine List.Pairwise.sublist h2 ?_
 refine List.pairwise_append.2 ⟨Db,List.pairwise_singleton _ _,λa ha b hb => ?_⟩
 rw [List.mem_singleton]at hb
 subst hb
 simp only [qj,List.mem_cons,List.not_mem_nil,or_false]at ha
 rcases ha with rfl|rfl|rfl|rfl <;> exact ltl (by kernel_rfl)
theorem zz_not {c:List Campaign} (h:(c.map Campaign.Key).Sublist qj) (g m:Int):(c.any λy=>sEq y.Key (zz g m).Key)=false:=by
 rw [List.any_eq_false]
 intro y hy
 have hm:y.Key∈qj:=h.subset (List.mem_map_of_mem hy)
 have hk:∀k∈qj,sEq k (⟨#[122,122]⟩:ByteArray)=false:=by
  intro k hk
  simp only [qj,List.mem_cons,List.not_mem_nil,or_false]at hk
  rcases hk with rfl|rfl|rfl|rfl <;> kernel_rfl
 show ¬sEq y.Key (⟨#[122,122]⟩:ByteArray)=true
 rw [hk _ hm]
 exact Bool.false_ne_true
theorem leftCanBeHad (l:List Int):jo l=some true:=by
 obtain ⟨x,s1,a1,a2,a3,a4,a5,a6,a7⟩:=Hu ⟨l,0⟩ (b:=0) ⟨Int.le_refl _,Int.le_refl _⟩ (by decide)
 obtain ⟨c,s2,b1,b2,b3,b4,b5,b6,b7⟩:=IE 3 (.inl rfl) s1 a2 (by decide)
 obtain ⟨m,s3,k1,k2,k3⟩:=sj s2 [1,2,9] b2 (by decide) (by simp) (by simp)
 have b1':dP s1 3=some (c,s2):=b1
 have hm:1<=m/\m<=9:=by
  simp only [List.mem_cons,List.not_mem_nil,or_false]at k2
  omega
 have hs:=J7 (by omega) a5 a6
 have hc:=ym (by omega) b5 (Db.sublist b6)
 have hof:=Gy a4 b4 (by omega) (by omega) hs hc
 have hb:=Ga x c a4 b4 (by omega) (by omega)
 rw [hs,hc]at hb
 have hb:dw x c=some 0:=hb
 obtain ⟨v,m1,m2,m3⟩:=KI hof
 have hgl:=IM hof.cr (by omega) x
 have hle:v<=(bE x c).goals:=(G5 (Mi hof) m3).1
 have hgk:=Kr hof.cr (by omega) x
 have hg1:∀g,∀y ∈ [zz g m],AX y:=λg y hy=>by rw [List.mem_singleton]at hy;rw [hy];exact zz_good g m
 have hgA:∀g,∀y∈c++[zz g m],AX y:=λg y hy=>by
  rcases List.mem_append.1 hy with hy|hy
  ·exact b4 y hy
  ·exact hg1 g y hy
 have hf1:∀g,0<=g->g<=1000000->uU [zz g m]=0:=λg g0 g1=>ym (by simp) (λy hy=>by rw [List.mem_singleton]at hy;rw [hy];exact NV ⟨g0,g1⟩ (by omega)) (List.pairwise_singleton _ _)
 have hfA:∀g,0<=g->g<=1000000->uU (c++[zz g m])=0:=λg g0 g1=>ym (by simp;omega) (λy hy=>by
  rcases List.mem_append.1 hy with hy|hy
  ·exact b5 y hy
  ·rw [List.mem_singleton]at hy;rw [hy];exact NV ⟨g0,g1⟩ (by omega)) (zz_rise b6 g m)
 have hb1:dw x [zz 0 m]=some 0:=by
  rw [Ga x [zz 0 m] a4 (hg1 0) (by omega) (by simp),hs,hf1 0 (by omega) (by omega)];rfl
 have hbA:∀g,0<=g->g<=1000000->dw x (c++[zz g m])=some 0:=λg g0 g1=>by
  rw [Ga x (c++[zz g m]) a4 (hgA g) (by omega) (by simp;omega),hs,hfA g g0 g1];rfl
 have hck:bU [zz 0 m]=some 0:=by
  rw [Nq [zz 0 m] (hg1 0) (by simp),hf1 0 (by omega) (by omega)]
 have hcf:aV c (λx0=>lu x0 (zz 0 m))=some false:=by
  have h1:aV c (λx0=>lu x0 (zz 0 m))=some (c.any λy=>sEq y.Key (zz 0 m).Key):=Fz c _ _ (λy _=>rfl) (by omega)
  rw [h1,zz_not b6 0 m]
 have hap:∀g,jZ c [zz g m]=some (c++[zz g m]):=λg=>xz _ _ (by simp;omega)
 have hofA:∀g,0<=g->g<=1000001->Office x (c++[zz g m]):=λg g0 g1=>IB hof (by omega) ⟨g0,by show g<=10000000;omega,by show 0<=m;omega,by show m<=10000000;omega,by simp [zz]⟩
 obtain ⟨n,r1,r2⟩:=roomK hof (c:=zz 0 m) (by refine⟨?_,?_,?_⟩ <;> simp [zz] <;> omega) hb1
 obtain ⟨w,n1,n2,n3⟩:=KI (hofA 1000000 (by omega) (by omega))
 have n3':=DK (zz 1000000 m) n3
 have hroom:w<=(bE x c).goals+n:=by
  have:=Mj n3'
  rw [r2];exact this
 have hwv:v<=w:=I8 (by show (0:Int)<=1000000;omega) (by show 0<=m;omega) m3 n3'
 have hn45:n<=45:=by
  rw [r2]
  have h1:=BO (f:=λk=>bif (match x[k]? with | some s=>l6 (zz 0 m) s | none=>false)then min ((bE x c).room k) (zz 0 m).Most else 0) (M:=9) (n:=x.length) (λk _=>by
   have:(zz 0 m).Most=m:=rfl
   rw [this]
   show (bif (match x[k]? with | some s=>l6 (zz 0 m) s | none=>false)then min ((bE x c).room k) m else 0)<=9
   cases (match x[k]? with | some s=>l6 (zz 0 m) s | none=>false) <;> simp <;> omega)
  omega
 have hzz:(⟨(⟨#[122,122]⟩:ByteArray),(⟨#[]⟩:ByteArray),(⟨0,100⟩:Window),([]:List ByteArray),0,m,0⟩:Campaign)=zz 0 m:=rfl
 have hzg:∀g,(⟨(⟨#[122,122]⟩:ByteArray),(⟨#[]⟩:ByteArray),(⟨0,100⟩:Window),([]:List ByteArray),g,m,0⟩:Campaign)=zz g m:=λg=>rfl
 have hcan:=canK hof hb m1
 by_cases hv:v<(bE x c).goals
 ·have hleft:kg x c (zz 0 m)=some (0,12):=by
   unfold kg
   simp only [hb,ob_,bne_self_eq_false,cond_false,hck,hcf,hgk,m1,decide_eq_true hv,cond_true]
  have hvb:(v==(bE x c).goals)=false:=by simp;omega
  unfold jo
  simp only [a1,b1',k1,hzz,hleft,r1,hcan,hvb,ob_]
  rw [show ((12:Int) != 0)=true from rfl,show ((12:Int)==12)=true from rfl,show ((0:Int)==0)=true from rfl]
  simp only [cond_true,Bool.not_false,Hm,ob_]
 ·have hveq:v=(bE x c).goals:=by omega
  have hleft:kg x c (zz 0 m)=some (w-v,0):=by
   have hz:(⟨(zz 0 m).Key,(zz 0 m).Class,(zz 0 m).Time,(zz 0 m).Tags,1000000,(zz 0 m).Most,(zz 0 m).Cents⟩:Campaign)=zz 1000000 m:=rfl
   unfold kg
   simp only [hb,ob_,bne_self_eq_false,cond_false,hck,hcf,hgk,m1,decide_eq_false hv,CE c (by omega),hz,hap,n1]
   rw [hveq,iq (by omega)]
  obtain ⟨p1,p2⟩:=NK m3 n3' (by omega) (by show w-v<1000000;omega)
  have hw1:w64 (w-v+1)=w-v+1:=iq (by omega)
  obtain ⟨u1,q1,q2,q3⟩:=KI (hofA (w-v) (by omega) (by omega))
  have hu1:u1=w:=(DK (zz (w-v) m) q3).uniq p1
  obtain ⟨u2,t1,t2,t3⟩:=KI (hofA (w-v+1) (by omega) (by omega))
  have hu2:=p2 u2 (DK (zz (w-v+1) m) t3)
  have hc1:jg x (c++[zz (w-v) m])=some (true,0):=by
   rw [canK (hofA (w-v) (by omega) (by omega)) (hbA _ (by omega) (by omega)) q1,DR]
   have:(u1==(bE x c).goals+(zz (w-v) m).Goal)=true:=by
    have e:(zz (w-v) m).Goal=w-v:=rfl
    rw [e];simp;omega
   rw [this]
  have hc2:jg x (c++[zz (w-v+1) m])=some (false,0):=by
   rw [canK (hofA (w-v+1) (by omega) (by omega)) (hbA _ (by omega) (by omega)) t1,DR]
   have:(u2==(bE x c).goals+(zz (w-v+1) m).Goal)=false:=by
    have e:(zz (w-v+1) m).Goal=w-v+1:=rfl
    rw [e];simp;omega
   rw [this]
  have hlr:decide (w-v<=n)=true:=decide_eq_true (by omega)
  unfold jo
  simp only [a1,b1',k1,hzz,hleft,r1,ob_,bne_self_eq_false,cond_false,CE c (by omega),hw1,hzg,hap,hc1,hc2,errsKp]
  rw [show ((or0 0 (or0 0 0):Int)==0)=true from rfl]
  simp only [cond_true,hlr,Bool.not_false,Hm,ob_]
end Go.Proofs.YtekmkepojbhafabGreatDoor.Law

