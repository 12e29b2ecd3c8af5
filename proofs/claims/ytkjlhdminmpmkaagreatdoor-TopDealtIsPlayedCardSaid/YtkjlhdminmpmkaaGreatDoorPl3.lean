/-
  THE PLAIN LAW (part 3).
-/
import Derived.Test.YtkjlhdminmpmkaaGreatDoorPl2
import Derived.Test.YtkjlhdminmpmkaaGreatDoorDefs
open Go Go.Eng Go.Flow
namespace Go.Proofs.YtkjlhdminmpmkaaGreatDoor.Law
set_option linter.unusedVariables false
set_option linter.unusedSimpArgs false
set_option linter.unusedSectionVars false
def shC (spots:List Spot) (x:Nat->Nat->Int) (i:Nat) (c:Campaign):Nat->List Share
 | 0=>[]
 | k+1=>shC spots x i c k++match spots[k]? with
  | some s=>if 0<x i k then [⟨c.Key,s.Key,x i k⟩]else []
  | none=>[]
def shA (spots:List Spot) (l:List Campaign) (x:Nat->Nat->Int):Nat->List Share
 | 0=>[]
 | i+1=>shA spots l x i++match l[i]? with
  | some c=>shC spots x i c spots.length
  | none=>[]
theorem BS {spots:List Spot} {x y:Nat->Nat->Int} {i:Nat} {c:Campaign}:∀{k:Nat},(∀j,j<k->x i j=y i j)->shC spots x i c k=shC spots y i c k
 | 0,_=>rfl
 | k+1,h=>by
  unfold shC
  rw [BS (λj hj=>h j (by omega)),h k (by omega)]
theorem HY {spots:List Spot} {l:List Campaign} {x y:Nat->Nat->Int}:∀{i:Nat},(∀j k,j<i->k<spots.length->x j k=y j k)->shA spots l x i=shA spots l y i
 | 0,_=>rfl
 | i+1,h=>by
  unfold shA
  rw [HY (λj k hj hk=>h j k (by omega) hk)]
  split
  ·rw [BS (λk hk=>h i k (by omega) hk)]
  ·rfl
theorem IC {spots:List Spot} {x:Nat->Nat->Int} {i:Nat} {c:Campaign}:∀k:Nat,(shC spots x i c k).length<=k
 | 0=>Nat.le_refl _
 | k+1=>by
  unfold shC
  rw [List.length_append]
  have:=IC (spots:=spots) (x:=x) (i:=i) (c:=c) k
  split
  ·split <;> simp <;> omega
  ·simp;omega
theorem I1 {spots:List Spot} {l:List Campaign} {x:Nat->Nat->Int}:∀i:Nat,(shA spots l x i).length<=i*spots.length
 | 0=>Nat.zero_le _
 | i+1=>by
  unfold shA
  rw [List.length_append,Nat.succ_mul]
  have:=I1 (spots:=spots) (l:=l) (x:=x) i
  split
  ·have:=IC (spots:=spots) (x:=x) (i:=i) (c:=by assumption) spots.length
   omega
  ·simp;omega
section
variable {spots:List Spot} {l:List Campaign}
def Great (N:Net) (x:Nat->Nat->Int) (i k:Nat):Prop:=∀x',N.Deal x'->(∀j m,j<N.q->m<N.m->Net.prior i k j m=true->x' j m=x j m)->x' i k<=x i k
theorem Great.congr {N:Net} {x y:Nat->Nat->Int} {i k:Nat} (hi:i<N.q) (hk:k<N.m) (h:Great N x i k) (e:∀j m,j<N.q->m<N.m->(Net.prior i k j m=true\/j=i/\m=k)->x j m=y j m):Great N y i k:=λx' h1 h2=>by
 rw [<- e i k hi hk (.inr ⟨rfl,rfl⟩)]
 exact h x' h1 (λj m hj hm hp=>(h2 j m hj hm hp).trans (e j m hj hm (.inl hp)).symm)
theorem kG {i k j m:Nat}:Net.prior i k j m=true↔(j<i\/j=i/\m<k):=by unfold Net.prior;exact decide_eq_true_iff
theorem Es {i k j m:Nat}:Net.also (Net.prior i k) i k j m=Net.prior i (k+1) j m:=by
 rw [Bool.eq_iff_iff]
 unfold Net.also
 simp only [Bool.or_eq_true,Bool.and_eq_true,decide_eq_true_eq,kG]
 omega
theorem GX {i m0 j m:Nat} (hm:m<m0):Net.prior i m0 j m=Net.prior (i+1) 0 j m:=by
 rw [Bool.eq_iff_iff]
 simp only [kG]
 omega
theorem yh {N:Net} {x:Nat->Nat->Int} {p p':Nat->Nat->Bool} (h:∀j m,j<N.q->m<N.m->p j m=p' j m):∀a b,a<N.size->b<N.size->N.res x p a b=N.res x p' a b:=λa b ha hb=>by
 rcases N.node ha with rfl|rfl|⟨j,hj,rfl⟩|⟨m,hm,rfl⟩
 ·rw [Net.res_0,Net.res_0]
 ·unfold Net.res;rfl
 ·rcases N.node hb with rfl|rfl|⟨o,ho,rfl⟩|⟨m,hm,rfl⟩
  ·rw [Net.res_c0 N _ _ hj,Net.res_c0 N _ _ hj]
  ·rw [Net.res_cc N _ _ hj (by omega) (by omega),Net.res_cc N _ _ hj (by omega) (by omega)]
  ·rw [Net.res_cc N _ _ hj (by omega) (by omega),Net.res_cc N _ _ hj (by omega) (by omega)]
  ·rw [Net.res_cs N _ _ hj,Net.res_cs N _ _ hj,h j m hj hm]
 ·rcases N.node hb with rfl|rfl|⟨o,ho,rfl⟩|⟨m',hm',rfl⟩
  ·rw [Net.res_s0,Net.res_s0]
  ·rw [Net.res_s1,Net.res_s1]
  ·rw [Net.res_sc N _ _ ho,Net.res_sc N _ _ ho,h o m ho hm]
  ·rw [Net.res_ss,Net.res_ss]
theorem res_le (h:Office spots l) {x:Nat->Nat->Int} (p:Nat->Nat->Bool) (hx:(netOf spots l).Deal x):∀a b,a<(netOf spots l).size->b<(netOf spots l).size->(netOf spots l).res x p a b<=10000000:=λa b ha hb=>by
 have hg:=EG h
 have hm:=DT h
 have hr:=AJ h
 have hsu:∀i k,(bif (netOf spots l).suits i k then (netOf spots l).most i else 0)<=10000000:=λi k=>by
  cases (netOf spots l).suits i k
  ·show (0:Int)<=_;omega
  ·exact (hm i).2
 have hS:∀k,k<(netOf spots l).m->0<=S (netOf spots l).q (λi=>x i k):=λk hk=>uE (λi hi=>hx.pos i k hi hk)
 rcases (netOf spots l).node ha with rfl|rfl|⟨j,hj,rfl⟩|⟨m,hm',rfl⟩
 ·rw [Net.res_0];omega
 ·rcases (netOf spots l).node hb with rfl|rfl|⟨o,ho,rfl⟩|⟨m,hm',rfl⟩
  ·rw [Net.res_1 _ _ _ (by omega)];omega
  ·rw [Net.res_1 _ _ _ (by omega)];omega
  ·rw [Net.res_1 _ _ _ (by omega)];omega
  ·rw [Net.res_1s];have:=hx.room m hm';have:=hr m;omega
 ·rcases (netOf spots l).node hb with rfl|rfl|⟨o,ho,rfl⟩|⟨m,hm',rfl⟩
  ·rw [Net.res_c0 _ _ _ hj];exact (hg j).2
  ·rw [Net.res_cc _ _ _ hj (by omega) (by omega)];omega
  ·rw [Net.res_cc _ _ _ hj (by omega) (by omega)];omega
  ·rw [Net.res_cs _ _ _ hj]
   cases p j m
   ·have:=hsu j m;have:=hx.pos j m hj hm'
    show _-_<=_;omega
   ·show (0:Int)<=_;omega
 ·rcases (netOf spots l).node hb with rfl|rfl|⟨o,ho,rfl⟩|⟨m',hm'',rfl⟩
  ·rw [Net.res_s0];omega
  ·rw [Net.res_s1];have:=hS m hm';have:=hr m;omega
  ·rw [Net.res_sc _ _ _ ho]
   cases p o m
   ·have:=hsu o m;have:=hx.most o m ho hm'
    show x o m<=_;omega
   ·show (0:Int)<=_;omega
  ·rw [Net.res_ss];omega
structure DealSt (spots:List Spot) (l:List Campaign) (i k:Nat) (out:List Share) (s:List (List Int)×List Share×Int):Prop where
 cp:s.2.2=(l.length:Int)
 sq:Sq (netOf spots l).size s.1
 ex:∃x,(netOf spots l).Deal x/\(∀a b,a<(netOf spots l).size->b<(netOf spots l).size->at2 s.1 a b=(netOf spots l).res x (Net.prior i k) a b) /\
  (∀j m,j<(netOf spots l).q->m<(netOf spots l).m->Net.prior i k j m=true->Great (netOf spots l) x j m)/\s.2.1=shA spots l x i++match l[i]? with | some c=>shC spots x i c k | none=>[]
variable (h:Office spots l)
include h
theorem deal_L1 {w:Web} (hw:w.f_can.length=(netOf spots l).size) {i:Nat} {c:Campaign} (hc:l[i]? = some c) {k:Nat} {sp:Spot} (hk:spots[k]? = some sp) {s:List (List Int)×List Share×Int} (hst:DealSt spots l i k [] s) :
  ∃s',jN c w i k sp s=some (.go s')/\DealSt spots l i (k+1) [] s':=by
 have hi:i<l.length:=(List.getElem?_eq_some_iff.1 hc).1
 have hk':k<spots.length:=(List.getElem?_eq_some_iff.1 hk).1
 have hiq:i<(netOf spots l).q:=hi
 have hkm:k<(netOf spots l).m:=hk'
 have hsz:=size_eq (spots:=spots) (l:=l)
 have hsn:=h.sn
 have hln:=h.ln
 have hsuit:=Ea (spots:=spots) (l:=l) hc hk
 have hmost:=(wh (spots:=spots) (l:=l) hc).2
 have hsu:=Rb c sp (h.cr c (List.mem_of_getElem? hc)).2.2.2.2 (h.tg sp (List.mem_of_getElem? hk))
 obtain ⟨rows,out,cp⟩:=s
 obtain ⟨h1,hq,x,hx,hat,hgr,hout⟩:=hst
 simp only at h1 hq hat hout
 rw [hc]at hout
 simp only at hout
 have hsh:∀y:Nat->Nat->Int,shC spots y i c (k+1)=shC spots y i c k++if 0<y i k then [⟨c.Key,sp.Key,y i k⟩]else []:=λy=>by rw [shC,hk]
 have hpr:Net.prior i k i k=false:=by
  cases hp:Net.prior i k i k with
  | false=>rfl
  | true=>rw [kG]at hp;omega
 unfold jN
 simp only [hsu,ob_]
 cases hb:wM c sp with
 | false =>
  rw [hb]at hsuit
  simp only [Bool.not_false,cond_true]
  have hx0:x i k=0:=by
   have:=hx.pos i k hiq hkm
   have e:=hx.most i k hiq hkm
   rw [hsuit]at e
   have e:x i k<=0:=e
   omega
  refine⟨_,rfl,h1,hq,x,hx,λa b ha hb' => ?_,λj m hj hm hp => ?_,?_⟩
  ·show at2 rows a b=_
   rw [hat a b ha hb',<- yh (λj m _ _=>Es) a b ha hb',Net.res_mark _ x _ hiq hkm a b ha hb']
   split
   ·rename_i he
    rcases he with⟨rfl,rfl⟩|⟨rfl,rfl⟩
    ·rw [Net.res_cs _ _ _ hiq,hsuit,hx0,hpr];rfl
    ·rw [Net.res_sc _ _ _ hiq,hx0,hpr];rfl
   ·rfl
  ·rw [kG]at hp
   by_cases he:j=i/\m=k
   ·obtain ⟨rfl,rfl⟩:=he
    intro x' hx' _
    have e:=hx'.most j m hj hm
    rw [hsuit]at e
    rw [hx0];exact e
   ·exact hgr j m hj hm (kG.2 (by omega))
  ·show out=_
   rw [hc]
   simp only
   rw [hsh,hx0,if_neg (by omega),List.append_nil];exact hout
 | true =>
  rw [hb]at hsuit
  simp only [Bool.not_true,cond_false]
  have ha:2+i<(netOf spots l).size:=by omega
  have hbn:2+l.length+k<(netOf spots l).size:=by omega
  have hab:2+i≠2+l.length+k:=by omega
  have hpos:=(netOf spots l).res_pos (Net.prior i k) (uO h) hx
  obtain ⟨ra,a1,a2,a3⟩:=hq.get ha
  obtain ⟨rb,b1,b2,b3⟩:=hq.get hbn
  have vhas:at2 rows (2+l.length+k) (2+i)=x i k:=by
   rw [hat _ _ hbn ha]
   have:=Net.res_sc (netOf spots l) x (Net.prior i k) (i:=i) (k:=k) hiq
   rw [hpr]at this
   exact this
  have vmore:at2 rows (2+i) (2+l.length+k)=c.Most-x i k:=by
   rw [hat _ _ ha hbn]
   have:=Net.res_cs (netOf spots l) x (Net.prior i k) (i:=i) (k:=k) hiq
   rw [hpr,hsuit,hmost]at this
   exact this
  obtain ⟨q1,w1⟩:=hq.wr ha hbn 0 a1
  obtain ⟨rb',b1',b2',b3'⟩:=q1.get hbn
  obtain ⟨q2,w2⟩:=q1.wr hbn ha 0 b1'
  have hm2:∀a b,a<(netOf spots l).size->b<(netOf spots l).size->at2 ((rows.set (2+i) (ra.set (2+l.length+k) 0)).set (2+l.length+k) (rb'.set (2+i) 0)) a b=(netOf spots l).res x (Net.also (Net.prior i k) i k) a b:=λa b hla hlb=>by
   rw [w2,w1,Net.res_mark _ x _ hiq hkm a b hla hlb]
   by_cases e1:a=2+l.length+k/\b=2+i
   ·rw [if_pos e1,if_pos (.inr e1)]
   ·rw [if_neg e1]
    by_cases e2:a=2+i/\b=2+l.length+k
    ·rw [if_pos e2,if_pos (.inl e2)]
    ·rw [if_neg e2,if_neg (λe=>e.elim e2 e1)];exact hat a b hla hlb
  have hpos2:=(netOf spots l).res_pos (Net.also (Net.prior i k) i k) (uO h) hx
  have hle2:=res_le h (Net.also (Net.prior i k) i k) hx
  have hmle:c.Most<=10000000:=(h.cr c (List.mem_of_getElem? hc)).2.2.2.1
  have hxp:=hx.pos i k hiq hkm
  have hxm:x i k<=c.Most:=by
   have:=hx.most i k hiq hkm
   rw [hsuit,hmost]at this;exact this
  obtain ⟨v,rows',e2,q3,f3,v0,v1,v2⟩:=NI (n:=(netOf spots l).size) (s:=2+l.length+k) (t:=2+i) (w:=⟨(rows.set (2+i) (ra.set (2+l.length+k) 0)).set (2+l.length+k) (rb'.set (2+i) 0),cp⟩) (most:=c.Most-x i k) q2 (by omega) hbn ha (λe=>hab e.symm) (λa b hla hlb=>by
   show 0<=at2 ((rows.set (2+i) (ra.set (2+l.length+k) 0)).set (2+l.length+k) (rb'.set (2+i) 0)) a b
   rw [hm2 a b hla hlb];exact hpos2 a b hla hlb) (λa b hla hlb=>by
   show at2 ((rows.set (2+i) (ra.set (2+l.length+k) 0)).set (2+l.length+k) (rb'.set (2+i) 0)) a b+at2 ((rows.set (2+i) (ra.set (2+l.length+k) 0)).set (2+l.length+k) (rb'.set (2+i) 0)) b a<=_
   rw [hm2 a b hla hlb,hm2 b a hlb hla]
   have:=hle2 a b hla hlb
   have:=hle2 b a hlb hla
   omega) (by omega) (by omega)
  have f4:Flows (netOf spots l).size (2+(netOf spots l).q+k) (2+i) ((netOf spots l).res x (Net.also (Net.prior i k) i k)) (at2 rows') v:=CP hbn hm2 (λ_ _ _ _=>rfl) f3
  obtain ⟨d1,d2⟩:=Net.reroute (netOf spots l) (uO h) hx hiq hkm (Net.also_at _ i k) f4 v0 (by rw [hsuit,hmost];show x i k+v<=c.Most;omega)
  generalize hy:Net.after (netOf spots l) x (Net.also (Net.prior i k) i k) i k (at2 rows') v=y at d1 d2
  have yik:y i k=x i k+v:=by rw [<- hy];unfold Net.after;rw [if_pos ⟨rfl,rfl⟩]
  have yag:∀j m,Net.prior i k j m=true->y j m=x j m:=λj m hp=>by
   have hne:¬(j=i/\m=k):=λe=>by obtain ⟨rfl,rfl⟩:=e;rw [hpr]at hp;cases hp
   rw [<- hy];unfold Net.after
   rw [if_neg hne,Net.also_ne hne,hp];rfl
  obtain ⟨ra3,c1,c2,c3⟩:=q3.get ha
  obtain ⟨q4,w4⟩:=q3.wr ha hbn 0 c1
  obtain ⟨rb4,g1,g2,g3⟩:=q4.get hbn
  obtain ⟨rb3,k1,k2,k3⟩:=q3.get hbn
  obtain ⟨q5,w5⟩:=q4.wr hbn ha 0 g1
  have hws:w64 (x i k+v)=x i k+v:=dw (by omega)
  have hap:∀z:Share,iJ out [z]=some (out++[z]):=λz=>by
   unfold iJ
   rw [if_pos]
   rw [hout,List.length_append]
   have h5:=I1 (spots:=spots) (l:=l) (x:=x) i
   have h6:=IC (spots:=spots) (x:=x) (i:=i) (c:=c) k
   have h7:i*spots.length<=100*30:=Nat.mul_le_mul (by omega) (by omega)
   simp only [List.length_cons,List.length_nil]
   omega
  subst h1
  simp only [IK _ (show i<=1000000 by omega),Ik rows (show l.length<=1000000 by omega) (show k<=1000000 by omega),hq.ne (by omega),tu (show rows.length=w.f_can.length by rw [hw,hq.len]),ob_,qL (show 2+l.length+k<w.f_can.length by omega),qL (show 2+i<w.f_can.length by omega),toN,a1,b1,
   inR_at (show 2+i<rb.length by omega),inR_at (show 2+l.length+k<ra.length by omega),b3 _ ha,a3 _ hbn,b1',b3' _ ha,q2.ne (by omega),tu (show ((rows.set (2+i) (ra.set (2+l.length+k) 0)).set (2+l.length+k) (rb'.set (2+i) 0)).length=w.f_can.length by rw [hw,q2.len]),
   vmore,e2,EC (show rows'.length=((rows.set (2+i) (ra.set (2+l.length+k) 0)).set (2+l.length+k) (rb'.set (2+i) 0)).length by rw [q3.len,q2.len]),vhas,hws,c1,k1,inR_at (show 2+l.length+k<ra3.length by omega),inR_at (show 2+i<rb3.length by omega),c3 _ hbn,g1,g3 _ ha]
  have hfin:∀out',out'=shA spots l y i++shC spots y i c (k+1)->DealSt spots l i (k+1) [] ((rows'.set (2+i) (ra3.set (2+l.length+k) 0)).set (2+l.length+k) (rb4.set (2+i) 0),out',(l.length:Int)):=λout' ho=>by
   refine⟨rfl,q5,y,d1,λa b hla hlb => ?_,λj m hj hm hp => ?_,?_⟩
   ·show at2 ((rows'.set (2+i) (ra3.set (2+l.length+k) 0)).set (2+l.length+k) (rb4.set (2+i) 0)) a b=_
    rw [w5,w4,<- yh (λj m _ _=>Es) a b hla hlb]
    by_cases e1:a=2+l.length+k/\b=2+i
    ·rw [if_pos e1,e1.1,e1.2]
     have:=Net.res_sc (netOf spots l) y (Net.also (Net.prior i k) i k) (i:=i) (k:=k) hiq
     rw [Net.also_at]at this
     exact this.symm
    ·rw [if_neg e1]
     by_cases e2:a=2+i/\b=2+l.length+k
     ·rw [if_pos e2,e2.1,e2.2]
      have:=Net.res_cs (netOf spots l) y (Net.also (Net.prior i k) i k) (i:=i) (k:=k) hiq
      rw [Net.also_at]at this
      exact this.symm
     ·rw [if_neg e2];exact d2 a b hla hlb
   ·rw [kG]at hp
    by_cases he:j=i/\m=k
    ·obtain ⟨rfl,rfl⟩:=he
     intro x' hx' hag
     rw [yik]
     by_cases hv:v<c.Most-x j m
     ·obtain ⟨R,r1,r2,r3⟩:=v2 hv
      have hmx:=Net.share_max (netOf spots l) (uO h) d1 hiq hkm (Net.also_at (Net.prior j m) j m) (R:=R) r1 r2 (λa b hla hlb hra hrb=>by rw [<- d2 a b hla hlb];exact r3 a b hla hlb hra hrb) hx' (λo p ho hp2 hpr2 hne=>by
       rw [Net.also_ne hne]at hpr2
       exact hag o p ho hp2 hpr2)
      omega
     ·have:=hx'.most j m hj hm
      rw [hsuit,hmost]at this
      have:x' j m<=c.Most:=this
      omega
    ·refine (hgr j m hj hm (kG.2 (by omega))).congr hj hm (λo p ho hp2 hpr2=>(yag o p ?_).symm)
     rw [kG]
     rcases hpr2 with hpr2|hpr2
     ·rw [kG]at hpr2;omega
     ·omega
   ·rw [hc];exact ho
  have hsame:shA spots l x i++shC spots x i c k=shA spots l y i++shC spots y i c k:=by
   rw [HY (λj m hj hm=>(yag j m (kG.2 (.inl hj))).symm),BS (λm hm=>(yag i m (kG.2 (.inr ⟨rfl,hm⟩))).symm)]
  by_cases hp:x i k+v>0
  ·rw [decide_eq_true hp]
   simp only [cond_true,hap,ob_]
   refine⟨_,rfl,hfin _ ?_⟩
   rw [hsh,yik,if_pos hp,hout,hsame,List.append_assoc]
  ·rw [decide_eq_false hp]
   simp only [cond_false,ob_]
   refine⟨_,rfl,hfin _ ?_⟩
   rw [hsh,yik,if_neg hp,List.append_nil,hout,hsame]
end
end Go.Proofs.YtkjlhdminmpmkaaGreatDoor.Law

open Go Go.Eng
namespace Go.Proofs.YtkjlhdminmpmkaaGreatDoor.Law
set_option linter.unusedVariables false
set_option linter.unusedSimpArgs false
def or0 (a b:Int):Int:=bif a==0 then b else a
theorem both_eq (x:List Spot) (c:List Campaign) (hx:∀s∈x,GoodS s) (hc:∀s∈c,Gy s) (h1:x.length<=1000) (h2:c.length<=1000):gW x c=some (or0 (oL x) (sF c)):=by
  unfold gW or0
  rw [spotsK x hx (by omega),Qy c hc (by omega)]
  simp only [ob_]
  cases h:oL x==0 with
  | true => have : (oL x != 0) = false := by simp [bne, h]
            simp only [this,cond_false,cond_true]
  | false => have : (oL x != 0) = true := by simp [bne, h]
             simp only [this,cond_true,cond_false]
theorem OM {last:ByteArray} {x:Spot} (h:gN last x=0):tagsF x.Tags=0:=by
  unfold gN at h
  generalize (Cb x.Time||out x.Room 1000000)=q at h
  generalize sLe x.Key last=p at h
  generalize keyB x.Key=k at h
  cases k <;> cases p <;> cases q <;> first | (cases h;done) | exact h
theorem Gs:∀(l:List Spot) (last:ByteArray),chk Spot.Key gN last l=0->∀x∈l,tagsF x.Tags=0
  | [],_,_,x,hx=>by simp at hx
  | y::l,last,h,x,hx=>by
    rw [chk]at h
    cases he:gN last y==0 with
    | false=>rw [he]at h;simp only [cond_false]at h;rw [h]at he;cases he
    | true =>
      rw [he]at h
      simp only [cond_true]at h
      rcases List.mem_cons.1 hx with rfl|hx
      · exact OM (eq_of_beq he)
      · exact Gs l _ h x hx
theorem QV {l:List Spot} (h:oL l=0):∀x∈l,tagsF x.Tags=0:=by
  unfold oL at h
  by_cases hl:l.length>60
  · rw [decide_eq_true hl]at h;cases h
  · rw [decide_eq_false hl]at h;exact Gs l _ h
end Go.Proofs.YtkjlhdminmpmkaaGreatDoor.Law

open Go Go.Eng Go.Flow
namespace Go.Proofs.YtkjlhdminmpmkaaGreatDoor.Law
set_option linter.unusedVariables false
set_option linter.unusedSimpArgs false
set_option linter.unusedSectionVars false
theorem Ky {l:List Campaign} (hl:∀c∈l,CampR c) (hm:l.length<=1000) (spots:List Spot):Bw (λ_ (c:Campaign)=>c.Goal) 0 l=(netOf spots l).goals/\0<=(netOf spots l).goals/\(netOf spots l).goals<=10000000000:=by
 have hin:=Np (λ_ (c:Campaign)=>c.Goal) 10000000 l 0 (λj x hx=>⟨(hl x hx).1,(hl x hx).2.1⟩)
 have hS:Bw (λ_ (c:Campaign)=>c.Goal) 0 l=(netOf spots l).goals:=by
  unfold Net.goals
  exact R6 _ _ l 0 (λi x hx=>by show x.Goal=_;rw [(wh hx).1])
 rw [hS]at hin
 refine⟨hS,hin.1,?_⟩
 have:=hin.2
 have h2:(l.length:Int)<=1000:=by omega
 omega
theorem goals_K {l:List Campaign} (hl:∀c∈l,CampR c) (hm:l.length<=1000) (spots:List Spot):nI l=some (netOf spots l).goals:=by
 have hrun:forR (λk x s=>kR k x s) l 0 0=some (.go ((0:Int)+Bw (λ_ (c:Campaign)=>c.Goal) 0 l)):=J2 (λ_ c=>c.Goal) l 0 0 (by omega) (by omega) (λj x hx=>by have:=hl x hx;unfold CampR at this;omega) (λj x s hx hj h0 h1=>by
  have:=hl x hx
  unfold CampR at this
  unfold kR
  rw [dw (by omega)])
 unfold nI
 rw [jE (by omega),hrun,ob_,eu,Int.zero_add,(Ky hl hm spots).1]
theorem Qh (N:Net) (hr:N.Right):N.cutV (λ_=>false)<=N.goals:=by
 unfold Net.cutV Net.goals
 have h1:S N.m (λk=>bif (λ_=>false) k then N.room k else 0)=0:=Net.S_all0 (λk _=>rfl)
 have h2:S N.q (λi=>min (N.goal i) (N.ways (λ_=>false) i))<=S N.q N.goal:=S_le (λi _=>by omega)
 omega
theorem Ki {N:Net} (hr:N.Right) {r:Int} (h:FL N r):r<=N.goals/\(r=N.goals↔∀B,N.goals<=N.cutV B):=by
 obtain ⟨h1,B,h2⟩:=h
 have h3:=Qh N hr
 have h4:=h1 (λ_=>false)
 refine⟨by omega,λe B=>by rw [<- e];exact h1 B,λh => ?_⟩
 have:=h B
 omega
theorem PW {n hi:Int} (h:out n hi=false):0<=n/\n<=hi:=by
 unfold out at h
 simp only [Bool.or_eq_false_iff,decide_eq_false_iff_not]at h
 omega
theorem Ic {last:ByteArray} {x:Spot} (h:gN last x=0):0<=x.Room/\x.Room<=1000000:=by
 unfold gN at h
 cases hk:keyB x.Key <;> cases hl:sLe x.Key last <;> cases ho:out x.Room 1000000 <;> cases hb:Cb x.Time <;> rw [hk,hl,ho,hb]at h <;> first | (cases h;done) | exact PW ho
theorem KW:∀(l:List Spot) (last:ByteArray),chk Spot.Key gN last l=0->∀x∈l,0<=x.Room/\x.Room<=1000000
 | [],_,_,x,hx=>by simp at hx
 | y::l,last,h,x,hx=>by
  rw [chk]at h
  cases he:gN last y==0 with
  | false=>rw [he]at h;simp only [cond_false]at h;rw [h]at he;cases he
  | true =>
   rw [he]at h
   simp only [cond_true]at h
   rcases List.mem_cons.1 hx with rfl|hx
   ·exact Ic (eq_of_beq he)
   ·exact KW l _ h x hx
theorem Mx {last:ByteArray} {c:Campaign} (h:ik last c=0):0<=c.Goal/\c.Goal<=1000000/\0<=c.Most/\c.Most<=1000000:=by
 unfold ik at h
 cases hk:(!keyB c.Key||(decide (c.Class.size≠0) && !keyB c.Class)) <;> rw [hk]at h <;> simp only [cond_true,cond_false]at h
 ·cases hl:sLe c.Key last <;> rw [hl]at h <;> simp only [cond_true,cond_false]at h
  ·cases ho:(Cb c.Time||(out c.Goal 1000000||(out c.Most 1000000||out c.Cents 1000000000))) <;> rw [ho]at h <;> simp only [cond_true,cond_false]at h
   ·simp only [Bool.or_eq_false_iff]at ho
    have h1:=PW ho.2.1
    have h2:=PW ho.2.2.1
    omega
   ·cases h
  ·cases h
 ·cases h
theorem GJ:∀(l:List Campaign) (last:ByteArray),chk Campaign.Key ik last l=0->∀x∈l,0<=x.Goal/\x.Goal<=1000000/\0<=x.Most/\x.Most<=1000000
 | [],_,_,x,hx=>by simp at hx
 | y::l,last,h,x,hx=>by
  rw [chk]at h
  cases he:ik last y==0 with
  | false=>rw [he]at h;simp only [cond_false]at h;rw [h]at he;cases he
  | true =>
   rw [he]at h
   simp only [cond_true]at h
   rcases List.mem_cons.1 hx with rfl|hx
   ·exact Mx (eq_of_beq he)
   ·exact GJ l _ h x hx
theorem Jr {x:List Spot} {c:List Campaign} (hx:∀s∈x,GoodS s) (hc:∀s∈c,Gy s) (h1:x.length<=30) (h2:c.length<=30) (hs:oL x=0) (hcf:sF c=0):Office x c:=by
 have e1:chk Spot.Key gN nz x=0:=by
  unfold oL at hs
  rw [decide_eq_false (by omega)]at hs;exact hs
 have e2:chk Campaign.Key ik nz c=0:=by
  unfold sF at hcf
  rw [decide_eq_false (by omega)]at hcf;exact hcf
 refine⟨QV hs,λs hm => ?_,λo hm => ?_,h1,by omega⟩
 ·have:=KW x _ e1 s hm
  exact⟨this.1,by omega,by have:=(hx s hm).2.1;omega⟩
 ·have:=GJ c _ e2 o hm
  exact⟨this.1,by omega,this.2.2.1,by omega,by have:=(hc o hm).2.2.1;omega⟩
end Go.Proofs.YtkjlhdminmpmkaaGreatDoor.Law

open Go Go.Eng Go.Flow
namespace Go.Proofs.YtkjlhdminmpmkaaGreatDoor.Law
set_option linter.unusedVariables false
set_option linter.unusedSimpArgs false
set_option linter.unusedSectionVars false
theorem G7 {α β:Type} {f:α->β} {ks:List β} {k:Nat} {x:β} {l:List α} (hx:ks[k]? = some x) (h:(l.map f).Sublist (ks.take k)):(l.map f).Sublist (ks.take (k+1))/\∀c,f c=x->((l++[c]).map f).Sublist (ks.take (k+1)):=by
 have e:ks.take (k+1)=ks.take k++[x]:=by
  rw [List.take_add_one,hx];rfl
 rw [e]
 refine⟨h.trans (List.sublist_append_left _ _),λc hc => ?_⟩
 rw [List.map_append]
 refine h.append ?_
 rw [List.map_cons,hc]
 exact List.Sublist.refl _
theorem ltl {a b:ByteArray} (h:sLt a b=true):lt a b:=(Dv a b).1 h
theorem EX {L:Nat->ByteArray->(List ByteArray×List Int×Int)->Option (Ctl (List ByteArray×List Int×Int) Unit)} {n:Int} (hn:1<=n) (hn2:n<=1000)
  (hL:∀k x s,L k x s=(gY (⟨s.2.1,s.2.2⟩:Stream) n).bind λr=>(bif r.1 then (iJ s.1 ([x]:List ByteArray)).bind λa=>some a else some s.1).bind λv=>some (.go (v,r.2.L,r.2.f_at)))
  (s:Stream) {b:Int} (hs:Ok s b) (hb:b<=900000):∃t s',forL ([(⟨#[99,105,116,121]⟩:ByteArray),(⟨#[109,97,108,108]⟩:ByteArray)]:List ByteArray) (([]:List ByteArray),s.L,s.f_at) (λk x s=>L k x s)=some (.go (t,s'.L,s'.f_at))/\tagsF t=0/\t.length<=20/\(∀x∈t,nN x)/\Ok s' (b+2):=by
 obtain ⟨c,s1,h1,h2⟩:=zX s n hs (by omega) hn hn2
 obtain ⟨d,s2,k1,k2⟩:=zX s1 n h2 (by omega) hn hn2
 have e1:(⟨s.L,s.f_at⟩:Stream)=s:=rfl
 have e2:(⟨s1.L,s1.f_at⟩:Stream)=s1:=rfl
 rw [jE (by simp)]
 cases c <;> cases d <;> simp only [forR,hL,e1,h1,ob_,cond_true,cond_false,tN [] [(⟨#[99,105,116,121]⟩:ByteArray)] (by simp),tN [] [(⟨#[109,97,108,108]⟩:ByteArray)] (by simp),List.nil_append,e2,k1,tN [(⟨#[99,105,116,121]⟩:ByteArray)] [(⟨#[109,97,108,108]⟩:ByteArray)] (by simp)]
 ·exact⟨[],s2,rfl,by kernel_rfl,by decide,λx hx=>(by cases hx),k2.mono (by omega)⟩
 ·exact⟨[⟨#[109,97,108,108]⟩],s2,rfl,by kernel_rfl,by decide,λx hx=>(by rw [List.mem_singleton.1 hx];exact pK rfl),k2.mono (by omega)⟩
 ·exact⟨[⟨#[99,105,116,121]⟩],s2,rfl,by kernel_rfl,by decide,λx hx=>(by rw [List.mem_singleton.1 hx];exact pK rfl),k2.mono (by omega)⟩
 ·exact⟨[⟨#[99,105,116,121]⟩,⟨#[109,97,108,108]⟩],s2,rfl,by kernel_rfl,by decide,λx hx=>(by
   simp only [List.mem_cons,List.not_mem_nil,or_false]at hx
   rcases hx with rfl|rfl <;> exact pK rfl),k2.mono (by omega)⟩
def ze:List ByteArray:=[(⟨#[99,97]⟩:ByteArray),(⟨#[99,98]⟩:ByteArray),(⟨#[99,99]⟩:ByteArray),(⟨#[99,100]⟩:ByteArray)]
theorem M5:ze.Pairwise lt:=by
 unfold ze
 simp only [List.pairwise_cons,List.mem_cons,List.not_mem_nil,or_false,forall_eq_or_imp,forall_eq]
 refine⟨⟨ltl (by kernel_rfl),ltl (by kernel_rfl),ltl (by kernel_rfl)⟩,⟨ltl (by kernel_rfl),ltl (by kernel_rfl)⟩,ltl (by kernel_rfl),λa h=>(by cases h),List.Pairwise.nil⟩
theorem HV:∀k∈ze,keyB k=true/\nN k/\sLe k nz=false:=by
 intro k hk
 simp only [ze,List.mem_cons,List.not_mem_nil,or_false]at hk
 rcases hk with rfl|rfl|rfl|rfl <;> exact⟨by kernel_rfl,pK rfl,by kernel_rfl⟩
def uS:List ByteArray:=[(⟨#[115,97]⟩:ByteArray),(⟨#[115,98]⟩:ByteArray),(⟨#[115,99]⟩:ByteArray),(⟨#[115,100]⟩:ByteArray),(⟨#[115,101]⟩:ByteArray)]
theorem Lj:uS.Pairwise lt:=by
 unfold uS
 simp only [List.pairwise_cons,List.mem_cons,List.not_mem_nil,or_false,forall_eq_or_imp,forall_eq]
 refine⟨⟨ltl (by kernel_rfl),ltl (by kernel_rfl),ltl (by kernel_rfl),ltl (by kernel_rfl)⟩,⟨ltl (by kernel_rfl),ltl (by kernel_rfl),ltl (by kernel_rfl)⟩,⟨ltl (by kernel_rfl),ltl (by kernel_rfl)⟩,ltl (by kernel_rfl),λa h=>(by cases h),List.Pairwise.nil⟩
theorem Ow:∀k∈uS,keyB k=true/\nN k/\sLe k nz=false:=by
 intro k hk
 simp only [uS,List.mem_cons,List.not_mem_nil,or_false]at hk
 rcases hk with rfl|rfl|rfl|rfl|rfl <;> exact⟨by kernel_rfl,pK rfl,by kernel_rfl⟩
theorem IW {c:Spot} {last:ByteArray} (h:gN nz c=0) (hl:sLe c.Key last=false):gN last c=0:=by
 unfold gN at *
 rw [hl]
 cases h1 : !keyB c.Key with
 | true=>rw [h1]at h;cases h
 | false =>
  rw [h1,cond_false]at h
  cases h2:sLe c.Key nz with
  | true=>rw [h2]at h;cases h
  | false=>rw [h2]at h;exact h
theorem K8 {c:Campaign} {last:ByteArray} (h:ik nz c=0) (hl:sLe c.Key last=false):ik last c=0:=by
 unfold ik at *
 rw [hl]
 cases h1:(!keyB c.Key||(decide (c.Class.size≠0) && !keyB c.Class))with
 | true=>rw [h1]at h;cases h
 | false =>
  rw [h1,cond_false]at h
  cases h2:sLe c.Key nz with
  | true=>rw [h2]at h;cases h
  | false=>rw [h2]at h;exact h
theorem L9 {α:Type} (key:α->ByteArray) (stp:ByteArray->α->Int) (hn:∀c last,stp nz c=0->sLe (key c) last=false->stp last c=0):∀(l:List α) (last:ByteArray),(∀c∈l,stp nz c=0)->(l.map key).Pairwise lt->(∀c∈l,sLe (key c) last=false)->chk key stp last l=0
 | [],_,_,_,_=>rfl
 | c::l,last,h,hp,hl=>by
  have h0:=hn c last (h c (by simp)) (hl c (by simp))
  rw [List.map_cons,List.pairwise_cons]at hp
  rw [chk,h0]
  show (bif (0:Int)==0 then _ else _)=_
  rw [beq_self_eq_true,cond_true]
  refine L9 key stp hn l (key c) (λx hx=>h x (by simp [hx])) hp.2 (λx hx => ?_)
  rw [Bool.eq_false_iff]
  intro he
  exact (Aq _ _).1 he (hp.1 (key x) (List.mem_map.2 ⟨x,hx,rfl⟩))
theorem Kh {c:Spot} (h:gN nz c=0):sLe c.Key nz=false:=by
 unfold gN at h
 cases h1 : !keyB c.Key with
 | true=>rw [h1]at h;cases h
 | false =>
  rw [h1,cond_false]at h
  cases h2:sLe c.Key nz with
  | true=>rw [h2]at h;cases h
  | false=>rfl
theorem JE {c:Campaign} (h:ik nz c=0):sLe c.Key nz=false:=by
 unfold ik at h
 cases h1:(!keyB c.Key||(decide (c.Class.size≠0) && !keyB c.Class))with
 | true=>rw [h1]at h;cases h
 | false =>
  rw [h1,cond_false]at h
  cases h2:sLe c.Key nz with
  | true=>rw [h2]at h;cases h
  | false=>rfl
theorem LX {xs:List Spot} (hl:xs.length<=60) (h:∀x∈xs,gN nz x=0) (hp:(xs.map Spot.Key).Pairwise lt):oL xs=0:=by
 unfold oL
 rw [decide_eq_false (by omega),cond_false]
 exact L9 Spot.Key gN (λc last=>IW) xs nz h hp (λc hc=>Kh (h c hc))
theorem LH {xs:List Campaign} (hl:xs.length<=30) (h:∀x∈xs,ik nz x=0) (hp:(xs.map Campaign.Key).Pairwise lt):sF xs=0:=by
 unfold sF
 rw [decide_eq_false (by omega),cond_false]
 exact L9 Campaign.Key ik (λc last=>K8) xs nz h hp (λc hc=>JE (h c hc))
theorem JM (s:Stream) {b:Int} (hs:Ok s b) (hb:b<=800000):∃xs s',eU s=some (xs,s')/\Ok s' (b+100)/\xs.length<=5/\(∀x∈xs,GoodS x)/\(∀x∈xs,gN nz x=0)/\(xs.map Spot.Key).Pairwise lt/\∀x∈xs,0<=x.Time.From/\x.Time.From<x.Time.To/\x.Time.To<=60/\0<=x.Room/\x.Room<=5:=by
 unfold eU
 have hk1:([(⟨#[115,97]⟩:ByteArray),(⟨#[115,98]⟩:ByteArray),(⟨#[115,99]⟩:ByteArray),(⟨#[115,100]⟩:ByteArray),(⟨#[115,101]⟩:ByteArray)]:List ByteArray)=uS:=rfl
 rw [hk1]
 obtain ⟨s',h1,h2,h3,h4,h5,h6⟩:=o7 (body:=λk x s=>dM k x s) (λk s=>Ok ⟨s.2.1,s.2.2⟩ (b+15*k)/\(s.1.map Spot.Key).Sublist (uS.take k)/\(∀x∈s.1,GoodS x)/\(∀x∈s.1,gN nz x=0)/\∀x∈s.1,0<=x.Time.From/\x.Time.From<x.Time.To/\x.Time.To<=60/\0<=x.Room/\x.Room<=5)
  (xs:=uS) (s:=(([]:List Spot),s.L,s.f_at)) (by decide) (λk x t hx ⟨i1,i2,i3,i4,i5⟩=>by
   have hkl:k<5:=by
    rcases Nat.lt_or_ge k 5 with g|g
    ·exact g
    ·rw [List.getElem?_eq_none (by exact g)]at hx;cases hx
   obtain ⟨n1,n2,n3⟩:=Ow x (List.mem_of_getElem? hx)
   obtain ⟨g1,g2⟩:=G7 hx i2
   have hlen:t.1.length<=5:=by
    have:=i2.length_le
    rw [List.length_map,List.length_take]at this
    omega
   obtain ⟨c,s1,k1,k2⟩:=zX _ 4 i1 (by omega) (by decide) (by decide)
   simp only [dM,k1,ob_]
   cases c with
   | true=>exact⟨_,rfl,k2.mono (by omega),g1,i3,i4,i5⟩
   | false =>
    obtain ⟨p1,s2,m1,q1,n1'⟩:=rA s1 [5,10,10] k2 (by omega) (by simp) (by simp)
    obtain ⟨p2,s3,m2,q2,n2'⟩:=rA s2 [0,1,2,3,5] n1' (by omega) (by simp) (by simp)
    obtain ⟨tg,s4,k7,k8,k9,k10,k11⟩:=EX (L:=gM) (n:=2) (by decide) (by decide) (λ_ _ _=>rfl) s3 n2' (by omega)
    simp only [List.mem_cons,List.not_mem_nil,or_false]at q1 q2
    have e1:w64 (10*(k:Int))=10*k:=dw (by omega)
    have e2:w64 (10*(k:Int)+p1)=10*k+p1:=dw (by omega)
    simp only [cond_false,m1,m2,k7,ob_,eu,e1,e2,tN t.1 _ (show t.1.length+[_].length<=_ by simp;omega)]
    refine⟨_,rfl,k11.mono (by omega),g2 _ rfl,λy hy => ?_,λy hy => ?_,λy hy => ?_⟩
    ·rcases List.mem_append.1 hy with hy|hy
     ·exact i3 y hy
     ·rw [List.mem_singleton.1 hy]
      exact⟨n2,k9,k10⟩
    ·rcases List.mem_append.1 hy with hy|hy
     ·exact i4 y hy
     ·rw [List.mem_singleton.1 hy]
      unfold gN Cb out
      simp only [n1,n3,k8,Bool.not_true,cond_false]
      rw [decide_eq_false (show ¬10*(k:Int)<0 by omega),decide_eq_false (show ¬10*(k:Int)>=10*k+p1 by omega),decide_eq_false (show ¬10*(k:Int)+p1>345686400000 by omega),decide_eq_false (show ¬p2<0 by omega),decide_eq_false (show ¬p2>1000000 by omega)]
      rfl
    ·rcases List.mem_append.1 hy with hy|hy
     ·exact i5 y hy
     ·rw [List.mem_singleton.1 hy]
      show 0<=10*(k:Int)/\10*(k:Int)<10*k+p1/\10*(k:Int)+p1<=60/\0<=p2/\p2<=5
      omega) ⟨by simpa using hs,by simp,by simp,by simp,by simp⟩
 rw [h1]
 have hl:s'.1.length<=5:=by
  have:=h3.length_le
  rw [List.length_map,List.length_take]at this
  have e:uS.length=5:=rfl
  omega
 refine⟨s'.1,⟨s'.2.1,s'.2.2⟩,rfl,h2.mono (by show b+15*((5:Nat):Int)<=b+100;omega),hl,h4,h5,?_,h6⟩
 rw [show uS.take uS.length=uS from rfl]at h3
 exact Lj.sublist h3
theorem KN (m:Nat) (hm:m=3\/m=4) (s:Stream) {b:Int} (hs:Ok s b) (hb:b<=800000):∃xs s',dZ s (m:Int)=some (xs,s')/\Ok s' (b+100)/\xs.length<=m/\(∀x∈xs,Gy x)/\(∀x∈xs,ik nz x=0)/\(xs.map Campaign.Key).Sublist ze/\∀x∈xs,x.Time.To<=100/\0<=x.Goal/\x.Goal<=6/\0<=x.Most/\x.Most<=9:=by
 unfold dZ
 have hk1:MZ ([(⟨#[99,97]⟩:ByteArray),(⟨#[99,98]⟩:ByteArray),(⟨#[99,99]⟩:ByteArray),(⟨#[99,100]⟩:ByteArray)]:List ByteArray) 0 (m:Int)=some (ze.take m):=by
  rcases hm with rfl|rfl <;> rfl
 have hml:(ze.take m).length=m:=by rcases hm with rfl | rfl <;> rfl
 simp only [hk1,ob_]
 obtain ⟨s',h1,h2,h3,h4,h5,h6⟩:=o7 (body:=λk x s=>eB k x s) (λk s=>Ok ⟨s.2.1,s.2.2⟩ (b+20*k)/\(s.1.map Campaign.Key).Sublist ((ze.take m).take k)/\(∀x∈s.1,Gy x)/\(∀x∈s.1,ik nz x=0)/\∀x∈s.1,x.Time.To<=100/\0<=x.Goal/\x.Goal<=6/\0<=x.Most/\x.Most<=9)
  (xs:=ze.take m) (s:=(([]:List Campaign),s.L,s.f_at)) (by rw [hml];omega) (λk x t hx ⟨i1,i2,i3,i4,i5⟩=>by
   have hkl:k<m:=by
    have:=(List.getElem?_eq_some_iff.1 hx).1
    omega
   obtain ⟨n1,n2,n3⟩:=HV x (List.mem_of_mem_take (List.mem_of_getElem? hx))
   obtain ⟨g1,g2⟩:=G7 hx i2
   have hlen:t.1.length<=4:=by
    have:=i2.length_le
    rw [List.length_map,List.length_take]at this
    omega
   obtain ⟨c,s1,k1,k2⟩:=zX _ 5 i1 (by omega) (by decide) (by decide)
   simp only [eB,k1,ob_]
   cases c with
   | true=>exact⟨_,rfl,k2.mono (by omega),g1,i3,i4,i5⟩
   | false =>
    obtain ⟨cl,s2,k3,kc,k4⟩:=some_ok s1 [(⟨#[]⟩:ByteArray),(⟨#[]⟩:ByteArray),(⟨#[99,97,114,115]⟩:ByteArray),(⟨#[102,111,111,100]⟩:ByteArray)] k2 (by omega) (by simp) (by simp)
    obtain ⟨p1,s3,m1,q1,n1'⟩:=rA s2 [0,0,10,20] k4 (by omega) (by simp) (by simp)
    obtain ⟨p2,s4,m2,q2,n2'⟩:=rA s3 [30,50,60,100] n1' (by omega) (by simp) (by simp)
    obtain ⟨p3,s5,m3,q3,n3'⟩:=rA s4 [0,1,2,3,4,6] n2' (by omega) (by simp) (by simp)
    obtain ⟨p4,s6,m4,q4,n4'⟩:=rA s5 [0,1,2,3,9] n3' (by omega) (by simp) (by simp)
    obtain ⟨p5,s7,m5,q5,n5'⟩:=rA s6 [0,500,1000,1500] n4' (by omega) (by simp) (by simp)
    obtain ⟨tg,s8,k7,k8,k9,k10,k11⟩:=EX (L:=gQ) (n:=4) (by decide) (by decide) (λ_ _ _=>rfl) s7 n5' (by omega)
    simp only [List.mem_cons,List.not_mem_nil,or_false]at q1 q2 q3 q4 q5
    simp only [cond_false,k3,m1,m2,m3,m4,m5,k7,ob_,eu,tN t.1 _ (show t.1.length+[_].length<=_ by simp;omega)]
    have hcl:nN cl/\(decide (cl.size≠0) && !keyB cl)=false:=by
     simp only [List.mem_cons,List.not_mem_nil,or_false]at kc
     rcases kc with rfl|rfl|rfl|rfl <;> exact⟨pK rfl,by kernel_rfl⟩
    refine⟨_,rfl,k11.mono (by omega),g2 _ rfl,λy hy => ?_,λy hy => ?_,λy hy => ?_⟩
    ·rcases List.mem_append.1 hy with hy|hy
     ·exact i3 y hy
     ·rw [List.mem_singleton.1 hy]
      exact⟨n2,hcl.1,k9,k10⟩
    ·rcases List.mem_append.1 hy with hy|hy
     ·exact i4 y hy
     ·rw [List.mem_singleton.1 hy]
      unfold ik Cb out
      simp only [n1,hcl.2,n3,k8,Bool.not_true,Bool.or_false,cond_false]
      rw [decide_eq_false (show ¬p1<0 by omega),decide_eq_false (show ¬p1>=p2 by omega),decide_eq_false (show ¬p2>345686400000 by omega),decide_eq_false (show ¬p3<0 by omega),decide_eq_false (show ¬p3>1000000 by omega),decide_eq_false (show ¬p4<0 by omega),decide_eq_false (show ¬p4>1000000 by omega),decide_eq_false (show ¬p5<0 by omega),decide_eq_false (show ¬p5>1000000000 by omega)]
      rfl
    ·rcases List.mem_append.1 hy with hy|hy
     ·exact i5 y hy
     ·rw [List.mem_singleton.1 hy]
      show p2<=100/\0<=p3/\p3<=6/\0<=p4/\p4<=9
      omega) ⟨by simpa using hs,by simp,by simp,by simp,by simp⟩
 rw [h1]
 have hl:s'.1.length<=m:=by
  have:=h3.length_le
  rw [List.length_map,List.length_take,hml]at this
  omega
 refine⟨s'.1,⟨s'.2.1,s'.2.2⟩,rfl,h2.mono (by rw [hml];omega),hl,h4,h5,?_,h6⟩
 exact (h3.trans (List.take_sublist _ _)).trans (List.take_sublist _ _)
end Go.Proofs.YtkjlhdminmpmkaaGreatDoor.Law

open Go Go.Eng Go.Flow
namespace Go.Proofs.YtkjlhdminmpmkaaGreatDoor.Law
set_option linter.unusedVariables false
set_option linter.unusedSimpArgs false
end Go.Proofs.YtkjlhdminmpmkaaGreatDoor.Law

open Go Go.Eng
namespace Go.Proofs.YtkjlhdminmpmkaaGreatDoor.Law
set_option linter.unusedVariables false
set_option linter.unusedSimpArgs false
def wE {σ ρ:Type} (s:σ) (body:σ->Option (Ctl σ ρ)):Option (Ctl σ ρ):=iterN body 300 s
def Le {α:Type} (a b:Option α):Prop:=∀r,a=some r->b=some r
theorem Le.refl {α:Type} (a:Option α):Le a a:=λ_ h=>h
theorem Le.bind {α β:Type} {a b:Option α} {f g:α->Option β} (h:Le a b) (k:∀x,Le (f x) (g x)):Le (a.bind f) (b.bind g):=λr e=>by
 obtain ⟨x,h1,h2⟩:=Option.bind_eq_some_iff.1 e
 rw [h x h1];exact k x r h2
theorem Le.cond {α:Type} {a b c d:Option α} {t:Bool} (h:Le a c) (k:Le b d):Le (bif t then a else b) (bif t then c else d):=by
 cases t
 ·exact k
 ·exact h
theorem Le.thenC {σ ρ τ:Type} {o:Ctl σ ρ} {f f':σ->Option τ} {g g':ρ->Option τ} (h:∀x,Le (f x) (f' x)) (k:∀x,Le (g x) (g' x)):Le (Go.Eng.thenC o f g) (Go.Eng.thenC o f' g'):=by
 cases o
 ·exact h _
 ·exact Le.refl _
 ·exact k _
theorem Le.forR {α σ ρ:Type} {b b':Nat->α->σ->Option (Ctl σ ρ)} (h:∀k x s,Le (b k x s) (b' k x s)):∀(xs:List α) (k:Nat) (s:σ),Le (Go.Eng.forR b xs k s) (Go.Eng.forR b' xs k s)
 | [],k,s=>Le.refl _
 | x::xs,k,s=>Le.bind (h k x s) (λc=>by
   cases c with
   | go s'=>exact Le.forR h xs _ _
   | brk s'=>exact Le.refl _
   | ret r=>exact Le.refl _)
theorem Le.forL {α σ ρ:Type} {xs:List α} {s:σ} {b b':Nat->α->σ->Option (Ctl σ ρ)} (h:∀k x s,Le (b k x s) (b' k x s)):Le (Go.Eng.forL xs s b) (Go.Eng.forL xs s b'):=by
 unfold Go.Eng.forL
 split
 ·exact Le.forR h xs 0 s
 ·exact Le.refl _
theorem Le.iterN {σ ρ:Type} {b b':σ->Option (Ctl σ ρ)} (h:∀s,Le (b s) (b' s)):∀(n:Nat) (s:σ),Le (Go.Eng.iterN b n s) (Go.Eng.iterN b' n s)
 | 0,s=>Le.refl _
 | n+1,s=>Le.bind (h s) (λc=>by
   cases c with
   | go s'=>exact Le.iterN h n s'
   | brk s'=>exact Le.refl _
   | ret r=>exact Le.refl _)
theorem Le.loop {σ ρ:Type} {s:σ} {b b':σ->Option (Ctl σ ρ)} (h:∀s,Le (b s) (b' s)):Le (wE s b) (fZ s b'):=λr e=>fC (Le.iterN h _ _ r e)
end Go.Proofs.YtkjlhdminmpmkaaGreatDoor.Law

open Go Go.Eng
namespace Go.Proofs.YtkjlhdminmpmkaaGreatDoor.Law
set_option linter.unusedVariables false
set_option linter.unusedSimpArgs false
def Pz (x:Int):List Int->List Int
 | []=>[x]
 | y::l=>bif decide (x<=y)then x::y::l else y::Pz x l
def DR:List Int->List Int
 | []=>[]
 | x::l=>Pz x (DR l)
theorem BM (x:Int):∀l,(Pz x l).Perm (x::l)
 | [] => .refl _
 | y::l=>by
  unfold Pz
  cases decide (x<=y)with
  | true=>exact .refl _
  | false=>exact ((BM x l).cons y).trans (List.Perm.swap x y l)
theorem Cw:∀l,(DR l).Perm l
 | [] => .refl _
 | x::l=>(BM x _).trans ((Cw l).cons x)
theorem CF (x:Int):∀l:List Int,l.Pairwise (· <= ·)->(Pz x l).Pairwise (· <= ·)
 | [],_=>List.pairwise_singleton _ _
 | y::l,h=>by
  obtain ⟨h1,h2⟩:=List.pairwise_cons.1 h
  unfold Pz
  by_cases hx:x<=y
  ·rw [decide_eq_true hx,cond_true]
   exact List.pairwise_cons.2 ⟨λz hz=>by
    rcases List.mem_cons.1 hz with rfl|hz
    ·exact hx
    ·exact Int.le_trans hx (h1 z hz),h⟩
  ·rw [decide_eq_false hx,cond_false]
   exact List.pairwise_cons.2 ⟨λz hz=>by
    rcases List.mem_cons.1 ((BM x l).mem_iff.1 hz)with rfl|hz
    ·omega
    ·exact h1 z hz,CF x l h2⟩
theorem yR:∀l,(DR l).Pairwise (· <= ·)
 | [] => .nil
 | x::l=>CF x _ (yR l)
theorem OU (l:List Int):l.mergeSort (λx y=>decide (x<=y))=DR l:=by
 refine List.Perm.eq_of_pairwise (le:=(· <= ·)) (λa b _ _ h1 h2=>Int.le_antisymm h1 h2) ?_ (yR l) ((List.mergeSort_perm l _).trans (Cw l).symm)
 have:=List.pairwise_mergeSort (le:=λ(x y:Int)=>decide (x<=y)) (λa b c=>by simp;omega) (λa b=>by simp;omega) l
 exact this.imp (by simp)
def PZ (l:List Int):Option (List Int):=bif Nat.ble l.length 1000 then some (DR l)else none
theorem R3 (l:List Int):Le (PZ l) (cK l):=λr h=>by
 unfold PZ at h
 cases hb:Nat.ble l.length 1000 with
 | false=>rw [hb]at h;cases h
 | true =>
  rw [hb,cond_true]at h
  have:=Nat.le_of_ble_eq_true hb
  unfold cK Hw
  rw [if_pos (by omega),OU];exact h
end Go.Proofs.YtkjlhdminmpmkaaGreatDoor.Law

open Go Go.Eng
namespace Go.Proofs.YtkjlhdminmpmkaaGreatDoor.Law
set_option linter.unusedVariables false
set_option linter.unusedSimpArgs false
set_option maxRecDepth 100000
def lg (s_1:ByteArray):Option (Bool) :=
 (wE 0 (λs=>jY s_1 s)).bind λo_10=>thenC o_10 (λs_7=>(bif (sNe s_1 (⟨#[]⟩:ByteArray))then some (decide ((s_1.size:Int)<=40))else some false).bind λv_30=>some v_30) (λr=>some r)
theorem oK (s_1:ByteArray):Le (lg s_1) (fO s_1):=by
 unfold lg fO
 repeat' (with_reducible first|exact Le.refl _|refine Le.loop (λ_=>?_)|refine Le.thenC (λ_=>?_) (λ_=>?_)|refine Le.cond ?_ ?_|refine Le.bind ?_ (λ_=>?_))
def nC (l_1:(List ByteArray)) (k_2:Nat) (x_4:ByteArray) (s_7:Unit):Option (Ctl (Unit) (Int)) :=
 (lg x_4).bind λr_12=>bif (!r_12)then some (.ret 5)else (bif (decide ((k_2:Int)>0))then (idx l_1 (w64 ((k_2:Int)-1))).bind λy_18=>some (sLe x_4 y_18)else some false).bind λv_15=>bif v_15 then some (.ret 7)else some (.go ())
theorem wX (l_1:(List ByteArray)) (k_2:Nat) (x_4:ByteArray) (s_7:Unit):Le (nC l_1 k_2 x_4 s_7) (iB l_1 k_2 x_4 s_7):=by
 unfold nC iB
 repeat' (with_reducible first|exact Le.refl _|exact oK _|refine Le.cond ?_ ?_|refine Le.bind ?_ (λ_=>?_))
def mU (l_1:(List ByteArray)):Option (Int) :=
 (forL l_1 () (λk x s=>nC l_1 k x s)).bind λo_10=>thenC o_10 (λs_7=>some 0) (λr=>some r)
theorem su (l_1:(List ByteArray)):Le (mU l_1) (iX l_1):=by
 unfold mU iX
 repeat' (with_reducible first|exact Le.refl _|exact wX _ _ _ _|refine Le.forL (λ_ _ _=>?_)|refine Le.thenC (λ_=>?_) (λ_=>?_)|refine Le.bind ?_ (λ_=>?_))
def nD (l_1:(List ByteArray)):Option (Int) :=
 bif (decide ((l_1.length:Int)>20))then some 2 else (mU l_1).bind λr_3=>some r_3
theorem wU (l_1:(List ByteArray)):Le (nD l_1) (jm l_1):=by
 unfold nD jm
 repeat' (with_reducible first|exact Le.refl _|exact su _|refine Le.cond ?_ ?_|refine Le.bind ?_ (λ_=>?_))
def l9 (e_1:Entry):Option (Int) :=
 ((lg e_1.Key).bind λr_5=>bif (!r_5)then some true else (lg e_1.Item).bind λr_8=>some (!r_8)).bind λv_3=>bif v_3 then some 5 else ((aX e_1.Version 0 1000000).bind λr_13=>bif r_13 then some true else (aX e_1.First 0 e_1.Last).bind λr_16=>bif r_16 then some true else bif (decide (e_1.Last>4000))then some true else (aX e_1.Every 1 400).bind λr_20=>bif r_20 then some true else (aX e_1.Days 1 127).bind λr_23=>some r_23).bind λv_11=>bif v_11 then some 1 else (jP e_1.Except).bind λr_26=>bif (r_26 != 0)then some r_26 else ((aX e_1.From 0 1439).bind λr_31=>bif r_31 then some true else (aX e_1.To 0 1439).bind λr_34=>bif r_34 then some true else (aX e_1.Prio 0 9).bind λr_37=>some r_37).bind λv_29=>bif v_29 then some 1 else (nD e_1.Tags).bind λr_40=>some r_40
theorem vw (e_1:Entry):Le (l9 e_1) (jb e_1):=by
 unfold l9 jb
 repeat' (with_reducible first|exact Le.refl _|exact oK _|exact wU _|refine Le.cond ?_ ?_|refine Le.bind ?_ (λ_=>?_))
def jI (l_1:(List Entry)) (k_3:Nat) (x_5:Entry) (s_8:Unit):Option (Ctl (Unit) (Int)) :=
 (l9 x_5).bind λr_14=>bif (r_14 != 0)then some (.ret r_14)else (bif (decide ((k_3:Int)>0))then (idx l_1 (w64 ((k_3:Int)-1))).bind λy_20=>some (sLe x_5.Key y_20.Key)else some false).bind λv_17=>bif v_17 then some (.ret 7)else some (.go ())
theorem rH (l_1:(List Entry)) (k_3:Nat) (x_5:Entry) (s_8:Unit):Le (jI l_1 k_3 x_5 s_8) (gq l_1 k_3 x_5 s_8):=by
 unfold jI gq
 repeat' (with_reducible first|exact Le.refl _|exact vw _|refine Le.cond ?_ ?_|refine Le.bind ?_ (λ_=>?_))
def kX (l_1:(List Entry)):Option (Int) :=
 bif (decide ((l_1.length:Int)>200))then some 2 else (forL l_1 () (λk x s=>jI l_1 k x s)).bind λo_11=>thenC o_11 (λs_8=>some 0) (λr=>some r)
theorem ul (l_1:(List Entry)):Le (kX l_1) (iw l_1):=by
 unfold kX iw
 repeat' (with_reducible first|exact Le.refl _|exact rH _ _ _ _|refine Le.forL (λ_ _ _=>?_)|refine Le.thenC (λ_=>?_) (λ_=>?_)|refine Le.cond ?_ ?_|refine Le.bind ?_ (λ_=>?_))
def iZ (x_1:(List Int)) (target_2:Int):Option (Int×Bool) :=
 (wE (0,(x_1.length:Int)) (λs=>fe x_1 target_2 s)).bind λo_11=>thenC o_11 (λs_8=>(bif (decide (s_8.1<(x_1.length:Int)))then (idx x_1 s_8.1).bind λy_24=>bif (y_24==target_2)then some true else (idx x_1 s_8.1).bind λy_27=>(ji y_27).bind λr_29=>bif r_29 then (ji target_2).bind λr_32=>some r_32 else some false else some false).bind λv_21=>some (s_8.1,v_21)) (λ_=>none)
theorem pG (x_1:(List Int)) (target_2:Int):Le (iZ x_1 target_2) (d9 x_1 target_2):=by
 unfold iZ d9
 repeat' (with_reducible first|exact Le.refl _|refine Le.loop (λ_=>?_)|refine Le.thenC (λ_=>?_) (λ_=>?_)|refine Le.cond ?_ ?_|refine Le.bind ?_ (λ_=>?_))
def qF (e_1:Entry) (d_2:Int):Option (Bool) :=
 ((aX d_2 e_1.First e_1.Last).bind λr_6=>bif r_6 then some true else (JO .i64 (w64 (d_2-e_1.First)) e_1.Every).bind λq_9=>bif (q_9 != 0)then some true else (shlO .i64 1 (d_2.tmod 7)).bind λq_12=>some ((Cf .i64 e_1.Days q_12)==0)).bind λv_4=>bif v_4 then some false else (iZ e_1.Except d_2).bind λr_15=>some (!r_15.2)
theorem Av (e_1:Entry) (d_2:Int):Le (qF e_1 d_2) (mf e_1 d_2):=by
 unfold qF mf
 repeat' (with_reducible first|exact Le.refl _|exact pG _ _|refine Le.cond ?_ ?_|refine Le.bind ?_ (λ_=>?_))
def nZ (wv_3:Window) (zone_2:Int) (e_1:Entry) (s_15:(List Window)×Int):Option (Ctl ((List Window)×Int) (Unit)) :=
 bif (decide (s_15.2<=(zi (w64 ((w64 ((w64 (wv_3.To+(w64 (zone_2*60000)))).tdiv 86400000))+1)) e_1.Last)))then (qF e_1 s_15.2).bind λr_24=>bif (!r_24)then some (.go (s_15.1,(w64 (s_15.2+1))))else (nQ e_1 zone_2 s_15.2).bind λr_27=>(bif (decide (r_27.From<wv_3.To))then some (decide (r_27.To>wv_3.From))else some false).bind λv_30=>(bif v_30 then (iJ s_15.1 ([r_27]:List Window)).bind λa_37=>some a_37 else some s_15.1).bind λv_33=>some (.go (v_33,(w64 (s_15.2+1))))else some (.brk (s_15.1,s_15.2))
theorem xX (wv_3:Window) (zone_2:Int) (e_1:Entry) (s_15:(List Window)×Int):Le (nZ wv_3 zone_2 e_1 s_15) (jR wv_3 zone_2 e_1 s_15):=by
 unfold nZ jR
 repeat' (with_reducible first|exact Le.refl _|exact Av _ _|refine Le.cond ?_ ?_|refine Le.bind ?_ (λ_=>?_))
def qG (e_1:Entry) (zone_2:Int) (wv_3:Window):Option ((List Window)) :=
 (bif e_1.Gone then some true else some (decide (wv_3.From>=wv_3.To))).bind λv_6=>bif v_6 then some ([]:(List Window))else (wE (([]:List Window),(jc (w64 ((w64 ((w64 (wv_3.From+(w64 (zone_2*60000)))).tdiv 86400000))-2)) e_1.First)) (λs=>nZ wv_3 zone_2 e_1 s)).bind λo_21=>thenC o_21 (λs_15=>some s_15.1) (λ_=>none)
theorem zW (e_1:Entry) (zone_2:Int) (wv_3:Window):Le (qG e_1 zone_2 wv_3) (lZ e_1 zone_2 wv_3):=by
 unfold qG lZ
 repeat' (with_reducible first|exact Le.refl _|exact xX _ _ _ _|refine Le.loop (λ_=>?_)|refine Le.thenC (λ_=>?_) (λ_=>?_)|refine Le.cond ?_ ?_|refine Le.bind ?_ (λ_=>?_))
def iR (s_1:(List Int)) (s_8:Int):Option (Ctl (Int) ((List Int))) :=
 bif (decide (s_8<(s_1.length:Int)))then (inR s_8 s_1).bind λ_=>(s_1[(0+(s_8).toNat)]?).bind λe_15=>(inR (w64 (s_8-1)) s_1).bind λ_=>(s_1[(0+((w64 (s_8-1))).toNat)]?).bind λe_18=>bif (e_15==e_18)then (neL s_1).bind λ_=>(wP s_1 s_8 (s_1.length:Int)).bind λ_=>(wE (s_1,s_8,1) (λs=>gz s_1 s_8 s)).bind λo_31=>thenC o_31 (λs_28=>(wP s_28.1 s_28.2.1 (s_28.1.length:Int)).bind λ_=>(wP (s_28.1.take ((s_28.2.1).toNat)++List.replicate (((s_28.1.length:Int)).toNat-(s_28.2.1).toNat) 0++s_28.1.drop (((s_28.2.1).toNat)+(((s_28.1.length:Int)).toNat-(s_28.2.1).toNat))) 0 s_28.2.1).bind λ_=>some (.ret (Dh (s_28.1.take ((s_28.2.1).toNat)++List.replicate (((s_28.1.length:Int)).toNat-(s_28.2.1).toNat) 0++s_28.1.drop (((s_28.2.1).toNat)+(((s_28.1.length:Int)).toNat-(s_28.2.1).toNat))) 0 ((s_28.2.1).toNat)))) (λ_=>none)else some (.go (w64 (s_8+1)))else some (.brk s_8)
theorem pq (s_1:(List Int)) (s_8:Int):Le (iR s_1 s_8) (dX s_1 s_8):=by
 unfold iR dX
 repeat' (with_reducible first|exact Le.refl _|refine Le.loop (λ_=>?_)|refine Le.thenC (λ_=>?_) (λ_=>?_)|refine Le.cond ?_ ?_|refine Le.bind ?_ (λ_=>?_))
def jw (s_1:(List Int)):Option ((List Int)) :=
 bif (decide ((s_1.length:Int)<2))then some s_1 else (wE 1 (λs=>iR s_1 s)).bind λo_11=>thenC o_11 (λs_8=>some s_1) (λr=>some r)
theorem qU (s_1:(List Int)):Le (jw s_1) (fw s_1):=by
 unfold jw fw
 repeat' (with_reducible first|exact Le.refl _|exact pq _ _|refine Le.loop (λ_=>?_)|refine Le.thenC (λ_=>?_) (λ_=>?_)|refine Le.cond ?_ ?_|refine Le.bind ?_ (λ_=>?_))
def mH (l_1:(List Beat)) (k_3:Nat) (x_5:Beat) (s_8:Unit):Option (Ctl (Unit) (Int)) :=
 (lg x_5.Player).bind λr_14=>bif (!r_14)then some (.ret 5)else ((bR x_5.At).bind λr_19=>bif (!r_19)then some true else (aX x_5.Clock 0 345686399999).bind λr_22=>some r_22).bind λv_17=>bif v_17 then some (.ret 1)else (bif (decide ((k_3:Int)>0))then (idx l_1 (w64 ((k_3:Int)-1))).bind λy_28=>(iy y_28 x_5).bind λr_30=>some (decide (r_30>=0))else some false).bind λv_25=>bif v_25 then some (.ret 7)else (bif (decide ((k_3:Int)>0))then (idx l_1 (w64 ((k_3:Int)-1))).bind λy_36=>bif (sEq x_5.Player y_36.Player)then (idx l_1 (w64 ((k_3:Int)-1))).bind λy_39=>some (decide (x_5.Clock<=y_39.Clock))else some false else some false).bind λv_33=>bif v_33 then some (.ret 16)else some (.go ())
theorem vX (l_1:(List Beat)) (k_3:Nat) (x_5:Beat) (s_8:Unit):Le (mH l_1 k_3 x_5 s_8) (ib l_1 k_3 x_5 s_8):=by
 unfold mH ib
 repeat' (with_reducible first|exact Le.refl _|exact oK _|refine Le.cond ?_ ?_|refine Le.bind ?_ (λ_=>?_))
def oO (l_1:(List Beat)):Option (Int) :=
 bif (decide ((l_1.length:Int)>500))then some 2 else (forL l_1 () (λk x s=>mH l_1 k x s)).bind λo_11=>thenC o_11 (λs_8=>some 0) (λr=>some r)
theorem yJ (l_1:(List Beat)):Le (oO l_1) (fq l_1):=by
 unfold oO fq
 repeat' (with_reducible first|exact Le.refl _|exact vX _ _ _ _|refine Le.forL (λ_ _ _=>?_)|refine Le.thenC (λ_=>?_) (λ_=>?_)|refine Le.cond ?_ ?_|refine Le.bind ?_ (λ_=>?_))
def uy (l_1:(List Beat_)) (n_2:Int):Option (Int×Int) :=
 bif ((l_1.length:Int)==0)then some (0,8)else (wE 0 (λs=>gu l_1 n_2 s)).bind λo_12=>thenC o_12 (λs_9=>bif (s_9==0)then (idx l_1 0).bind λy_21=>(idx l_1 0).bind λy_23=>(bR (w64 (y_21.f_to-(w64 (y_23.f_from-n_2))))).bind λr_25=>bif (!r_25)then some (0,11)else some ((w64 (y_21.f_to-(w64 (y_23.f_from-n_2)))),0)else bif (s_9==(l_1.length:Int))then (idx l_1 (w64 (s_9-1))).bind λy_29=>(idx l_1 (w64 (s_9-1))).bind λy_31=>(bR (w64 ((w64 (y_29.f_to+n_2))-y_31.f_from))).bind λr_33=>bif (!r_33)then some (0,11)else some ((w64 ((w64 (y_29.f_to+n_2))-y_31.f_from)),0)else (idx l_1 (w64 (s_9-1))).bind λy_36=>(idx l_1 s_9).bind λy_38=>(bif (decide ((w64 (y_38.f_from-y_36.f_from))>2592000000))then some true else some (decide ((w64 (y_38.f_to-y_36.f_to))>2592000000))).bind λv_42=>bif v_42 then some (0,2)else (FK .i64 (w64 ((w64 (n_2-y_36.f_from))*(w64 (y_38.f_to-y_36.f_to)))) (w64 (y_38.f_from-y_36.f_from))).bind λq_46=>(bR (w64 (y_36.f_to+q_46))).bind λr_48=>bif (!r_48)then some (0,11)else some ((w64 (y_36.f_to+q_46)),0)) (λ_=>none)
theorem CZ (l_1:(List Beat_)) (n_2:Int):Le (uy l_1 n_2) (gZ l_1 n_2):=by
 unfold uy gZ
 repeat' (with_reducible first|exact Le.refl _|refine Le.loop (λ_=>?_)|refine Le.thenC (λ_=>?_) (λ_=>?_)|refine Le.cond ?_ ?_|refine Le.bind ?_ (λ_=>?_))
def dJ (b_3:Int) (a_2:Int) (s_10:(List Run)×Int):Option (Ctl ((List Run)×Int) (Unit)) :=
 bif (decide (s_10.2<b_3))then (wE (s_10.1,s_10.2) (λs=>bZ a_2 s)).bind λo_24=>thenC o_24 (λs_21=>some (.go (s_21.1,(w64 (s_10.2+1))))) (λ_=>none)else some (.brk (s_10.1,s_10.2))
theorem jZ (b_3:Int) (a_2:Int) (s_10:(List Run)×Int):Le (dJ b_3 a_2 s_10) (bK b_3 a_2 s_10):=by
 unfold dJ bK
 repeat' (with_reducible first|exact Le.refl _|refine Le.loop (λ_=>?_)|refine Le.thenC (λ_=>?_) (λ_=>?_)|refine Le.cond ?_ ?_|refine Le.bind ?_ (λ_=>?_))
def dQ (data_1:(List Run)) (a_2:Int) (b_3:Int):Option ((List Run)) :=
 (wE (data_1,(w64 (a_2+1))) (λs=>dJ b_3 a_2 s)).bind λo_13=>thenC o_13 (λs_10=>some s_10.1) (λ_=>none)
theorem kv (data_1:(List Run)) (a_2:Int) (b_3:Int):Le (dQ data_1 a_2 b_3) (bP data_1 a_2 b_3):=by
 unfold dQ bP
 repeat' (with_reducible first|exact Le.refl _|exact jZ _ _ _|refine Le.loop (λ_=>?_)|refine Le.thenC (λ_=>?_) (λ_=>?_)|refine Le.bind ?_ (λ_=>?_))
def eP (b_3:Int) (a_2:Int) (data_1:(List Run)) (limit_4:Int) (s_11:Unit):Option (Ctl (Unit) ((List Run))) :=
 bif (decide ((w64 (b_3-a_2))<=12))then (dQ data_1 a_2 b_3).bind λr_17=>(j5 r_17 data_1).bind λ_=>some (.ret r_17)else bif (limit_4==0)then none else none
theorem lC (b_3:Int) (a_2:Int) (data_1:(List Run)) (limit_4:Int) (s_11:Unit):Le (eP b_3 a_2 data_1 limit_4 s_11) (bX b_3 a_2 data_1 limit_4 s_11):=by
 unfold eP bX
 repeat' (with_reducible first|exact Le.refl _|exact kv _ _ _|refine Le.cond ?_ ?_|refine Le.bind ?_ (λ_=>?_))
def fD (data_1:(List Run)) (a_2:Int) (b_3:Int) (limit_4:Int):Option ((List Run)) :=
 (wE () (λs=>eP b_3 a_2 data_1 limit_4 s)).bind λo_14=>thenC o_14 (λs_11=>some data_1) (λr=>some r)
theorem mE (data_1:(List Run)) (a_2:Int) (b_3:Int) (limit_4:Int):Le (fD data_1 a_2 b_3 limit_4) (di data_1 a_2 b_3 limit_4):=by
 unfold fD di
 repeat' (with_reducible first|exact Le.refl _|exact lC _ _ _ _ _|refine Le.loop (λ_=>?_)|refine Le.thenC (λ_=>?_) (λ_=>?_)|refine Le.bind ?_ (λ_=>?_))
def dW (x_1:(List Run)):Option ((List Run)) :=
 (p8 (IntKind.u64.wrap (x_1.length:Int))).bind λr_3=>(fD x_1 0 (x_1.length:Int) r_3).bind λr_5=>(j5 r_5 x_1).bind λ_=>some r_5
theorem kT (x_1:(List Run)):Le (dW x_1) (bS x_1):=by
 unfold dW bS
 repeat' (with_reducible first|exact Le.refl _|exact mE _ _ _ _|refine Le.bind ?_ (λ_=>?_))
def rG (l_1:(List Rect)) (y_2:Int):Option ((List Run)) :=
 (forL l_1 ([]:List Run) (λk x s=>oF y_2 k x s)).bind λo_14=>thenC o_14 (λs_8=>(dW s_8).bind λr_27=>(j5 r_27 s_8).bind λ_=>(forL r_27 ([]:List Run) (λk x s=>oQ k x s)).bind λo_41=>thenC o_41 (λs_35=>some s_35) (λ_=>none)) (λ_=>none)
theorem Fe (l_1:(List Rect)) (y_2:Int):Le (rG l_1 y_2) (oq l_1 y_2):=by
 unfold rG oq
 repeat' (with_reducible first|exact Le.refl _|exact kT _|refine Le.forL (λ_ _ _=>?_)|refine Le.thenC (λ_=>?_) (λ_=>?_)|refine Le.bind ?_ (λ_=>?_))
def qO (m_2:(List Run)) (k_3:Nat) (x_5:Run) (s_8:(List Run)×Int):Option (Ctl ((List Run)×Int) (Unit)) :=
 (wE s_8.2 (λs=>oH m_2 x_5 s)).bind λo_25=>thenC o_25 (λs_22=>(wE (s_8.1,s_22,x_5.f_from) (λs=>o5 m_2 x_5 s)).bind λo_43=>thenC o_43 (λs_38=>(bif (decide (s_38.2.2<x_5.f_to))then (iJ s_38.1 ([(⟨s_38.2.2,x_5.f_to⟩:Run)]:List Run)).bind λa_68=>some a_68 else some s_38.1).bind λv_64=>some (.go (v_64,s_22))) (λ_=>none)) (λ_=>none)
theorem AB (m_2:(List Run)) (k_3:Nat) (x_5:Run) (s_8:(List Run)×Int):Le (qO m_2 k_3 x_5 s_8) (ma m_2 k_3 x_5 s_8):=by
 unfold qO ma
 repeat' (with_reducible first|exact Le.refl _|refine Le.loop (λ_=>?_)|refine Le.thenC (λ_=>?_) (λ_=>?_)|refine Le.cond ?_ ?_|refine Le.bind ?_ (λ_=>?_))
def vW (l_1:(List Run)) (m_2:(List Run)):Option ((List Run)) :=
 (forL l_1 (([]:List Run),0) (λk x s=>qO m_2 k x s)).bind λo_14=>thenC o_14 (λs_8=>some s_8.1) (λ_=>none)
theorem Fa (l_1:(List Run)) (m_2:(List Run)):Le (vW l_1 m_2) (qz l_1 m_2):=by
 unfold vW qz
 repeat' (with_reducible first|exact Le.refl _|exact AB _ _ _ _|refine Le.forL (λ_ _ _=>?_)|refine Le.thenC (λ_=>?_) (λ_=>?_)|refine Le.bind ?_ (λ_=>?_))
def o8 (r_25:(List Int)) (l_1:(List Rect)) (m_2:(List Rect)) (k_27:Nat) (x_29:Int) (s_32:(List Rect)×(List Run)×Int):Option (Ctl ((List Rect)×(List Run)×Int) (Unit)) :=
 (bif (decide ((w64 ((k_27:Int)+1))<(r_25.length:Int)))then (rG l_1 x_29).bind λr_45=>(rG m_2 x_29).bind λr_47=>(vW r_45 r_47).bind λr_49=>some r_49 else some ([]:List Run)).bind λv_42=>(dR s_32.2.1 v_42).bind λr_51=>bif r_51 then some (.go (s_32.1,s_32.2.1,s_32.2.2))else (forL s_32.2.1 s_32.1 (λk x s=>mQ s_32 x_29 k x s)).bind λo_64=>thenC o_64 (λs_59=>some (.go (s_59,v_42,x_29))) (λ_=>none)
theorem yI (r_25:(List Int)) (l_1:(List Rect)) (m_2:(List Rect)) (k_27:Nat) (x_29:Int) (s_32:(List Rect)×(List Run)×Int):Le (o8 r_25 l_1 m_2 k_27 x_29 s_32) (kC r_25 l_1 m_2 k_27 x_29 s_32):=by
 unfold o8 kC
 repeat' (with_reducible first|exact Le.refl _|exact Fe _ _|exact Fa _ _|refine Le.forL (λ_ _ _=>?_)|refine Le.thenC (λ_=>?_) (λ_=>?_)|refine Le.cond ?_ ?_|refine Le.bind ?_ (λ_=>?_))
def sQ (l_1:(List Rect)) (m_2:(List Rect)):Option ((List Rect)) :=
 (eT ([l_1,m_2]:List (List Rect))).bind λr_3=>(forL r_3 ([]:List Int) (λk x s=>mR k x s)).bind λo_16=>thenC o_16 (λs_10=>(PZ s_10).bind λr_22=>(j5 r_22 s_10).bind λ_=>(jw r_22).bind λr_25=>(forL r_25 (([]:List Rect),([]:List Run),0) (λk x s=>o8 r_25 l_1 m_2 k x s)).bind λo_38=>thenC o_38 (λs_32=>some s_32.1) (λ_=>none)) (λ_=>none)
theorem BX (l_1:(List Rect)) (m_2:(List Rect)):Le (sQ l_1 m_2) (nO l_1 m_2):=by
 unfold sQ nO
 repeat' (with_reducible first|exact Le.refl _|exact qU _|exact yI _ _ _ _ _ _|exact R3 _|refine Le.forL (λ_ _ _=>?_)|refine Le.thenC (λ_=>?_) (λ_=>?_)|refine Le.bind ?_ (λ_=>?_))
def vN (l_1:(List Rect)):Option (Int×Int) :=
 (lU l_1).bind λr_2=>bif (r_2 != 0)then some (0,r_2)else (sQ l_1 ([]:List Rect)).bind λr_5=>(tX r_5).bind λr_7=>some (r_7,0)
theorem DK (l_1:(List Rect)):Le (vN l_1) (qj l_1):=by
 unfold vN qj
 repeat' (with_reducible first|exact Le.refl _|exact BX _ _|refine Le.cond ?_ ?_|refine Le.bind ?_ (λ_=>?_))
def nV (l_1:(List ByteArray)):Option (Int) :=
 bif (decide ((l_1.length:Int)>20))then some 2 else (mU l_1).bind λr_3=>some r_3
theorem xR (l_1:(List ByteArray)):Le (nV l_1) (fI l_1):=by
 unfold nV fI
 repeat' (with_reducible first|exact Le.refl _|exact su _|refine Le.cond ?_ ?_|refine Le.bind ?_ (λ_=>?_))
def jD (l_1:(List Campaign)) (k_3:Nat) (x_5:Campaign) (s_8:Unit):Option (Ctl (Unit) (Int)) :=
 ((lg x_5.Key).bind λr_16=>bif (!r_16)then some true else bif (sNe x_5.Class (⟨#[]⟩:ByteArray))then (lg x_5.Class).bind λr_20=>some (!r_20)else some false).bind λv_14=>bif v_14 then some (.ret 5)else (bif (decide ((k_3:Int)>0))then (idx l_1 (w64 ((k_3:Int)-1))).bind λy_26=>some (sLe x_5.Key y_26.Key)else some false).bind λv_23=>bif v_23 then some (.ret 7)else ((jy x_5.Time).bind λr_31=>bif (!r_31)then some true else (aX x_5.Goal 0 1000000).bind λr_34=>bif r_34 then some true else (aX x_5.Most 0 1000000).bind λr_37=>bif r_37 then some true else (aX x_5.Cents 0 1000000000).bind λr_40=>some r_40).bind λv_29=>bif v_29 then some (.ret 1)else (nV x_5.Tags).bind λr_43=>bif (r_43 != 0)then some (.ret r_43)else some (.go ())
theorem qQ (l_1:(List Campaign)) (k_3:Nat) (x_5:Campaign) (s_8:Unit):Le (jD l_1 k_3 x_5 s_8) (dP l_1 k_3 x_5 s_8):=by
 unfold jD dP
 repeat' (with_reducible first|exact Le.refl _|exact oK _|exact xR _|refine Le.cond ?_ ?_|refine Le.bind ?_ (λ_=>?_))
def kE (l_1:(List Campaign)):Option (Int) :=
 bif (decide ((l_1.length:Int)>30))then some 2 else (forL l_1 () (λk x s=>jD l_1 k x s)).bind λo_11=>thenC o_11 (λs_8=>some 0) (λr=>some r)
theorem sU (l_1:(List Campaign)):Le (kE l_1) (cO l_1):=by
 unfold kE cO
 repeat' (with_reducible first|exact Le.refl _|exact qQ _ _ _ _|refine Le.forL (λ_ _ _=>?_)|refine Le.thenC (λ_=>?_) (λ_=>?_)|refine Le.cond ?_ ?_|refine Le.bind ?_ (λ_=>?_))
def vD (c_1:Campaign) (atv_2:Int):Option (Int×Int) :=
 (kE ([c_1]:List Campaign)).bind λr_4=>bif (r_4 != 0)then some (0,r_4)else (bR atv_2).bind λr_7=>bif (!r_7)then some (0,1)else (mK c_1 atv_2).bind λr_10=>some (r_10,0)
theorem EK (c_1:Campaign) (atv_2:Int):Le (vD c_1 atv_2) (qp c_1 atv_2):=by
 unfold vD qp
 repeat' (with_reducible first|exact Le.refl _|exact sU _|refine Le.cond ?_ ?_|refine Le.bind ?_ (λ_=>?_))
def ww (l_1:(List Beat)) (player_2:ByteArray) (n_3:Int) (back_4:Bool):Option (Int×Int) :=
 (oO l_1).bind λr_5=>bif (r_5 != 0)then some (0,r_5)else (lg player_2).bind λr_8=>bif (!r_8)then some (0,5)else (bR n_3).bind λr_11=>bif (!r_11)then some (0,1)else (j3 l_1 player_2 back_4).bind λr_14=>(uy r_14 n_3).bind λr_16=>some (r_16.1,r_16.2)
theorem FE (l_1:(List Beat)) (player_2:ByteArray) (n_3:Int) (back_4:Bool):Le (ww l_1 player_2 n_3 back_4) (qw l_1 player_2 n_3 back_4):=by
 unfold ww qw
 repeat' (with_reducible first|exact Le.refl _|exact oK _|exact yJ _|exact CZ _ _|refine Le.cond ?_ ?_|refine Le.bind ?_ (λ_=>?_))
def vz (l_1:(List Beat)) (player_2:ByteArray) (clock_3:Int):Option (Int×Int) :=
 (ww l_1 player_2 clock_3 false).bind λr_4=>some (r_4.1,r_4.2)
theorem EF (l_1:(List Beat)) (player_2:ByteArray) (clock_3:Int):Le (vz l_1 player_2 clock_3) (qx l_1 player_2 clock_3):=by
 unfold vz qx
 repeat' (with_reducible first|exact Le.refl _|exact FE _ _ _ _|refine Le.bind ?_ (λ_=>?_))
def qM (e_1:Entry) (zone_2:Int) (wv_3:Window):Option ((List Window)×Int) :=
 (kX ([e_1]:List Entry)).bind λr_6=>bif (r_6 != 0)then some (([]:(List Window)),r_6)else (aX zone_2 (-1440) 1440).bind λr_9=>bif r_9 then some (([]:(List Window)),1)else (jX wv_3).bind λr_12=>bif (r_12 != 0)then some (([]:(List Window)),r_12)else (qG e_1 zone_2 wv_3).bind λr_15=>(forL (List.range ((r_15.length:Int)).toNat) r_15 (λk x s=>lS wv_3 k x s)).bind λo_27=>thenC o_27 (λs_24=>some (s_24,0)) (λ_=>none)
theorem Bb (e_1:Entry) (zone_2:Int) (wv_3:Window):Le (qM e_1 zone_2 wv_3) (l7 e_1 zone_2 wv_3):=by
 unfold qM l7
 repeat' (with_reducible first|exact Le.refl _|exact ul _|exact zW _ _ _|refine Le.forL (λ_ _ _=>?_)|refine Le.thenC (λ_=>?_) (λ_=>?_)|refine Le.cond ?_ ?_|refine Le.bind ?_ (λ_=>?_))
def o6  : Option (Bool) :=
 (vN ([(⟨0,0,2,2⟩:Rect),(⟨1,1,2,2⟩:Rect)]:List Rect)).bind λr_1=>(vD (⟨(⟨#[97]⟩:ByteArray),(⟨#[]⟩:ByteArray),(⟨0,100⟩:Window),([]:List ByteArray),10,0,0⟩:Campaign) 50).bind λr_3=>(vz ([(⟨(⟨#[112]⟩:ByteArray),0,100⟩:Beat),(⟨(⟨#[112]⟩:ByteArray),1000,1300⟩:Beat)]:List Beat) (⟨#[112]⟩:ByteArray) 700).bind λr_5=>(qM (⟨(⟨#[97]⟩:ByteArray),(⟨#[98]⟩:ByteArray),0,0,0,1,127,([]:List Int),1,2,0,([]:List ByteArray),false⟩:Entry) 0 (⟨0,86400000⟩:Window)).bind λr_7=>(bif (r_1.2==0)then bif (r_3.2==0)then bif (r_5.2==0)then bif (r_7.2==0)then bif (r_1.1==7)then bif (r_3.1==5)then bif (r_5.1==500)then some ((r_7.1.length:Int)==1)else some false else some false else some false else some false else some false else some false else some false).bind λv_9=>some v_9
theorem yF  : Le (o6) (fu):=by
 unfold o6 fu
 repeat' (with_reducible first|exact Le.refl _|exact DK _|exact EK _ _|exact EF _ _ _|exact Bb _ _ _|refine Le.cond ?_ ?_|refine Le.bind ?_ (λ_=>?_))
end Go.Proofs.YtkjlhdminmpmkaaGreatDoor.Law

open Go Go.Eng
namespace Go.Proofs.YtkjlhdminmpmkaaGreatDoor.Law
set_option linter.unusedVariables false
set_option maxRecDepth 100000
theorem facts_F:o6=some true:=by kernel_rfl
theorem Bc:fu=some true:=yF _ facts_F
end Go.Proofs.YtkjlhdminmpmkaaGreatDoor.Law


open Go Go.Eng Go.Flow
namespace Go.Proofs.YtkjlhdminmpmkaaGreatDoor.Law
set_option linter.unusedVariables false
set_option linter.unusedSimpArgs false
set_option linter.unusedSectionVars false
section
variable {spots:List Spot} {l:List Campaign}
end
end Go.Proofs.YtkjlhdminmpmkaaGreatDoor.Law

