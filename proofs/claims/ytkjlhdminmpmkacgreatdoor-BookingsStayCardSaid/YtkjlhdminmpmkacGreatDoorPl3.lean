/-
  THE PLAIN LAW (part 3).
-/
import Derived.Test.YtkjlhdminmpmkacGreatDoorPl2
import Derived.Test.YtkjlhdminmpmkacGreatDoorDefs
open Go Go.Eng Go.Flow
namespace Go.Proofs.YtkjlhdminmpmkacGreatDoor.Law
set_option linter.unusedVariables false
set_option linter.unusedSimpArgs false
set_option linter.unusedSectionVars false
def shC (spots:List Spot) (x:Nat->Nat->Int) (i:Nat) (c:Campaign):Nat->List Share
 | 0=>[]
 | k+1=>shC spots x i c k++match spots[k]? with
  | some s=>if 0<x i k then [⟨c.Key,s.Key,x i k⟩]else []
  | none=>[]
def shA (spots:List Spot) (l:List Campaign) (x:Nat->Nat->Int):Nat->List Share
 | 0=>[]
 | i+1=>shA spots l x i++match l[i]? with
  | some c=>shC spots x i c spots.length
  | none=>[]
theorem Ce {spots:List Spot} {x y:Nat->Nat->Int} {i:Nat} {c:Campaign}:∀{k:Nat},(∀j,j<k->x i j=y i j)->shC spots x i c k=shC spots y i c k
 | 0,_=>rfl
 | k+1,h=>by
  unfold shC
  rw [Ce (λj hj=>h j (by omega)),h k (by omega)]
theorem G5 {spots:List Spot} {l:List Campaign} {x y:Nat->Nat->Int}:∀{i:Nat},(∀j k,j<i->k<spots.length->x j k=y j k)->shA spots l x i=shA spots l y i
 | 0,_=>rfl
 | i+1,h=>by
  unfold shA
  rw [G5 (λj k hj hk=>h j k (by omega) hk)]
  split
  ·rw [Ce (λk hk=>h i k (by omega) hk)]
  ·rfl
theorem I9 {spots:List Spot} {x:Nat->Nat->Int} {i:Nat} {c:Campaign}:∀k:Nat,(shC spots x i c k).length<=k
 | 0=>Nat.le_refl _
 | k+1=>by
  unfold shC
  rw [List.length_append]
  have:=I9 (spots:=spots) (x:=x) (i:=i) (c:=c) k
  split
  ·split <;> simp <;> omega
  ·simp;omega
theorem Ir {spots:List Spot} {l:List Campaign} {x:Nat->Nat->Int}:∀i:Nat,(shA spots l x i).length<=i*spots.length
 | 0=>Nat.zero_le _
 | i+1=>by
  unfold shA
  rw [List.length_append,Nat.succ_mul]
  have:=Ir (spots:=spots) (l:=l) (x:=x) i
  split
  ·have:=I9 (spots:=spots) (x:=x) (i:=i) (c:=by assumption) spots.length
   omega
  ·simp;omega
section
variable {spots:List Spot} {l:List Campaign}
def Great (N:Net) (x:Nat->Nat->Int) (i k:Nat):Prop:=∀x',N.Deal x'->(∀j m,j<N.q->m<N.m->Net.prior i k j m=true->x' j m=x j m)->x' i k<=x i k
theorem Great.congr {N:Net} {x y:Nat->Nat->Int} {i k:Nat} (hi:i<N.q) (hk:k<N.m) (h:Great N x i k) (e:∀j m,j<N.q->m<N.m->(Net.prior i k j m=true\/j=i/\m=k)->x j m=y j m):Great N y i k:=λx' h1 h2=>by
 rw [<- e i k hi hk (.inr ⟨rfl,rfl⟩)]
 exact h x' h1 (λj m hj hm hp=>(h2 j m hj hm hp).trans (e j m hj hm (.inl hp)).symm)
theorem kz {i k j m:Nat}:Net.prior i k j m=true↔(j<i\/j=i/\m<k):=by unfold Net.prior;exact decide_eq_true_iff
theorem Fu {i k j m:Nat}:Net.also (Net.prior i k) i k j m=Net.prior i (k+1) j m:=by
 rw [Bool.eq_iff_iff]
 unfold Net.also
 simp only [Bool.or_eq_true,Bool.and_eq_true,decide_eq_true_eq,kz]
 omega
theorem Gs {i m0 j m:Nat} (hm:m<m0):Net.prior i m0 j m=Net.prior (i+1) 0 j m:=by
 rw [Bool.eq_iff_iff]
 simp only [kz]
 omega
theorem yO {N:Net} {x:Nat->Nat->Int} {p p':Nat->Nat->Bool} (h:∀j m,j<N.q->m<N.m->p j m=p' j m):∀a b,a<N.size->b<N.size->N.res x p a b=N.res x p' a b:=λa b ha hb=>by
 rcases N.node ha with rfl|rfl|⟨j,hj,rfl⟩|⟨m,hm,rfl⟩
 ·rw [Net.res_0,Net.res_0]
 ·unfold Net.res;rfl
 ·rcases N.node hb with rfl|rfl|⟨o,ho,rfl⟩|⟨m,hm,rfl⟩
  ·rw [Net.res_c0 N _ _ hj,Net.res_c0 N _ _ hj]
  ·rw [Net.res_cc N _ _ hj (by omega) (by omega),Net.res_cc N _ _ hj (by omega) (by omega)]
  ·rw [Net.res_cc N _ _ hj (by omega) (by omega),Net.res_cc N _ _ hj (by omega) (by omega)]
  ·rw [Net.res_cs N _ _ hj,Net.res_cs N _ _ hj,h j m hj hm]
 ·rcases N.node hb with rfl|rfl|⟨o,ho,rfl⟩|⟨m',hm',rfl⟩
  ·rw [Net.res_s0,Net.res_s0]
  ·rw [Net.res_s1,Net.res_s1]
  ·rw [Net.res_sc N _ _ ho,Net.res_sc N _ _ ho,h o m ho hm]
  ·rw [Net.res_ss,Net.res_ss]
theorem res_le (h:Office spots l) {x:Nat->Nat->Int} (p:Nat->Nat->Bool) (hx:(netOf spots l).Deal x):∀a b,a<(netOf spots l).size->b<(netOf spots l).size->(netOf spots l).res x p a b<=10000000:=λa b ha hb=>by
 have hg:=E5 h
 have hm:=FC h
 have hr:=A9 h
 have hsu:∀i k,(bif (netOf spots l).suits i k then (netOf spots l).most i else 0)<=10000000:=λi k=>by
  cases (netOf spots l).suits i k
  ·show (0:Int)<=_;omega
  ·exact (hm i).2
 have hS:∀k,k<(netOf spots l).m->0<=S (netOf spots l).q (λi=>x i k):=λk hk=>vo (λi hi=>hx.pos i k hi hk)
 rcases (netOf spots l).node ha with rfl|rfl|⟨j,hj,rfl⟩|⟨m,hm',rfl⟩
 ·rw [Net.res_0];omega
 ·rcases (netOf spots l).node hb with rfl|rfl|⟨o,ho,rfl⟩|⟨m,hm',rfl⟩
  ·rw [Net.res_1 _ _ _ (by omega)];omega
  ·rw [Net.res_1 _ _ _ (by omega)];omega
  ·rw [Net.res_1 _ _ _ (by omega)];omega
  ·rw [Net.res_1s];have:=hx.room m hm';have:=hr m;omega
 ·rcases (netOf spots l).node hb with rfl|rfl|⟨o,ho,rfl⟩|⟨m,hm',rfl⟩
  ·rw [Net.res_c0 _ _ _ hj];exact (hg j).2
  ·rw [Net.res_cc _ _ _ hj (by omega) (by omega)];omega
  ·rw [Net.res_cc _ _ _ hj (by omega) (by omega)];omega
  ·rw [Net.res_cs _ _ _ hj]
   cases p j m
   ·have:=hsu j m;have:=hx.pos j m hj hm'
    show _-_<=_;omega
   ·show (0:Int)<=_;omega
 ·rcases (netOf spots l).node hb with rfl|rfl|⟨o,ho,rfl⟩|⟨m',hm'',rfl⟩
  ·rw [Net.res_s0];omega
  ·rw [Net.res_s1];have:=hS m hm';have:=hr m;omega
  ·rw [Net.res_sc _ _ _ ho]
   cases p o m
   ·have:=hsu o m;have:=hx.most o m ho hm'
    show x o m<=_;omega
   ·show (0:Int)<=_;omega
  ·rw [Net.res_ss];omega
structure DealSt (spots:List Spot) (l:List Campaign) (i k:Nat) (out:List Share) (s:List (List Int)×List Share×Int):Prop where
 cp:s.2.2=(l.length:Int)
 sq:Sq (netOf spots l).size s.1
 ex:∃x,(netOf spots l).Deal x/\(∀a b,a<(netOf spots l).size->b<(netOf spots l).size->at2 s.1 a b=(netOf spots l).res x (Net.prior i k) a b) /\
  (∀j m,j<(netOf spots l).q->m<(netOf spots l).m->Net.prior i k j m=true->Great (netOf spots l) x j m)/\s.2.1=shA spots l x i++match l[i]? with | some c=>shC spots x i c k | none=>[]
variable (h:Office spots l)
include h
theorem deal_L1 {w:Web} (hw:w.f_can.length=(netOf spots l).size) {i:Nat} {c:Campaign} (hc:l[i]? = some c) {k:Nat} {sp:Spot} (hk:spots[k]? = some sp) {s:List (List Int)×List Share×Int} (hst:DealSt spots l i k [] s) :
  ∃s',jH c w i k sp s=some (.go s')/\DealSt spots l i (k+1) [] s':=by
 have hi:i<l.length:=(List.getElem?_eq_some_iff.1 hc).1
 have hk':k<spots.length:=(List.getElem?_eq_some_iff.1 hk).1
 have hiq:i<(netOf spots l).q:=hi
 have hkm:k<(netOf spots l).m:=hk'
 have hsz:=size_eq (spots:=spots) (l:=l)
 have hsn:=h.sn
 have hln:=h.ln
 have hsuit:=Kc (spots:=spots) (l:=l) hc hk
 have hmost:=(DJ (spots:=spots) (l:=l) hc).2
 have hsu:=Qf c sp (h.cr c (List.mem_of_getElem? hc)).2.2.2.2 (h.tg sp (List.mem_of_getElem? hk))
 obtain ⟨rows,out,cp⟩:=s
 obtain ⟨h1,hq,x,hx,hat,hgr,hout⟩:=hst
 simp only at h1 hq hat hout
 rw [hc]at hout
 simp only at hout
 have hsh:∀y:Nat->Nat->Int,shC spots y i c (k+1)=shC spots y i c k++if 0<y i k then [⟨c.Key,sp.Key,y i k⟩]else []:=λy=>by rw [shC,hk]
 have hpr:Net.prior i k i k=false:=by
  cases hp:Net.prior i k i k with
  | false=>rfl
  | true=>rw [kz]at hp;omega
 unfold jH
 simp only [hsu,ob_]
 cases hb:zq c sp with
 | false =>
  rw [hb]at hsuit
  simp only [Bool.not_false,cond_true]
  have hx0:x i k=0:=by
   have:=hx.pos i k hiq hkm
   have e:=hx.most i k hiq hkm
   rw [hsuit]at e
   have e:x i k<=0:=e
   omega
  refine⟨_,rfl,h1,hq,x,hx,λa b ha hb' => ?_,λj m hj hm hp => ?_,?_⟩
  ·show at2 rows a b=_
   rw [hat a b ha hb',<- yO (λj m _ _=>Fu) a b ha hb',Net.res_mark _ x _ hiq hkm a b ha hb']
   split
   ·rename_i he
    rcases he with⟨rfl,rfl⟩|⟨rfl,rfl⟩
    ·rw [Net.res_cs _ _ _ hiq,hsuit,hx0,hpr];rfl
    ·rw [Net.res_sc _ _ _ hiq,hx0,hpr];rfl
   ·rfl
  ·rw [kz]at hp
   by_cases he:j=i/\m=k
   ·obtain ⟨rfl,rfl⟩:=he
    intro x' hx' _
    have e:=hx'.most j m hj hm
    rw [hsuit]at e
    rw [hx0];exact e
   ·exact hgr j m hj hm (kz.2 (by omega))
  ·show out=_
   rw [hc]
   simp only
   rw [hsh,hx0,if_neg (by omega),List.append_nil];exact hout
 | true =>
  rw [hb]at hsuit
  simp only [Bool.not_true,cond_false]
  have ha:2+i<(netOf spots l).size:=by omega
  have hbn:2+l.length+k<(netOf spots l).size:=by omega
  have hab:2+i≠2+l.length+k:=by omega
  have hpos:=(netOf spots l).res_pos (Net.prior i k) (vQ h) hx
  obtain ⟨ra,a1,a2,a3⟩:=hq.get ha
  obtain ⟨rb,b1,b2,b3⟩:=hq.get hbn
  have vhas:at2 rows (2+l.length+k) (2+i)=x i k:=by
   rw [hat _ _ hbn ha]
   have:=Net.res_sc (netOf spots l) x (Net.prior i k) (i:=i) (k:=k) hiq
   rw [hpr]at this
   exact this
  have vmore:at2 rows (2+i) (2+l.length+k)=c.Most-x i k:=by
   rw [hat _ _ ha hbn]
   have:=Net.res_cs (netOf spots l) x (Net.prior i k) (i:=i) (k:=k) hiq
   rw [hpr,hsuit,hmost]at this
   exact this
  obtain ⟨q1,w1⟩:=hq.wr ha hbn 0 a1
  obtain ⟨rb',b1',b2',b3'⟩:=q1.get hbn
  obtain ⟨q2,w2⟩:=q1.wr hbn ha 0 b1'
  have hm2:∀a b,a<(netOf spots l).size->b<(netOf spots l).size->at2 ((rows.set (2+i) (ra.set (2+l.length+k) 0)).set (2+l.length+k) (rb'.set (2+i) 0)) a b=(netOf spots l).res x (Net.also (Net.prior i k) i k) a b:=λa b hla hlb=>by
   rw [w2,w1,Net.res_mark _ x _ hiq hkm a b hla hlb]
   by_cases e1:a=2+l.length+k/\b=2+i
   ·rw [if_pos e1,if_pos (.inr e1)]
   ·rw [if_neg e1]
    by_cases e2:a=2+i/\b=2+l.length+k
    ·rw [if_pos e2,if_pos (.inl e2)]
    ·rw [if_neg e2,if_neg (λe=>e.elim e2 e1)];exact hat a b hla hlb
  have hpos2:=(netOf spots l).res_pos (Net.also (Net.prior i k) i k) (vQ h) hx
  have hle2:=res_le h (Net.also (Net.prior i k) i k) hx
  have hmle:c.Most<=10000000:=(h.cr c (List.mem_of_getElem? hc)).2.2.2.1
  have hxp:=hx.pos i k hiq hkm
  have hxm:x i k<=c.Most:=by
   have:=hx.most i k hiq hkm
   rw [hsuit,hmost]at this;exact this
  obtain ⟨v,rows',e2,q3,f3,v0,v1,v2⟩:=M8 (n:=(netOf spots l).size) (s:=2+l.length+k) (t:=2+i) (w:=⟨(rows.set (2+i) (ra.set (2+l.length+k) 0)).set (2+l.length+k) (rb'.set (2+i) 0),cp⟩) (most:=c.Most-x i k) q2 (by omega) hbn ha (λe=>hab e.symm) (λa b hla hlb=>by
   show 0<=at2 ((rows.set (2+i) (ra.set (2+l.length+k) 0)).set (2+l.length+k) (rb'.set (2+i) 0)) a b
   rw [hm2 a b hla hlb];exact hpos2 a b hla hlb) (λa b hla hlb=>by
   show at2 ((rows.set (2+i) (ra.set (2+l.length+k) 0)).set (2+l.length+k) (rb'.set (2+i) 0)) a b+at2 ((rows.set (2+i) (ra.set (2+l.length+k) 0)).set (2+l.length+k) (rb'.set (2+i) 0)) b a<=_
   rw [hm2 a b hla hlb,hm2 b a hlb hla]
   have:=hle2 a b hla hlb
   have:=hle2 b a hlb hla
   omega) (by omega) (by omega)
  have f4:Flows (netOf spots l).size (2+(netOf spots l).q+k) (2+i) ((netOf spots l).res x (Net.also (Net.prior i k) i k)) (at2 rows') v:=CB hbn hm2 (λ_ _ _ _=>rfl) f3
  obtain ⟨d1,d2⟩:=Net.reroute (netOf spots l) (vQ h) hx hiq hkm (Net.also_at _ i k) f4 v0 (by rw [hsuit,hmost];show x i k+v<=c.Most;omega)
  generalize hy:Net.after (netOf spots l) x (Net.also (Net.prior i k) i k) i k (at2 rows') v=y at d1 d2
  have yik:y i k=x i k+v:=by rw [<- hy];unfold Net.after;rw [if_pos ⟨rfl,rfl⟩]
  have yag:∀j m,Net.prior i k j m=true->y j m=x j m:=λj m hp=>by
   have hne:¬(j=i/\m=k):=λe=>by obtain ⟨rfl,rfl⟩:=e;rw [hpr]at hp;cases hp
   rw [<- hy];unfold Net.after
   rw [if_neg hne,Net.also_ne hne,hp];rfl
  obtain ⟨ra3,c1,c2,c3⟩:=q3.get ha
  obtain ⟨q4,w4⟩:=q3.wr ha hbn 0 c1
  obtain ⟨rb4,g1,g2,g3⟩:=q4.get hbn
  obtain ⟨rb3,k1,k2,k3⟩:=q3.get hbn
  obtain ⟨q5,w5⟩:=q4.wr hbn ha 0 g1
  have hws:w64 (x i k+v)=x i k+v:=fG (by omega)
  have hap:∀z:Share,iZ out [z]=some (out++[z]):=λz=>by
   unfold iZ
   rw [if_pos]
   rw [hout,List.length_append]
   have h5:=Ir (spots:=spots) (l:=l) (x:=x) i
   have h6:=I9 (spots:=spots) (x:=x) (i:=i) (c:=c) k
   have h7:i*spots.length<=100*30:=Nat.mul_le_mul (by omega) (by omega)
   simp only [List.length_cons,List.length_nil]
   omega
  subst h1
  simp only [IC _ (show i<=1000000 by omega),I6 rows (show l.length<=1000000 by omega) (show k<=1000000 by omega),hq.ne (by omega),r9 (show rows.length=w.f_can.length by rw [hw,hq.len]),ob_,rJ (show 2+l.length+k<w.f_can.length by omega),rJ (show 2+i<w.f_can.length by omega),toN,a1,b1,
   lh (show 2+i<rb.length by omega),lh (show 2+l.length+k<ra.length by omega),b3 _ ha,a3 _ hbn,b1',b3' _ ha,q2.ne (by omega),r9 (show ((rows.set (2+i) (ra.set (2+l.length+k) 0)).set (2+l.length+k) (rb'.set (2+i) 0)).length=w.f_can.length by rw [hw,q2.len]),
   vmore,e2,AU (show rows'.length=((rows.set (2+i) (ra.set (2+l.length+k) 0)).set (2+l.length+k) (rb'.set (2+i) 0)).length by rw [q3.len,q2.len]),vhas,hws,c1,k1,lh (show 2+l.length+k<ra3.length by omega),lh (show 2+i<rb3.length by omega),c3 _ hbn,g1,g3 _ ha]
  have hfin:∀out',out'=shA spots l y i++shC spots y i c (k+1)->DealSt spots l i (k+1) [] ((rows'.set (2+i) (ra3.set (2+l.length+k) 0)).set (2+l.length+k) (rb4.set (2+i) 0),out',(l.length:Int)):=λout' ho=>by
   refine⟨rfl,q5,y,d1,λa b hla hlb => ?_,λj m hj hm hp => ?_,?_⟩
   ·show at2 ((rows'.set (2+i) (ra3.set (2+l.length+k) 0)).set (2+l.length+k) (rb4.set (2+i) 0)) a b=_
    rw [w5,w4,<- yO (λj m _ _=>Fu) a b hla hlb]
    by_cases e1:a=2+l.length+k/\b=2+i
    ·rw [if_pos e1,e1.1,e1.2]
     have:=Net.res_sc (netOf spots l) y (Net.also (Net.prior i k) i k) (i:=i) (k:=k) hiq
     rw [Net.also_at]at this
     exact this.symm
    ·rw [if_neg e1]
     by_cases e2:a=2+i/\b=2+l.length+k
     ·rw [if_pos e2,e2.1,e2.2]
      have:=Net.res_cs (netOf spots l) y (Net.also (Net.prior i k) i k) (i:=i) (k:=k) hiq
      rw [Net.also_at]at this
      exact this.symm
     ·rw [if_neg e2];exact d2 a b hla hlb
   ·rw [kz]at hp
    by_cases he:j=i/\m=k
    ·obtain ⟨rfl,rfl⟩:=he
     intro x' hx' hag
     rw [yik]
     by_cases hv:v<c.Most-x j m
     ·obtain ⟨R,r1,r2,r3⟩:=v2 hv
      have hmx:=Net.share_max (netOf spots l) (vQ h) d1 hiq hkm (Net.also_at (Net.prior j m) j m) (R:=R) r1 r2 (λa b hla hlb hra hrb=>by rw [<- d2 a b hla hlb];exact r3 a b hla hlb hra hrb) hx' (λo p ho hp2 hpr2 hne=>by
       rw [Net.also_ne hne]at hpr2
       exact hag o p ho hp2 hpr2)
      omega
     ·have:=hx'.most j m hj hm
      rw [hsuit,hmost]at this
      have:x' j m<=c.Most:=this
      omega
    ·refine (hgr j m hj hm (kz.2 (by omega))).congr hj hm (λo p ho hp2 hpr2=>(yag o p ?_).symm)
     rw [kz]
     rcases hpr2 with hpr2|hpr2
     ·rw [kz]at hpr2;omega
     ·omega
   ·rw [hc];exact ho
  have hsame:shA spots l x i++shC spots x i c k=shA spots l y i++shC spots y i c k:=by
   rw [G5 (λj m hj hm=>(yag j m (kz.2 (.inl hj))).symm),Ce (λm hm=>(yag i m (kz.2 (.inr ⟨rfl,hm⟩))).symm)]
  by_cases hp:x i k+v>0
  ·rw [decide_eq_true hp]
   simp only [cond_true,hap,ob_]
   refine⟨_,rfl,hfin _ ?_⟩
   rw [hsh,yik,if_pos hp,hout,hsame,List.append_assoc]
  ·rw [decide_eq_false hp]
   simp only [cond_false,ob_]
   refine⟨_,rfl,hfin _ ?_⟩
   rw [hsh,yik,if_neg hp,List.append_nil,hout,hsame]
end
end Go.Proofs.YtkjlhdminmpmkacGreatDoor.Law

open Go Go.Eng
namespace Go.Proofs.YtkjlhdminmpmkacGreatDoor.Law
set_option linter.unusedVariables false
set_option linter.unusedSimpArgs false
def or0 (a b:Int):Int:=bif a==0 then b else a
theorem both_eq (x:List Spot) (c:List Campaign) (hx:∀s∈x,GoodS s) (hc:∀s∈c,Cy s) (h1:x.length<=1000) (h2:c.length<=1000):dD x c=some (or0 (rF x) (wQ c)):=by
  unfold dD or0
  rw [spotsK x hx (by omega),Lg c hc (by omega)]
  simp only [ob_]
  cases h:rF x==0 with
  | true => have : (rF x != 0) = false := by simp [bne, h]
            simp only [this,cond_false,cond_true]
  | false => have : (rF x != 0) = true := by simp [bne, h]
             simp only [this,cond_true,cond_false]
theorem NN {last:ByteArray} {x:Spot} (h:gL last x=0):tagsF x.Tags=0:=by
  unfold gL at h
  generalize (Cr x.Time||out x.Room 1000000)=q at h
  generalize sLe x.Key last=p at h
  generalize nK x.Key=k at h
  cases k <;> cases p <;> cases q <;> first | (cases h;done) | exact h
theorem GQ:∀(l:List Spot) (last:ByteArray),chk Spot.Key gL last l=0->∀x∈l,tagsF x.Tags=0
  | [],_,_,x,hx=>by simp at hx
  | y::l,last,h,x,hx=>by
    rw [chk]at h
    cases he:gL last y==0 with
    | false=>rw [he]at h;simp only [cond_false]at h;rw [h]at he;cases he
    | true =>
      rw [he]at h
      simp only [cond_true]at h
      rcases List.mem_cons.1 hx with rfl|hx
      · exact NN (eq_of_beq he)
      · exact GQ l _ h x hx
theorem PL {l:List Spot} (h:rF l=0):∀x∈l,tagsF x.Tags=0:=by
  unfold rF at h
  by_cases hl:l.length>60
  · rw [decide_eq_true hl]at h;cases h
  · rw [decide_eq_false hl]at h;exact GQ l _ h
end Go.Proofs.YtkjlhdminmpmkacGreatDoor.Law

open Go Go.Eng Go.Flow
namespace Go.Proofs.YtkjlhdminmpmkacGreatDoor.Law
set_option linter.unusedVariables false
set_option linter.unusedSimpArgs false
set_option linter.unusedSectionVars false
theorem Mj (l:List Campaign) (hl:l.length<=1000000000):cK l=some l:=by
 simp only [cK,iZ,List.length_nil,Nat.zero_add,hl,if_true,ob_,List.nil_append]
theorem O6 {l:List Campaign} (hl:∀c∈l,CampR c) (hm:l.length<=1000) (spots:List Spot):BS (λ_ (c:Campaign)=>c.Goal) 0 l=(netOf spots l).goals/\0<=(netOf spots l).goals/\(netOf spots l).goals<=10000000000:=by
 have hin:=MB (λ_ (c:Campaign)=>c.Goal) 10000000 l 0 (λj x hx=>⟨(hl x hx).1,(hl x hx).2.1⟩)
 have hS:BS (λ_ (c:Campaign)=>c.Goal) 0 l=(netOf spots l).goals:=by
  unfold Net.goals
  exact Qn _ _ l 0 (λi x hx=>by show x.Goal=_;rw [(DJ hx).1])
 rw [hS]at hin
 refine⟨hS,hin.1,?_⟩
 have:=hin.2
 have h2:(l.length:Int)<=1000:=by omega
 omega
theorem MG {l:List Campaign} (hl:∀c∈l,CampR c) (hm:l.length<=1000) (spots:List Spot):lU l=some (netOf spots l).goals:=by
 have hrun:forR (λk x s=>kC k x s) l 0 0=some (.go ((0:Int)+BS (λ_ (c:Campaign)=>c.Goal) 0 l)):=JJ (λ_ c=>c.Goal) l 0 0 (by omega) (by omega) (λj x hx=>by have:=hl x hx;unfold CampR at this;omega) (λj x s hx hj h0 h1=>by
  have:=hl x hx
  unfold CampR at this
  unfold kC
  rw [fG (by omega)])
 unfold lU
 rw [oC (by omega),hrun,ob_,mh,Int.zero_add,(O6 hl hm spots).1]
theorem Qw (N:Net) (hr:N.Right):N.cutV (λ_=>false)<=N.goals:=by
 unfold Net.cutV Net.goals
 have h1:S N.m (λk=>bif (λ_=>false) k then N.room k else 0)=0:=Net.S_all0 (λk _=>rfl)
 have h2:S N.q (λi=>min (N.goal i) (N.ways (λ_=>false) i))<=S N.q N.goal:=S_le (λi _=>by omega)
 omega
theorem KT {N:Net} (hr:N.Right) {r:Int} (h:jw N r):r<=N.goals/\(r=N.goals↔∀B,N.goals<=N.cutV B):=by
 obtain ⟨h1,B,h2⟩:=h
 have h3:=Qw N hr
 have h4:=h1 (λ_=>false)
 refine⟨by omega,λe B=>by rw [<- e];exact h1 B,λh => ?_⟩
 have:=h B
 omega
theorem Pk {n hi:Int} (h:out n hi=false):0<=n/\n<=hi:=by
 unfold out at h
 simp only [Bool.or_eq_false_iff,decide_eq_false_iff_not]at h
 omega
theorem HZ {last:ByteArray} {x:Spot} (h:gL last x=0):0<=x.Room/\x.Room<=1000000:=by
 unfold gL at h
 cases hk:nK x.Key <;> cases hl:sLe x.Key last <;> cases ho:out x.Room 1000000 <;> cases hb:Cr x.Time <;> rw [hk,hl,ho,hb]at h <;> first | (cases h;done) | exact Pk ho
theorem Jz:∀(l:List Spot) (last:ByteArray),chk Spot.Key gL last l=0->∀x∈l,0<=x.Room/\x.Room<=1000000
 | [],_,_,x,hx=>by simp at hx
 | y::l,last,h,x,hx=>by
  rw [chk]at h
  cases he:gL last y==0 with
  | false=>rw [he]at h;simp only [cond_false]at h;rw [h]at he;cases he
  | true =>
   rw [he]at h
   simp only [cond_true]at h
   rcases List.mem_cons.1 hx with rfl|hx
   ·exact HZ (eq_of_beq he)
   ·exact Jz l _ h x hx
theorem Eg {last:ByteArray} {c:Campaign} (h:gy last c=0):0<=c.Goal/\c.Goal<=1000000/\0<=c.Most/\c.Most<=1000000:=by
 unfold gy at h
 cases hk:(!nK c.Key||(decide (c.Class.size≠0) && !nK c.Class)) <;> rw [hk]at h <;> simp only [cond_true,cond_false]at h
 ·cases hl:sLe c.Key last <;> rw [hl]at h <;> simp only [cond_true,cond_false]at h
  ·cases ho:(Cr c.Time||(out c.Goal 1000000||(out c.Most 1000000||out c.Cents 1000000000))) <;> rw [ho]at h <;> simp only [cond_true,cond_false]at h
   ·simp only [Bool.or_eq_false_iff]at ho
    have h1:=Pk ho.2.1
    have h2:=Pk ho.2.2.1
    omega
   ·cases h
  ·cases h
 ·cases h
theorem Gf:∀(l:List Campaign) (last:ByteArray),chk Campaign.Key gy last l=0->∀x∈l,0<=x.Goal/\x.Goal<=1000000/\0<=x.Most/\x.Most<=1000000
 | [],_,_,x,hx=>by simp at hx
 | y::l,last,h,x,hx=>by
  rw [chk]at h
  cases he:gy last y==0 with
  | false=>rw [he]at h;simp only [cond_false]at h;rw [h]at he;cases he
  | true =>
   rw [he]at h
   simp only [cond_true]at h
   rcases List.mem_cons.1 hx with rfl|hx
   ·exact Eg (eq_of_beq he)
   ·exact Gf l _ h x hx
theorem I7 {x:List Spot} {c:List Campaign} (hx:∀s∈x,GoodS s) (hc:∀s∈c,Cy s) (h1:x.length<=30) (h2:c.length<=30) (hs:rF x=0) (hcf:wQ c=0):Office x c:=by
 have e1:chk Spot.Key gL nT x=0:=by
  unfold rF at hs
  rw [decide_eq_false (by omega)]at hs;exact hs
 have e2:chk Campaign.Key gy nT c=0:=by
  unfold wQ at hcf
  rw [decide_eq_false (by omega)]at hcf;exact hcf
 refine⟨PL hs,λs hm => ?_,λo hm => ?_,h1,by omega⟩
 ·have:=Jz x _ e1 s hm
  exact⟨this.1,by omega,by have:=(hx s hm).2.1;omega⟩
 ·have:=Gf c _ e2 o hm
  exact⟨this.1,by omega,this.2.2.1,by omega,by have:=(hc o hm).2.2.1;omega⟩
end Go.Proofs.YtkjlhdminmpmkacGreatDoor.Law

open Go Go.Eng Go.Flow
namespace Go.Proofs.YtkjlhdminmpmkacGreatDoor.Law
set_option linter.unusedVariables false
set_option linter.unusedSimpArgs false
set_option linter.unusedSectionVars false
theorem Gj {α β:Type} {f:α->β} {ks:List β} {k:Nat} {x:β} {l:List α} (hx:ks[k]? = some x) (h:(l.map f).Sublist (ks.take k)):(l.map f).Sublist (ks.take (k+1))/\∀c,f c=x->((l++[c]).map f).Sublist (ks.take (k+1)):=by
 have e:ks.take (k+1)=ks.take k++[x]:=by
  rw [List.take_add_one,hx];rfl
 rw [e]
 refine⟨h.trans (List.sublist_append_left _ _),λc hc => ?_⟩
 rw [List.map_append]
 refine h.append ?_
 rw [List.map_cons,hc]
 exact List.Sublist.refl _
theorem ltl {a b:ByteArray} (h:sLt a b=true):lt a b:=(DI a b).1 h
theorem Jr {L:Nat->ByteArray->(List ByteArray×List Int×Int)->Option (Ctl (List ByteArray×List Int×Int) Unit)} {n:Int} (hn:1<=n) (hn2:n<=1000)
  (hL:∀k x s,L k x s=(eX (⟨s.2.1,s.2.2⟩:Stream) n).bind λr=>(bif r.1 then (iZ s.1 ([x]:List ByteArray)).bind λa=>some a else some s.1).bind λv=>some (.go (v,r.2.L,r.2.f_at)))
  (s:Stream) {b:Int} (hs:Ok s b) (hb:b<=900000):∃t s',forL ([(⟨#[99,105,116,121]⟩:ByteArray),(⟨#[109,97,108,108]⟩:ByteArray)]:List ByteArray) (([]:List ByteArray),s.L,s.f_at) (λk x s=>L k x s)=some (.go (t,s'.L,s'.f_at))/\tagsF t=0/\t.length<=20/\(∀x∈t,l8 x)/\Ok s' (b+2):=by
 obtain ⟨c,s1,h1,h2⟩:=yB s n hs (by omega) hn hn2
 obtain ⟨d,s2,k1,k2⟩:=yB s1 n h2 (by omega) hn hn2
 have e1:(⟨s.L,s.f_at⟩:Stream)=s:=rfl
 have e2:(⟨s1.L,s1.f_at⟩:Stream)=s1:=rfl
 rw [oC (by simp)]
 cases c <;> cases d <;> simp only [forR,hL,e1,h1,ob_,cond_true,cond_false,o9 [] [(⟨#[99,105,116,121]⟩:ByteArray)] (by simp),o9 [] [(⟨#[109,97,108,108]⟩:ByteArray)] (by simp),List.nil_append,e2,k1,o9 [(⟨#[99,105,116,121]⟩:ByteArray)] [(⟨#[109,97,108,108]⟩:ByteArray)] (by simp)]
 ·exact⟨[],s2,rfl,by kernel_rfl,by decide,λx hx=>(by cases hx),k2.mono (by omega)⟩
 ·exact⟨[⟨#[109,97,108,108]⟩],s2,rfl,by kernel_rfl,by decide,λx hx=>(by rw [List.mem_singleton.1 hx];exact jI rfl),k2.mono (by omega)⟩
 ·exact⟨[⟨#[99,105,116,121]⟩],s2,rfl,by kernel_rfl,by decide,λx hx=>(by rw [List.mem_singleton.1 hx];exact jI rfl),k2.mono (by omega)⟩
 ·exact⟨[⟨#[99,105,116,121]⟩,⟨#[109,97,108,108]⟩],s2,rfl,by kernel_rfl,by decide,λx hx=>(by
   simp only [List.mem_cons,List.not_mem_nil,or_false]at hx
   rcases hx with rfl|rfl <;> exact jI rfl),k2.mono (by omega)⟩
def uC:List ByteArray:=[(⟨#[99,97]⟩:ByteArray),(⟨#[99,98]⟩:ByteArray),(⟨#[99,99]⟩:ByteArray),(⟨#[99,100]⟩:ByteArray)]
theorem LQ:uC.Pairwise lt:=by
 unfold uC
 simp only [List.pairwise_cons,List.mem_cons,List.not_mem_nil,or_false,forall_eq_or_imp,forall_eq]
 refine⟨⟨ltl (by kernel_rfl),ltl (by kernel_rfl),ltl (by kernel_rfl)⟩,⟨ltl (by kernel_rfl),ltl (by kernel_rfl)⟩,ltl (by kernel_rfl),λa h=>(by cases h),List.Pairwise.nil⟩
theorem NE:∀k∈uC,nK k=true/\l8 k/\sLe k nT=false:=by
 intro k hk
 simp only [uC,List.mem_cons,List.not_mem_nil,or_false]at hk
 rcases hk with rfl|rfl|rfl|rfl <;> exact⟨by kernel_rfl,jI rfl,by kernel_rfl⟩
def yg:List ByteArray:=[(⟨#[115,97]⟩:ByteArray),(⟨#[115,98]⟩:ByteArray),(⟨#[115,99]⟩:ByteArray),(⟨#[115,100]⟩:ByteArray),(⟨#[115,101]⟩:ByteArray)]
theorem Lb:yg.Pairwise lt:=by
 unfold yg
 simp only [List.pairwise_cons,List.mem_cons,List.not_mem_nil,or_false,forall_eq_or_imp,forall_eq]
 refine⟨⟨ltl (by kernel_rfl),ltl (by kernel_rfl),ltl (by kernel_rfl),ltl (by kernel_rfl)⟩,⟨ltl (by kernel_rfl),ltl (by kernel_rfl),ltl (by kernel_rfl)⟩,⟨ltl (by kernel_rfl),ltl (by kernel_rfl)⟩,ltl (by kernel_rfl),λa h=>(by cases h),List.Pairwise.nil⟩
theorem Ob:∀k∈yg,nK k=true/\l8 k/\sLe k nT=false:=by
 intro k hk
 simp only [yg,List.mem_cons,List.not_mem_nil,or_false]at hk
 rcases hk with rfl|rfl|rfl|rfl|rfl <;> exact⟨by kernel_rfl,jI rfl,by kernel_rfl⟩
theorem HY {c:Spot} {last:ByteArray} (h:gL nT c=0) (hl:sLe c.Key last=false):gL last c=0:=by
 unfold gL at *
 rw [hl]
 cases h1 : !nK c.Key with
 | true=>rw [h1]at h;cases h
 | false =>
  rw [h1,cond_false]at h
  cases h2:sLe c.Key nT with
  | true=>rw [h2]at h;cases h
  | false=>rw [h2]at h;exact h
theorem KE {c:Campaign} {last:ByteArray} (h:gy nT c=0) (hl:sLe c.Key last=false):gy last c=0:=by
 unfold gy at *
 rw [hl]
 cases h1:(!nK c.Key||(decide (c.Class.size≠0) && !nK c.Class))with
 | true=>rw [h1]at h;cases h
 | false =>
  rw [h1,cond_false]at h
  cases h2:sLe c.Key nT with
  | true=>rw [h2]at h;cases h
  | false=>rw [h2]at h;exact h
theorem Li {α:Type} (key:α->ByteArray) (stp:ByteArray->α->Int) (hn:∀c last,stp nT c=0->sLe (key c) last=false->stp last c=0):∀(l:List α) (last:ByteArray),(∀c∈l,stp nT c=0)->(l.map key).Pairwise lt->(∀c∈l,sLe (key c) last=false)->chk key stp last l=0
 | [],_,_,_,_=>rfl
 | c::l,last,h,hp,hl=>by
  have h0:=hn c last (h c (by simp)) (hl c (by simp))
  rw [List.map_cons,List.pairwise_cons]at hp
  rw [chk,h0]
  show (bif (0:Int)==0 then _ else _)=_
  rw [beq_self_eq_true,cond_true]
  refine Li key stp hn l (key c) (λx hx=>h x (by simp [hx])) hp.2 (λx hx => ?_)
  rw [Bool.eq_false_iff]
  intro he
  exact (IW _ _).1 he (hp.1 (key x) (List.mem_map.2 ⟨x,hx,rfl⟩))
theorem JQ {c:Spot} (h:gL nT c=0):sLe c.Key nT=false:=by
 unfold gL at h
 cases h1 : !nK c.Key with
 | true=>rw [h1]at h;cases h
 | false =>
  rw [h1,cond_false]at h
  cases h2:sLe c.Key nT with
  | true=>rw [h2]at h;cases h
  | false=>rfl
theorem JD {c:Campaign} (h:gy nT c=0):sLe c.Key nT=false:=by
 unfold gy at h
 cases h1:(!nK c.Key||(decide (c.Class.size≠0) && !nK c.Class))with
 | true=>rw [h1]at h;cases h
 | false =>
  rw [h1,cond_false]at h
  cases h2:sLe c.Key nT with
  | true=>rw [h2]at h;cases h
  | false=>rfl
theorem KZ {xs:List Spot} (hl:xs.length<=60) (h:∀x∈xs,gL nT x=0) (hp:(xs.map Spot.Key).Pairwise lt):rF xs=0:=by
 unfold rF
 rw [decide_eq_false (by omega),cond_false]
 exact Li Spot.Key gL (λc last=>HY) xs nT h hp (λc hc=>JQ (h c hc))
theorem Fs {xs:List Campaign} (hl:xs.length<=30) (h:∀x∈xs,gy nT x=0) (hp:(xs.map Campaign.Key).Pairwise lt):wQ xs=0:=by
 unfold wQ
 rw [decide_eq_false (by omega),cond_false]
 exact Li Campaign.Key gy (λc last=>KE) xs nT h hp (λc hc=>JD (h c hc))
theorem Ji (s:Stream) {b:Int} (hs:Ok s b) (hb:b<=800000):∃xs s',fU s=some (xs,s')/\Ok s' (b+100)/\xs.length<=5/\(∀x∈xs,GoodS x)/\(∀x∈xs,gL nT x=0)/\(xs.map Spot.Key).Pairwise lt/\∀x∈xs,0<=x.Time.From/\x.Time.From<x.Time.To/\x.Time.To<=60/\0<=x.Room/\x.Room<=5:=by
 unfold fU
 have hk1:([(⟨#[115,97]⟩:ByteArray),(⟨#[115,98]⟩:ByteArray),(⟨#[115,99]⟩:ByteArray),(⟨#[115,100]⟩:ByteArray),(⟨#[115,101]⟩:ByteArray)]:List ByteArray)=yg:=rfl
 rw [hk1]
 obtain ⟨s',h1,h2,h3,h4,h5,h6⟩:=ow (body:=λk x s=>fV k x s) (λk s=>Ok ⟨s.2.1,s.2.2⟩ (b+15*k)/\(s.1.map Spot.Key).Sublist (yg.take k)/\(∀x∈s.1,GoodS x)/\(∀x∈s.1,gL nT x=0)/\∀x∈s.1,0<=x.Time.From/\x.Time.From<x.Time.To/\x.Time.To<=60/\0<=x.Room/\x.Room<=5)
  (xs:=yg) (s:=(([]:List Spot),s.L,s.f_at)) (by decide) (λk x t hx ⟨i1,i2,i3,i4,i5⟩=>by
   have hkl:k<5:=by
    rcases Nat.lt_or_ge k 5 with g|g
    ·exact g
    ·rw [List.getElem?_eq_none (by exact g)]at hx;cases hx
   obtain ⟨n1,n2,n3⟩:=Ob x (List.mem_of_getElem? hx)
   obtain ⟨g1,g2⟩:=Gj hx i2
   have hlen:t.1.length<=5:=by
    have:=i2.length_le
    rw [List.length_map,List.length_take]at this
    omega
   obtain ⟨c,s1,k1,k2⟩:=yB _ 4 i1 (by omega) (by decide) (by decide)
   simp only [fV,k1,ob_]
   cases c with
   | true=>exact⟨_,rfl,k2.mono (by omega),g1,i3,i4,i5⟩
   | false =>
    obtain ⟨p1,s2,m1,q1,n1'⟩:=sH s1 [5,10,10] k2 (by omega) (by simp) (by simp)
    obtain ⟨p2,s3,m2,q2,n2'⟩:=sH s2 [0,1,2,3,5] n1' (by omega) (by simp) (by simp)
    obtain ⟨tg,s4,k7,k8,k9,k10,k11⟩:=Jr (L:=iK) (n:=2) (by decide) (by decide) (λ_ _ _=>rfl) s3 n2' (by omega)
    simp only [List.mem_cons,List.not_mem_nil,or_false]at q1 q2
    have e1:w64 (10*(k:Int))=10*k:=fG (by omega)
    have e2:w64 (10*(k:Int)+p1)=10*k+p1:=fG (by omega)
    simp only [cond_false,m1,m2,k7,ob_,mh,e1,e2,o9 t.1 _ (show t.1.length+[_].length<=_ by simp;omega)]
    refine⟨_,rfl,k11.mono (by omega),g2 _ rfl,λy hy => ?_,λy hy => ?_,λy hy => ?_⟩
    ·rcases List.mem_append.1 hy with hy|hy
     ·exact i3 y hy
     ·rw [List.mem_singleton.1 hy]
      exact⟨n2,k9,k10⟩
    ·rcases List.mem_append.1 hy with hy|hy
     ·exact i4 y hy
     ·rw [List.mem_singleton.1 hy]
      unfold gL Cr out
      simp only [n1,n3,k8,Bool.not_true,cond_false]
      rw [decide_eq_false (show ¬10*(k:Int)<0 by omega),decide_eq_false (show ¬10*(k:Int)>=10*k+p1 by omega),decide_eq_false (show ¬10*(k:Int)+p1>345686400000 by omega),decide_eq_false (show ¬p2<0 by omega),decide_eq_false (show ¬p2>1000000 by omega)]
      rfl
    ·rcases List.mem_append.1 hy with hy|hy
     ·exact i5 y hy
     ·rw [List.mem_singleton.1 hy]
      show 0<=10*(k:Int)/\10*(k:Int)<10*k+p1/\10*(k:Int)+p1<=60/\0<=p2/\p2<=5
      omega) ⟨by simpa using hs,by simp,by simp,by simp,by simp⟩
 rw [h1]
 have hl:s'.1.length<=5:=by
  have:=h3.length_le
  rw [List.length_map,List.length_take]at this
  have e:yg.length=5:=rfl
  omega
 refine⟨s'.1,⟨s'.2.1,s'.2.2⟩,rfl,h2.mono (by show b+15*((5:Nat):Int)<=b+100;omega),hl,h4,h5,?_,h6⟩
 rw [show yg.take yg.length=yg from rfl]at h3
 exact Lb.sublist h3
theorem JA (m:Nat) (hm:m=3\/m=4) (s:Stream) {b:Int} (hs:Ok s b) (hb:b<=800000):∃xs s',dE s (m:Int)=some (xs,s')/\Ok s' (b+100)/\xs.length<=m/\(∀x∈xs,Cy x)/\(∀x∈xs,gy nT x=0)/\(xs.map Campaign.Key).Sublist uC/\∀x∈xs,x.Time.To<=100/\0<=x.Goal/\x.Goal<=6/\0<=x.Most/\x.Most<=9:=by
 unfold dE
 have hk1:K4 ([(⟨#[99,97]⟩:ByteArray),(⟨#[99,98]⟩:ByteArray),(⟨#[99,99]⟩:ByteArray),(⟨#[99,100]⟩:ByteArray)]:List ByteArray) 0 (m:Int)=some (uC.take m):=by
  rcases hm with rfl|rfl <;> rfl
 have hml:(uC.take m).length=m:=by rcases hm with rfl | rfl <;> rfl
 simp only [hk1,ob_]
 obtain ⟨s',h1,h2,h3,h4,h5,h6⟩:=ow (body:=λk x s=>ek k x s) (λk s=>Ok ⟨s.2.1,s.2.2⟩ (b+20*k)/\(s.1.map Campaign.Key).Sublist ((uC.take m).take k)/\(∀x∈s.1,Cy x)/\(∀x∈s.1,gy nT x=0)/\∀x∈s.1,x.Time.To<=100/\0<=x.Goal/\x.Goal<=6/\0<=x.Most/\x.Most<=9)
  (xs:=uC.take m) (s:=(([]:List Campaign),s.L,s.f_at)) (by rw [hml];omega) (λk x t hx ⟨i1,i2,i3,i4,i5⟩=>by
   have hkl:k<m:=by
    have:=(List.getElem?_eq_some_iff.1 hx).1
    omega
   obtain ⟨n1,n2,n3⟩:=NE x (List.mem_of_mem_take (List.mem_of_getElem? hx))
   obtain ⟨g1,g2⟩:=Gj hx i2
   have hlen:t.1.length<=4:=by
    have:=i2.length_le
    rw [List.length_map,List.length_take]at this
    omega
   obtain ⟨c,s1,k1,k2⟩:=yB _ 5 i1 (by omega) (by decide) (by decide)
   simp only [ek,k1,ob_]
   cases c with
   | true=>exact⟨_,rfl,k2.mono (by omega),g1,i3,i4,i5⟩
   | false =>
    obtain ⟨cl,s2,k3,kc,k4⟩:=DF s1 [(⟨#[]⟩:ByteArray),(⟨#[]⟩:ByteArray),(⟨#[99,97,114,115]⟩:ByteArray),(⟨#[102,111,111,100]⟩:ByteArray)] k2 (by omega) (by simp) (by simp)
    obtain ⟨p1,s3,m1,q1,n1'⟩:=sH s2 [0,0,10,20] k4 (by omega) (by simp) (by simp)
    obtain ⟨p2,s4,m2,q2,n2'⟩:=sH s3 [30,50,60,100] n1' (by omega) (by simp) (by simp)
    obtain ⟨p3,s5,m3,q3,n3'⟩:=sH s4 [0,1,2,3,4,6] n2' (by omega) (by simp) (by simp)
    obtain ⟨p4,s6,m4,q4,n4'⟩:=sH s5 [0,1,2,3,9] n3' (by omega) (by simp) (by simp)
    obtain ⟨p5,s7,m5,q5,n5'⟩:=sH s6 [0,500,1000,1500] n4' (by omega) (by simp) (by simp)
    obtain ⟨tg,s8,k7,k8,k9,k10,k11⟩:=Jr (L:=gm) (n:=4) (by decide) (by decide) (λ_ _ _=>rfl) s7 n5' (by omega)
    simp only [List.mem_cons,List.not_mem_nil,or_false]at q1 q2 q3 q4 q5
    simp only [cond_false,k3,m1,m2,m3,m4,m5,k7,ob_,mh,o9 t.1 _ (show t.1.length+[_].length<=_ by simp;omega)]
    have hcl:l8 cl/\(decide (cl.size≠0) && !nK cl)=false:=by
     simp only [List.mem_cons,List.not_mem_nil,or_false]at kc
     rcases kc with rfl|rfl|rfl|rfl <;> exact⟨jI rfl,by kernel_rfl⟩
    refine⟨_,rfl,k11.mono (by omega),g2 _ rfl,λy hy => ?_,λy hy => ?_,λy hy => ?_⟩
    ·rcases List.mem_append.1 hy with hy|hy
     ·exact i3 y hy
     ·rw [List.mem_singleton.1 hy]
      exact⟨n2,hcl.1,k9,k10⟩
    ·rcases List.mem_append.1 hy with hy|hy
     ·exact i4 y hy
     ·rw [List.mem_singleton.1 hy]
      unfold gy Cr out
      simp only [n1,hcl.2,n3,k8,Bool.not_true,Bool.or_false,cond_false]
      rw [decide_eq_false (show ¬p1<0 by omega),decide_eq_false (show ¬p1>=p2 by omega),decide_eq_false (show ¬p2>345686400000 by omega),decide_eq_false (show ¬p3<0 by omega),decide_eq_false (show ¬p3>1000000 by omega),decide_eq_false (show ¬p4<0 by omega),decide_eq_false (show ¬p4>1000000 by omega),decide_eq_false (show ¬p5<0 by omega),decide_eq_false (show ¬p5>1000000000 by omega)]
      rfl
    ·rcases List.mem_append.1 hy with hy|hy
     ·exact i5 y hy
     ·rw [List.mem_singleton.1 hy]
      show p2<=100/\0<=p3/\p3<=6/\0<=p4/\p4<=9
      omega) ⟨by simpa using hs,by simp,by simp,by simp,by simp⟩
 rw [h1]
 have hl:s'.1.length<=m:=by
  have:=h3.length_le
  rw [List.length_map,List.length_take,hml]at this
  omega
 refine⟨s'.1,⟨s'.2.1,s'.2.2⟩,rfl,h2.mono (by rw [hml];omega),hl,h4,h5,?_,h6⟩
 exact (h3.trans (List.take_sublist _ _)).trans (List.take_sublist _ _)
end Go.Proofs.YtkjlhdminmpmkacGreatDoor.Law

open Go Go.Eng Go.Flow
namespace Go.Proofs.YtkjlhdminmpmkacGreatDoor.Law
set_option linter.unusedVariables false
set_option linter.unusedSimpArgs false
def bump (N:Net) (k:Nat) (d:Int):Net := { N with room:=λj=>if j=k then N.room j+d else N.room j }
end Go.Proofs.YtkjlhdminmpmkacGreatDoor.Law

open Go Go.Eng
namespace Go.Proofs.YtkjlhdminmpmkacGreatDoor.Law
set_option linter.unusedVariables false
set_option linter.unusedSimpArgs false
def sQ {σ ρ:Type} (s:σ) (body:σ->Option (Ctl σ ρ)):Option (Ctl σ ρ):=iterN body 300 s
def Le {α:Type} (a b:Option α):Prop:=∀r,a=some r->b=some r
theorem Le.refl {α:Type} (a:Option α):Le a a:=λ_ h=>h
theorem Le.bind {α β:Type} {a b:Option α} {f g:α->Option β} (h:Le a b) (k:∀x,Le (f x) (g x)):Le (a.bind f) (b.bind g):=λr e=>by
 obtain ⟨x,h1,h2⟩:=Option.bind_eq_some_iff.1 e
 rw [h x h1];exact k x r h2
theorem Le.cond {α:Type} {a b c d:Option α} {t:Bool} (h:Le a c) (k:Le b d):Le (bif t then a else b) (bif t then c else d):=by
 cases t
 ·exact k
 ·exact h
theorem Le.thenC {σ ρ τ:Type} {o:Ctl σ ρ} {f f':σ->Option τ} {g g':ρ->Option τ} (h:∀x,Le (f x) (f' x)) (k:∀x,Le (g x) (g' x)):Le (Go.Eng.thenC o f g) (Go.Eng.thenC o f' g'):=by
 cases o
 ·exact h _
 ·exact Le.refl _
 ·exact k _
theorem Le.forR {α σ ρ:Type} {b b':Nat->α->σ->Option (Ctl σ ρ)} (h:∀k x s,Le (b k x s) (b' k x s)):∀(xs:List α) (k:Nat) (s:σ),Le (Go.Eng.forR b xs k s) (Go.Eng.forR b' xs k s)
 | [],k,s=>Le.refl _
 | x::xs,k,s=>Le.bind (h k x s) (λc=>by
   cases c with
   | go s'=>exact Le.forR h xs _ _
   | brk s'=>exact Le.refl _
   | ret r=>exact Le.refl _)
theorem Le.forL {α σ ρ:Type} {xs:List α} {s:σ} {b b':Nat->α->σ->Option (Ctl σ ρ)} (h:∀k x s,Le (b k x s) (b' k x s)):Le (Go.Eng.forL xs s b) (Go.Eng.forL xs s b'):=by
 unfold Go.Eng.forL
 split
 ·exact Le.forR h xs 0 s
 ·exact Le.refl _
theorem Le.iterN {σ ρ:Type} {b b':σ->Option (Ctl σ ρ)} (h:∀s,Le (b s) (b' s)):∀(n:Nat) (s:σ),Le (Go.Eng.iterN b n s) (Go.Eng.iterN b' n s)
 | 0,s=>Le.refl _
 | n+1,s=>Le.bind (h s) (λc=>by
   cases c with
   | go s'=>exact Le.iterN h n s'
   | brk s'=>exact Le.refl _
   | ret r=>exact Le.refl _)
theorem Le.loop {σ ρ:Type} {s:σ} {b b':σ->Option (Ctl σ ρ)} (h:∀s,Le (b s) (b' s)):Le (sQ s b) (kJ s b'):=λr e=>qc (Le.iterN h _ _ r e)
end Go.Proofs.YtkjlhdminmpmkacGreatDoor.Law

open Go Go.Eng
namespace Go.Proofs.YtkjlhdminmpmkacGreatDoor.Law
set_option linter.unusedVariables false
set_option linter.unusedSimpArgs false
def Oa (x:Int):List Int->List Int
 | []=>[x]
 | y::l=>bif decide (x<=y)then x::y::l else y::Oa x l
def EZ:List Int->List Int
 | []=>[]
 | x::l=>Oa x (EZ l)
theorem BN (x:Int):∀l,(Oa x l).Perm (x::l)
 | [] => .refl _
 | y::l=>by
  unfold Oa
  cases decide (x<=y)with
  | true=>exact .refl _
  | false=>exact ((BN x l).cons y).trans (List.Perm.swap x y l)
theorem CF:∀l,(EZ l).Perm l
 | [] => .refl _
 | x::l=>(BN x _).trans ((CF l).cons x)
theorem CG (x:Int):∀l:List Int,l.Pairwise (· <= ·)->(Oa x l).Pairwise (· <= ·)
 | [],_=>List.pairwise_singleton _ _
 | y::l,h=>by
  obtain ⟨h1,h2⟩:=List.pairwise_cons.1 h
  unfold Oa
  by_cases hx:x<=y
  ·rw [decide_eq_true hx,cond_true]
   exact List.pairwise_cons.2 ⟨λz hz=>by
    rcases List.mem_cons.1 hz with rfl|hz
    ·exact hx
    ·exact Int.le_trans hx (h1 z hz),h⟩
  ·rw [decide_eq_false hx,cond_false]
   exact List.pairwise_cons.2 ⟨λz hz=>by
    rcases List.mem_cons.1 ((BN x l).mem_iff.1 hz)with rfl|hz
    ·omega
    ·exact h1 z hz,CG x l h2⟩
theorem zo:∀l,(EZ l).Pairwise (· <= ·)
 | [] => .nil
 | x::l=>CG x _ (zo l)
theorem NV (l:List Int):l.mergeSort (λx y=>decide (x<=y))=EZ l:=by
 refine List.Perm.eq_of_pairwise (le:=(· <= ·)) (λa b _ _ h1 h2=>Int.le_antisymm h1 h2) ?_ (zo l) ((List.mergeSort_perm l _).trans (CF l).symm)
 have:=List.pairwise_mergeSort (le:=λ(x y:Int)=>decide (x<=y)) (λa b c=>by simp;omega) (λa b=>by simp;omega) l
 exact this.imp (by simp)
def OQ (l:List Int):Option (List Int):=bif Nat.ble l.length 1000 then some (EZ l)else none
theorem OO (l:List Int):Le (OQ l) (iV l):=λr h=>by
 unfold OQ at h
 cases hb:Nat.ble l.length 1000 with
 | false=>rw [hb]at h;cases h
 | true =>
  rw [hb,cond_true]at h
  have:=Nat.le_of_ble_eq_true hb
  unfold iV M7
  rw [if_pos (by omega),NV];exact h
end Go.Proofs.YtkjlhdminmpmkacGreatDoor.Law

open Go Go.Eng
namespace Go.Proofs.YtkjlhdminmpmkacGreatDoor.Law
set_option linter.unusedVariables false
set_option linter.unusedSimpArgs false
set_option maxRecDepth 100000
def lq (s_1:ByteArray) (c_2:Int):Option (ByteArray) :=
 (sQ s_1 (λs=>ig c_2 s)).bind λo_11=>thenC o_11 (λs_8=>some s_8) (λ_=>none)
theorem uY (s_1:ByteArray) (c_2:Int):Le (lq s_1 c_2) (strings_trimRightByte s_1 c_2):=by
 unfold lq strings_trimRightByte
 repeat' (with_reducible first | exact Le.refl _ | refine Le.loop (λ_ => ?_) | refine Le.forL (λ_ _ _ => ?_) | refine Le.thenC (λ_ => ?_) (λ_ => ?_) | refine Le.cond ?_ ?_ | refine Le.bind ?_ (λ_ => ?_))
def lW (s_1:ByteArray) (c_2:Int):Option (ByteArray) :=
 (sQ s_1 (λs=>iB c_2 s)).bind λo_11=>thenC o_11 (λs_8=>some s_8) (λ_=>none)
theorem vP (s_1:ByteArray) (c_2:Int):Le (lW s_1 c_2) (strings_trimLeftByte s_1 c_2):=by
 unfold lW strings_trimLeftByte
 repeat' (with_reducible first | exact Le.refl _ | refine Le.loop (λ_ => ?_) | refine Le.forL (λ_ _ _ => ?_) | refine Le.thenC (λ_ => ?_) (λ_ => ?_) | refine Le.cond ?_ ?_ | refine Le.bind ?_ (λ_ => ?_))
def uR (s_1:ByteArray) (cutset_2:ByteArray):Option (ByteArray) :=
 (bif (sEq s_1 (⟨#[]⟩:ByteArray))then some true else some (sEq cutset_2 (⟨#[]⟩:ByteArray))).bind λv_3=>bif v_3 then some s_1 else (bif ((cutset_2.size:Int)==1)then (yY cutset_2 0).bind λb_10=>some (decide ((b_10.toNat:Int)<128))else some false).bind λv_7=>bif v_7 then (yY cutset_2 0).bind λb_13=>(lq s_1 (b_13.toNat:Int)).bind λr_15=>(yY cutset_2 0).bind λb_17=>(lW r_15 (b_17.toNat:Int)).bind λr_19=>some r_19 else none
theorem Df (s_1:ByteArray) (cutset_2:ByteArray):Le (uR s_1 cutset_2) (pV s_1 cutset_2):=by
 unfold uR pV
 repeat' (with_reducible first | exact Le.refl _ | exact uY _ _ | exact vP _ _ | refine Le.loop (λ_ => ?_) | refine Le.forL (λ_ _ _ => ?_) | refine Le.thenC (λ_ => ?_) (λ_ => ?_) | refine Le.cond ?_ ?_ | refine Le.bind ?_ (λ_ => ?_))
def sD (s_1:ByteArray):Option (Bool) :=
 (sQ 0 (λs=>pg s_1 s)).bind λo_10=>thenC o_10 (λs_7=>((jZ s_1).bind λr_23=>bif r_23 then (uR s_1 (⟨#[32]⟩:ByteArray)).bind λr_26=>bif (sEq r_26 s_1)then (strings_Contains s_1 (⟨#[32,32]⟩:ByteArray)).bind λr_29=>some (!r_29)else some false else some false).bind λv_21=>some v_21) (λr=>some r)
theorem yw (s_1:ByteArray):Le (sD s_1) (oW s_1):=by
 unfold sD oW
 repeat' (with_reducible first | exact Le.refl _ | exact Df _ _ | refine Le.loop (λ_ => ?_) | refine Le.forL (λ_ _ _ => ?_) | refine Le.thenC (λ_ => ?_) (λ_ => ?_) | refine Le.cond ?_ ?_ | refine Le.bind ?_ (λ_ => ?_))
theorem Dt (s:ByteArray):Le (sD s) (oW s):=yw s
end Go.Proofs.YtkjlhdminmpmkacGreatDoor.Law

open Go Go.Eng
namespace Go.Proofs.YtkjlhdminmpmkacGreatDoor.Law
set_option linter.unusedVariables false
set_option linter.unusedSimpArgs false
set_option maxRecDepth 100000
def gP (s_1:ByteArray):Option (Bool) :=
 (sQ 0 (λs=>jX s_1 s)).bind λo_10=>thenC o_10 (λs_7=>(bif (sNe s_1 (⟨#[]⟩:ByteArray))then some (decide ((s_1.size:Int)<=40))else some false).bind λv_30=>some v_30) (λr=>some r)
theorem jM (s_1:ByteArray):Le (gP s_1) (eG s_1):=by
 unfold gP eG
 repeat' (with_reducible first|exact Le.refl _|refine Le.loop (λ_=>?_)|refine Le.thenC (λ_=>?_) (λ_=>?_)|refine Le.cond ?_ ?_|refine Le.bind ?_ (λ_=>?_))
def iy (s_1:(List Int)) (s_8:Int):Option (Ctl (Int) ((List Int))) :=
 bif (decide (s_8<(s_1.length:Int)))then (inR s_8 s_1).bind λ_=>(s_1[(0+(s_8).toNat)]?).bind λe_15=>(inR (w64 (s_8-1)) s_1).bind λ_=>(s_1[(0+((w64 (s_8-1))).toNat)]?).bind λe_18=>bif (e_15==e_18)then (neL s_1).bind λ_=>(Dq s_1 s_8 (s_1.length:Int)).bind λ_=>(sQ (s_1,s_8,1) (λs=>fI s_1 s_8 s)).bind λo_31=>thenC o_31 (λs_28=>(Dq s_28.1 s_28.2.1 (s_28.1.length:Int)).bind λ_=>(Dq (s_28.1.take ((s_28.2.1).toNat)++List.replicate (((s_28.1.length:Int)).toNat-(s_28.2.1).toNat) 0++s_28.1.drop (((s_28.2.1).toNat)+(((s_28.1.length:Int)).toNat-(s_28.2.1).toNat))) 0 s_28.2.1).bind λ_=>some (.ret (cutL (s_28.1.take ((s_28.2.1).toNat)++List.replicate (((s_28.1.length:Int)).toNat-(s_28.2.1).toNat) 0++s_28.1.drop (((s_28.2.1).toNat)+(((s_28.1.length:Int)).toNat-(s_28.2.1).toNat))) 0 ((s_28.2.1).toNat)))) (λ_=>none)else some (.go (w64 (s_8+1)))else some (.brk s_8)
theorem p9 (s_1:(List Int)) (s_8:Int):Le (iy s_1 s_8) (dS s_1 s_8):=by
 unfold iy dS
 repeat' (with_reducible first|exact Le.refl _|refine Le.loop (λ_=>?_)|refine Le.thenC (λ_=>?_) (λ_=>?_)|refine Le.cond ?_ ?_|refine Le.bind ?_ (λ_=>?_))
def jr (s_1:(List Int)):Option ((List Int)) :=
 bif (decide ((s_1.length:Int)<2))then some s_1 else (sQ 1 (λs=>iy s_1 s)).bind λo_11=>thenC o_11 (λs_8=>some s_1) (λr=>some r)
theorem rE (s_1:(List Int)):Le (jr s_1) (fw s_1):=by
 unfold jr fw
 repeat' (with_reducible first|exact Le.refl _|exact p9 _ _|refine Le.loop (λ_=>?_)|refine Le.thenC (λ_=>?_) (λ_=>?_)|refine Le.cond ?_ ?_|refine Le.bind ?_ (λ_=>?_))
def dF (b_3:Int) (a_2:Int) (s_10:(List Run)×Int):Option (Ctl ((List Run)×Int) (Unit)) :=
 bif (decide (s_10.2<b_3))then (sQ (s_10.1,s_10.2) (λs=>cZ a_2 s)).bind λo_24=>thenC o_24 (λs_21=>some (.go (s_21.1,(w64 (s_10.2+1))))) (λ_=>none)else some (.brk (s_10.1,s_10.2))
theorem jN (b_3:Int) (a_2:Int) (s_10:(List Run)×Int):Le (dF b_3 a_2 s_10) (bO b_3 a_2 s_10):=by
 unfold dF bO
 repeat' (with_reducible first|exact Le.refl _|refine Le.loop (λ_=>?_)|refine Le.thenC (λ_=>?_) (λ_=>?_)|refine Le.cond ?_ ?_|refine Le.bind ?_ (λ_=>?_))
def dP (data_1:(List Run)) (a_2:Int) (b_3:Int):Option ((List Run)) :=
 (sQ (data_1,(w64 (a_2+1))) (λs=>dF b_3 a_2 s)).bind λo_13=>thenC o_13 (λs_10=>some s_10.1) (λ_=>none)
theorem kS (data_1:(List Run)) (a_2:Int) (b_3:Int):Le (dP data_1 a_2 b_3) (bU data_1 a_2 b_3):=by
 unfold dP bU
 repeat' (with_reducible first|exact Le.refl _|exact jN _ _ _|refine Le.loop (λ_=>?_)|refine Le.thenC (λ_=>?_) (λ_=>?_)|refine Le.bind ?_ (λ_=>?_))
def eF (b_3:Int) (a_2:Int) (data_1:(List Run)) (limit_4:Int) (s_11:Unit):Option (Ctl (Unit) ((List Run))) :=
 bif (decide ((w64 (b_3-a_2))<=12))then (dP data_1 a_2 b_3).bind λr_17=>(nV r_17 data_1).bind λ_=>some (.ret r_17)else bif (limit_4==0)then none else none
theorem lM (b_3:Int) (a_2:Int) (data_1:(List Run)) (limit_4:Int) (s_11:Unit):Le (eF b_3 a_2 data_1 limit_4 s_11) (cB b_3 a_2 data_1 limit_4 s_11):=by
 unfold eF cB
 repeat' (with_reducible first|exact Le.refl _|exact kS _ _ _|refine Le.cond ?_ ?_|refine Le.bind ?_ (λ_=>?_))
def fB (data_1:(List Run)) (a_2:Int) (b_3:Int) (limit_4:Int):Option ((List Run)) :=
 (sQ () (λs=>eF b_3 a_2 data_1 limit_4 s)).bind λo_14=>thenC o_14 (λs_11=>some data_1) (λr=>some r)
theorem mQ (data_1:(List Run)) (a_2:Int) (b_3:Int) (limit_4:Int):Le (fB data_1 a_2 b_3 limit_4) (dx data_1 a_2 b_3 limit_4):=by
 unfold fB dx
 repeat' (with_reducible first|exact Le.refl _|exact lM _ _ _ _ _|refine Le.loop (λ_=>?_)|refine Le.thenC (λ_=>?_) (λ_=>?_)|refine Le.bind ?_ (λ_=>?_))
def dW (x_1:(List Run)):Option ((List Run)) :=
 (qw (IntKind.u64.wrap (x_1.length:Int))).bind λr_3=>(fB x_1 0 (x_1.length:Int) r_3).bind λr_5=>(nV r_5 x_1).bind λ_=>some r_5
theorem kX (x_1:(List Run)):Le (dW x_1) (bX x_1):=by
 unfold dW bX
 repeat' (with_reducible first|exact Le.refl _|exact mQ _ _ _ _|refine Le.bind ?_ (λ_=>?_))
def sF (l_1:(List Rect)) (y_2:Int):Option ((List Run)) :=
 (forL l_1 ([]:List Run) (λk x s=>pY y_2 k x s)).bind λo_14=>thenC o_14 (λs_8=>(dW s_8).bind λr_27=>(nV r_27 s_8).bind λ_=>(forL r_27 ([]:List Run) (λk x s=>pW k x s)).bind λo_41=>thenC o_41 (λs_35=>some s_35) (λ_=>none)) (λ_=>none)
theorem Fz (l_1:(List Rect)) (y_2:Int):Le (sF l_1 y_2) (oU l_1 y_2):=by
 unfold sF oU
 repeat' (with_reducible first|exact Le.refl _|exact kX _|refine Le.forL (λ_ _ _=>?_)|refine Le.thenC (λ_=>?_) (λ_=>?_)|refine Le.bind ?_ (λ_=>?_))
def rG (m_2:(List Run)) (k_3:Nat) (x_5:Run) (s_8:(List Run)×Int):Option (Ctl ((List Run)×Int) (Unit)) :=
 (sQ s_8.2 (λs=>pX m_2 x_5 s)).bind λo_25=>thenC o_25 (λs_22=>(sQ (s_8.1,s_22,x_5.f_from) (λs=>pR m_2 x_5 s)).bind λo_43=>thenC o_43 (λs_38=>(bif (decide (s_38.2.2<x_5.f_to))then (iZ s_38.1 ([(⟨s_38.2.2,x_5.f_to⟩:Run)]:List Run)).bind λa_68=>some a_68 else some s_38.1).bind λv_64=>some (.go (v_64,s_22))) (λ_=>none)) (λ_=>none)
theorem Aj (m_2:(List Run)) (k_3:Nat) (x_5:Run) (s_8:(List Run)×Int):Le (rG m_2 k_3 x_5 s_8) (mW m_2 k_3 x_5 s_8):=by
 unfold rG mW
 repeat' (with_reducible first|exact Le.refl _|refine Le.loop (λ_=>?_)|refine Le.thenC (λ_=>?_) (λ_=>?_)|refine Le.cond ?_ ?_|refine Le.bind ?_ (λ_=>?_))
def wM (l_1:(List Run)) (m_2:(List Run)):Option ((List Run)) :=
 (forL l_1 (([]:List Run),0) (λk x s=>rG m_2 k x s)).bind λo_14=>thenC o_14 (λs_8=>some s_8.1) (λ_=>none)
theorem EK (l_1:(List Run)) (m_2:(List Run)):Le (wM l_1 m_2) (qH l_1 m_2):=by
 unfold wM qH
 repeat' (with_reducible first|exact Le.refl _|exact Aj _ _ _ _|refine Le.forL (λ_ _ _=>?_)|refine Le.thenC (λ_=>?_) (λ_=>?_)|refine Le.bind ?_ (λ_=>?_))
def pO (r_25:(List Int)) (l_1:(List Rect)) (m_2:(List Rect)) (k_27:Nat) (x_29:Int) (s_32:(List Rect)×(List Run)×Int):Option (Ctl ((List Rect)×(List Run)×Int) (Unit)) :=
 (bif (decide ((w64 ((k_27:Int)+1))<(r_25.length:Int)))then (sF l_1 x_29).bind λr_45=>(sF m_2 x_29).bind λr_47=>(wM r_45 r_47).bind λr_49=>some r_49 else some ([]:List Run)).bind λv_42=>(dQ s_32.2.1 v_42).bind λr_51=>bif r_51 then some (.go (s_32.1,s_32.2.1,s_32.2.2))else (forL s_32.2.1 s_32.1 (λk x s=>nI s_32 x_29 k x s)).bind λo_64=>thenC o_64 (λs_59=>some (.go (s_59,v_42,x_29))) (λ_=>none)
theorem zg (r_25:(List Int)) (l_1:(List Rect)) (m_2:(List Rect)) (k_27:Nat) (x_29:Int) (s_32:(List Rect)×(List Run)×Int):Le (pO r_25 l_1 m_2 k_27 x_29 s_32) (kR r_25 l_1 m_2 k_27 x_29 s_32):=by
 unfold pO kR
 repeat' (with_reducible first|exact Le.refl _|exact Fz _ _|exact EK _ _|refine Le.forL (λ_ _ _=>?_)|refine Le.thenC (λ_=>?_) (λ_=>?_)|refine Le.cond ?_ ?_|refine Le.bind ?_ (λ_=>?_))
def ul (l_1:(List Rect)) (m_2:(List Rect)):Option ((List Rect)) :=
 (eP ([l_1,m_2]:List (List Rect))).bind λr_3=>(forL r_3 ([]:List Int) (λk x s=>nJ k x s)).bind λo_16=>thenC o_16 (λs_10=>(OQ s_10).bind λr_22=>(nV r_22 s_10).bind λ_=>(jr r_22).bind λr_25=>(forL r_25 (([]:List Rect),([]:List Run),0) (λk x s=>pO r_25 l_1 m_2 k x s)).bind λo_38=>thenC o_38 (λs_32=>some s_32.1) (λ_=>none)) (λ_=>none)
theorem Bw (l_1:(List Rect)) (m_2:(List Rect)):Le (ul l_1 m_2) (ol l_1 m_2):=by
 unfold ul ol
 repeat' (with_reducible first|exact Le.refl _|exact rE _|exact zg _ _ _ _ _ _|exact OO _|refine Le.forL (λ_ _ _=>?_)|refine Le.thenC (λ_=>?_) (λ_=>?_)|refine Le.bind ?_ (λ_=>?_))
def wC (l_1:(List Rect)):Option (Int×Int) :=
 (l9 l_1).bind λr_2=>bif (r_2 != 0)then some (0,r_2)else (ul l_1 ([]:List Rect)).bind λr_5=>(uG r_5).bind λr_7=>some (r_7,0)
theorem DY (l_1:(List Rect)):Le (wC l_1) (qR l_1):=by
 unfold wC qR
 repeat' (with_reducible first|exact Le.refl _|exact Bw _ _|refine Le.cond ?_ ?_|refine Le.bind ?_ (λ_=>?_))
def nP (l_1:(List ByteArray)) (k_2:Nat) (x_4:ByteArray) (s_7:Unit):Option (Ctl (Unit) (Int)) :=
 (gP x_4).bind λr_12=>bif (!r_12)then some (.ret 5)else (bif (decide ((k_2:Int)>0))then (idx l_1 (w64 ((k_2:Int)-1))).bind λy_18=>some (sLe x_4 y_18)else some false).bind λv_15=>bif v_15 then some (.ret 7)else some (.go ())
theorem xA (l_1:(List ByteArray)) (k_2:Nat) (x_4:ByteArray) (s_7:Unit):Le (nP l_1 k_2 x_4 s_7) (gQ l_1 k_2 x_4 s_7):=by
 unfold nP gQ
 repeat' (with_reducible first|exact Le.refl _|exact jM _|refine Le.cond ?_ ?_|refine Le.bind ?_ (λ_=>?_))
def ny (l_1:(List ByteArray)):Option (Int) :=
 (forL l_1 () (λk x s=>nP l_1 k x s)).bind λo_10=>thenC o_10 (λs_7=>some 0) (λr=>some r)
theorem sP (l_1:(List ByteArray)):Le (ny l_1) (iM l_1):=by
 unfold ny iM
 repeat' (with_reducible first|exact Le.refl _|exact xA _ _ _ _|refine Le.forL (λ_ _ _=>?_)|refine Le.thenC (λ_=>?_) (λ_=>?_)|refine Le.bind ?_ (λ_=>?_))
def nN (l_1:(List ByteArray)):Option (Int) :=
 bif (decide ((l_1.length:Int)>20))then some 2 else (ny l_1).bind λr_3=>some r_3
theorem xH (l_1:(List ByteArray)):Le (nN l_1) (jo l_1):=by
 unfold nN jo
 repeat' (with_reducible first|exact Le.refl _|exact sP _|refine Le.cond ?_ ?_|refine Le.bind ?_ (λ_=>?_))
def ni (e_1:Entry):Option (Int) :=
 ((gP e_1.Key).bind λr_5=>bif (!r_5)then some true else (gP e_1.Item).bind λr_8=>some (!r_8)).bind λv_3=>bif v_3 then some 5 else ((aQ e_1.Version 0 1000000).bind λr_13=>bif r_13 then some true else (aQ e_1.First 0 e_1.Last).bind λr_16=>bif r_16 then some true else bif (decide (e_1.Last>4000))then some true else (aQ e_1.Every 1 400).bind λr_20=>bif r_20 then some true else (aQ e_1.Days 1 127).bind λr_23=>some r_23).bind λv_11=>bif v_11 then some 1 else (jU e_1.Except).bind λr_26=>bif (r_26 != 0)then some r_26 else ((aQ e_1.From 0 1439).bind λr_31=>bif r_31 then some true else (aQ e_1.To 0 1439).bind λr_34=>bif r_34 then some true else (aQ e_1.Prio 0 9).bind λr_37=>some r_37).bind λv_29=>bif v_29 then some 1 else (nN e_1.Tags).bind λr_40=>some r_40
theorem wW (e_1:Entry):Le (ni e_1) (iT e_1):=by
 unfold ni iT
 repeat' (with_reducible first|exact Le.refl _|exact jM _|exact xH _|refine Le.cond ?_ ?_|refine Le.bind ?_ (λ_=>?_))
def jD (l_1:(List Entry)) (k_3:Nat) (x_5:Entry) (s_8:Unit):Option (Ctl (Unit) (Int)) :=
 (ni x_5).bind λr_14=>bif (r_14 != 0)then some (.ret r_14)else (bif (decide ((k_3:Int)>0))then (idx l_1 (w64 ((k_3:Int)-1))).bind λy_20=>some (sLe x_5.Key y_20.Key)else some false).bind λv_17=>bif v_17 then some (.ret 7)else some (.go ())
theorem sw (l_1:(List Entry)) (k_3:Nat) (x_5:Entry) (s_8:Unit):Le (jD l_1 k_3 x_5 s_8) (fH l_1 k_3 x_5 s_8):=by
 unfold jD fH
 repeat' (with_reducible first|exact Le.refl _|exact wW _|refine Le.cond ?_ ?_|refine Le.bind ?_ (λ_=>?_))
def lm (l_1:(List Entry)):Option (Int) :=
 bif (decide ((l_1.length:Int)>200))then some 2 else (forL l_1 () (λk x s=>jD l_1 k x s)).bind λo_11=>thenC o_11 (λs_8=>some 0) (λr=>some r)
theorem uU (l_1:(List Entry)):Le (lm l_1) (gN l_1):=by
 unfold lm gN
 repeat' (with_reducible first|exact Le.refl _|exact sw _ _ _ _|refine Le.forL (λ_ _ _=>?_)|refine Le.thenC (λ_=>?_) (λ_=>?_)|refine Le.cond ?_ ?_|refine Le.bind ?_ (λ_=>?_))
def iL (x_1:(List Int)) (target_2:Int):Option (Int×Bool) :=
 (sQ (0,(x_1.length:Int)) (λs=>fo x_1 target_2 s)).bind λo_11=>thenC o_11 (λs_8=>(bif (decide (s_8.1<(x_1.length:Int)))then (idx x_1 s_8.1).bind λy_24=>bif (y_24==target_2)then some true else (idx x_1 s_8.1).bind λy_27=>(jf y_27).bind λr_29=>bif r_29 then (jf target_2).bind λr_32=>some r_32 else some false else some false).bind λv_21=>some (s_8.1,v_21)) (λ_=>none)
theorem ql (x_1:(List Int)) (target_2:Int):Le (iL x_1 target_2) (eu x_1 target_2):=by
 unfold iL eu
 repeat' (with_reducible first|exact Le.refl _|refine Le.loop (λ_=>?_)|refine Le.thenC (λ_=>?_) (λ_=>?_)|refine Le.cond ?_ ?_|refine Le.bind ?_ (λ_=>?_))
def rz (e_1:Entry) (d_2:Int):Option (Bool) :=
 ((aQ d_2 e_1.First e_1.Last).bind λr_6=>bif r_6 then some true else (Kh .i64 (w64 (d_2-e_1.First)) e_1.Every).bind λq_9=>bif (q_9 != 0)then some true else (shlO .i64 1 (d_2.tmod 7)).bind λq_12=>some ((Qt .i64 e_1.Days q_12)==0)).bind λv_4=>bif v_4 then some false else (iL e_1.Except d_2).bind λr_15=>some (!r_15.2)
theorem Br (e_1:Entry) (d_2:Int):Le (rz e_1 d_2) (mg e_1 d_2):=by
 unfold rz mg
 repeat' (with_reducible first|exact Le.refl _|exact ql _ _|refine Le.cond ?_ ?_|refine Le.bind ?_ (λ_=>?_))
def oK (wv_3:Window) (zone_2:Int) (e_1:Entry) (s_15:(List Window)×Int):Option (Ctl ((List Window)×Int) (Unit)) :=
 bif (decide (s_15.2<=(zS (w64 ((w64 ((w64 (wv_3.To+(w64 (zone_2*60000)))).tdiv 86400000))+1)) e_1.Last)))then (rz e_1 s_15.2).bind λr_24=>bif (!r_24)then some (.go (s_15.1,(w64 (s_15.2+1))))else (ou e_1 zone_2 s_15.2).bind λr_27=>(bif (decide (r_27.From<wv_3.To))then some (decide (r_27.To>wv_3.From))else some false).bind λv_30=>(bif v_30 then (iZ s_15.1 ([r_27]:List Window)).bind λa_37=>some a_37 else some s_15.1).bind λv_33=>some (.go (v_33,(w64 (s_15.2+1))))else some (.brk (s_15.1,s_15.2))
theorem yh (wv_3:Window) (zone_2:Int) (e_1:Entry) (s_15:(List Window)×Int):Le (oK wv_3 zone_2 e_1 s_15) (jR wv_3 zone_2 e_1 s_15):=by
 unfold oK jR
 repeat' (with_reducible first|exact Le.refl _|exact Br _ _|refine Le.cond ?_ ?_|refine Le.bind ?_ (λ_=>?_))
def qW (e_1:Entry) (zone_2:Int) (wv_3:Window):Option ((List Window)) :=
 (bif e_1.Gone then some true else some (decide (wv_3.From>=wv_3.To))).bind λv_6=>bif v_6 then some ([]:(List Window))else (sQ (([]:List Window),(vE (w64 ((w64 ((w64 (wv_3.From+(w64 (zone_2*60000)))).tdiv 86400000))-2)) e_1.First)) (λs=>oK wv_3 zone_2 e_1 s)).bind λo_21=>thenC o_21 (λs_15=>some s_15.1) (λ_=>none)
theorem Bi (e_1:Entry) (zone_2:Int) (wv_3:Window):Le (qW e_1 zone_2 wv_3) (mI e_1 zone_2 wv_3):=by
 unfold qW mI
 repeat' (with_reducible first|exact Le.refl _|exact yh _ _ _ _|refine Le.loop (λ_=>?_)|refine Le.thenC (λ_=>?_) (λ_=>?_)|refine Le.cond ?_ ?_|refine Le.bind ?_ (λ_=>?_))
def rf (e_1:Entry) (zone_2:Int) (wv_3:Window):Option ((List Window)×Int) :=
 (lm ([e_1]:List Entry)).bind λr_6=>bif (r_6 != 0)then some (([]:(List Window)),r_6)else (aQ zone_2 (-1440) 1440).bind λr_9=>bif r_9 then some (([]:(List Window)),1)else (jV wv_3).bind λr_12=>bif (r_12 != 0)then some (([]:(List Window)),r_12)else (qW e_1 zone_2 wv_3).bind λr_15=>(forL (List.range ((r_15.length:Int)).toNat) r_15 (λk x s=>ma wv_3 k x s)).bind λo_27=>thenC o_27 (λs_24=>some (s_24,0)) (λ_=>none)
theorem Ak (e_1:Entry) (zone_2:Int) (wv_3:Window):Le (rf e_1 zone_2 wv_3) (mD e_1 zone_2 wv_3):=by
 unfold rf mD
 repeat' (with_reducible first|exact Le.refl _|exact uU _|exact Bi _ _ _|refine Le.forL (λ_ _ _=>?_)|refine Le.thenC (λ_=>?_) (λ_=>?_)|refine Le.cond ?_ ?_|refine Le.bind ?_ (λ_=>?_))
def oH (l_1:(List ByteArray)):Option (Int) :=
 bif (decide ((l_1.length:Int)>20))then some 2 else (ny l_1).bind λr_3=>some r_3
theorem yc (l_1:(List ByteArray)):Le (oH l_1) (fE l_1):=by
 unfold oH fE
 repeat' (with_reducible first|exact Le.refl _|exact sP _|refine Le.cond ?_ ?_|refine Le.bind ?_ (λ_=>?_))
def jg (l_1:(List Campaign)) (k_3:Nat) (x_5:Campaign) (s_8:Unit):Option (Ctl (Unit) (Int)) :=
 ((gP x_5.Key).bind λr_16=>bif (!r_16)then some true else bif (sNe x_5.Class (⟨#[]⟩:ByteArray))then (gP x_5.Class).bind λr_20=>some (!r_20)else some false).bind λv_14=>bif v_14 then some (.ret 5)else (bif (decide ((k_3:Int)>0))then (idx l_1 (w64 ((k_3:Int)-1))).bind λy_26=>some (sLe x_5.Key y_26.Key)else some false).bind λv_23=>bif v_23 then some (.ret 7)else ((jq x_5.Time).bind λr_31=>bif (!r_31)then some true else (aQ x_5.Goal 0 1000000).bind λr_34=>bif r_34 then some true else (aQ x_5.Most 0 1000000).bind λr_37=>bif r_37 then some true else (aQ x_5.Cents 0 1000000000).bind λr_40=>some r_40).bind λv_29=>bif v_29 then some (.ret 1)else (oH x_5.Tags).bind λr_43=>bif (r_43 != 0)then some (.ret r_43)else some (.go ())
theorem rq (l_1:(List Campaign)) (k_3:Nat) (x_5:Campaign) (s_8:Unit):Le (jg l_1 k_3 x_5 s_8) (dN l_1 k_3 x_5 s_8):=by
 unfold jg dN
 repeat' (with_reducible first|exact Le.refl _|exact jM _|exact yc _|refine Le.cond ?_ ?_|refine Le.bind ?_ (λ_=>?_))
def kN (l_1:(List Campaign)):Option (Int) :=
 bif (decide ((l_1.length:Int)>30))then some 2 else (forL l_1 () (λk x s=>jg l_1 k x s)).bind λo_11=>thenC o_11 (λs_8=>some 0) (λr=>some r)
theorem uu (l_1:(List Campaign)):Le (kN l_1) (bR l_1):=by
 unfold kN bR
 repeat' (with_reducible first|exact Le.refl _|exact rq _ _ _ _|refine Le.forL (λ_ _ _=>?_)|refine Le.thenC (λ_=>?_) (λ_=>?_)|refine Le.cond ?_ ?_|refine Le.bind ?_ (λ_=>?_))
def wL (c_1:Campaign) (atv_2:Int):Option (Int×Int) :=
 (kN ([c_1]:List Campaign)).bind λr_4=>bif (r_4 != 0)then some (0,r_4)else (cO atv_2).bind λr_7=>bif (!r_7)then some (0,1)else (mE c_1 atv_2).bind λr_10=>some (r_10,0)
theorem Ef (c_1:Campaign) (atv_2:Int):Le (wL c_1 atv_2) (qK c_1 atv_2):=by
 unfold wL qK
 repeat' (with_reducible first|exact Le.refl _|exact uu _|refine Le.cond ?_ ?_|refine Le.bind ?_ (λ_=>?_))
def mY (l_1:(List Beat)) (k_3:Nat) (x_5:Beat) (s_8:Unit):Option (Ctl (Unit) (Int)) :=
 (gP x_5.Player).bind λr_14=>bif (!r_14)then some (.ret 5)else ((cO x_5.At).bind λr_19=>bif (!r_19)then some true else (aQ x_5.Clock 0 345686399999).bind λr_22=>some r_22).bind λv_17=>bif v_17 then some (.ret 1)else (bif (decide ((k_3:Int)>0))then (idx l_1 (w64 ((k_3:Int)-1))).bind λy_28=>(lg y_28 x_5).bind λr_30=>some (decide (r_30>=0))else some false).bind λv_25=>bif v_25 then some (.ret 7)else (bif (decide ((k_3:Int)>0))then (idx l_1 (w64 ((k_3:Int)-1))).bind λy_36=>bif (sEq x_5.Player y_36.Player)then (idx l_1 (w64 ((k_3:Int)-1))).bind λy_39=>some (decide (x_5.Clock<=y_39.Clock))else some false else some false).bind λv_33=>bif v_33 then some (.ret 16)else some (.go ())
theorem wZ (l_1:(List Beat)) (k_3:Nat) (x_5:Beat) (s_8:Unit):Le (mY l_1 k_3 x_5 s_8) (iO l_1 k_3 x_5 s_8):=by
 unfold mY iO
 repeat' (with_reducible first|exact Le.refl _|exact jM _|refine Le.cond ?_ ?_|refine Le.bind ?_ (λ_=>?_))
def pI (l_1:(List Beat)):Option (Int) :=
 bif (decide ((l_1.length:Int)>500))then some 2 else (forL l_1 () (λk x s=>mY l_1 k x s)).bind λo_11=>thenC o_11 (λs_8=>some 0) (λr=>some r)
theorem yV (l_1:(List Beat)):Le (pI l_1) (kw l_1):=by
 unfold pI kw
 repeat' (with_reducible first|exact Le.refl _|exact wZ _ _ _ _|refine Le.forL (λ_ _ _=>?_)|refine Le.thenC (λ_=>?_) (λ_=>?_)|refine Le.cond ?_ ?_|refine Le.bind ?_ (λ_=>?_))
def uW (l_1:(List Beat_)) (n_2:Int):Option (Int×Int) :=
 bif ((l_1.length:Int)==0)then some (0,8)else (sQ 0 (λs=>oq l_1 n_2 s)).bind λo_12=>thenC o_12 (λs_9=>bif (s_9==0)then (idx l_1 0).bind λy_21=>(idx l_1 0).bind λy_23=>(cO (w64 (y_21.f_to-(w64 (y_23.f_from-n_2))))).bind λr_25=>bif (!r_25)then some (0,11)else some ((w64 (y_21.f_to-(w64 (y_23.f_from-n_2)))),0)else bif (s_9==(l_1.length:Int))then (idx l_1 (w64 (s_9-1))).bind λy_29=>(idx l_1 (w64 (s_9-1))).bind λy_31=>(cO (w64 ((w64 (y_29.f_to+n_2))-y_31.f_from))).bind λr_33=>bif (!r_33)then some (0,11)else some ((w64 ((w64 (y_29.f_to+n_2))-y_31.f_from)),0)else (idx l_1 (w64 (s_9-1))).bind λy_36=>(idx l_1 s_9).bind λy_38=>(bif (decide ((w64 (y_38.f_from-y_36.f_from))>2592000000))then some true else some (decide ((w64 (y_38.f_to-y_36.f_to))>2592000000))).bind λv_42=>bif v_42 then some (0,2)else (IR .i64 (w64 ((w64 (n_2-y_36.f_from))*(w64 (y_38.f_to-y_36.f_to)))) (w64 (y_38.f_from-y_36.f_from))).bind λq_46=>(cO (w64 (y_36.f_to+q_46))).bind λr_48=>bif (!r_48)then some (0,11)else some ((w64 (y_36.f_to+q_46)),0)) (λ_=>none)
theorem Dv (l_1:(List Beat_)) (n_2:Int):Le (uW l_1 n_2) (pq l_1 n_2):=by
 unfold uW pq
 repeat' (with_reducible first|exact Le.refl _|refine Le.loop (λ_=>?_)|refine Le.thenC (λ_=>?_) (λ_=>?_)|refine Le.cond ?_ ?_|refine Le.bind ?_ (λ_=>?_))
def xm (l_1:(List Beat)) (player_2:ByteArray) (n_3:Int) (back_4:Bool):Option (Int×Int) :=
 (pI l_1).bind λr_5=>bif (r_5 != 0)then some (0,r_5)else (gP player_2).bind λr_8=>bif (!r_8)then some (0,5)else (cO n_3).bind λr_11=>bif (!r_11)then some (0,1)else (qo l_1 player_2 back_4).bind λr_14=>(uW r_14 n_3).bind λr_16=>some (r_16.1,r_16.2)
theorem Ez (l_1:(List Beat)) (player_2:ByteArray) (n_3:Int) (back_4:Bool):Le (xm l_1 player_2 n_3 back_4) (qL l_1 player_2 n_3 back_4):=by
 unfold xm qL
 repeat' (with_reducible first|exact Le.refl _|exact jM _|exact yV _|exact Dv _ _|refine Le.cond ?_ ?_|refine Le.bind ?_ (λ_=>?_))
def wy (l_1:(List Beat)) (player_2:ByteArray) (clock_3:Int):Option (Int×Int) :=
 (xm l_1 player_2 clock_3 false).bind λr_4=>some (r_4.1,r_4.2)
theorem Eb (l_1:(List Beat)) (player_2:ByteArray) (clock_3:Int):Le (wy l_1 player_2 clock_3) (qC l_1 player_2 clock_3):=by
 unfold wy qC
 repeat' (with_reducible first|exact Le.refl _|exact Ez _ _ _ _|refine Le.bind ?_ (λ_=>?_))
def nQ (a_1:Alert) (k_4:Nat) (x_6:ByteArray) (s_9:Unit):Option (Ctl (Unit) (Int)) :=
 (gP x_6).bind λr_14=>bif (!r_14)then some (.ret 5)else (bif (decide ((k_4:Int)>0))then (idx a_1.Refs (w64 ((k_4:Int)-1))).bind λy_20=>some (sLe x_6 y_20)else some false).bind λv_17=>bif v_17 then some (.ret 7)else bif (sEq x_6 a_1.Id)then some (.ret 14)else some (.go ())
theorem xB (a_1:Alert) (k_4:Nat) (x_6:ByteArray) (s_9:Unit):Le (nQ a_1 k_4 x_6 s_9) (jm a_1 k_4 x_6 s_9):=by
 unfold nQ jm
 repeat' (with_reducible first|exact Le.refl _|exact jM _|refine Le.cond ?_ ?_|refine Le.bind ?_ (λ_=>?_))
def qb (a_1:Alert):Option (Int) :=
 bif (decide ((a_1.Refs.length:Int)>20))then some 2 else (forL a_1.Refs () (λk x s=>nQ a_1 k x s)).bind λo_12=>thenC o_12 (λs_9=>bif (!((a_1.Kind==1)==((a_1.Refs.length:Int)==0)))then some 3 else some 0) (λr=>some r)
theorem zB (a_1:Alert):Le (qb a_1) (lI a_1):=by
 unfold qb lI
 repeat' (with_reducible first|exact Le.refl _|exact xB _ _ _ _|refine Le.forL (λ_ _ _=>?_)|refine Le.thenC (λ_=>?_) (λ_=>?_)|refine Le.cond ?_ ?_|refine Le.bind ?_ (λ_=>?_))
def pK (a_1:Alert):Option (Int) :=
 ((gP a_1.Id).bind λr_5=>bif (!r_5)then some true else (gP a_1.Sender).bind λr_8=>some (!r_8)).bind λv_3=>bif v_3 then some 5 else (aQ a_1.Kind 1 3).bind λr_11=>bif r_11 then some 4 else (qb a_1).bind λr_14=>bif (r_14 != 0)then some r_14 else ((cO a_1.At).bind λr_19=>bif (!r_19)then some true else (aQ a_1.Until (w64 (a_1.At+1)) (w64 (a_1.At+2592000000))).bind λr_22=>bif r_22 then some true else (aQ a_1.Weight 1 9).bind λr_25=>some r_25).bind λv_17=>bif v_17 then some 1 else bif (decide ((a_1.Areas.length:Int)>20))then some 2 else (forL a_1.Areas () (λk x s=>ku k x s)).bind λo_37=>thenC o_37 (λs_34=>bif (!((a_1.Kind==3)==((a_1.Areas.length:Int)==0)))then some 3 else bif (decide ((a_1.Text.size:Int)>500))then some 2 else ((sD a_1.Text).bind λr_47=>bif (!r_47)then some true else bif (sEq a_1.Text (⟨#[]⟩:ByteArray))then some (!(a_1.Kind==3))else some false).bind λv_45=>bif v_45 then some 3 else some 0) (λr=>some r)
theorem yZ (a_1:Alert):Le (pK a_1) (kU a_1):=by
 unfold pK kU
 repeat' (with_reducible first|exact Le.refl _|exact jM _|exact zB _|exact yw _|exact Dt _|refine Le.forL (λ_ _ _=>?_)|refine Le.thenC (λ_=>?_) (λ_=>?_)|refine Le.cond ?_ ?_|refine Le.bind ?_ (λ_=>?_))
def lV (l_1:(List Alert)) (k_3:Nat) (x_5:Alert) (s_8:Unit):Option (Ctl (Unit) (Int)) :=
 (pK x_5).bind λr_14=>bif (r_14 != 0)then some (.ret r_14)else (bif (decide ((k_3:Int)>0))then (idx l_1 (w64 ((k_3:Int)-1))).bind λy_20=>(qB y_20 x_5).bind λr_22=>some (decide (r_22>=0))else some false).bind λv_17=>bif v_17 then some (.ret 7)else some (.go ())
theorem vF (l_1:(List Alert)) (k_3:Nat) (x_5:Alert) (s_8:Unit):Le (lV l_1 k_3 x_5 s_8) (iq l_1 k_3 x_5 s_8):=by
 unfold lV iq
 repeat' (with_reducible first|exact Le.refl _|exact yZ _|refine Le.cond ?_ ?_|refine Le.bind ?_ (λ_=>?_))
def oM (l_1:(List Alert)):Option (Int) :=
 bif (decide ((l_1.length:Int)>300))then some 2 else (forL l_1 () (λk x s=>lV l_1 k x s)).bind λo_11=>thenC o_11 (λs_8=>(forL l_1 ([]:List (ByteArray×Bool)) (λk x s=>jO k x s)).bind λo_34=>thenC o_34 (λs_31=>some 0) (λr=>some r)) (λr=>some r)
theorem xO (l_1:(List Alert)):Le (oM l_1) (jT l_1):=by
 unfold oM jT
 repeat' (with_reducible first|exact Le.refl _|exact vF _ _ _ _|refine Le.forL (λ_ _ _=>?_)|refine Le.thenC (λ_=>?_) (λ_=>?_)|refine Le.cond ?_ ?_|refine Le.bind ?_ (λ_=>?_))
def mZ (l_1:(List Post)) (k_3:Nat) (x_5:Post) (s_8:Unit):Option (Ctl (Unit) (Int)) :=
 (gP x_5.Player).bind λr_14=>bif (!r_14)then some (.ret 5)else ((aQ x_5.X (-100000) 100000).bind λr_19=>bif r_19 then some true else (aQ x_5.Y (-100000) 100000).bind λr_22=>some r_22).bind λv_17=>bif v_17 then some (.ret 1)else (bif (decide ((k_3:Int)>0))then (idx l_1 (w64 ((k_3:Int)-1))).bind λy_28=>some (sLe x_5.Player y_28.Player)else some false).bind λv_25=>bif v_25 then some (.ret 7)else some (.go ())
theorem wB (l_1:(List Post)) (k_3:Nat) (x_5:Post) (s_8:Unit):Le (mZ l_1 k_3 x_5 s_8) (iP l_1 k_3 x_5 s_8):=by
 unfold mZ iP
 repeat' (with_reducible first|exact Le.refl _|exact jM _|refine Le.cond ?_ ?_|refine Le.bind ?_ (λ_=>?_))
def pJ (l_1:(List Post)):Option (Int) :=
 bif (decide ((l_1.length:Int)>500))then some 2 else (forL l_1 () (λk x s=>mZ l_1 k x s)).bind λo_11=>thenC o_11 (λs_8=>some 0) (λr=>some r)
theorem y5 (l_1:(List Post)):Le (pJ l_1) (kM l_1):=by
 unfold pJ kM
 repeat' (with_reducible first|exact Le.refl _|exact wB _ _ _ _|refine Le.forL (λ_ _ _=>?_)|refine Le.thenC (λ_=>?_) (λ_=>?_)|refine Le.cond ?_ ?_|refine Le.bind ?_ (λ_=>?_))
def qh (l_1:(List Alert)) (posts_2:(List Post)):Option (Int) :=
 (oM l_1).bind λr_3=>bif (r_3 != 0)then some r_3 else (pJ posts_2).bind λr_6=>some r_6
theorem zU (l_1:(List Alert)) (posts_2:(List Post)):Le (qh l_1 posts_2) (lL l_1 posts_2):=by
 unfold qh lL
 repeat' (with_reducible first|exact Le.refl _|exact xO _|exact y5 _|refine Le.cond ?_ ?_|refine Le.bind ?_ (λ_=>?_))
def sU (a_1:Alert) (p_2:Post):Option (Bool×Int) :=
 (qh ([a_1]:List Alert) ([p_2]:List Post)).bind λr_5=>bif (r_5 != 0)then some (false,r_5)else (qp a_1 p_2).bind λr_8=>some (r_8,0)
theorem Ch (a_1:Alert) (p_2:Post):Le (sU a_1 p_2) (nX a_1 p_2):=by
 unfold sU nX
 repeat' (with_reducible first|exact Le.refl _|exact zU _ _|refine Le.cond ?_ ?_|refine Le.bind ?_ (λ_=>?_))
def xS  : Option (Bool) :=
 (wC ([(⟨0,0,2,2⟩:Rect),(⟨1,1,2,2⟩:Rect)]:List Rect)).bind λr_1=>(rf (⟨(⟨#[97]⟩:ByteArray),(⟨#[98]⟩:ByteArray),0,0,0,1,127,([]:List Int),1,2,0,([]:List ByteArray),false⟩:Entry) 0 (⟨0,86400000⟩:Window)).bind λr_3=>(wL (⟨(⟨#[97]⟩:ByteArray),(⟨#[]⟩:ByteArray),(⟨0,100⟩:Window),([]:List ByteArray),10,0,0⟩:Campaign) 50).bind λr_5=>(wy ([(⟨(⟨#[112]⟩:ByteArray),0,100⟩:Beat),(⟨(⟨#[112]⟩:ByteArray),1000,1300⟩:Beat)]:List Beat) (⟨#[112]⟩:ByteArray) 700).bind λr_7=>(sU (⟨(⟨#[97]⟩:ByteArray),(⟨#[115]⟩:ByteArray),1,([]:List ByteArray),0,5,1,([(⟨0,0,2,2⟩:Rect)]:List Rect),(⟨#[120]⟩:ByteArray)⟩:Alert) (⟨(⟨#[112]⟩:ByteArray),1,1⟩:Post)).bind λr_10=>((yR ([r_1.2,r_3.2,r_5.2,r_7.2,r_10.2]:List Int)).bind λr_14=>bif (r_14==0)then bif (r_1.1==7)then bif ((r_3.1.length:Int)==1)then bif (r_5.1==5)then bif (r_7.1==500)then some r_10.1 else some false else some false else some false else some false else some false).bind λv_12=>some v_12
theorem FO  : Le (xS) (qf):=by
 unfold xS qf
 repeat' (with_reducible first|exact Le.refl _|exact DY _|exact Ak _ _ _|exact Ef _ _|exact Eb _ _ _|exact Ch _ _|refine Le.cond ?_ ?_|refine Le.bind ?_ (λ_=>?_))
end Go.Proofs.YtkjlhdminmpmkacGreatDoor.Law

open Go Go.Eng
namespace Go.Proofs.YtkjlhdminmpmkacGreatDoor.Law
set_option linter.unusedVariables false
set_option maxRecDepth 100000
theorem ready_F:xS=some true:=by kernel_rfl
theorem PN:qf=some true:=FO _ ready_F
end Go.Proofs.YtkjlhdminmpmkacGreatDoor.Law


