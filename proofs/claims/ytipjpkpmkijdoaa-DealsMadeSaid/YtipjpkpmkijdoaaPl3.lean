/-
  THE PLAIN LAW (part 3).
-/
import Derived.Test.YtipjpkpmkijdoaaPl2
open Go Go.Eng Go.Flow
namespace Go.Proofs.Ytipjpkpmkijdoaa.Law
set_option linter.unusedVariables false
set_option linter.unusedSimpArgs false
set_option linter.unusedSectionVars false
def shC (spots:List Spot) (x:Nat→Nat→Int) (i:Nat) (c:Campaign):Nat→List Share
 | 0 => []
 | k + 1=>shC spots x i c k++match spots[k]? with
  | some s=>if 0 < x i k then [⟨c.Key,s.Key,x i k⟩]else []
  | none => []
def shA (spots:List Spot) (l:List Campaign) (x:Nat→Nat→Int):Nat→List Share
 | 0 => []
 | i + 1=>shA spots l x i++match l[i]? with
  | some c=>shC spots x i c spots.length
  | none => []
theorem shC_congr {spots:List Spot} {x y:Nat→Nat→Int} {i:Nat} {c:Campaign}:∀ {k:Nat},(∀ j,j < k→x i j=y i j)→shC spots x i c k=shC spots y i c k
 | 0,_=>rfl
 | k + 1,h=>by
  unfold shC
  rw [shC_congr (fun j hj=>h j (by omega)),h k (by omega)]
theorem shA_congr {spots:List Spot} {l:List Campaign} {x y:Nat→Nat→Int}:∀ {i:Nat},(∀ j k,j < i→k < spots.length→x j k=y j k)→shA spots l x i=shA spots l y i
 | 0,_=>rfl
 | i + 1,h=>by
  unfold shA
  rw [shA_congr (fun j k hj hk=>h j k (by omega) hk)]
  split
  ·rw [shC_congr (fun k hk=>h i k (by omega) hk)]
  ·rfl
theorem shC_len {spots:List Spot} {x:Nat→Nat→Int} {i:Nat} {c:Campaign}:∀ k:Nat,(shC spots x i c k).length≤k
 | 0=>Nat.le_refl _
 | k + 1=>by
  unfold shC
  rw [List.length_append]
  have:=shC_len (spots:=spots) (x:=x) (i:=i) (c:=c) k
  split
  ·split <;> simp <;> omega
  ·simp; omega
theorem shA_len {spots:List Spot} {l:List Campaign} {x:Nat→Nat→Int}:∀ i:Nat,(shA spots l x i).length≤i * spots.length
 | 0=>Nat.zero_le _
 | i + 1=>by
  unfold shA
  rw [List.length_append,Nat.succ_mul]
  have:=shA_len (spots:=spots) (l:=l) (x:=x) i
  split
  ·have:=shC_len (spots:=spots) (x:=x) (i:=i) (c:=by assumption) spots.length
   omega
  ·simp; omega
section
variable {spots:List Spot} {l:List Campaign}
def Great (N:Net) (x:Nat→Nat→Int) (i k:Nat):Prop := ∀ x',N.Deal x'→(∀ j m,j < N.q→m < N.m→Net.prior i k j m=true→x' j m=x j m)→x' i k≤x i k
theorem Great.congr {N:Net} {x y:Nat→Nat→Int} {i k:Nat} (hi:i < N.q) (hk:k < N.m) (h:Great N x i k) (e:∀ j m,j < N.q→m < N.m→(Net.prior i k j m=true∨j=i∧m=k)→x j m=y j m):Great N y i k:=fun x' h1 h2=>by
 rw [← e i k hi hk (.inr ⟨rfl,rfl⟩)]
 exact h x' h1 (fun j m hj hm hp=>(h2 j m hj hm hp).trans (e j m hj hm (.inl hp)).symm)
theorem prior_lt {i k j m:Nat}:Net.prior i k j m=true↔(j < i∨j=i∧m < k):=by unfold Net.prior; exact decide_eq_true_iff
theorem prior_also {i k j m:Nat}:Net.also (Net.prior i k) i k j m=Net.prior i (k + 1) j m:=by
 rw [Bool.eq_iff_iff]
 unfold Net.also
 simp only [Bool.or_eq_true,Bool.and_eq_true,decide_eq_true_eq,prior_lt]
 omega
theorem prior_row {i m0 j m:Nat} (hm:m < m0):Net.prior i m0 j m=Net.prior (i + 1) 0 j m:=by
 rw [Bool.eq_iff_iff]
 simp only [prior_lt]
 omega
theorem res_congr {N:Net} {x:Nat→Nat→Int} {p p':Nat→Nat→Bool} (h:∀ j m,j < N.q→m < N.m→p j m=p' j m):∀ a b,a < N.size→b < N.size→N.res x p a b=N.res x p' a b:=fun a b ha hb=>by
 rcases N.node ha with rfl | rfl | ⟨j,hj,rfl⟩ | ⟨m,hm,rfl⟩
 ·rw [Net.res_0,Net.res_0]
 ·unfold Net.res; rfl
 ·rcases N.node hb with rfl | rfl | ⟨o,ho,rfl⟩ | ⟨m,hm,rfl⟩
  ·rw [Net.res_c0 N _ _ hj,Net.res_c0 N _ _ hj]
  ·rw [Net.res_cc N _ _ hj (by omega) (by omega),Net.res_cc N _ _ hj (by omega) (by omega)]
  ·rw [Net.res_cc N _ _ hj (by omega) (by omega),Net.res_cc N _ _ hj (by omega) (by omega)]
  ·rw [Net.res_cs N _ _ hj,Net.res_cs N _ _ hj,h j m hj hm]
 ·rcases N.node hb with rfl | rfl | ⟨o,ho,rfl⟩ | ⟨m',hm',rfl⟩
  ·rw [Net.res_s0,Net.res_s0]
  ·rw [Net.res_s1,Net.res_s1]
  ·rw [Net.res_sc N _ _ ho,Net.res_sc N _ _ ho,h o m ho hm]
  ·rw [Net.res_ss,Net.res_ss]
theorem res_le (h:Office spots l) {x:Nat→Nat→Int} (p:Nat→Nat→Bool) (hx:(netOf spots l).Deal x):∀ a b,a < (netOf spots l).size→b < (netOf spots l).size→(netOf spots l).res x p a b≤10000000:=fun a b ha hb=>by
 have hg:=net_goal h
 have hm:=net_most h
 have hr:=net_room h
 have hsu:∀ i k,(bif (netOf spots l).suits i k then (netOf spots l).most i else 0)≤10000000:=fun i k=>by
  cases (netOf spots l).suits i k
  ·show (0:Int)≤_; omega
  ·exact (hm i).2
 have hS:∀ k,k < (netOf spots l).m→0≤S (netOf spots l).q (fun i=>x i k):=fun k hk=>S_nonneg (fun i hi=>hx.pos i k hi hk)
 rcases (netOf spots l).node ha with rfl | rfl | ⟨j,hj,rfl⟩ | ⟨m,hm',rfl⟩
 ·rw [Net.res_0]; omega
 ·rcases (netOf spots l).node hb with rfl | rfl | ⟨o,ho,rfl⟩ | ⟨m,hm',rfl⟩
  ·rw [Net.res_1 _ _ _ (by omega)]; omega
  ·rw [Net.res_1 _ _ _ (by omega)]; omega
  ·rw [Net.res_1 _ _ _ (by omega)]; omega
  ·rw [Net.res_1s]; have:=hx.room m hm'; have:=hr m; omega
 ·rcases (netOf spots l).node hb with rfl | rfl | ⟨o,ho,rfl⟩ | ⟨m,hm',rfl⟩
  ·rw [Net.res_c0 _ _ _ hj]; exact (hg j).2
  ·rw [Net.res_cc _ _ _ hj (by omega) (by omega)]; omega
  ·rw [Net.res_cc _ _ _ hj (by omega) (by omega)]; omega
  ·rw [Net.res_cs _ _ _ hj]
   cases p j m
   ·have:=hsu j m; have:=hx.pos j m hj hm'
    show _ - _≤_; omega
   ·show (0:Int)≤_; omega
 ·rcases (netOf spots l).node hb with rfl | rfl | ⟨o,ho,rfl⟩ | ⟨m',hm'',rfl⟩
  ·rw [Net.res_s0]; omega
  ·rw [Net.res_s1]; have:=hS m hm'; have:=hr m; omega
  ·rw [Net.res_sc _ _ _ ho]
   cases p o m
   ·have:=hsu o m; have:=hx.most o m ho hm'
    show x o m≤_; omega
   ·show (0:Int)≤_; omega
  ·rw [Net.res_ss]; omega
structure DealSt (spots:List Spot) (l:List Campaign) (i k:Nat) (out:List Share) (s:List (List Int)×List Share×Int):Prop where
 cp:s.2.2=(l.length:Int)
 sq:Sq (netOf spots l).size s.1
 ex:∃ x,(netOf spots l).Deal x∧(∀ a b,a < (netOf spots l).size→b < (netOf spots l).size→at2 s.1 a b=(netOf spots l).res x (Net.prior i k) a b) ∧
  (∀ j m,j < (netOf spots l).q→m < (netOf spots l).m→Net.prior i k j m=true→Great (netOf spots l) x j m)∧s.2.1=shA spots l x i++match l[i]? with | some c=>shC spots x i c k | none => []
variable (h:Office spots l)
include h
theorem deal_L1 {w:Web} (hw:w.f_can.length=(netOf spots l).size) {i:Nat} {c:Campaign} (hc:l[i]? = some c) {k:Nat} {sp:Spot} (hk:spots[k]? = some sp) {s:List (List Int)×List Share×Int} (hst:DealSt spots l i k [] s) :
  ∃ s',booking_Deal_L1 c w i k sp s=some (.go s')∧DealSt spots l i (k + 1) [] s':=by
 have hi:i < l.length:=(List.getElem?_eq_some_iff.1 hc).1
 have hk':k < spots.length:=(List.getElem?_eq_some_iff.1 hk).1
 have hiq:i < (netOf spots l).q:=hi
 have hkm:k < (netOf spots l).m:=hk'
 have hsz:=size_eq (spots:=spots) (l:=l)
 have hsn:=h.sn
 have hln:=h.ln
 have hsuit:=suits_at (spots:=spots) (l:=l) hc hk
 have hmost:=(goal_at (spots:=spots) (l:=l) hc).2
 have hsu:=suitsK c sp (h.cr c (List.mem_of_getElem? hc)).2.2.2.2 (h.tg sp (List.mem_of_getElem? hk))
 obtain ⟨rows,out,cp⟩:=s
 obtain ⟨h1,hq,x,hx,hat,hgr,hout⟩:=hst
 simp only at h1 hq hat hout
 rw [hc]at hout
 simp only at hout
 have hsh:∀ y:Nat→Nat→Int,shC spots y i c (k + 1)=shC spots y i c k++if 0 < y i k then [⟨c.Key,sp.Key,y i k⟩]else []:=fun y=>by rw [shC,hk]
 have hpr:Net.prior i k i k=false:=by
  cases hp:Net.prior i k i k with
  | false=>rfl
  | true=>rw [prior_lt]at hp; omega
 unfold booking_Deal_L1
 simp only [hsu,Option.bind_some]
 cases hb:suitB c sp with
 | false =>
  rw [hb]at hsuit
  simp only [Bool.not_false,cond_true]
  have hx0:x i k=0:=by
   have:=hx.pos i k hiq hkm
   have e:=hx.most i k hiq hkm
   rw [hsuit]at e
   have e:x i k≤0:=e
   omega
  refine⟨_,rfl,h1,hq,x,hx,fun a b ha hb' => ?_,fun j m hj hm hp => ?_,?_⟩
  ·show at2 rows a b=_
   rw [hat a b ha hb',← res_congr (fun j m _ _=>prior_also) a b ha hb',Net.res_mark _ x _ hiq hkm a b ha hb']
   split
   ·rename_i he
    rcases he with⟨rfl,rfl⟩ | ⟨rfl,rfl⟩
    ·rw [Net.res_cs _ _ _ hiq,hsuit,hx0,hpr]; rfl
    ·rw [Net.res_sc _ _ _ hiq,hx0,hpr]; rfl
   ·rfl
  ·rw [prior_lt]at hp
   by_cases he:j=i∧m=k
   ·obtain ⟨rfl,rfl⟩:=he
    intro x' hx' _
    have e:=hx'.most j m hj hm
    rw [hsuit]at e
    rw [hx0]; exact e
   ·exact hgr j m hj hm (prior_lt.2 (by omega))
  ·show out=_
   rw [hc]
   simp only
   rw [hsh,hx0,if_neg (by omega),List.append_nil]; exact hout
 | true =>
  rw [hb]at hsuit
  simp only [Bool.not_true,cond_false]
  have ha:2 + i < (netOf spots l).size:=by omega
  have hbn:2 + l.length + k < (netOf spots l).size:=by omega
  have hab:2 + i≠2 + l.length + k:=by omega
  have hpos:=(netOf spots l).res_pos (Net.prior i k) (net_right h) hx
  obtain ⟨ra,a1,a2,a3⟩:=hq.get ha
  obtain ⟨rb,b1,b2,b3⟩:=hq.get hbn
  have vhas:at2 rows (2 + l.length + k) (2 + i)=x i k:=by
   rw [hat _ _ hbn ha]
   have:=Net.res_sc (netOf spots l) x (Net.prior i k) (i:=i) (k:=k) hiq
   rw [hpr]at this
   exact this
  have vmore:at2 rows (2 + i) (2 + l.length + k)=c.Most - x i k:=by
   rw [hat _ _ ha hbn]
   have:=Net.res_cs (netOf spots l) x (Net.prior i k) (i:=i) (k:=k) hiq
   rw [hpr,hsuit,hmost]at this
   exact this
  obtain ⟨q1,w1⟩:=hq.wr ha hbn 0 a1
  obtain ⟨rb',b1',b2',b3'⟩:=q1.get hbn
  obtain ⟨q2,w2⟩:=q1.wr hbn ha 0 b1'
  have hm2:∀ a b,a < (netOf spots l).size→b < (netOf spots l).size→at2 ((rows.set (2 + i) (ra.set (2 + l.length + k) 0)).set (2 + l.length + k) (rb'.set (2 + i) 0)) a b=(netOf spots l).res x (Net.also (Net.prior i k) i k) a b:=fun a b hla hlb=>by
   rw [w2,w1,Net.res_mark _ x _ hiq hkm a b hla hlb]
   by_cases e1:a=2 + l.length + k∧b=2 + i
   ·rw [if_pos e1,if_pos (.inr e1)]
   ·rw [if_neg e1]
    by_cases e2:a=2 + i∧b=2 + l.length + k
    ·rw [if_pos e2,if_pos (.inl e2)]
    ·rw [if_neg e2,if_neg (fun e=>e.elim e2 e1)]; exact hat a b hla hlb
  have hpos2:=(netOf spots l).res_pos (Net.also (Net.prior i k) i k) (net_right h) hx
  have hle2:=res_le h (Net.also (Net.prior i k) i k) hx
  have hmle:c.Most≤10000000:=(h.cr c (List.mem_of_getElem? hc)).2.2.2.1
  have hxp:=hx.pos i k hiq hkm
  have hxm:x i k≤c.Most:=by
   have:=hx.most i k hiq hkm
   rw [hsuit,hmost]at this; exact this
  obtain ⟨v,rows',e2,q3,f3,v0,v1,v2⟩:=flow_ok (n:=(netOf spots l).size) (s:=2 + l.length + k) (t:=2 + i) (w:=⟨(rows.set (2 + i) (ra.set (2 + l.length + k) 0)).set (2 + l.length + k) (rb'.set (2 + i) 0),cp⟩) (most:=c.Most - x i k) q2 (by omega) hbn ha (fun e=>hab e.symm) (fun a b hla hlb=>by
   show 0≤at2 ((rows.set (2 + i) (ra.set (2 + l.length + k) 0)).set (2 + l.length + k) (rb'.set (2 + i) 0)) a b
   rw [hm2 a b hla hlb]; exact hpos2 a b hla hlb) (fun a b hla hlb=>by
   show at2 ((rows.set (2 + i) (ra.set (2 + l.length + k) 0)).set (2 + l.length + k) (rb'.set (2 + i) 0)) a b + at2 ((rows.set (2 + i) (ra.set (2 + l.length + k) 0)).set (2 + l.length + k) (rb'.set (2 + i) 0)) b a≤_
   rw [hm2 a b hla hlb,hm2 b a hlb hla]
   have:=hle2 a b hla hlb
   have:=hle2 b a hlb hla
   omega) (by omega) (by omega)
  have f4:Flows (netOf spots l).size (2 + (netOf spots l).q + k) (2 + i) ((netOf spots l).res x (Net.also (Net.prior i k) i k)) (at2 rows') v:=Flows_congr hbn hm2 (fun _ _ _ _=>rfl) f3
  obtain ⟨d1,d2⟩:=Net.reroute (netOf spots l) (net_right h) hx hiq hkm (Net.also_at _ i k) f4 v0 (by rw [hsuit,hmost]; show x i k + v≤c.Most; omega)
  generalize hy:Net.after (netOf spots l) x (Net.also (Net.prior i k) i k) i k (at2 rows') v=y at d1 d2
  have yik:y i k=x i k + v:=by rw [← hy]; unfold Net.after; rw [if_pos ⟨rfl,rfl⟩]
  have yag:∀ j m,Net.prior i k j m=true→y j m=x j m:=fun j m hp=>by
   have hne:¬ (j=i∧m=k):=fun e=>by obtain ⟨rfl,rfl⟩:=e; rw [hpr]at hp; cases hp
   rw [← hy]; unfold Net.after
   rw [if_neg hne,Net.also_ne hne,hp]; rfl
  obtain ⟨ra3,c1,c2,c3⟩:=q3.get ha
  obtain ⟨q4,w4⟩:=q3.wr ha hbn 0 c1
  obtain ⟨rb4,g1,g2,g3⟩:=q4.get hbn
  obtain ⟨rb3,k1,k2,k3⟩:=q3.get hbn
  obtain ⟨q5,w5⟩:=q4.wr hbn ha 0 g1
  have hws:w64 (x i k + v)=x i k + v:=w64_id (by omega)
  have hap:∀ z:Share,appL out [z]=some (out ++ [z]):=fun z=>by
   unfold appL
   rw [if_pos]
   rw [hout,List.length_append]
   have h5:=shA_len (spots:=spots) (l:=l) (x:=x) i
   have h6:=shC_len (spots:=spots) (x:=x) (i:=i) (c:=c) k
   have h7:i * spots.length≤100 * 30:=Nat.mul_le_mul (by omega) (by omega)
   simp only [List.length_cons,List.length_nil]
   omega
  subst h1
  simp only [camp_eq _ (show i≤1000000 by omega),spot_eq rows (show l.length≤1000000 by omega) (show k≤1000000 by omega),hq.ne (by omega),lenE_at (show rows.length=w.f_can.length by rw [hw,hq.len]),Option.bind_some,inN_at (show 2 + l.length + k < w.f_can.length by omega),inN_at (show 2 + i < w.f_can.length by omega),toN,a1,b1,
   inR_at (show 2 + i < rb.length by omega),inR_at (show 2 + l.length + k < ra.length by omega),b3 _ ha,a3 _ hbn,b1',b3' _ ha,q2.ne (by omega),lenE_at (show ((rows.set (2 + i) (ra.set (2 + l.length + k) 0)).set (2 + l.length + k) (rb'.set (2 + i) 0)).length=w.f_can.length by rw [hw,q2.len]),
   vmore,e2,sameL_at (show rows'.length=((rows.set (2 + i) (ra.set (2 + l.length + k) 0)).set (2 + l.length + k) (rb'.set (2 + i) 0)).length by rw [q3.len,q2.len]),vhas,hws,c1,k1,inR_at (show 2 + l.length + k < ra3.length by omega),inR_at (show 2 + i < rb3.length by omega),c3 _ hbn,g1,g3 _ ha]
  have hfin:∀ out',out'=shA spots l y i++shC spots y i c (k + 1)→DealSt spots l i (k + 1) [] ((rows'.set (2 + i) (ra3.set (2 + l.length + k) 0)).set (2 + l.length + k) (rb4.set (2 + i) 0),out',(l.length:Int)):=fun out' ho=>by
   refine⟨rfl,q5,y,d1,fun a b hla hlb => ?_,fun j m hj hm hp => ?_,?_⟩
   ·show at2 ((rows'.set (2 + i) (ra3.set (2 + l.length + k) 0)).set (2 + l.length + k) (rb4.set (2 + i) 0)) a b=_
    rw [w5,w4,← res_congr (fun j m _ _=>prior_also) a b hla hlb]
    by_cases e1:a=2 + l.length + k∧b=2 + i
    ·rw [if_pos e1,e1.1,e1.2]
     have:=Net.res_sc (netOf spots l) y (Net.also (Net.prior i k) i k) (i:=i) (k:=k) hiq
     rw [Net.also_at]at this
     exact this.symm
    ·rw [if_neg e1]
     by_cases e2:a=2 + i∧b=2 + l.length + k
     ·rw [if_pos e2,e2.1,e2.2]
      have:=Net.res_cs (netOf spots l) y (Net.also (Net.prior i k) i k) (i:=i) (k:=k) hiq
      rw [Net.also_at]at this
      exact this.symm
     ·rw [if_neg e2]; exact d2 a b hla hlb
   ·rw [prior_lt]at hp
    by_cases he:j=i∧m=k
    ·obtain ⟨rfl,rfl⟩:=he
     intro x' hx' hag
     rw [yik]
     by_cases hv:v < c.Most - x j m
     ·obtain ⟨R,r1,r2,r3⟩:=v2 hv
      have hmx:=Net.share_max (netOf spots l) (net_right h) d1 hiq hkm (Net.also_at (Net.prior j m) j m) (R:=R) r1 r2 (fun a b hla hlb hra hrb=>by rw [← d2 a b hla hlb]; exact r3 a b hla hlb hra hrb) hx' (fun o p ho hp2 hpr2 hne=>by
       rw [Net.also_ne hne]at hpr2
       exact hag o p ho hp2 hpr2)
      omega
     ·have:=hx'.most j m hj hm
      rw [hsuit,hmost]at this
      have:x' j m≤c.Most:=this
      omega
    ·refine (hgr j m hj hm (prior_lt.2 (by omega))).congr hj hm (fun o p ho hp2 hpr2=>(yag o p ?_).symm)
     rw [prior_lt]
     rcases hpr2 with hpr2 | hpr2
     ·rw [prior_lt]at hpr2; omega
     ·omega
   ·rw [hc]; exact ho
  have hsame:shA spots l x i++shC spots x i c k=shA spots l y i++shC spots y i c k:=by
   rw [shA_congr (fun j m hj hm=>(yag j m (prior_lt.2 (.inl hj))).symm),shC_congr (fun m hm=>(yag i m (prior_lt.2 (.inr ⟨rfl,hm⟩))).symm)]
  by_cases hp:x i k + v > 0
  ·rw [decide_eq_true hp]
   simp only [cond_true,hap,Option.bind_some]
   refine⟨_,rfl,hfin _ ?_⟩
   rw [hsh,yik,if_pos hp,hout,hsame,List.append_assoc]
  ·rw [decide_eq_false hp]
   simp only [cond_false,Option.bind_some]
   refine⟨_,rfl,hfin _ ?_⟩
   rw [hsh,yik,if_neg hp,List.append_nil,hout,hsame]
end
end Go.Proofs.Ytipjpkpmkijdoaa.Law

open Go Go.Eng Go.Flow
namespace Go.Proofs.Ytipjpkpmkijdoaa.Law
set_option linter.unusedVariables false
set_option linter.unusedSimpArgs false
set_option linter.unusedSectionVars false
theorem cloneSp_eq (l:List Spot) (hl:l.length≤1000000000):slices_Clone_api_Spot_api_Spot l=some l:=by
 simp only [slices_Clone_api_Spot_api_Spot,appL,List.length_nil,Nat.zero_add,hl,if_true,Option.bind_some,List.nil_append]
theorem cloneCa_eq (l:List Campaign) (hl:l.length≤1000000000):slices_Clone_api_Campaign_api_Campaign l=some l:=by
 simp only [slices_Clone_api_Campaign_api_Campaign,appL,List.length_nil,Nat.zero_add,hl,if_true,Option.bind_some,List.nil_append]
theorem minI_min (a b:Int):minI a b=min a b:=by unfold minI; split <;> omega
theorem forR_sum2 {α ρ:Type} {body:Nat→α→Int×Int→Option (Ctl (Int×Int) ρ)} (f g:Nat→α→Int):∀ (xs:List α) (k:Nat) (s t:Int),(∀ j x s t,x∈xs→j < k + xs.length→0≤s→s≤1000000000000→0≤t→t≤1000000000000→body j x (s,t)=some (.go (s + f j x,t + g j x)))→(∀ j x,x∈xs→0≤f j x∧f j x≤10000000∧0≤g j x∧g j x≤10000000)→0≤s→0≤t→s + 10000000 * xs.length≤1000000000000→t + 10000000 * xs.length≤1000000000000 →
  forR body xs k (s,t)=some (.go (s + sumI f k xs,t + sumI g k xs))
 | [],k,s,t,_,_,_,_,_,_=>by simp [forR,sumI]
 | x::xs,k,s,t,h,hb,hs,ht,h1,h2=>by
  have hx:=hb k x (by simp)
  simp only [List.length_cons]at h1 h2
  rw [forR,h k x s t (by simp) (by simp only [List.length_cons]; omega) hs (by omega) ht (by omega),Option.bind_some]
  show forR body xs (k + 1) (s + f k x,t + g k x)=_
  rw [forR_sum2 f g xs (k + 1) (s + f k x) (t + g k x) (fun j y s t hy hj=>h j y s t (by simp [hy]) (by simp only [List.length_cons]; omega)) (fun j y hy=>hb j y (by simp [hy])) (by omega) (by omega) (by omega) (by omega)]
  simp only [sumI,Int.add_assoc]
def wayS (u k:Nat) (c:Campaign) (j:Nat) (s:Spot):Int:=bif !bit u j && (decide (j > k) && suitB c s)then c.Most else 0
def cutS (rest:List Spot) (others:List Campaign) (c:Campaign) (g:Int) (k u:Nat):Int:=sumI (roomM u) 0 rest + min g (sumI (wayS u k c) 0 rest) + sumI (campM u rest) 0 others
section
variable {rest:List Spot} {others:List Campaign} {c:Campaign} {n:Int} {k:Nat}
theorem wayS_in (hc:CampR c) (u:Nat):∀ j (x:Spot),x∈rest→0≤wayS u k c j x∧wayS u k c j x≤10000000:=fun j x hx=>by
 unfold CampR at hc
 unfold wayS
 cases (!bit u j && (decide (j > k) && suitB c x))
 ·show (0:Int)≤0∧(0:Int)≤_; omega
 ·show 0≤c.Most∧c.Most≤_; omega
theorem cS_L1 (hs:∀ s∈rest,SpotR s) (hn:rest.length≤60) (hc:CampR c) {u:Nat} (hu:u < 9223372036854775808):forL rest (0,0) (fun j x s=>ref_canStill_L1 u (k:Int) c n j x s)=some (.go (sumI (roomM u) 0 rest,sumI (wayS u k c) 0 rest)):=by
 rw [forL_eq (by omega)]
 have:=forR_sum2 (body:=fun j x s=>ref_canStill_L1 u (k:Int) c n j x s) (roomM u) (wayS u k c) rest 0 0 0 (fun j x s t hx hj h0 h1 t0 t1=>by
  have hr:=hs x hx
  unfold SpotR at hr
  have hc':=hc
  unfold CampR at hc'
  have hsu:ref_SuitsOf (⟨c.Key,c.Class,c.Time,c.Tags,(w64 (c.Goal - n)),c.Most,c.Cents⟩:Campaign) x=some (suitB c x):=suitsR _ x hc'.2.2.2.2 hr.2.2
  unfold ref_canStill_L1
  rw [shr_bit u j (by omega),Option.bind_some,(bit1 j hu).1]
  unfold roomM wayS
  have e:decide ((j:Int) > (k:Int))=decide (j > k):=decide_eq_decide.2 (by omega)
  rw [e]
  cases bit u j
  ·cases decide (j > k)
   ·simp only [cond_false,Option.bind_some,Bool.not_false,Bool.false_and,Bool.and_false,Int.add_zero]
   ·simp only [cond_false,cond_true,Option.bind_some,Bool.not_false,Bool.true_and,Int.add_zero,hsu]
    cases suitB c x
    ·simp only [cond_false,Option.bind_some,Int.add_zero]
    ·simp only [cond_true,Option.bind_some]
     rw [w64_id (by omega)]
  ·simp only [cond_true,Option.bind_some,Bool.not_true,Bool.false_and,cond_false,Int.add_zero]
   rw [w64_id (by omega)]) (fun j x hx=>by
  have h1:=rooms_in hs u j x hx
  have h2:=wayS_in (rest:=rest) (k:=k) hc u j x hx
  omega) (by omega) (by omega) (by omega) (by omega)
 rw [this]; simp
theorem cS_min (hs:∀ s∈rest,SpotR s) (hn:rest.length≤30) (ho:∀ c∈others,CampR c) (hm:others.length≤1000) (hc:CampR c) (h0:0≤c.Goal - n∧c.Goal - n≤10000000) :
  ∃ r,forL (List.range (2 ^ rest.length)) (rest,others,(-1:Int)) (fun u x s=>ref_canStill_L4 (k:Int) c n u x s)=some (.go (rest,others,r))∧(∀ u,u < 2 ^ rest.length→r≤cutS rest others c (c.Goal - n) k u) ∧ ∃ u,u < 2 ^ rest.length∧r=cutS rest others c (c.Goal - n) k u:=by
 have hp:2 ^ rest.length≤1073741824:=Nat.pow_le_pow_right (by decide) hn
 have hp1:1≤2 ^ rest.length:=Nat.one_le_two_pow
 have hrm:=fun u=>sumI_in (roomM u) 10000000 rest 0 (rooms_in hs u)
 have hwm:=fun u=>sumI_in (wayS u k c) 10000000 rest 0 (wayS_in hc u)
 have hcm:=fun u=>sumI_in (campM u rest) 10000000 others 0 (camps_in (spots:=rest) ho u)
 obtain ⟨s',h1,h2,h3⟩:=forL_rng (body:=fun u x s=>ref_canStill_L4 (k:Int) c n u x s) (fun u s=>(s.1=rest∧s.2.1=others)∧((u=0∧s.2.2 = -1)∨(0≤s.2.2∧(∀ v,v < u→s.2.2≤cutS rest others c (c.Goal - n) k v) ∧ ∃ v,v < u∧s.2.2=cutS rest others c (c.Goal - n) k v))) (n:=2 ^ rest.length) (s:=(rest,others,(-1:Int))) (by omega) (fun u s hu hi=>by
  obtain ⟨a,b,best⟩:=s
  obtain ⟨⟨ea,eb⟩,hi⟩:=hi
  simp only at ea eb hi
  subst ea eb
  have hr:=hrm u
  have hw:=hwm u
  have hcc:=hcm u
  have hcut:0≤cutS a b c (c.Goal - n) k u:=by unfold cutS; omega
  have hstep:ref_canStill_L4 (k:Int) c n u u (a,b,best)=some (.go (a,b,bif (decide (best < 0) || decide (cutS a b c (c.Goal - n) k u < best))then cutS a b c (c.Goal - n) k u else best)):=by
   have e1:w64 (c.Goal - n)=c.Goal - n:=w64_id (by omega)
   have e2:w64 (sumI (roomM u) 0 a + min (c.Goal - n) (sumI (wayS u k c) 0 a))=sumI (roomM u) 0 a + min (c.Goal - n) (sumI (wayS u k c) 0 a):=w64_id (by omega)
   unfold ref_canStill_L4
   simp only
   rw [cS_L1 hs (by omega) hc (by omega),Option.bind_some,thenC_go]
   simp only
   rw [e1,minI_min,e2]
   have hL3:(fun (k_1:Nat) (x:Campaign) (s:Int)=>ref_canStill_L3 (a,b,best) u k_1 x s)=fun k_1 x s=>ref_greatest_L3 a u k_1 x s:=rfl
   rw [hL3,L3_eq a hs (by omega) b ho hm u (by omega) _ (by omega),Option.bind_some,thenC_go]
   show ((bif decide (best < 0)then some true else some (decide (cutS a b c (c.Goal - n) k u < best))).bind _)=_
   cases decide (best < 0) <;> cases decide (cutS a b c (c.Goal - n) k u < best) <;> rfl
  rw [hstep]
  refine⟨_,rfl,⟨rfl,rfl⟩,.inr ?_⟩
  simp only
  rcases hi with⟨hk0,hs0⟩ | ⟨g1,g2,v,g3,g4⟩
  ·rw [decide_eq_true (by omega),Bool.true_or,cond_true]
   exact⟨hcut,fun v hv=>Int.le_of_eq (by rw [show v=u by omega]),u,by omega,rfl⟩
  ·rw [decide_eq_false (by omega),Bool.false_or]
   by_cases hlt:cutS a b c (c.Goal - n) k u < best
   ·rw [decide_eq_true hlt,cond_true]
    refine⟨hcut,fun w hw => ?_,u,by omega,rfl⟩
    by_cases e:w=u
    ·rw [e]; exact Int.le_refl _
    ·have:=g2 w (by omega); omega
   ·rw [decide_eq_false hlt,cond_false]
    refine⟨g1,fun w hw => ?_,v,by omega,g4⟩
    by_cases e:w=u
    ·rw [e]; omega
    ·exact g2 w (by omega)) ⟨⟨rfl,rfl⟩,.inl ⟨rfl,rfl⟩⟩
 obtain ⟨a,b,r⟩:=s'
 obtain ⟨ea,eb⟩:=h2
 simp only at ea eb h3
 subst ea eb
 rcases h3 with⟨hk0,_⟩ | ⟨g1,g2,v,g3,g4⟩
 ·omega
 ·exact⟨r,h1,g2,v,g3,g4⟩
end
theorem goals_eq {l:List Campaign} (hl:∀ c∈l,CampR c) (hm:l.length≤1000) (spots:List Spot):ref_goals l=some (netOf spots l).goals∧booking_goals l=some (netOf spots l).goals∧0≤(netOf spots l).goals∧(netOf spots l).goals≤10000000000:=by
 have hin:=sumI_in (fun _ (c:Campaign)=>c.Goal) 10000000 l 0 (fun j x hx=>⟨(hl x hx).1,(hl x hx).2.1⟩)
 have hS:sumI (fun _ (c:Campaign)=>c.Goal) 0 l=(netOf spots l).goals:=by
  unfold Net.goals
  exact sumI_S _ _ l 0 (fun i x hx=>by show x.Goal=_; rw [(goal_at hx).1])
 have hrun:forR (fun k x s=>ref_goals_L1 k x s) l 0 0=some (.go ((0:Int) + sumI (fun _ (c:Campaign)=>c.Goal) 0 l)):=forR_sum (fun _ c=>c.Goal) l 0 0 (by omega) (by omega) (fun j x hx=>by have:=hl x hx; unfold CampR at this; omega) (fun j x s hx hj h0 h1=>by
  have:=hl x hx
  unfold CampR at this
  unfold ref_goals_L1
  rw [w64_id (by omega)])
 have hrun2:forR (fun k x s=>booking_goals_L1 k x s) l 0 0=some (.go ((0:Int) + sumI (fun _ (c:Campaign)=>c.Goal) 0 l)):=hrun
 rw [hS]at hrun hrun2 hin
 refine⟨?_,?_,hin.1,?_⟩
 ·unfold ref_goals
  rw [forL_eq (by omega),hrun,Option.bind_some,thenC_go,Int.zero_add]
 ·unfold booking_goals
  rw [forL_eq (by omega),hrun2,Option.bind_some,thenC_go,Int.zero_add]
 ·have:=hin.2
  have h2:(l.length:Int)≤1000:=by omega
  omega
theorem cut_none (N:Net) (hr:N.Right):N.cutV (fun _=>false)≤N.goals:=by
 unfold Net.cutV Net.goals
 have h1:S N.m (fun k=>bif (fun _=>false) k then N.room k else 0)=0:=Net.S_all0 (fun k _=>rfl)
 have h2:S N.q (fun i=>min (N.goal i) (N.ways (fun _=>false) i))≤S N.q N.goal:=S_le (fun i _=>by omega)
 omega
theorem least_goals {N:Net} (hr:N.Right) {r:Int} (h:LeastCut N r):r≤N.goals∧(r=N.goals ↔ ∀ B,N.goals≤N.cutV B):=by
 obtain ⟨h1,B,h2⟩:=h
 have h3:=cut_none N hr
 have h4:=h1 (fun _=>false)
 refine⟨by omega,fun e B=>by rw [← e]; exact h1 B,fun h => ?_⟩
 have:=h B
 omega
section
variable {spots:List Spot} {l:List Campaign}
theorem still_cut (h:Office spots l) {x:Nat→Nat→Int} {i k:Nat} {n:Int} {c:Campaign} {rest:List Spot} {others:List Campaign} (hi:i < l.length) (hrl:rest.length=spots.length) (hol:others.length=l.length)
  (hroom:∀ (j:Nat) (s:Spot),rest[j]? = some s→s.Room=((netOf spots l).still x i k n).room j) (htags:∀ (j:Nat) (s s':Spot),rest[j]? = some s→spots[j]? = some s'→s.Tags=s'.Tags∧s.Time=s'.Time)
  (hoth:∀ (j:Nat) (o o':Campaign),others[j]? = some o→l[j]? = some o'→o.Goal=(if j≤i then 0 else o'.Goal)∧o.Most=o'.Most∧o.Tags=o'.Tags∧o.Time=o'.Time)
  (hc:∀ o:Campaign,l[i]? = some o→c.Most=o.Most∧c.Tags=o.Tags∧c.Time=o.Time) {g:Int} (hg:g=((netOf spots l).still x i k n).goal i) (u:Nat):cutS rest others c g k u=((netOf spots l).still x i k n).cutV (bit u):=by
 have hmost:=net_most h
 have hsu:∀ (j m:Nat) (s:Spot) (o o':Campaign) (s':Spot),rest[m]? = some s→spots[m]? = some s'→l[j]? = some o'→o.Tags=o'.Tags→o.Time=o'.Time→suitB o s=(netOf spots l).suits j m:=fun j m s o o' s' e1 e2 e3 e4 e5=>by
  obtain ⟨t1,t2⟩:=htags m s s' e1 e2
  rw [suits_at e3 e2]
  unfold suitB
  rw [e4,e5,t1,t2]
 unfold cutS Net.cutV
 have e1:sumI (roomM u) 0 rest=S ((netOf spots l).still x i k n).m (fun m=>bif bit u m then ((netOf spots l).still x i k n).room m else 0):=by
  have:((netOf spots l).still x i k n).m=rest.length:=hrl.symm
  rw [this]
  refine sumI_S _ _ rest 0 (fun m s hs => ?_)
  rw [Nat.zero_add]
  unfold roomM
  rw [hroom m s hs]
 rw [e1,Int.add_assoc]
 congr 1
 have hq:((netOf spots l).still x i k n).q=others.length:=hol.symm
 have e2:sumI (campM u rest) 0 others=S others.length (fun j=>if j=i then 0 else min (((netOf spots l).still x i k n).goal j) (((netOf spots l).still x i k n).ways (bit u) j)):=by
  refine sumI_S _ _ others 0 (fun j o ho => ?_)
  rw [Nat.zero_add]
  have hjl:j < l.length:=by rw [← hol]; exact (List.getElem?_eq_some_iff.1 ho).1
  have hlj:l[j]? = some l[j]:=List.getElem?_eq_getElem hjl
  obtain ⟨o1,o2,o3,o4⟩:=hoth j o l[j] ho hlj
  have hw:sumI (wayM u o) 0 rest=S rest.length (fun m=>bif !bit u m && (netOf spots l).suits j m then (netOf spots l).most j else 0):=by
   refine sumI_S _ _ rest 0 (fun m s hs => ?_)
   rw [Nat.zero_add]
   have hml:m < spots.length:=by rw [← hrl]; exact (List.getElem?_eq_some_iff.1 hs).1
   unfold wayM
   rw [hsu j m s o l[j] spots[m] hs (List.getElem?_eq_getElem hml) hlj o3 o4,(goal_at hlj).2,o2]
  have hw0:0≤S rest.length (fun m=>bif !bit u m && (netOf spots l).suits j m then (netOf spots l).most j else 0):=S_nonneg (fun m _=>by
   cases (!bit u m && (netOf spots l).suits j m)
   ·exact Int.le_refl _
   ·exact (hmost j).1)
  unfold campM
  rw [hw,o1]
  by_cases hji:j=i
  ·rw [if_pos hji,if_pos (by omega)]; omega
  ·rw [if_neg hji]
   have hways:((netOf spots l).still x i k n).ways (bit u) j=S rest.length (fun m=>bif !bit u m && (netOf spots l).suits j m then (netOf spots l).most j else 0):=by
    unfold Net.ways
    rw [show ((netOf spots l).still x i k n).m=rest.length from hrl.symm]
    refine S_congr (fun m _ => ?_)
    show (bif !bit u m && (if j=i then decide (k < m) && (netOf spots l).suits i m else (netOf spots l).suits j m)then (netOf spots l).most j else 0)=_
    rw [if_neg hji]
   rw [hways]
   have hgo:((netOf spots l).still x i k n).goal j=if j < i then 0 else if j=i then (netOf spots l).goal i - S k (x i) - n else (netOf spots l).goal j:=rfl
   rw [hgo]
   by_cases hlt:j < i
   ·rw [if_pos (by omega),if_pos hlt]
   ·rw [if_neg (by omega),if_neg hlt,if_neg hji,(goal_at hlj).1]
 have hli:l[i]? = some l[i]:=List.getElem?_eq_getElem hi
 obtain ⟨c1,c2,c3⟩:=hc _ hli
 have e3:sumI (wayS u k c) 0 rest=((netOf spots l).still x i k n).ways (bit u) i:=by
  unfold Net.ways
  rw [show ((netOf spots l).still x i k n).m=rest.length from hrl.symm]
  refine sumI_S _ _ rest 0 (fun m s hs => ?_)
  rw [Nat.zero_add]
  have hml:m < spots.length:=by rw [← hrl]; exact (List.getElem?_eq_some_iff.1 hs).1
  show wayS u k c m s=(bif !bit u m && (if i=i then decide (k < m) && (netOf spots l).suits i m else (netOf spots l).suits i m)then (netOf spots l).most i else 0)
  rw [if_pos rfl]
  unfold wayS
  rw [hsu i m s c l[i] spots[m] hs (List.getElem?_eq_getElem hml) hli c2 c3,(goal_at hli).2,c1]
 rw [e2,e3,hg,hq]
 have e4:=S_upd (f:=fun j=>if j=i then 0 else min (((netOf spots l).still x i k n).goal j) (((netOf spots l).still x i k n).ways (bit u) j)) (g:=fun j=>min (((netOf spots l).still x i k n).goal j) (((netOf spots l).still x i k n).ways (bit u) j)) (n:=others.length) (i:=i) (by omega) (fun j hj hne=>by
  show _=if j=i then 0 else _
  rw [if_neg hne])
 rw [e4,if_pos rfl]
 omega
end
end Go.Proofs.Ytipjpkpmkijdoaa.Law

open Go Go.Eng Go.Flow
namespace Go.Proofs.Ytipjpkpmkijdoaa.Law
set_option linter.unusedVariables false
set_option linter.unusedSimpArgs false
set_option linter.unusedSectionVars false
section
variable {spots:List Spot} {l:List Campaign}
def left (N:Net) (x:Nat→Nat→Int) (i k j:Nat):Int:=N.room j - S N.q (fun p=>bif Net.prior i k p j then x p j else 0)
structure LeftS (spots:List Spot) (l:List Campaign) (x:Nat→Nat→Int) (i k:Nat) (sp:List Spot):Prop where
 len:sp.length=spots.length
 is_:∀ (j:Nat) (s s':Spot),sp[j]? = some s→spots[j]? = some s'→s.Room=left (netOf spots l) x i k j∧s.Tags=s'.Tags∧s.Time=s'.Time∧s.Key=s'.Key
structure LeftC (l:List Campaign) (i:Nat) (cs:List Campaign):Prop where
 len:cs.length=l.length
 is_:∀ (j:Nat) (o o':Campaign),cs[j]? = some o→l[j]? = some o'→o.Goal=(if j < i then 0 else o'.Goal)∧o.Most=o'.Most∧o.Tags=o'.Tags∧o.Time=o'.Time∧o.Key=o'.Key
section
variable (h:Office spots l) {x:Nat→Nat→Int} (hx:(netOf spots l).Deal x) {i k:Nat} (hi:i < l.length) (hk:k < spots.length)
include h hx
theorem left_in {j:Nat} (hj:j < spots.length):0≤left (netOf spots l) x i k j∧left (netOf spots l) x i k j≤10000000:=by
 have h1:0≤S (netOf spots l).q (fun p=>bif Net.prior i k p j then x p j else 0):=S_nonneg (fun p hp=>by
  cases Net.prior i k p j
  ·exact Int.le_refl _
  ·exact hx.pos p j hp hj)
 have h2:S (netOf spots l).q (fun p=>bif Net.prior i k p j then x p j else 0)≤S (netOf spots l).q (fun p=>x p j):=S_le (fun p hp=>by
  cases Net.prior i k p j
  ·exact hx.pos p j hp hj
  ·exact Int.le_refl _)
 have h3:=hx.room j hj
 have h4:=net_room h j
 unfold left
 omega
include hi hk
theorem left_ge:x i k≤left (netOf spots l) x i k k:=by
 have h2:S (netOf spots l).q (fun p=>(bif Net.prior i k p k then x p k else 0) + if p=i then x i k else 0)≤S (netOf spots l).q (fun p=>x p k):=S_le (fun p hp=>by
  have hp0:=hx.pos p k hp hk
  cases hpr:Net.prior i k p k with
  | false =>
   show (0:Int) + _≤_
   split
   ·rename_i e; rw [e]; omega
   ·omega
  | true =>
   have:p≠i:=fun e=>by rw [prior_lt]at hpr; omega
   rw [if_neg this]
   show x p k + 0≤_; omega)
 rw [S_add,S_one _ (show i < (netOf spots l).q from hi)]at h2
 have h3:=hx.room k hk
 unfold left
 omega
theorem goal_ge:x i k≤(netOf spots l).goal i - S k (x i):=by
 have h1:=hx.goal i hi
 have h2:S k (x i) + x i k≤S (netOf spots l).m (x i):=by
  have key:∀ d,k + 1 + d≤spots.length→S k (x i) + x i k≤S (k + 1 + d) (x i):=fun d hd=>by
   rw [S_split]
   have e:S (k + 1) (x i)=S k (x i) + x i k:=rfl
   have:0≤S d (fun j=>x i (k + 1 + j)):=S_nonneg (fun j hj=>hx.pos i _ hi (by show k + 1 + j < spots.length; omega))
   omega
  have hm:(netOf spots l).m=k + 1 + (spots.length - (k + 1)):=by
   show spots.length=_
   omega
  rw [hm]; exact key _ (by omega)
 omega
end
theorem still_room {N:Net} {x:Nat→Nat→Int} {i k:Nat} {n:Int} (j:Nat):(N.still x i k n).room j=left N x i k j - if j=k then n else 0:=rfl
theorem canStill_ok (h:Office spots l) {x:Nat→Nat→Int} (hx:(netOf spots l).Deal x) {i k:Nat} (hi:i < l.length) (hk:k < spots.length) {sp:List Spot} (hsp:LeftS spots l x i k sp) {cs:List Campaign} (hcs:LeftC l i cs) {c c0:Campaign} (hc0:l[i]? = some c0) (hc:c.Most=c0.Most∧c.Tags=c0.Tags∧c.Time=c0.Time)
  (hg:c.Goal=(netOf spots l).goal i - S k (x i)) {n:Int} (n0:0≤n) (n1:n≤c.Goal) (n2:n≤left (netOf spots l) x i k k) :
  ∃ b,ref_canStill sp cs (i:Int) c (k:Int) n=some b∧(b=true ↔ ∀ B,((netOf spots l).still x i k n).goals≤((netOf spots l).still x i k n).cutV B):=by
 have hsn:=h.sn
 have hln:=h.ln
 have hcr:=h.cr c0 (List.mem_of_getElem? hc0)
 have hgl:=net_goal h i
 have hSk:0≤S k (x i):=S_nonneg (fun j hj=>hx.pos i j hi (by show j < spots.length; omega))
 have hkl:k < sp.length:=by rw [hsp.len]; exact hk
 have hil:i < cs.length:=by rw [hcs.len]; exact hi
 have hspk:sp[k]? = some sp[k]:=List.getElem?_eq_getElem hkl
 have hcsi:cs[i]? = some cs[i]:=List.getElem?_eq_getElem hil
 obtain ⟨s1,s2,s3,s4⟩:=hsp.is_ k sp[k] spots[k] hspk (List.getElem?_eq_getElem hk)
 have hlk:=left_in (i:=i) (k:=k) h hx hk
 have hCR:CampR c:=⟨by omega,by omega,by rw [hc.1]; exact hcr.2.2.1,by rw [hc.1]; exact hcr.2.2.2.1,by rw [hc.2.1]; exact hcr.2.2.2.2⟩
 have hw:w64 (sp[k].Room - n)=sp[k].Room - n:=w64_id (by omega)
 generalize hrest:sp.set k (⟨sp[k].Key,sp[k].Time,sp[k].Room - n,sp[k].Tags⟩:Spot)=rest
 generalize hothers:cs.set i (⟨cs[i].Key,cs[i].Class,cs[i].Time,cs[i].Tags,0,cs[i].Most,cs[i].Cents⟩:Campaign)=others
 have hrl:rest.length=spots.length:=by rw [← hrest,List.length_set]; exact hsp.len
 have hol:others.length=l.length:=by rw [← hothers,List.length_set]; exact hcs.len
 have hrget:∀ (j:Nat) (s s':Spot),rest[j]? = some s→spots[j]? = some s'→s.Room=((netOf spots l).still x i k n).room j∧s.Tags=s'.Tags∧s.Time=s'.Time:=fun j s s' e1 e2=>by
  rw [← hrest,List.getElem?_set]at e1
  by_cases hjk:k=j
  ·subst hjk
   rw [if_pos rfl,if_pos hkl]at e1
   simp only [Option.some.injEq]at e1
   subst e1
   rw [List.getElem?_eq_getElem hk]at e2
   simp only [Option.some.injEq]at e2
   subst e2
   exact⟨by rw [still_room,if_pos rfl,s1],s2,s3⟩
  ·rw [if_neg hjk]at e1
   obtain ⟨t1,t2,t3,_⟩:=hsp.is_ j s s' e1 e2
   exact⟨by rw [still_room,if_neg (fun e=>hjk e.symm),t1]; omega,t2,t3⟩
 have hoget:∀ (j:Nat) (o o':Campaign),others[j]? = some o→l[j]? = some o'→o.Goal=(if j≤i then 0 else o'.Goal)∧o.Most=o'.Most∧o.Tags=o'.Tags∧o.Time=o'.Time:=fun j o o' e1 e2=>by
  rw [← hothers,List.getElem?_set]at e1
  by_cases hji:i=j
  ·subst hji
   rw [if_pos rfl,if_pos hil]at e1
   simp only [Option.some.injEq]at e1
   subst e1
   obtain ⟨t1,t2,t3,t4,_⟩:=hcs.is_ i cs[i] o' hcsi e2
   exact⟨by rw [if_pos (Nat.le_refl _)],t2,t3,t4⟩
  ·rw [if_neg hji]at e1
   obtain ⟨t1,t2,t3,t4,_⟩:=hcs.is_ j o o' e1 e2
   refine⟨?_,t2,t3,t4⟩
   rw [t1]
   by_cases hlt:j < i
   ·rw [if_pos hlt,if_pos (by omega)]
   ·rw [if_neg hlt,if_neg (by omega)]
 have hSR:∀ s∈rest,SpotR s:=fun s hs=>by
  obtain ⟨j,hj,rfl⟩:=List.getElem_of_mem hs
  have hj':j < spots.length:=by rw [← hrl]; exact hj
  obtain ⟨t1,t2,t3⟩:=hrget j rest[j] spots[j] (List.getElem?_eq_getElem hj) (List.getElem?_eq_getElem hj')
  have h1:=left_in (i:=i) (k:=k) h hx hj'
  refine⟨?_,?_,?_⟩
  ·rw [t1,still_room]; split
   ·rename_i e; subst e; omega
   ·omega
  ·rw [t1,still_room]; split
   ·omega
   ·omega
  ·rw [t2]; exact (h.sr _ (List.getElem_mem hj')).2.2
 have hORl:∀ c∈others,CampR c:=fun o ho=>by
  obtain ⟨j,hj,rfl⟩:=List.getElem_of_mem ho
  have hj':j < l.length:=by rw [← hol]; exact hj
  obtain ⟨t1,t2,t3,t4⟩:=hoget j others[j] l[j] (List.getElem?_eq_getElem hj) (List.getElem?_eq_getElem hj')
  have h1:=h.cr _ (List.getElem_mem hj')
  refine⟨?_,?_,by rw [t2]; exact h1.2.2.1,by rw [t2]; exact h1.2.2.2.1,by rw [t3]; exact h1.2.2.2.2⟩
  ·rw [t1]; split
   ·omega
   ·exact h1.1
  ·rw [t1]; split
   ·omega
   ·exact h1.2.1
 have hgi:((netOf spots l).still x i k n).goal i=c.Goal - n:=by
  show (if i < i then 0 else if i=i then (netOf spots l).goal i - S k (x i) - n else _)=_
  rw [if_neg (Nat.lt_irrefl _),if_pos rfl,hg]
 have hR:((netOf spots l).still x i k n).Right:=by
  refine⟨fun j hj => ?_,fun j hj=>(net_most h j).1,fun j hj => ?_⟩
  ·show 0≤(if j < i then 0 else if j=i then (netOf spots l).goal i - S k (x i) - n else (netOf spots l).goal j)
   split
   ·omega
   ·split
    ·omega
    ·exact (net_goal h j).1
  ·rw [still_room]
   have:=left_in (i:=i) (k:=k) h hx (show j < spots.length from hj)
   split
   ·rename_i e; subst e; omega
   ·omega
 obtain ⟨r,r1,r2,u,u1,u2⟩:=cS_min (n:=n) (k:=k) hSR (by omega) hORl (by omega) hCR (by omega)
 have hcut:∀ u,cutS rest others c (c.Goal - n) k u=((netOf spots l).still x i k n).cutV (bit u):=fun u=>still_cut h hi hrl hol (fun j s hs=>by
  have hj':j < spots.length:=by rw [← hrl]; exact (List.getElem?_eq_some_iff.1 hs).1
  exact (hrget j s spots[j] hs (List.getElem?_eq_getElem hj')).1) (fun j s s' e1 e2=>(hrget j s s' e1 e2).2) hoget (fun o ho=>by
   rw [hc0]at ho
   simp only [Option.some.injEq]at ho
   subst ho; exact hc) hgi.symm u
 have hLC:LeastCut ((netOf spots l).still x i k n) r:=by
  refine⟨fun B => ?_,bit u,by rw [u2,hcut]⟩
  obtain ⟨w,k1,k2⟩:=mask_of B rest.length
  rw [cutV_congr ((netOf spots l).still x i k n) (B:=B) (B':=bit w) (fun m hm=>(k2 m (by rw [hrl]; exact hm)).symm),← hcut]
  exact r2 w k1
 obtain ⟨g1,_,g3,g4⟩:=goals_eq hORl (by omega) rest
 have hgs:(netOf rest others).goals + (c.Goal - n)=((netOf spots l).still x i k n).goals:=by
  unfold Net.goals
  have hq1:(netOf rest others).q=l.length:=hol
  have hq2:((netOf spots l).still x i k n).q=l.length:=rfl
  rw [hq1,hq2]
  have e:=S_upd (f:=(netOf rest others).goal) (g:=((netOf spots l).still x i k n).goal) hi (fun j hj hne=>by
   have hjo:j < others.length:=by omega
   obtain ⟨t1,_⟩:=hoget j others[j] l[j] (List.getElem?_eq_getElem hjo) (List.getElem?_eq_getElem hj)
   rw [(goal_at (spots:=rest) (List.getElem?_eq_getElem hjo)).1,t1]
   show (if j < i then 0 else if j=i then (netOf spots l).goal i - S k (x i) - n else (netOf spots l).goal j)=_
   rw [if_neg hne,(goal_at (spots:=spots) (List.getElem?_eq_getElem hj)).1]
   by_cases hlt:j < i
   ·rw [if_pos hlt,if_pos (by omega)]
   ·rw [if_neg hlt,if_neg (by omega)])
  rw [e]
  have hio:i < others.length:=by omega
  obtain ⟨t1,_⟩:=hoget i others[i] c0 (List.getElem?_eq_getElem hio) hc0
  have e0:(netOf rest others).goal i=0:=by rw [(goal_at (spots:=rest) (List.getElem?_eq_getElem hio)).1,t1,if_pos (Nat.le_refl _)]
  rw [e0,hgi]; omega
 have hsh:shlO .i64 1 (rest.length:Int)=some ((2 ^ rest.length:Nat):Int):=by
  have hp:2 ^ rest.length≤1073741824:=Nat.pow_le_pow_right (n:=2) (by decide) (show rest.length≤30 by omega)
  unfold shlO
  rw [if_neg (by omega)]
  have e:(min ((rest.length:Int)).toNat IntKind.i64.bits)=rest.length:=by
   have:IntKind.i64.bits=64:=rfl
   rw [this]; omega
  have e2:((2:Int) ^ rest.length)=((2 ^ rest.length:Nat):Int):=by rw [Int.natCast_pow]; rfl
  rw [e,Int.one_mul,e2]
  congr 1
  exact w64_id (by omega)
 obtain ⟨b1,b2⟩:=least_goals hR hLC
 refine⟨r == ((netOf spots l).still x i k n).goals,?_,?_⟩
 ·unfold ref_canStill
  rw [cloneSp_eq sp (by rw [hsp.len]; omega),cloneCa_eq cs (by rw [hcs.len]; omega)]
  simp only [Option.bind_some,inR_at hkl,inR_at hil,Int.toNat_natCast,Nat.zero_add,hspk,hcsi,hw,hrest,hothers,hsh]
  rw [r1,Option.bind_some,thenC_go]
  simp only
  rw [g1,Option.bind_some,w64_id (n:=c.Goal - n) (by omega),w64_id (by omega),hgs]
 ·rw [beq_iff_eq]; exact b2
structure DocSt (spots:List Spot) (l:List Campaign) (x:Nat→Nat→Int) (i k:Nat) (c:Campaign) (s:List Spot×List Share×Int):Prop where
 sp:LeftS spots l x i k s.1
 out:s.2.1=shA spots l x i++shC spots x i c k
 gl:s.2.2=(netOf spots l).goal i - S k (x i)
section
variable (h:Office spots l) {x:Nat→Nat→Int} (hx:(netOf spots l).Deal x) (hgr:∀ i k,i < l.length→k < spots.length→Great (netOf spots l) x i k)
include h hx hgr
theorem doc_L2 {i:Nat} (hi:i < l.length) {c:Campaign} (hc:l[i]? = some c) {e:Campaign} (he:e.Most=c.Most∧e.Tags=c.Tags∧e.Time=c.Time∧e.Key=c.Key) {st:List Spot×List Campaign×List Share} (hcs:LeftC l i st.2.1) {k:Nat} (hk:k < spots.length) {s:List Spot×List Share×Int} (hs:DocSt spots l x i k c s) :
  ∃ s',ref_DealOf_L2 e st i k k s=some (.go s')∧DocSt spots l x i (k + 1) c s':=by
 obtain ⟨sp,out,gl⟩:=s
 obtain ⟨hsp,hout,hgl⟩:=hs
 simp only at hsp hout hgl
 have hsn:=h.sn
 have hln:=h.ln
 have hcr:=h.cr c (List.mem_of_getElem? hc)
 have hkl:k < sp.length:=by rw [hsp.len]; exact hk
 have hspk:sp[k]? = some sp[k]:=List.getElem?_eq_getElem hkl
 have hk0:spots[k]? = some spots[k]:=List.getElem?_eq_getElem hk
 obtain ⟨s1,s2,s3,s4⟩:=hsp.is_ k sp[k] spots[k] hspk hk0
 have hsr:=h.sr _ (List.getElem_mem hk)
 have hsuit:=suits_at (spots:=spots) (l:=l) hc hk0
 have hmost:=(goal_at (spots:=spots) (l:=l) hc).2
 have hsu:ref_SuitsOf (⟨e.Key,e.Class,e.Time,e.Tags,gl,e.Most,e.Cents⟩:Campaign) sp[k]=some (suitB c spots[k]):=by
  rw [suitsR _ _ (by show e.Tags.length≤1000; rw [he.2.1]; exact hcr.2.2.2.2) (by rw [s2]; exact hsr.2.2)]
  unfold suitB
  simp only [he.2.1,he.2.2.1,s2,s3]
 have hlk:=left_in (i:=i) (k:=k) h hx hk
 have hlg:=left_ge (i:=i) (k:=k) h hx hi hk
 have hgg:=goal_ge (i:=i) (k:=k) h hx hi hk
 have hxp:=hx.pos i k hi hk
 have hgn:=net_goal h i
 have hSk:0≤S k (x i):=S_nonneg (fun j hj=>hx.pos i j hi (by show j < spots.length; omega))
 have hsh:shC spots x i c (k + 1)=shC spots x i c k++if 0 < x i k then [⟨c.Key,spots[k].Key,x i k⟩]else []:=by rw [shC,hk0]
 have hleft:∀ j,left (netOf spots l) x i (k + 1) j=left (netOf spots l) x i k j - if j=k then x i k else 0:=fun j=>by
  unfold left
  have e:S (netOf spots l).q (fun p=>bif Net.prior i (k + 1) p j then x p j else 0)=S (netOf spots l).q (fun p=>(bif Net.prior i k p j then x p j else 0) + if p=i then (if j=k then x i k else 0)else 0):=S_congr (fun p hp=>by
   rw [← prior_also]
   unfold Net.also
   by_cases hpi:p=i
   ·subst hpi
    by_cases hjk:j=k
    ·subst hjk
     have:Net.prior p j p j=false:=by
      cases hpr:Net.prior p j p j with
      | false=>rfl
      | true=>rw [prior_lt]at hpr; omega
     rw [this,if_pos rfl,if_pos rfl]; simp
    ·rw [if_pos rfl,if_neg hjk,decide_eq_false hjk]; simp
   ·rw [if_neg hpi,decide_eq_false hpi]; simp)
  rw [e,S_add,S_one _ (show i < (netOf spots l).q from hi)]
  omega
 unfold ref_DealOf_L2
 simp only [inR_at hkl,Option.bind_some,toN,hspk,hsu]
 cases hb:suitB c spots[k]with
 | false =>
  rw [hb]at hsuit
  have hx0:x i k=0:=by
   have e:=hx.most i k hi hk
   rw [hsuit]at e
   have e:x i k≤0:=e
   omega
  simp only [Bool.not_false,cond_true]
  refine⟨_,rfl,⟨hsp.len,fun j s s' e1 e2 => ?_⟩,?_,?_⟩
  ·obtain ⟨t1,t2⟩:=hsp.is_ j s s' e1 e2
   refine⟨?_,t2⟩
   rw [hleft,t1,hx0]; split <;> omega
  ·show out=_
   rw [hsh,hx0,if_neg (by omega),List.append_nil]; exact hout
  ·show gl=_
   have:S (k + 1) (x i)=S k (x i) + x i k:=rfl
   omega
 | true =>
  rw [hb]at hsuit
  simp only [Bool.not_true,cond_false]
  have hxm:x i k≤c.Most:=by
   have:=hx.most i k hi hk
   rw [hsuit,hmost]at this; exact this
  have hn0:minI (minI gl e.Most) sp[k].Room=min (min gl c.Most) (left (netOf spots l) x i k k):=by rw [minI_min,minI_min,he.1,s1]
  rw [hn0]
  obtain ⟨n,n1,n2⟩:=loop_meas (body:=fun s=>ref_DealOf_L1 (sp,out,gl) st i e k s) (fun n=>x i k≤n∧n≤min (min gl c.Most) (left (netOf spots l) x i k k)) (fun n=>n.toNat) (fun n=>n=x i k) (fun n hn=>by
   obtain ⟨m1,m2⟩:=hn
   unfold ref_DealOf_L1
   by_cases hp:n > 0
   ·rw [decide_eq_true hp]
    obtain ⟨b,b1,b2⟩:=canStill_ok h hx hi hk hsp hcs (c:=(⟨e.Key,e.Class,e.Time,e.Tags,gl,e.Most,e.Cents⟩:Campaign)) hc ⟨he.1,he.2.1,he.2.2.1⟩ hgl (n:=n) (by omega) (by show n≤gl; omega) (by omega)
    simp only [cond_true,b1,Option.bind_some]
    obtain ⟨f1,f2⟩:=Net.search (netOf spots l) (net_right h) hi hk hsuit hx (fun _ _ _ _ _=>rfl) (hgr i k hi hk)
    by_cases hx':n=x i k
    ·right
     have:b=true:=b2.2 (by rw [hx']; exact f1)
     rw [this]
     exact⟨_,rfl,hx'⟩
    ·left
     have hb':b=false:=by
      cases b with
      | false=>rfl
      | true =>
       refine absurd (b2.1 rfl) (f2 n (by omega) (by rw [hmost]; omega) ⟨fun j hj => ?_,fun j hj=>(net_most h j).1,fun j hj => ?_⟩)
       ·show 0≤(if j < i then 0 else if j=i then (netOf spots l).goal i - S k (x i) - n else (netOf spots l).goal j)
        split
        ·omega
        ·split
         ·omega
         ·exact (net_goal h j).1
       ·rw [still_room]
        have:=left_in (i:=i) (k:=k) h hx (show j < spots.length from hj)
        split
        ·rename_i e'; subst e'; omega
        ·omega
     rw [hb']
     have hw:w64 (n - 1)=n - 1:=w64_id (by omega)
     simp only [Bool.not_false,cond_true,hw]
     exact⟨_,rfl,⟨by omega,by omega⟩,by omega⟩
   ·right
    rw [decide_eq_false hp]
    simp only [cond_false,Option.bind_some]
    exact⟨_,rfl,by omega⟩) ⟨by omega,Int.le_refl _⟩
  subst n2
  rw [n1,Option.bind_some,thenC_go]
  have hw1:w64 (sp[k].Room - x i k)=sp[k].Room - x i k:=w64_id (by omega)
  have hw2:w64 (gl - x i k)=gl - x i k:=w64_id (by omega)
  have hap:∀ z:Share,appL out [z]=some (out ++ [z]):=fun z=>by
   unfold appL
   rw [if_pos]
   rw [hout,List.length_append]
   have h5:=shA_len (spots:=spots) (l:=l) (x:=x) i
   have h6:=shC_len (spots:=spots) (x:=x) (i:=i) (c:=c) k
   have h7:i * spots.length≤100 * 30:=Nat.mul_le_mul (by omega) (by omega)
   simp only [List.length_cons,List.length_nil]
   omega
  have hfin:∀ out',out'=shA spots l x i++shC spots x i c (k + 1)→DocSt spots l x i (k + 1) c (sp.set k (⟨sp[k].Key,sp[k].Time,sp[k].Room - x i k,sp[k].Tags⟩:Spot),out',gl - x i k):=fun out' ho=>by
   refine⟨⟨by rw [List.length_set]; exact hsp.len,fun j s s' e1 e2 => ?_⟩,ho,?_⟩
   ·rw [List.getElem?_set]at e1
    by_cases hjk:k=j
    ·subst hjk
     rw [if_pos rfl,if_pos hkl]at e1
     simp only [Option.some.injEq]at e1
     subst e1
     rw [hk0]at e2
     simp only [Option.some.injEq]at e2
     subst e2
     exact⟨by rw [hleft,if_pos rfl,← s1],s2,s3,s4⟩
    ·rw [if_neg hjk]at e1
     obtain ⟨t1,t2⟩:=hsp.is_ j s s' e1 e2
     exact⟨by rw [hleft,if_neg (fun e=>hjk e.symm),t1]; omega,t2⟩
   ·show gl - x i k=_
    have:S (k + 1) (x i)=S k (x i) + x i k:=rfl
    omega
  by_cases hp:x i k > 0
  ·rw [decide_eq_true hp]
   simp only [cond_true,inR_at hkl,Option.bind_some,toN,hspk,hap,hw1,hw2]
   refine⟨_,rfl,hfin _ ?_⟩
   rw [hsh,if_pos hp,hout,List.append_assoc,he.2.2.2,s4]
  ·rw [decide_eq_false hp]
   simp only [cond_false,inR_at hkl,Option.bind_some,toN,hspk,hw1,hw2]
   refine⟨_,rfl,hfin _ ?_⟩
   rw [hsh,if_neg hp,List.append_nil,hout]
theorem left_row (i j:Nat) (hj:j < spots.length):left (netOf spots l) x i spots.length j=left (netOf spots l) x (i + 1) 0 j:=by
 unfold left
 congr 1
 exact S_congr (fun p _=>by rw [prior_row hj])
theorem dealOf_ok (hm:ref_CanOf spots l=some true):ref_DealOf spots l=some (shA spots l x l.length,true):=by
 have hsn:=h.sn
 have hln:=h.ln
 unfold ref_DealOf
 rw [hm,Option.bind_some]
 simp only [Bool.not_true,cond_false]
 rw [cloneSp_eq spots (by omega),Option.bind_some,cloneCa_eq l (by omega),Option.bind_some]
 rw [show ((l.length:Int)).toNat=l.length from Int.toNat_natCast _]
 obtain ⟨s',r1,r2,r3,r4⟩:=forL_rng (body:=fun k x s=>ref_DealOf_L3 k x s) (fun i s=>LeftS spots l x i 0 s.1∧LeftC l i s.2.1∧s.2.2=shA spots l x i) (n:=l.length) (s:=(spots,l,([]:List Share))) (by omega) (fun i s hi hs=>by
  obtain ⟨sp,cs,out⟩:=s
  obtain ⟨h1,h2,h3⟩:=hs
  simp only at h1 h2 h3
  have hil:i < cs.length:=by rw [h2.len]; exact hi
  have hci:cs[i]? = some cs[i]:=List.getElem?_eq_getElem hil
  have hli:l[i]? = some l[i]:=List.getElem?_eq_getElem hi
  obtain ⟨c1,c2,c3,c4,c5⟩:=h2.is_ i cs[i] l[i] hci hli
  rw [if_neg (Nat.lt_irrefl _)]at c1
  unfold ref_DealOf_L3
  simp only [inR_at hil,Option.bind_some,toN,hci]
  have hsl:((sp.length:Int)).toNat=spots.length:=by rw [h1.len]; exact Int.toNat_natCast _
  rw [hsl]
  obtain ⟨s2,q1,q2⟩:=forL_rng (body:=fun k x s=>ref_DealOf_L2 cs[i] (sp,cs,out) i k x s) (fun k s=>DocSt spots l x i k l[i] s) (n:=spots.length) (s:=(sp,out,cs[i].Goal)) (by omega) (fun k s hk hs=>doc_L2 h hx hgr hi hli ⟨c2,c3,c4,c5⟩ (st:=(sp,cs,out)) h2 hk hs) ⟨h1,by show out=_ ++ []; rw [List.append_nil]; exact h3,by show cs[i].Goal=_ - 0; rw [c1,(goal_at hli).1]; omega⟩
  rw [q1,Option.bind_some,thenC_go]
  refine⟨_,rfl,⟨q2.sp.len,fun j s s' e1 e2 => ?_⟩,⟨by rw [List.length_set]; exact h2.len,fun j o o' e1 e2 => ?_⟩,?_⟩
  ·obtain ⟨t1,t2⟩:=q2.sp.is_ j s s' e1 e2
   exact⟨by rw [t1]; exact left_row h hx hgr i j (List.getElem?_eq_some_iff.1 e2).1,t2⟩
  ·rw [List.getElem?_set]at e1
   by_cases hij:i=j
   ·subst hij
    rw [if_pos rfl,if_pos hil]at e1
    simp only [Option.some.injEq]at e1
    subst e1
    rw [hli]at e2
    simp only [Option.some.injEq]at e2
    subst e2
    exact⟨by rw [if_pos (by omega)],c2,c3,c4,c5⟩
   ·rw [if_neg hij]at e1
    obtain ⟨t1,t2⟩:=h2.is_ j o o' e1 e2
    refine⟨?_,t2⟩
    rw [t1]
    by_cases hlt:j < i
    ·rw [if_pos hlt,if_pos (by omega)]
    ·rw [if_neg hlt,if_neg (by omega)]
  ·show s2.2.1=_
   rw [q2.out,shA,hli]) ⟨⟨rfl,fun j s s' e1 e2=>by
   rw [e1]at e2
   simp only [Option.some.injEq]at e2
   subst e2
   refine⟨?_,rfl,rfl,rfl⟩
   unfold left
   have:S (netOf spots l).q (fun p=>bif Net.prior 0 0 p j then x p j else 0)=0:=Net.S_all0 (fun p _=>by
    have:Net.prior 0 0 p j=false:=by
     cases hpr:Net.prior 0 0 p j with
     | false=>rfl
     | true=>rw [prior_lt]at hpr; omega
    rw [this]; rfl)
   rw [this,room_at e1]; omega⟩,⟨rfl,fun j o o' e1 e2=>by
   rw [e1]at e2
   simp only [Option.some.injEq]at e2
   subst e2
   exact⟨by rw [if_neg (by omega)],rfl,rfl,rfl,rfl⟩⟩,rfl⟩
 rw [r1,Option.bind_some,thenC_go,r4]
end
end
end Go.Proofs.Ytipjpkpmkijdoaa.Law

open Go Go.Eng
namespace Go.Proofs.Ytipjpkpmkijdoaa.Law
set_option linter.unusedVariables false
set_option linter.unusedSimpArgs false
def or0 (a b:Int):Int:=bif a == 0 then b else a
theorem errs2 (a b:Int):law_errs [a,b]=some (or0 a b):=by
  unfold law_errs or0
  rw [forL_eq (by simp)]
  simp only [forR,law_errs_L1]
  cases ha:a == 0 with
  | false =>
    have:(a != 0)=true:=by simp [bne,ha]
    simp only [this,cond_true,cond_false,Option.bind_some,thenC]
  | true =>
    have:(a != 0)=false:=by simp [bne,ha]
    simp only [this,cond_true,cond_false,Option.bind_some]
    cases hb:b == 0 with
    | false =>
      have:(b != 0)=true:=by simp [bne,hb]
      simp only [this,cond_true,Option.bind_some,thenC]
    | true =>
      have:(b != 0)=false:=by simp [bne,hb]
      simp only [this,cond_false,Option.bind_some,thenC]
      rw [eq_of_beq hb]
theorem both_eq (x:List Spot) (c:List Campaign) (hx:∀ s∈x,GoodS s) (hc:∀ s∈c,GoodC s) (h1:x.length≤1000) (h2:c.length≤1000):booking_checkBoth x c=some (or0 (spotsF x) (campsF c)):=by
  unfold booking_checkBoth or0
  rw [spotsK x hx (by omega),campsK c hc (by omega)]
  simp only [Option.bind_some]
  cases h:spotsF x == 0 with
  | true => have : (spotsF x != 0) = false := by simp [bne, h]
            simp only [this,cond_false,cond_true]
  | false => have : (spotsF x != 0) = true := by simp [bne, h]
             simp only [this,cond_true,cond_false]
theorem spotStp_0 {last:ByteArray} {x:Spot} (h:spotStp last x=0):tagsF x.Tags=0:=by
  unfold spotStp at h
  generalize (badT x.Time || out x.Room 1000000)=q at h
  generalize sLe x.Key last=p at h
  generalize keyB x.Key=k at h
  cases k <;> cases p <;> cases q <;> first | (cases h; done) | exact h
theorem chk_spots:∀ (l:List Spot) (last:ByteArray),chk Spot.Key spotStp last l=0 → ∀ x∈l,tagsF x.Tags=0
  | [],_,_,x,hx=>by simp at hx
  | y::l,last,h,x,hx=>by
    rw [chk]at h
    cases he:spotStp last y == 0 with
    | false=>rw [he]at h; simp only [cond_false]at h; rw [h]at he; cases he
    | true =>
      rw [he]at h
      simp only [cond_true]at h
      rcases List.mem_cons.1 hx with rfl | hx
      · exact spotStp_0 (eq_of_beq he)
      · exact chk_spots l _ h x hx
theorem spotsF_0 {l:List Spot} (h:spotsF l=0):∀ x∈l,tagsF x.Tags=0:=by
  unfold spotsF at h
  by_cases hl:l.length > 60
  · rw [decide_eq_true hl]at h; cases h
  · rw [decide_eq_false hl]at h; exact chk_spots l _ h
theorem booked_ok:law_booked=some true:=by
  unfold law_booked booking_Due
  rw [campsK _ (by intro x hx; simp only [List.mem_singleton]at hx; subst hx; exact⟨short_lit rfl,short_lit rfl,by simp,by simp⟩) (by simp)]
  have:campsF [(⟨(⟨#[97]⟩:ByteArray),(⟨#[]⟩:ByteArray),(⟨0,100⟩:Window),([]:List ByteArray),10,0,0⟩:Campaign)]=0:=by decide +kernel
  rw [this]
  simp only [Option.bind_some]
  decide +kernel
theorem office_ok (s:Stream) (hs:Ok s 0):∃ x c e s',law_office s=some (x,c,e,s')∧(∀ y∈x,GoodS y)∧x.length≤5∧(∀ y∈c,GoodC y)∧c.length≤4∧e=or0 (spotsF x) (campsF c)∧Ok s' 400:=by
  obtain ⟨x,s1,h1,h2,h3,h4⟩:=spots_ok s hs (by decide)
  obtain ⟨c,s2,h5,h6,h7,h8⟩:=campaigns_ok s1 4 (by decide) h2 (by decide)
  refine⟨x,c,_,s2,?_,h4,h3,h8,h7,rfl,h6⟩
  simp only [law_office,h1,h5,spotsR x h4 (by omega),campsR c h8 (by omega),errs2,Option.bind_some]
end Go.Proofs.Ytipjpkpmkijdoaa.Law

open Go Go.Eng Go.Flow
namespace Go.Proofs.Ytipjpkpmkijdoaa.Law
set_option linter.unusedVariables false
set_option linter.unusedSimpArgs false
set_option linter.unusedSectionVars false
theorem out_f {n hi:Int} (h:out n hi=false):0≤n∧n≤hi:=by
 unfold out at h
 simp only [Bool.or_eq_false_iff,decide_eq_false_iff_not]at h
 omega
theorem spotStp_room {last:ByteArray} {x:Spot} (h:spotStp last x=0):0≤x.Room∧x.Room≤1000000:=by
 unfold spotStp at h
 cases hk:keyB x.Key <;> cases hl:sLe x.Key last <;> cases ho:out x.Room 1000000 <;> cases hb:badT x.Time <;> rw [hk,hl,ho,hb]at h <;> first | (cases h; done) | exact out_f ho
theorem chk_room:∀ (l:List Spot) (last:ByteArray),chk Spot.Key spotStp last l=0 → ∀ x∈l,0≤x.Room∧x.Room≤1000000
 | [],_,_,x,hx=>by simp at hx
 | y::l,last,h,x,hx=>by
  rw [chk]at h
  cases he:spotStp last y == 0 with
  | false=>rw [he]at h; simp only [cond_false]at h; rw [h]at he; cases he
  | true =>
   rw [he]at h
   simp only [cond_true]at h
   rcases List.mem_cons.1 hx with rfl | hx
   ·exact spotStp_room (eq_of_beq he)
   ·exact chk_room l _ h x hx
theorem campStp_in {last:ByteArray} {c:Campaign} (h:campStp last c=0):0≤c.Goal∧c.Goal≤1000000∧0≤c.Most∧c.Most≤1000000:=by
 unfold campStp at h
 cases hk:(!keyB c.Key || (decide (c.Class.size≠0) && !keyB c.Class)) <;> rw [hk]at h <;> simp only [cond_true,cond_false]at h
 ·cases hl:sLe c.Key last <;> rw [hl]at h <;> simp only [cond_true,cond_false]at h
  ·cases ho:(badT c.Time || (out c.Goal 1000000 || (out c.Most 1000000 || out c.Cents 1000000000))) <;> rw [ho]at h <;> simp only [cond_true,cond_false]at h
   ·simp only [Bool.or_eq_false_iff]at ho
    have h1:=out_f ho.2.1
    have h2:=out_f ho.2.2.1
    omega
   ·cases h
  ·cases h
 ·cases h
theorem chk_camps:∀ (l:List Campaign) (last:ByteArray),chk Campaign.Key campStp last l=0 → ∀ x∈l,0≤x.Goal∧x.Goal≤1000000∧0≤x.Most∧x.Most≤1000000
 | [],_,_,x,hx=>by simp at hx
 | y::l,last,h,x,hx=>by
  rw [chk]at h
  cases he:campStp last y == 0 with
  | false=>rw [he]at h; simp only [cond_false]at h; rw [h]at he; cases he
  | true =>
   rw [he]at h
   simp only [cond_true]at h
   rcases List.mem_cons.1 hx with rfl | hx
   ·exact campStp_in (eq_of_beq he)
   ·exact chk_camps l _ h x hx
theorem office_right {x:List Spot} {c:List Campaign} (hx:∀ s∈x,GoodS s) (hc:∀ s∈c,GoodC s) (h1:x.length≤30) (h2:c.length≤30) (hs:spotsF x=0) (hcf:campsF c=0):Office x c:=by
 have e1:chk Spot.Key spotStp nilS x=0:=by
  unfold spotsF at hs
  rw [decide_eq_false (by omega)]at hs; exact hs
 have e2:chk Campaign.Key campStp nilS c=0:=by
  unfold campsF at hcf
  rw [decide_eq_false (by omega)]at hcf; exact hcf
 refine⟨spotsF_0 hs,fun s hm => ?_,fun o hm => ?_,h1,by omega⟩
 ·have:=chk_room x _ e1 s hm
  exact⟨this.1,by omega,by have:=(hx s hm).2.1; omega⟩
 ·have:=chk_camps c _ e2 o hm
  exact⟨this.1,by omega,this.2.2.1,by omega,by have:=(hc o hm).2.2.1; omega⟩
theorem or0_split {a b:Int} (h:or0 a b=0):a=0∧b=0:=by
 unfold or0 at h
 cases ha:a == 0 with
 | true=>rw [ha]at h; exact⟨eq_of_beq ha,h⟩
 | false =>
  rw [ha]at h
  have h:a=0:=h
  rw [h]at ha; cases ha
section
variable {spots:List Spot} {l:List Campaign}
theorem deal_ok (h:Office spots l) (hb:booking_checkBoth spots l=some 0):∃ v,booking_most spots l=some v∧ref_greatest spots l=some v∧((v=(netOf spots l).goals ∧ ∃ x,(netOf spots l).Deal x∧(∀ i k,i < l.length→k < spots.length→Great (netOf spots l) x i k)∧booking_Deal spots l=some (shA spots l x l.length,0))∨(v < (netOf spots l).goals∧booking_Deal spots l=some ([],12))):=by
 have hsz:=size_eq (spots:=spots) (l:=l)
 have hsn:=h.sn
 have hln:=h.ln
 obtain ⟨w0,m1,m2,m3,m4⟩:=most_ok h
 obtain ⟨rows,e1,q1,n1,v,rows',e2,s2,q2,f2,v0,hv⟩:=flow0_ok h
 have:w0=v:=m4.uniq hv
 subst this
 obtain ⟨_,g2,g3,g4⟩:=goals_eq h.cr (by omega) spots
 have hle:=(least_goals (net_right h) hv).1
 have hstart:booking_Deal spots l=bif decide (w0 < (netOf spots l).goals)then some (([]:(List Share)),12)else (forL l (rows',([]:List Share),(l.length:Int)) (fun k x s=>booking_Deal_L2 spots ⟨rows,(l.length:Int)⟩ k x s)).bind fun o_31=>thenC o_31 (fun s_25=>some (s_25.2.1,0)) (fun _=>none):=by
  unfold booking_Deal
  simp only [hb,Option.bind_some,e1,n1,lenE_at rfl,e2,s2,g2]
  rfl
 refine⟨w0,m1,m2,?_⟩
 by_cases hlt:w0 < (netOf spots l).goals
 ·right
  rw [hstart,decide_eq_true hlt]
  exact⟨hlt,rfl⟩
 ·left
  have hveq:w0=(netOf spots l).goals:=by omega
  rw [hstart,decide_eq_false hlt]
  obtain ⟨d1,d2⟩:=Net.flow_deal f2 hveq
  have hres:=Net.flow_res f2 hveq
  have hst:DealSt spots l 0 0 [] (rows',([]:List Share),(l.length:Int)):=by
   refine⟨rfl,q2,_,d1,fun a b ha hb' => ?_,fun j m hj hm hp => ?_,?_⟩
   ·rw [hres a b ha hb']
    refine res_congr (fun j m _ _ => ?_) a b ha hb'
    cases hp:Net.prior 0 0 j m with
    | false=>rfl
    | true=>rw [prior_lt]at hp; omega
   ·rw [prior_lt]at hp; omega
   ·show ([]:List Share) = []++_
    split <;> rfl
  obtain ⟨s',r1,r2⟩:=forL_ix (body:=fun k x s=>booking_Deal_L2 spots ⟨rows,(l.length:Int)⟩ k x s) (fun i s=>DealSt spots l i 0 [] s) (xs:=l) (s:=(rows',([]:List Share),(l.length:Int))) (by omega) (fun i c s hc hs=>by
   unfold booking_Deal_L2
   obtain ⟨s1,p1,p2⟩:=forL_ix (body:=fun k x s=>booking_Deal_L1 c ⟨rows,(l.length:Int)⟩ i k x s) (fun k s=>DealSt spots l i k [] s) (xs:=spots) (s:=(s.1,s.2.1,s.2.2)) (by omega) (fun k sp s hk hs=>deal_L1 h (w:=⟨rows,(l.length:Int)⟩) (by show rows.length=_; exact q1.len) hc hk hs) hs
   rw [p1,Option.bind_some,thenC_go]
   refine⟨_,rfl,?_⟩
   obtain ⟨c1,c2,x,c3,c4,c5,c6⟩:=p2
   refine⟨c1,c2,x,c3,fun a b ha hb' => ?_,fun j m hj hm hp => ?_,?_⟩
   ·show at2 s1.1 a b=_
    rw [c4 a b ha hb']
    exact res_congr (fun j m _ hm=>prior_row hm) a b ha hb'
   ·exact c5 j m hj hm (by rw [prior_row (show m < spots.length from hm)]; exact hp)
   ·show s1.2.1=_
    rw [c6,hc,shA,hc]
    simp only
    split <;> simp [shC]) hst
  rw [r1]
  obtain ⟨_,_,x,x1,x2,x3,x4⟩:=r2
  refine⟨hveq,x,x1,fun i k hi hk=>x3 i k hi hk (prior_lt.2 (.inl hi)),?_⟩
  simp only [cond_false,Option.bind_some,thenC_go]
  rw [x4,List.getElem?_eq_none (Nat.le_refl _)]
  simp
end
theorem equalS_self (xs:List Share) (hl:xs.length≤1000000):slices_Equal_api_Share_api_Share xs xs=some true:=by
 unfold slices_Equal_api_Share_api_Share
 have e:((xs.length:Int) != (xs.length:Int))=false:=by simp
 rw [e]
 obtain ⟨s',h1,_⟩:=forL_ix (body:=fun k x s=>slices_Equal_api_Share_api_Share_L1 xs k x s) (fun _ _=>True) (xs:=xs) (s:=()) (by omega) (fun k x s hx _=>by
  unfold slices_Equal_api_Share_api_Share_L1
  rw [idx_nat,hx,Option.bind_some]
  refine⟨(),?_,trivial⟩
  simp) trivial
 simp only [cond_false,h1,Option.bind_some,thenC_go]
theorem dealsMade (l:List Int):law_DealsMade l=some true:=by
 obtain ⟨x,c,e,s',h1,h2,h3,h4,h5,h6,_⟩:=office_ok ⟨l,0⟩ ⟨Int.le_refl _,Int.le_refl _⟩
 have hb:=both_eq x c h2 h4 (by omega) (by omega)
 rw [← h6]at hb
 unfold law_DealsMade
 simp only [h1,Option.bind_some]
 by_cases he:e=0
 ·subst he
  obtain ⟨e1,e2⟩:=or0_split h6.symm
  have hof:=office_right h2 h4 (by omega) (by omega) e1 e2
  obtain ⟨v,m1,m2,m3⟩:=deal_ok hof hb
  obtain ⟨g1,g2,_,_⟩:=goals_eq hof.cr (by omega) x
  have hmost:booking_Most x c=some (v,0):=by
   unfold booking_Most
   simp only [hb,Option.bind_some,bne_self_eq_false,cond_false,m1]
  have hcan:booking_Can x c=some (v == (netOf x c).goals,0):=by
   unfold booking_Can
   simp only [hb,Option.bind_some,bne_self_eq_false,cond_false,m1,g2]
  have hcanof:ref_CanOf x c=some (v == (netOf x c).goals):=by
   unfold ref_CanOf
   simp only [m2,g1,Option.bind_some]
  have hmo:ref_MostOf x c=some v:=by unfold ref_MostOf; simp only [m2,Option.bind_some]
  rw [hmost,hcan]
  simp only [Option.bind_some]
  rcases m3 with⟨hv,y,y1,y2,y3⟩ | ⟨hv,y3⟩
  ·rw [y3,dealOf_ok hof y1 y2 (by rw [hcanof,hv]; simp)]
   have hlen:(shA x c y c.length).length≤1000000:=by
    have:=shA_len (spots:=x) (l:=c) (x:=y) c.length
    have:c.length * x.length≤4 * 5:=Nat.mul_le_mul h5 h3
    omega
   have hvb:(v == (netOf x c).goals)=true:=by rw [hv]; simp
   simp only [Option.bind_some,bne_self_eq_false,cond_false,hmo,beq_self_eq_true,cond_true,hvb,law_when,Bool.not_true,equalS_self _ hlen,booked_ok]
  ·have hvb:(v == (netOf x c).goals)=false:=by simp; omega
   have hdo:ref_DealOf x c=some ([],false):=by
    unfold ref_DealOf
    rw [hcanof,hvb]; rfl
   rw [y3,hdo]
   have heq:slices_Equal_api_Share_api_Share [] []=some true:=equalS_self [] (by simp)
   simp only [Option.bind_some,bne_self_eq_false,cond_false,hmo,beq_self_eq_true,cond_true,hvb,law_when,Bool.not_false,heq,booked_ok]
 ·have hne:(e != 0)=true:=by simp [he]
  have hmost:booking_Most x c=some (0,e):=by
   unfold booking_Most
   simp only [hb,Option.bind_some,hne,cond_true]
  have hcan:booking_Can x c=some (false,e):=by
   unfold booking_Can
   simp only [hb,Option.bind_some,hne,cond_true]
  have hdeal:booking_Deal x c=some ([],e):=by
   unfold booking_Deal
   simp only [hb,Option.bind_some,hne,cond_true]
  rw [hmost,hcan,hdeal]
  simp only [Option.bind_some,hne,cond_true,beq_self_eq_true,Bool.not_false,List.length_nil,booked_ok]
  rfl
end Go.Proofs.Ytipjpkpmkijdoaa.Law

