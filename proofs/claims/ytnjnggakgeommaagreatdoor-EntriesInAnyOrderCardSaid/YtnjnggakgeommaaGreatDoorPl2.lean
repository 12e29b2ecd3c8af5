/-
  THE PLAIN LAW (part 2).
-/
import Derived.Test.YtnjnggakgeommaaGreatDoorPl1
import Derived.Test.YtnjnggakgeommaaGreatDoorEng5
import Derived.Test.YtnjnggakgeommaaGreatDoorDefs
namespace Go.Eng
set_option linter.unusedVariables false
set_option linter.unusedSimpArgs false
section
variable {α:Type} {cmp:α->α->Option Int} {le:α->α->Prop} {p:α->Prop}
end
end Go.Eng

open Go Go.Eng Go.Proofs
namespace Go.Proofs.YtnjnggakgeommaaGreatDoor.Law
set_option linter.unusedVariables false
set_option linter.unusedSimpArgs false
def tQ (last:ByteArray) (x:Entry):Int:=bif sM x==0 then (bif sLe x.Key last then 7 else 0)else sM x
def mP (l:List Entry):Int:=chk (λe:Entry=>e.Key) tQ yB l
theorem entsK {l:List Entry} (h:∀e∈l,wy e) (hl:l.length<=100):cK l=some (mP l):=by
 unfold cK mP
 rw [decide_eq_false (by omega),cond_false,lF (by omega),Bb (key:=λe:Entry=>e.Key) (stp:=tQ) l l 0 rfl (λk x hx => ?_)]
 ·simp only [ob_,yP];rfl
 ·unfold dD tQ
  rw [entK x (h x (List.mem_of_getElem? hx)),ob_]
  cases he:sM x==0 with
  | false =>
   have:(sM x != 0)=true:=by simp [bne,he]
   rw [this,cond_true,cond_false]
   unfold A8;rw [he];rfl
  | true =>
   have:(sM x != 0)=false:=by simp [bne,he]
   have hk:=J3 (eq_of_beq he)
   rw [this,cond_false,cond_true]
   have h2:=Da (key:=λe:Entry=>e.Key) hx (by omega) hk
   rw [h2,ob_]
   cases sLe x.Key (ww (λe:Entry=>e.Key) l k) <;> rfl
theorem vT:∀(l:List Entry) (last:ByteArray),chk (λe:Entry=>e.Key) tQ last l=0->(∀e∈l,sM e=0/\lt last e.Key)/\l.Pairwise (λa b=>lt a.Key b.Key)
 | [],last,_=>⟨λe he=>(by cases he),.nil⟩
 | x::xs,last,h=>by
  unfold chk at h
  cases h0:tQ last x==0 with
  | false=>rw [h0,cond_false]at h;rw [h]at h0;cases h0
  | true =>
   rw [h0,cond_true]at h
   obtain ⟨i1,i2⟩:=vT xs x.Key h
   have h0:=eq_of_beq h0
   unfold tQ at h0
   cases he:sM x==0 with
   | false=>rw [he,cond_false]at h0;rw [h0]at he;cases he
   | true =>
    rw [he,cond_true]at h0
    have hlt:lt last x.Key:=by
     cases hs:sLe x.Key last with
     | true=>rw [hs]at h0;cases h0
     | false =>
      rcases Hd last x.Key with q|q|q
      ·exact q
      ·have:=(xX x.Key last).2 (by rw [q];exact tX _)
       rw [hs]at this;cases this
      ·have:=(xX x.Key last).2 (λk=>tX _ (lt_trans q k))
       rw [hs]at this;cases this
    refine⟨λe hm => ?_,List.pairwise_cons.2 ⟨λe hm=>(i1 e hm).2,i2⟩⟩
    rcases List.mem_cons.1 hm with rfl|hm
    ·exact⟨eq_of_beq he,hlt⟩
    ·exact⟨(i1 e hm).1,lt_trans hlt (i1 e hm).2⟩
theorem Jq {α:Type} {R:α->α->Prop} (has:∀a b,R a b->¬R b a) {a b:List α} (h:a.Perm b) (ha:a.Pairwise R) (hb:b.Pairwise R):a=b :=
 List.Perm.eq_of_pairwise (λx y _ _ h1 h2=>absurd h2 (has x y h1)) ha hb h
end Go.Proofs.YtnjnggakgeommaaGreatDoor.Law

open Go Go.Eng Go.Proofs
namespace Go.Proofs.YtnjnggakgeommaaGreatDoor.Law
set_option linter.unusedVariables false
set_option linter.unusedSimpArgs false
section
variable {K T:Type} {eq:K->K->Bool}
theorem Dc (e:K×T) (es:List (K×T)) (k:K):bZ eq (e::es) k=if eq k e.1=true then some e.2 else bZ eq es k:=by
 unfold bZ
 rw [yM]
 by_cases h:eq k e.1=true
 ·rw [if_pos h,if_pos h];rfl
 ·rw [if_neg h,if_neg h]
  cases yM eq k es with
  | none=>rfl
  | some j=>rfl
theorem JB (e:K×T) (es:List (K×T)) (k:K) (v:T):CP eq (e::es) k v=if eq k e.1=true then (k,v)::es else e::CP eq es k v:=by
 unfold CP
 rw [yM]
 by_cases h:eq k e.1=true
 ·rw [if_pos h,if_pos h];rfl
 ·rw [if_neg h,if_neg h]
  cases yM eq k es with
  | none=>rfl
  | some j=>rfl
end
theorem leB_tr (a b c:List UInt8) (h:leB a b=true) (k:leB b c=true):leB a c=true:=by
 simp only [leB,decide_eq_true_eq]at *;exact List.le_trans h k
theorem leB_to (a b:List UInt8):(leB a b||leB b a)=true:=by
 simp only [leB,Bool.or_eq_true,decide_eq_true_eq];exact List.le_total a b
theorem Ko {β:Type} {es:List (ByteArray×β)} (hl:es.length<=1000000) (hs:∀e∈es,e.1.size<=1000000) (hn:es.Pairwise (λa b=>a.1≠b.1)) :
  ∃ks,DX es=some ks/\ks.Perm (es.map (·.1))/\ks.Pairwise lt:=by
 have h1:es.length<=1000000000/\es.all (λe=>decide (e.1.size<=1000000000))=true:=⟨by omega,List.all_eq_true.2 λe he=>decide_eq_true (by have:=hs e he;omega)⟩
 have hp:=List.mergeSort_perm (es.map λe=>e.1.data.toList) leB
 have hso:=List.pairwise_mergeSort (le:=leB) leB_tr leB_to (es.map λe=>e.1.data.toList)
 have hnd:(es.map λe=>e.1.data.toList).Pairwise (· ≠ ·):=List.pairwise_map.2 (hn.imp λ{a b} h k=>h (Ar (by rw [toL,toL];exact k)))
 have hnd2:((es.map λe=>e.1.data.toList).mergeSort leB).Pairwise (· ≠ ·):=(hp.pairwise_iff (λh k=>h k.symm)).2 hnd
 refine⟨_,by unfold DX;rw [if_pos h1],?_,?_⟩
 ·refine (hp.map λl=>(⟨l.toArray⟩:ByteArray)).trans (List.Perm.of_eq ?_)
  rw [List.map_map];rfl
 ·refine List.pairwise_map.2 (List.Pairwise.imp₂ (λa b h k => ?_) hso hnd2)
  unfold lt
  rw [toL,toL]
  simp only [leB,decide_eq_true_eq]at h
  rcases List.le_iff_lt_or_eq.1 h with q|q
  ·exact q
  ·exact absurd q k
theorem eqS_eq {a b:ByteArray} (h:(a==b)=true):a=b:=by
 have h':(a.data==b.data)=true:=h
 have:=eq_of_beq h'
 cases a;cases b;simp at this;rw [this]
theorem vw (a b:ByteArray):eqS a b=true↔a=b:=⟨eqS_eq,λh=>by
 rw [h]
 show (b.data==b.data)=true
 simp⟩
theorem DC {α:Type} {L:Nat->ByteArray->List α->Option (Ctl (List α) Unit)} {g:ByteArray->α}:∀(ks:List ByteArray) (k:Nat) (out:List α),out.length+ks.length<=1000000->(∀k x out,x∈ks->out.length<=1000000->L k x out=(ji out [g x]).bind λa=>some (.go a)) ->
  forR (λk x s=>L k x s) ks k out=some (.go (out++ks.map g))
 | [],k,out,_,_=>by simp [forR]
 | x::ks,k,out,hl,h=>by
  simp only [List.length_cons]at hl
  have hs:L k x out=(some (.go (out++[g x])):Option (Ctl (List α) Unit)):=by
   rw [h k x out (by simp) (by omega),ji,if_pos (by simp;omega)];rfl
  simp only [forR,hs,ob_]
  rw [DC ks (k+1) _ (by simp;omega) (λk y o hy ho=>h k y o (List.mem_cons_of_mem _ hy) ho)]
  simp
theorem get_mem {β:Type} {es:List (ByteArray×β)} (hn:es.Pairwise (λa b=>a.1≠b.1)) {e:ByteArray×β} (he:e∈es):bZ eqS es e.1=some e.2:=by
 induction es with
 | nil=>cases he
 | cons x es ih =>
  obtain ⟨p1,p2⟩:=List.pairwise_cons.1 hn
  rw [Dc]
  rcases List.mem_cons.1 he with rfl|he
  ·have:eqS e.1 e.1=true:=(vw _ _).2 rfl
   rw [if_pos this]
  ·have:¬eqS e.1 x.1=true:=λh=>p1 e he ((vw _ _).1 h).symm
   rw [if_neg this]
   exact ih p2 he
end Go.Proofs.YtnjnggakgeommaaGreatDoor.Law

open Go Go.Eng Go.Proofs
namespace Go.Proofs.YtnjnggakgeommaaGreatDoor.Law
set_option linter.unusedVariables false
set_option linter.unusedSimpArgs false
def RE (e:Entry):Prop:=wy e/\sM e=0
theorem GQ {e:Entry} (h:sM e=0):PosE e/\MedE e:=by
 unfold sM at h
 cases hk:(!oD e.Key || !oD e.Item)with
 | true=>rw [hk]at h;cases h
 | false =>
 rw [hk,cond_false]at h
 cases hb:(iy e.Version 0 1000000||(iy e.First 0 e.Last||(decide (e.Last>4000)||(iy e.Every 1 400||iy e.Days 1 127))))with
 | true=>rw [hb]at h;cases h
 | false =>
 rw [hb,cond_false]at h
 simp only [Bool.or_eq_false_iff,decide_eq_false_iff_not,Bool.not_eq_false']at hb hk
 cases hx:exF e.Except==0 with
 | false=>rw [hx,cond_false]at h;rw [h]at hx;cases hx
 | true =>
 rw [hx,cond_true]at h
 cases hc:(iy e.From 0 1439||(iy e.To 0 1439||iy e.Prio 0 9))with
 | true=>rw [hc]at h;cases h
 | false =>
 simp only [Bool.or_eq_false_iff]at hc
 have h1:=uH hb.1
 have h2:=uH hb.2.1
 have h3:=hb.2.2.1
 have h4:=uH hb.2.2.2.1
 have h5:=uH hb.2.2.2.2
 have h6:=uH hc.1
 have h7:=uH hc.2.1
 have h8:=uH hc.2.2
 have hb:∀n∈sV e,0<=n/\n<=1000000000000000:=λn hn=>by
  simp only [sV,List.mem_cons,List.not_mem_nil,or_false]at hn
  rcases hn with rfl|rfl|rfl|rfl|rfl|rfl|rfl|rfl <;> omega
 exact⟨⟨hk.1,hk.2,λn hn=>(hb n hn).1⟩,λn hn=>⟨by have:=(hb n hn).1;omega,(hb n hn).2⟩⟩
theorem sameK {a b:Entry} (ha:RE a):jG a b=some (decide (a=b)):=JV a b ⟨by have:=ha.1.2.2.1;omega,by have:=ha.1.2.2.2.1;omega⟩
theorem sameR {a b:Entry} (ha:RE a) (hb:RE b):lw a b=some (decide (a=b)):=by
 obtain ⟨pa,ma⟩:=GQ ha.2
 obtain ⟨pb,mb⟩:=GQ hb.2
 unfold lw
 rw [IX ha.1.1 ha.1.2.1 ma,IX hb.1.1 hb.1.2.1 mb]
 simp only [ob_]
 rw [DT _ _ (by have:=ha.1.2.2.1;omega),DU _ _ (by have:=ha.1.2.2.2.1;omega)]
 simp only [ob_]
 rw [qB _ (qB _ rfl),ob_,Er]
 congr 1
 rw [Bool.eq_iff_iff]
 simp only [Bool.and_eq_true,decide_eq_true_eq]
 constructor
 ·rintro ⟨h1,h2,h3⟩
  obtain ⟨q1,q2,q3,q4⟩:=Jz (a:=⟨a.Key,a.Item,a.Version,a.First,a.Last,a.Every,a.Days,[],a.From,a.To,a.Prio,[],a.Gone⟩) (b:=⟨b.Key,b.Item,b.Version,b.First,b.Last,b.Every,b.Days,[],b.From,b.To,b.Prio,[],b.Gone⟩) pa pb (sb_inj h1)
  obtain ⟨a1,a2,a3,a4,a5,a6,a7,a8,a9,a10,a11,a12,a13⟩:=a
  obtain ⟨b1,b2,b3,b4,b5,b6,b7,b8,b9,b10,b11,b12,b13⟩:=b
  simp only [sV,List.cons.injEq,and_true]at q1 q2 q3 q4 h2 h3
  obtain ⟨r1,r2,r3,r4,r5,r6,r7,r8⟩:=q3
  subst q1 q2 q4 h2 h3 r1 r2 r3 r4 r5 r6 r7 r8
  rfl
 ·rintro rfl
  exact⟨rfl,rfl,rfl⟩
def jI (k:ByteArray):List Entry->Option Nat
 | []=>none
 | x::xs=>if k=x.Key then some 0 else (jI k xs).map (· + 1)
theorem vO {k:ByteArray}:∀{l:List Entry} {i:Nat},jI k l=some i->∃h:i<l.length,l[i].Key=k
 | [],_,h=>by cases h
 | x::xs,i,h=>by
  unfold jI at h
  split at h
  ·rename_i e
   simp only [so_]at h
   subst h
   exact⟨by simp,e.symm⟩
  ·obtain ⟨j,hj,rfl⟩:=Option.map_eq_some_iff.1 h
   obtain ⟨h1,h2⟩:=vO hj
   exact⟨by simpa using h1,by simpa using h2⟩
theorem uG {k:ByteArray}:∀{l:List Entry},jI k l=none->∀x∈l,x.Key≠k
 | [],_,_,hx=>by cases hx
 | y::ys,h,x,hx=>by
  unfold jI at h
  split at h
  ·cases h
  ·rename_i e
   rcases List.mem_cons.1 hx with rfl|hx
   ·exact λhh=>e hh.symm
   ·exact uG (Option.map_eq_none_iff.1 h) x hx
theorem Dt {k:ByteArray}:∀{l:List Entry},(∀x∈l,x.Key≠k)->jI k l=none
 | [],_=>rfl
 | y::ys,h=>by
  unfold jI
  rw [if_neg (λe=>h y (by simp) e.symm),Dt (λx hx=>h x (List.mem_cons_of_mem _ hx))]
  rfl
def zZ (out:List Entry) (x:Entry):Option (List Entry):=match jI x.Key out with
 | none=>some (out++[x])
 | some i=>match out[i]? with
  | none=>none
  | some o=>if o.Version=x.Version/\o≠x then none else if o.Version<x.Version then some (out.set i x)else some out
def jT:List Entry->List Entry->Option (List Entry)
 | out,[]=>some out
 | out,x::xs=>(zZ out x).bind λo=>jT o xs
def kS (e:Entry):ByteArray×Entry:=(e.Key,e)
theorem mGetE (k:ByteArray):∀out:List Entry,bZ eqS (out.map kS) k=(jI k out).bind λi=>out[i]?
 | []=>rfl
 | x::xs=>by
  rw [List.map_cons,Dc,jI,show (kS x).1=x.Key from rfl,show (kS x).2=x from rfl]
  by_cases h:k=x.Key
  ·rw [if_pos ((vw _ _).2 h),if_pos h];rfl
  ·rw [if_neg (λq=>h ((vw _ _).1 q)),if_neg h,mGetE k xs]
   cases jI k xs <;> simp
theorem mSetE (x:Entry):∀out:List Entry,CP eqS (out.map kS) x.Key x=(match jI x.Key out with | none=>out++[x] | some i=>out.set i x).map kS
 | []=>rfl
 | y::ys=>by
  rw [List.map_cons,JB,jI,show (kS y).1=y.Key from rfl]
  by_cases h:x.Key=y.Key
  ·rw [if_pos ((vw _ _).2 h),if_pos h];rfl
  ·rw [if_neg (λq=>h ((vw _ _).1 q)),if_neg h,mSetE x ys]
   cases jI x.Key ys <;> simp [kS]
def Hw (o:Option (List Entry)) {σ:Type} (f:List Entry->σ):Ctl σ (List Entry×Int):=match o with
 | none => .ret ([],13)
 | some l => .go (f l)
theorem JW {out:List Entry} {x:Entry} (hx:RE x) (ho:∀o∈out,RE o) (k:Nat):fG k x (out.map kS)=some (Hw (zZ out x) (List.map kS)):=by
 unfold fG zZ
 have hs:=mSetE x out
 simp only [mGetE]
 cases hk:jI x.Key out with
 | none =>
  rw [hk]at hs
  simp only [Option.bind_none,Option.isSome_none,cond_false,ob_,Bool.not_false,cond_true,hs]
  rfl
 | some i =>
  obtain ⟨hi,hk2⟩:=vO hk
  rw [hk]at hs
  simp only [ob_,List.getElem?_eq_getElem hi,Option.isSome_some,cond_true,Option.getD_some,Bool.not_true,cond_false,sameK (ho _ (List.getElem_mem hi)),hs]
  by_cases hv:out[i].Version=x.Version
  ·have e1:(out[i].Version==x.Version)=true:=by simpa using hv
   have e2:decide (x.Version>out[i].Version)=false:=by simp;omega
   rw [e1,cond_true,ob_]
   by_cases he:out[i]=x
   ·simp only [he,decide_true,Bool.not_true,ob_,cond_false,ne_eq,not_true_eq_false,and_false,if_false,Hw]
    have:decide (x.Version>x.Version)=false:=by simp
    rw [this,if_neg (by omega)];rfl
   ·have e3:decide (out[i]=x)=false:=by simpa using he
    simp only [e3,Bool.not_false,ob_,cond_true]
    rw [if_pos ⟨hv,he⟩];rfl
  ·have e1:(out[i].Version==x.Version)=false:=by simpa using hv
   rw [e1,cond_false,if_neg (λh=>hv h.1)]
   by_cases hl:out[i].Version<x.Version
   ·have e2:decide (x.Version>out[i].Version)=true:=by simp;omega
    rw [if_pos hl]
    simp only [e2,ob_,cond_false,cond_true]
    rfl
   ·have e2:decide (x.Version>out[i].Version)=false:=by simp;omega
    rw [if_neg hl]
    simp only [e2,ob_,cond_false]
    rfl
end Go.Proofs.YtnjnggakgeommaaGreatDoor.Law

open Go Go.Eng
namespace Go.Proofs.YtnjnggakgeommaaGreatDoor.Law
set_option linter.unusedVariables false
set_option linter.unusedSimpArgs false
theorem IL {α σ ρ:Type} {body:Nat->α->σ->Option (Ctl σ ρ)} (I:Nat->σ->Prop) (xs:List α):∀(l:List α) (k:Nat) (s:σ),xs.drop k=l->k<=xs.length->(∀k x s,xs[k]? = some x->I k s->∃s',body k x s=some (.go s')/\I (k+1) s')->I k s->∃s',forR body l k s=some (.go s')/\I xs.length s'
 | [],k,s,hd,hk,h,hi=>by
  have:=List.drop_eq_nil_iff.1 hd
  obtain rfl:k=xs.length:=by omega
  exact⟨s,rfl,hi⟩
 | x::l,k,s,hd,hk,h,hi=>by
  obtain ⟨s1,h1,h2⟩:=h k x s (CF hd) hi
  obtain ⟨s2,h3,h4⟩:=IL I xs l (k+1) s1 (aR hd) (by have:=Aw hd;omega) h h2
  exact⟨s2,by rw [forR,h1,ob_];exact h3,h4⟩
theorem Al {α σ ρ:Type} {body:Nat->α->σ->Option (Ctl σ ρ)} (I:Nat->σ->Prop) {xs:List α} {s:σ} (hl:xs.length<=1000000000000) (h:∀k x s,xs[k]? = some x->I k s->∃s',body k x s=some (.go s')/\I (k+1) s') (h0:I 0 s):∃s',forL xs s body=some (.go s')/\I xs.length s':=by
 rw [lF hl]
 exact IL I xs xs 0 s rfl (Nat.zero_le _) h h0
end Go.Proofs.YtnjnggakgeommaaGreatDoor.Law

open Go Go.Eng Go.Proofs
namespace Go.Proofs.YtnjnggakgeommaaGreatDoor.Law
set_option linter.unusedVariables false
set_option linter.unusedSimpArgs false
def KN (l:List Entry):Prop:=(l.map (·.Key)).Nodup
theorem Eb {out:List Entry} {x:Entry} (hx:RE x) (ho:∀o∈out,RE o) (hn:KN out) {r:List Entry} (h:zZ out x=some r):(∀o∈r,RE o)/\r.length<=out.length+1/\KN r:=by
 unfold zZ at h
 cases hk:jI x.Key out with
 | none =>
  rw [hk]at h
  simp only [so_]at h
  subst h
  refine⟨λo ho' => ?_,by simp,?_⟩
  ·rcases List.mem_append.1 ho' with h1|h1
   ·exact ho o h1
   ·simp only [List.mem_singleton]at h1;rw [h1];exact hx
  ·unfold KN
   rw [List.map_append,List.nodup_append]
   refine⟨hn,by simp,λa ha b hb => ?_⟩
   simp only [List.map_cons,List.map_nil,List.mem_singleton]at hb
   obtain ⟨y,hy,rfl⟩:=List.mem_map.1 ha
   rw [hb]
   exact uG hk y hy
 | some i =>
  rw [hk]at h
  obtain ⟨hi,hk2⟩:=vO hk
  simp only [List.getElem?_eq_getElem hi]at h
  split at h
  ·cases h
  ·split at h
   ·simp only [so_]at h
    subst h
    refine⟨λo ho' => ?_,by simp,?_⟩
    ·rcases List.mem_or_eq_of_mem_set ho' with h1|h1
     ·exact ho o h1
     ·rw [h1];exact hx
    ·unfold KN
     have:(out.set i x).map (·.Key)=out.map (·.Key):=by
      rw [List.map_set]
      refine List.ext_getElem (by simp) (λj h1 h2 => ?_)
      rw [List.getElem_set]
      split
      ·rename_i e;subst e;simp [hk2]
      ·rfl
     rw [this];exact hn
   ·simp only [so_]at h
    subst h
    exact⟨ho,by omega,hn⟩
theorem DD:∀(xs:List Entry) (out:List Entry),(∀x∈xs,RE x)->(∀o∈out,RE o)->KN out->∀{r:List Entry},jT out xs=some r->(∀o∈r,RE o)/\r.length<=out.length+xs.length/\KN r
 | [],out,_,ho,hn,r,h=>by
  simp only [jT,so_]at h
  subst h
  exact⟨ho,by simp,hn⟩
 | x::xs,out,hx,ho,hn,r,h=>by
  simp only [jT,Option.bind_eq_some_iff]at h
  obtain ⟨o1,h1,h2⟩:=h
  obtain ⟨k1,k2,k3⟩:=Eb (hx x (by simp)) ho hn h1
  obtain ⟨m1,m2,m3⟩:=DD xs o1 (λy hy=>hx y (List.mem_cons_of_mem _ hy)) k1 k3 h2
  exact⟨m1,by simp only [List.length_cons];omega,m3⟩
theorem BV {σ:Type} {B:Nat->Entry->σ->Option (Ctl σ (List Entry×Int))} (f:List Entry->σ) (hB:∀k x out,RE x->(∀o∈out,RE o)->out.length<=1000->B k x (f out)=some (Hw (zZ out x) f)):∀(xs:List Entry) (k:Nat) (out:List Entry),(∀x∈xs,RE x)->(∀o∈out,RE o)->KN out->out.length+xs.length<=1000 ->
  forR B xs k (f out)=some (Hw (jT out xs) f)
 | [],k,out,_,_,_,_=>rfl
 | x::xs,k,out,hx,ho,hn,hl=>by
  simp only [List.length_cons]at hl
  simp only [forR,hB k x out (hx x (by simp)) ho (by omega),ob_,jT]
  cases ha:zZ out x with
  | none=>rfl
  | some o1 =>
   obtain ⟨k1,k2,k3⟩:=Eb (hx x (by simp)) ho hn ha
   simp only [Hw,ob_]
   exact BV f hB xs (k+1) o1 (λy hy=>hx y (List.mem_cons_of_mem _ hy)) k1 k3 (by omega)
theorem zF:∀(xs out:List Entry),KN (out++xs)->jT out xs=some (out++xs)
 | [],out,_=>by simp [jT]
 | x::xs,out,h=>by
  have h1:jI x.Key out=none:=Dt λy hy=>by
   unfold KN at h
   rw [List.map_append,List.nodup_append]at h
   exact h.2.2 _ (List.mem_map.2 ⟨y,hy,rfl⟩) _ (by simp)
  have h2:zZ out x=some (out++[x]):=by unfold zZ;rw [h1]
  simp only [jT,h2,ob_]
  rw [zF xs (out++[x]) (by simpa using h)]
  simp
theorem CB:∀(xs ys out:List Entry),jT out (xs++ys)=(jT out xs).bind λo=>jT o ys
 | [],ys,out=>rfl
 | x::xs,ys,out=>by
  simp only [List.cons_append,jT]
  cases zZ out x with
  | none=>rfl
  | some o=>simp only [ob_];exact CB xs ys o
theorem JL (a b:List Entry) (ha:a.length<=1000) (hb:b.length<=1000):bX [a,b]=some (a++b):=by
 unfold bX
 have e1:forL [a,b] 0 (λk x s=>aW k x s)=some (.go (((a.length+b.length:Nat)):Int)):=by
  rw [lF (by simp)]
  have q1:∀k,aW k a 0=some (.go (a.length:Int)):=λk=>by
   unfold aW
   rw [show (0:Int)+(a.length:Int)=(a.length:Int) by omega,jL (by omega),decide_eq_false (by omega)];rfl
  have q2:∀k,aW k b (a.length:Int)=some (.go ((a.length+b.length:Nat):Int)):=λk=>by
   unfold aW
   rw [jL (by omega),decide_eq_false (by omega)]
   simp
  simp only [forR,q1,q2,ob_]
 have e2:∃g,bW (((a.length+b.length:Nat)):Int)=some g:=by
  unfold bW
  have q:w64 ((((a.length+b.length:Nat)):Int)-w64 (0-0))=((a.length+b.length:Nat):Int):=by
   rw [jL (n:=0-0) (by decide),jL (by omega)];omega
  rw [decide_eq_false (by omega),cond_false,q]
  by_cases h:(((a.length+b.length:Nat)):Int)>0
  ·rw [decide_eq_true h,cond_true]
   have:zN (((a.length+b.length:Nat)):Int) 152=some ():=by unfold zN;rw [if_pos ⟨h,by omega,by omega⟩]
   rw [this];exact⟨_,rfl⟩
  ·rw [decide_eq_false h];exact⟨_,rfl⟩
 obtain ⟨g,e2⟩:=e2
 have e3:forL [a,b] ([]:List Entry) (λk x s=>aV k x s)=some (.go (a++b)):=by
  rw [lF (by simp)]
  have q1:∀k,aV k a []=some (.go a):=λk=>by
   unfold aV
   rw [pq _ _ (by simp;omega)];rfl
  have q2:∀k,aV k b a=some (.go (a++b)):=λk=>by
   unfold aV
   rw [pq _ _ (by omega)];rfl
  simp only [forR,q1,q2,ob_]
 simp only [e1,e2,e3,ob_,nQ]
theorem KC (e:Entry) (h:wy e):j6 e=some e:=by
 unfold j6 iI fF
 rw [pq _ _ (by have:=h.2.2.1;simp;omega),pq _ _ (by have:=h.2.2.2.1;simp;omega)]
 simp
theorem F6 {out:List Entry} (ho:∀o∈out,RE o) (hn:KN out) (hl:out.length<=1000):∃r ks,DX (out.map kS)=some ks/\forL ks ([]:List Entry) (λk x s=>fE (out.map kS) k x s)=some (.go r)/\r.Perm out/\r.Pairwise (λa b=>lt a.Key b.Key):=by
 have hpw:(out.map kS).Pairwise (λa b=>a.1≠b.1):=List.pairwise_map.2 (List.pairwise_map.1 hn)
 obtain ⟨ks,k1,k2,k3⟩:=Ko (es:=out.map kS) (by simp;omega) (λe he=>by
  obtain ⟨o,ho',rfl⟩:=List.mem_map.1 he
  have:=(ho o ho').1.1
  unfold rW at this
  show o.Key.size<=_
  omega) hpw
 rw [List.map_map]at k2
 let g:ByteArray->Entry:=λk=>(bZ eqS (out.map kS) k).getD (⟨(⟨#[]⟩:ByteArray),(⟨#[]⟩:ByteArray),0,0,0,0,0,([]:List Int),0,0,0,([]:List ByteArray),false⟩:Entry)
 have hg:∀o∈out,g o.Key=o:=λo ho'=>by
  have:=get_mem hpw (List.mem_map.2 ⟨o,ho',rfl⟩:kS o∈out.map kS)
  have e:bZ eqS (out.map kS) o.Key=some o:=this
  simp only [g,e,Option.getD_some]
 have hmem:∀k∈ks,∃o∈out,o.Key=k:=λk hk=>by
  obtain ⟨o,h1,h2⟩:=List.mem_map.1 (k2.mem_iff.1 hk)
  exact⟨o,h1,h2⟩
 have hgood:∀k∈ks,wy (g k):=λk hk=>by
  obtain ⟨o,h1,rfl⟩:=hmem k hk
  rw [hg o h1];exact (ho o h1).1
 have hlen:ks.length=out.length:=by rw [k2.length_eq];simp
 have hrun:=DC (L:=λk x s=>fE (out.map kS) k x s) (g:=g) ks 0 [] (by simp;omega) (λk x o hx hol=>by
  show fE (out.map kS) k x o=_
  unfold fE
  rw [KC _ (hgood x hx)]
  rfl)
 have hp:(ks.map g).Perm out:=by
  refine (k2.map g).trans (List.Perm.of_eq ?_)
  rw [List.map_map]
  exact (List.map_congr_left λo ho'=>hg o ho').trans (List.map_id _)
 have hkey:∀k∈ks,(g k).Key=k:=λk hk=>by
  obtain ⟨o,h1,rfl⟩:=hmem k hk
  rw [hg o h1]
 exact⟨ks.map g,ks,k1,by rw [lF (by omega),hrun,List.nil_append],hp,List.pairwise_map.2 (k3.imp_of_mem λha hb h=>by rw [hkey _ ha,hkey _ hb];exact h)⟩
theorem kn_of {l:List Entry} (h:mP l=0):KN l:=by
 have:=(vT l yB h).2
 exact List.pairwise_map.2 (this.imp λ{a b} h k=>by rw [k]at h;exact tX _ h)
theorem re_of {l:List Entry} (hg:∀e∈l,wy e) (h:mP l=0):∀e∈l,RE e:=λe he=>⟨hg e he,((vT l yB h).1 e he).1⟩
theorem checks {a b:List Entry} (ha:∀e∈a,wy e) (hb:∀e∈b,wy e) (la:a.length<=100) (lb:b.length<=100) :
  forL (List.range (2:Int).toNat) () (λk x s=>eB a b k x s)=some (bif mP a==0 then (bif mP b==0 then .go ()else .ret ([],mP b))else .ret ([],mP a)):=by
 have q1:∀x,eB a b 0 x ()=some (bif mP a != 0 then .ret ([],mP a)else .go ()):=λx=>by
  unfold eB
  have:idx ([a,b]:List (List Entry)) ((0:Nat):Int)=some a:=rfl
  rw [this,ob_,entsK ha la,ob_]
  cases mP a != 0 <;> rfl
 have q2:∀x,eB a b (0+1) x ()=some (bif mP b != 0 then .ret ([],mP b)else .go ()):=λx=>by
  unfold eB
  have:idx ([a,b]:List (List Entry)) ((0+1:Nat):Int)=some b:=rfl
  rw [this,ob_,entsK hb lb,ob_]
  cases mP b != 0 <;> rfl
 have er:List.range (2:Int).toNat=[0,1]:=rfl
 rw [er,lF (by simp)]
 simp only [forR,q1,ob_,bne]
 cases mP a==0 with
 | false=>rfl
 | true =>
  simp only [Bool.not_true,cond_false,cond_true,q2,ob_,bne]
  cases mP b==0 <;> rfl
theorem Fx {r:List Entry} (h:∀x∈r,RE x) (hl:r.length<=1000):aQ r r=some true:=by
 unfold aQ
 have e1:((r.length:Int) != (r.length:Int))=false:=by simp
 obtain ⟨s,s1,_⟩:=Al (body:=λk x s=>aP r k x s) (ρ:=Bool) (λ_ _=>True) (xs:=r) (s:=()) (by omega) (λk x s hx _=>by
  refine⟨(),?_,trivial⟩
  unfold aP
  have hx':=List.mem_of_getElem? hx
  rw [AJ,hx,ob_,sameR (h x hx') (h x hx')]
  simp) trivial
 rw [e1,cond_false,s1];rfl
end Go.Proofs.YtnjnggakgeommaaGreatDoor.Law

open Go Go.Eng Go.Proofs
namespace Go.Proofs.YtnjnggakgeommaaGreatDoor.Law
set_option linter.unusedVariables false
set_option linter.unusedSimpArgs false
theorem KD {α:Type} {L:Nat->α->(List α×List Int×Int)->Option (Ctl (List α×List Int×Int) Unit)} {n:Int} (hn:1<=n) (hn2:n<=1000)
  (hL:∀k x s,L k x s=(dK (⟨s.2.1,s.2.2⟩:Stream) n).bind λr=>(bif r.1 then (ji s.1 ([x]:List α)).bind λa=>some a else some s.1).bind λv=>some (.go (v,r.2.L,r.2.f_at)))
  {xs:List α} (hl:xs.length<=10) (s:Stream) {b:Int} (hs:Ok s b) (hb:b<=900000) :
  ∃t s',forL xs (([]:List α),s.L,s.f_at) (λk x s=>L k x s)=some (.go (t,s'.L,s'.f_at))/\Ok s' (b+10)/\t.Sublist xs:=by
 obtain ⟨t,t1,t2,t3⟩:=Al (body:=λk x s=>L k x s) (xs:=xs) (s:=(([]:List α),s.L,s.f_at)) (λk t=>t.1.Sublist (xs.take k)/\Ok ⟨t.2.1,t.2.2⟩ (b+k)) (by omega) (λk x t hx ⟨i1,i2⟩=>by
  have hk:k<xs.length:=(List.getElem?_eq_some_iff.1 hx).1
  have et:xs.take (k+1)=xs.take k++[x]:=by rw [List.take_add_one,hx];rfl
  have hlen:t.1.length<=10:=Nat.le_trans i1.length_le (by rw [List.length_take];omega)
  obtain ⟨f,s1,c1,c2⟩:=xG _ n i2 (by omega) hn hn2
  simp only [hL,c1,ob_]
  cases f with
  | true =>
   simp only [cond_true,pq t.1 [x] (by simp;omega),ob_]
   exact⟨_,rfl,by rw [et];exact i1.append (List.Sublist.refl _),c2.mono (by omega)⟩
  | false =>
   simp only [cond_false,ob_]
   exact⟨_,rfl,by rw [et];exact i1.trans (List.sublist_append_left _ _),c2.mono (by omega)⟩) ⟨List.Sublist.refl _,hs.mono (by simp)⟩
 exact⟨t.1,⟨t.2.1,t.2.2⟩,t1,t3.mono (by omega),by simpa using t2⟩
def keL:List ByteArray:=[(⟨#[101,97]⟩:ByteArray),(⟨#[101,98]⟩:ByteArray),(⟨#[101,99]⟩:ByteArray),(⟨#[101,100]⟩:ByteArray)]
def itL:List ByteArray:=[(⟨#[105,97]⟩:ByteArray),(⟨#[105,98]⟩:ByteArray),(⟨#[105,99]⟩:ByteArray)]
def tgL:List ByteArray:=[(⟨#[99,105,116,121]⟩:ByteArray),(⟨#[109,97,108,108]⟩:ByteArray)]
theorem Jf:∀k∈keL,oD k=true/\Nat.ble k.size 1000=true:=by
 intro k hk
 simp only [keL,List.mem_cons,List.not_mem_nil,or_false]at hk
 rcases hk with rfl|rfl|rfl|rfl <;> exact⟨by kernel_rfl,rfl⟩
theorem itL_key:∀k∈itL,oD k=true/\Nat.ble k.size 1000=true:=by
 intro k hk
 simp only [itL,List.mem_cons,List.not_mem_nil,or_false]at hk
 rcases hk with rfl|rfl|rfl <;> exact⟨by kernel_rfl,rfl⟩
theorem KF:keL.Pairwise lt:=by
 have h:∀a b:ByteArray,sLt a b=true->lt a b:=λa b=>(EU a b).1
 unfold keL
 refine .cons (λx hx => ?_) (.cons (λx hx => ?_) (.cons (λx hx => ?_) (.cons (λx hx=>(by cases hx)) .nil)))
 all_goals
  simp only [List.mem_cons,List.not_mem_nil,or_false]at hx
 ·rcases hx with rfl|rfl|rfl <;> exact h _ _ (by kernel_rfl)
 ·rcases hx with rfl|rfl <;> exact h _ _ (by kernel_rfl)
 ·rcases hx with rfl;exact h _ _ (by kernel_rfl)
theorem ex_0 {t:List Int} (h:t.Sublist [1,2,8]):exF t=0:=by
 cases h with
 | cons _ h=>cases h with
  | cons _ h=>cases h with
   | cons _ h=>cases h;rfl
   | cons_cons _ h=>cases h;rfl
  | cons_cons _ h=>cases h with
   | cons _ h=>cases h;rfl
   | cons_cons _ h=>cases h;rfl
 | cons_cons _ h=>cases h with
  | cons _ h=>cases h with
   | cons _ h=>cases h;rfl
   | cons_cons _ h=>cases h;rfl
  | cons_cons _ h=>cases h with
   | cons _ h=>cases h;rfl
   | cons_cons _ h=>cases h;rfl
theorem tg_0 {t:List ByteArray} (h:t.Sublist tgL):Iw t=0:=by
 cases h with
 | cons _ h=>cases h with
  | cons _ h=>cases h;kernel_rfl
  | cons_cons _ h=>cases h;kernel_rfl
 | cons_cons _ h=>cases h with
  | cons _ h=>cases h;kernel_rfl
  | cons_cons _ h=>cases h;kernel_rfl
theorem KV {t:List ByteArray} (h:t.Sublist tgL):t.length<=2/\∀x∈t,rW x:=by
 refine⟨h.length_le,λx hx => ?_⟩
 have:=h.subset hx
 simp only [tgL,List.mem_cons,List.not_mem_nil,or_false]at this
 rcases this with rfl|rfl <;> exact yV rfl
theorem yT:∀(l:List Entry) (last:ByteArray),(∀e∈l,sM e=0/\lt last e.Key)->l.Pairwise (λa b=>lt a.Key b.Key)->chk (λe:Entry=>e.Key) tQ last l=0
 | [],_,_,_=>rfl
 | x::xs,last,h,hp=>by
  obtain ⟨h1,h2⟩:=h x List.mem_cons_self
  have hs:sLe x.Key last=false:=by
   cases hs:sLe x.Key last with
   | false=>rfl
   | true=>exact absurd h2 ((xX _ _).1 hs)
  have h0:tQ last x=0:=by
   unfold tQ
   rw [h1,hs];rfl
  unfold chk
  rw [h0]
  obtain ⟨p1,p2⟩:=List.pairwise_cons.1 hp
  exact yT xs x.Key (λe he=>⟨(h e (List.mem_cons_of_mem _ he)).1,p1 e he⟩) p2
theorem Li {k:ByteArray} (h:oD k=true):lt yB k:=by
 rcases Hd yB k with q|q|q
 ·exact q
 ·exact absurd (by rw [<- q];rfl) (Au h)
 ·have:=(xX k yB).2 (λq2=>tX _ (lt_trans q q2))
  have e:sLe k yB=decide (k.size=0):=IJ k
  rw [e]at this
  exact absurd (of_decide_eq_true this) (Au h)
theorem xu {l:List Int} {x lo hi:Int} (h:x∈l) (hb:(l.all λy=>decide (lo<=y)&&decide (y<=hi))=true):lo<=x/\x<=hi:=by
 have:=List.all_eq_true.1 hb x h
 simpa using this
theorem wY {n lo hi:Int} (h:lo<=n/\n<=hi):iy n lo hi=false:=EY h
theorem rightE (s:Stream) {b:Int} (hs:Ok s b) (hb:b<=800000):∃xs s',fC s=some (xs,s')/\Ok s' (b+200)/\xs.length<=4/\(∀x∈xs,wy x/\0<=x.Version/\x.Version<=2)/\mP xs=0:=by
 unfold fC
 obtain ⟨s',h1,h2,h3,h4⟩:=Al (body:=λk x s=>dw k x s) (λk s=>Ok ⟨s.2.1,s.2.2⟩ (b+40*k)/\(s.1.map (·.Key)).Sublist (keL.take k)/\∀x∈s.1,(wy x/\0<=x.Version/\x.Version<=2)/\sM x=0)
  (xs:=keL) (s:=(([]:List Entry),s.L,s.f_at)) (by decide) (λk x t hx ⟨i1,i2,i3⟩=>by
   have hk5:k<4:=(List.getElem?_eq_some_iff.1 hx).1
   have hxm:=Jf x (List.mem_of_getElem? hx)
   have et:keL.take (k+1)=keL.take k++[x]:=by rw [List.take_add_one,hx];rfl
   have hlen:t.1.length<=4:=by
    have:=i2.length_le
    rw [List.length_map,List.length_take]at this
    have h4:keL.length=4:=rfl
    omega
   obtain ⟨c,s1,k1,k2⟩:=xG _ 4 i1 (by omega) (by decide) (by decide)
   simp only [dw,k1,ob_]
   cases c with
   | true=>exact⟨_,rfl,k2.mono (by omega),by rw [et];exact i2.trans (List.sublist_append_left _ _),i3⟩
   | false =>
    obtain ⟨it,s2,a1,ai,a2⟩:=some_ok s1 [(⟨#[105,97]⟩:ByteArray),(⟨#[105,98]⟩:ByteArray),(⟨#[105,99]⟩:ByteArray)] k2 (by omega) (by simp) (by simp)
    obtain ⟨v,s3,a3,v1,v2,a4⟩:=K6 s2 0 2 a2 (by omega) (by decide) (by decide) (by decide)
    obtain ⟨p1,s4,m1,q1,n1⟩:=sW s3 [0,0,1,3] a4 (by omega) (by simp) (by simp)
    obtain ⟨p2,s5,m2,q2,n2⟩:=sW s4 [1,1,2,3,7] n1 (by omega) (by simp) (by simp)
    obtain ⟨p3,s6,m3,q3,n3⟩:=sW s5 [127,127,31,96,1,2] n2 (by omega) (by simp) (by simp)
    obtain ⟨p4,s7,m4,q4,n4⟩:=sW s6 [0,0,60,600,1380] n3 (by omega) (by simp) (by simp)
    obtain ⟨p5,s8,m5,q5,n5⟩:=sW s7 [0,60,120,600,720,1439] n4 (by omega) (by simp) (by simp)
    obtain ⟨p6,s9,m6,q6,n6⟩:=sW s8 [0,0,1,5] n5 (by omega) (by simp) (by simp)
    obtain ⟨g,s10,m7,n7⟩:=xG s9 8 n6 (by omega) (by decide) (by decide)
    obtain ⟨p7,s11,m8,q8,n8⟩:=sW s10 [0,1,5,10,30] n7 (by omega) (by simp) (by simp)
    obtain ⟨ex,s12,m9,n9,l9⟩:=KD (L:=fO) (n:=4) (by decide) (by decide) (λ_ _ _=>rfl) (xs:=[1,2,8]) (by simp) s11 n8 (by omega)
    obtain ⟨tg,s13,m10,n10,l10⟩:=KD (L:=fM) (n:=4) (by decide) (by decide) (λ_ _ _=>rfl) (xs:=[(⟨#[99,105,116,121]⟩:ByteArray),(⟨#[109,97,108,108]⟩:ByteArray)]) (by simp) s12 n9 (by omega)
    simp only [cond_false,a1,a3,m1,m2,m3,m4,m5,m6,m7,m8,m9,m10,ob_,nQ,pq t.1 _ (show t.1.length+[_].length<=_ by simp;omega)]
    have b1:=xu (lo:=0) (hi:=3) q1 rfl
    have b2:=xu (lo:=1) (hi:=7) q2 rfl
    have b3:=xu (lo:=1) (hi:=127) q3 rfl
    have b4:=xu (lo:=0) (hi:=1380) q4 rfl
    have b5:=xu (lo:=0) (hi:=1439) q5 rfl
    have b6:=xu (lo:=0) (hi:=5) q6 rfl
    have b8:=xu (lo:=0) (hi:=30) q8 rfl
    clear q1 q2 q3 q4 q5 q6 q8
    have hit:=itL_key it ai
    obtain ⟨t1,t2⟩:=KV l10
    have hel:ex.length<=3:=l9.length_le
    have hw:w64 (p1+p7)=p1+p7:=jL (by omega)
    refine⟨_,rfl,n10.mono (by omega),by rw [List.map_append,et];exact i2.append (List.Sublist.refl _),λy hy => ?_⟩
    rcases List.mem_append.1 hy with hy|hy
    ·exact i3 y hy
    ·rw [List.mem_singleton.1 hy]
     refine⟨⟨⟨yV hxm.2,yV hit.2,by show ex.length<=50;omega,by show tg.length<=20;omega,t2⟩,v1,v2⟩,?_⟩
     unfold sM
     simp only [hxm.1,hit.1,hw,ex_0 l9,tg_0 l10]
     rw [wY (n:=v) (by omega),wY (n:=p1) (by omega),decide_eq_false (by omega),wY (n:=p2) (by omega),wY (n:=p3) (by omega),wY (n:=p4) (by omega),wY (n:=p5) (by omega),wY (n:=p6) (by omega)];rfl) ⟨by simpa using hs,List.Sublist.refl _,by simp⟩
 have h1':forL ([(⟨#[101,97]⟩:ByteArray),(⟨#[101,98]⟩:ByteArray),(⟨#[101,99]⟩:ByteArray),(⟨#[101,100]⟩:ByteArray)]:List ByteArray) (([]:List Entry),s.L,s.f_at) (λk x s=>dw k x s)=some (.go s'):=h1
 rw [h1']
 have h3':(s'.1.map (·.Key)).Sublist keL:=by rw [List.take_length]at h3;exact h3
 refine⟨s'.1,⟨s'.2.1,s'.2.2⟩,rfl,h2.mono (by show b+40*((4:Nat):Int)<=b+200;omega),by have:=h3'.length_le;rw [List.length_map]at this;exact this,λx hx=>(h4 x hx).1,?_⟩
 have hr:=KF.sublist h3'
 rw [List.pairwise_map]at hr
 exact yT s'.1 yB (λe he=>⟨(h4 e he).2,Li (Jf _ (h3'.subset (List.mem_map.2 ⟨e,he,rfl⟩))).1⟩) hr
end Go.Proofs.YtnjnggakgeommaaGreatDoor.Law

open Go Go.Eng Go.Proofs
namespace Go.Proofs.YtnjnggakgeommaaGreatDoor.Law
set_option linter.unusedVariables false
set_option linter.unusedSimpArgs false
def Mx (L:List Entry) (e:Entry):Prop:=e∈L/\∀f∈L,f.Key=e.Key->f.Version<=e.Version
theorem Lm (k:ByteArray):∀L:List Entry,(∃f∈L,f.Key=k)->∃g∈L,g.Key=k/\∀h∈L,h.Key=k->h.Version<=g.Version
 | [],⟨f,hf,_⟩=>by cases hf
 | x::xs,_=>by
  by_cases hx:∃f∈xs,f.Key=k
  ·obtain ⟨g,g1,g2,g3⟩:=Lm k xs hx
   by_cases hc:x.Key=k/\g.Version<x.Version
   ·refine⟨x,by simp,hc.1,λh hh hk => ?_⟩
    rcases List.mem_cons.1 hh with rfl|hh
    ·omega
    ·have:=g3 h hh hk;omega
   ·refine⟨g,List.mem_cons_of_mem _ g1,g2,λh hh hk => ?_⟩
    rcases List.mem_cons.1 hh with rfl|hh
    ·have:¬g.Version<h.Version:=λq=>hc ⟨hk,q⟩
     omega
    ·exact g3 h hh hk
  ·rename_i hex
   obtain ⟨f,hf,hk⟩:=hex
   rcases List.mem_cons.1 hf with rfl|hf
   ·refine⟨f,by simp,hk,λh hh hk2 => ?_⟩
    rcases List.mem_cons.1 hh with rfl|hh
    ·omega
    ·exact absurd ⟨h,hh,hk2⟩ hx
   ·exact absurd ⟨f,hf,hk⟩ hx
theorem mx_of {L:List Entry} {f:Entry} (hf:f∈L):∃g,Mx L g/\g.Key=f.Key/\f.Version<=g.Version:=by
 obtain ⟨g,g1,g2,g3⟩:=Lm f.Key L ⟨f,hf,rfl⟩
 exact⟨g,⟨g1,λh hh hk=>g3 h hh (hk.trans g2)⟩,g2,g3 f hf rfl⟩
theorem ER {L M:List Entry} (h:∀e,e∈L↔e∈M) (e:Entry):Mx L e↔Mx M e:=by
 unfold Mx
 constructor
 ·rintro ⟨h1,h2⟩;exact⟨(h e).1 h1,λf hf=>h2 f ((h f).2 hf)⟩
 ·rintro ⟨h1,h2⟩;exact⟨(h e).2 h1,λf hf=>h2 f ((h f).1 hf)⟩
theorem ES {L M r:List Entry} (h:∀e,e∈r↔Mx L e) (e:Entry):Mx (r++M) e↔Mx (L++M) e:=by
 constructor
 ·rintro ⟨h1,h2⟩
  refine⟨(List.mem_append.1 h1).elim (λq=>List.mem_append.2 (.inl ((h e).1 q).1)) (λq=>List.mem_append.2 (.inr q)),λf hf hk => ?_⟩
  rcases List.mem_append.1 hf with hf|hf
  ·obtain ⟨g,g1,g2,g3⟩:=mx_of hf
   have:=h2 g (List.mem_append.2 (.inl ((h g).2 g1))) (g2.trans hk)
   omega
  ·exact h2 f (List.mem_append.2 (.inr hf)) hk
 ·rintro ⟨h1,h2⟩
  refine⟨(List.mem_append.1 h1).elim (λq=>List.mem_append.2 (.inl ((h e).2 ⟨q,λf hf hk=>h2 f (List.mem_append.2 (.inl hf)) hk⟩))) (λq=>List.mem_append.2 (.inr q)),λf hf hk => ?_⟩
  rcases List.mem_append.1 hf with hf|hf
  ·exact h2 f (List.mem_append.2 (.inl ((h f).1 hf).1)) hk
  ·exact h2 f (List.mem_append.2 (.inr hf)) hk
def Cp (L:List Entry):Prop:=∀e∈L,∀f∈L,e.Key=f.Key->e.Version=f.Version->e=f
theorem Cp.sub {L M:List Entry} (h:Cp M) (hs:∀e∈L,e∈M):Cp L:=λe he f hf=>h e (hs e he) f (hs f hf)
theorem wL {l:List Entry} (h:KN l) {a b:Entry} (ha:a∈l) (hb:b∈l) (hk:a.Key=b.Key):a=b:=by
 unfold KN at h
 induction l with
 | nil=>cases ha
 | cons x xs ih =>
  rw [List.map_cons,List.nodup_cons]at h
  rcases List.mem_cons.1 ha with ea|ha' <;> rcases List.mem_cons.1 hb with eb|hb'
  ·rw [ea,eb]
  ·rw [ea]at hk;exact (h.1 (List.mem_map.2 ⟨b,hb',hk.symm⟩)).elim
  ·rw [eb]at hk;exact (h.1 (List.mem_map.2 ⟨a,ha',hk⟩)).elim
  ·exact ih h.2 ha' hb'
theorem addE_mx {out L:List Entry} {x:Entry} (hn:KN out) (ho:∀e,e∈out↔Mx L e) (hc:Cp (L++[x])):∃r,zZ out x=some r/\∀e,e∈r↔Mx (L++[x]) e:=by
 unfold zZ
 cases hk:jI x.Key out with
 | none =>
  have hno:∀f∈L,f.Key≠x.Key:=λf hf hfk=>by
   obtain ⟨g,g1,g2,_⟩:=mx_of hf
   exact uG hk g ((ho g).2 g1) (g2.trans hfk)
  refine⟨_,rfl,λe => ?_⟩
  rw [List.mem_append,List.mem_singleton,ho]
  constructor
  ·rintro (⟨h1,h2⟩|rfl)
   ·refine⟨List.mem_append.2 (.inl h1),λf hf hfk => ?_⟩
    rcases List.mem_append.1 hf with hf|hf
    ·exact h2 f hf hfk
    ·rw [List.mem_singleton.1 hf]at hfk;exact absurd hfk.symm (hno e h1)
   ·refine⟨by simp,λf hf hfk => ?_⟩
    rcases List.mem_append.1 hf with hf|hf
    ·exact absurd hfk (hno f hf)
    ·rw [List.mem_singleton.1 hf];exact Int.le_refl _
  ·rintro ⟨h1,h2⟩
   rcases List.mem_append.1 h1 with h1|h1
   ·exact .inl ⟨h1,λf hf=>h2 f (List.mem_append.2 (.inl hf))⟩
   ·exact .inr (List.mem_singleton.1 h1)
 | some i =>
  obtain ⟨hi,hk2⟩:=vO hk
  have hom:=List.getElem_mem hi
  obtain ⟨o1,o2⟩:=(ho _).1 hom
  have hox:out[i].Version=x.Version->out[i]=x:=λhv=>hc _ (List.mem_append.2 (.inl o1)) x (by simp) hk2 hv
  simp only [List.getElem?_eq_getElem hi]
  rw [if_neg (λh=>h.2 (hox h.1))]
  by_cases hl:out[i].Version<x.Version
  ·rw [if_pos hl]
   refine⟨_,rfl,λe => ?_⟩
   have hmem:e∈out.set i x↔(e∈out/\e.Key≠x.Key)\/e=x:=by
    constructor
    ·intro he
     obtain ⟨j,hj,rfl⟩:=List.getElem_of_mem he
     rw [List.getElem_set]
     split
     ·exact .inr rfl
     ·rename_i hne
      have hj2:j<out.length:=by simpa using hj
      refine .inl ⟨List.getElem_mem hj2,λq=>hne ?_⟩
      have hp:=List.pairwise_iff_getElem.1 (List.pairwise_map.1 hn)
      rcases Nat.lt_trichotomy i j with hij|hij|hij
      ·exact absurd (hk2.trans q.symm) (hp i j hi hj2 hij)
      ·exact hij
      ·exact absurd (q.trans hk2.symm) (hp j i hj2 hi hij)
    ·rintro (⟨h1,h2⟩|rfl)
     ·obtain ⟨j,hj,rfl⟩:=List.getElem_of_mem h1
      have hne:i≠j:=λq=>h2 (by subst q;exact hk2)
      have:(out.set i x)[j]'(by simpa using hj)=out[j]:=by rw [List.getElem_set_ne hne]
      rw [<- this];exact List.getElem_mem _
     ·exact List.mem_set hi _
   rw [hmem,ho]
   constructor
   ·rintro (⟨⟨h1,h2⟩,h3⟩|rfl)
    ·refine⟨List.mem_append.2 (.inl h1),λf hf hfk => ?_⟩
     rcases List.mem_append.1 hf with hf|hf
     ·exact h2 f hf hfk
     ·rw [List.mem_singleton.1 hf]at hfk;exact absurd hfk.symm h3
    ·refine⟨by simp,λf hf hfk => ?_⟩
     rcases List.mem_append.1 hf with hf|hf
     ·have:=o2 f hf (hfk.trans hk2.symm);omega
     ·rw [List.mem_singleton.1 hf];exact Int.le_refl _
   ·rintro ⟨h1,h2⟩
    rcases List.mem_append.1 h1 with h1|h1
    ·refine .inl ⟨⟨h1,λf hf=>h2 f (List.mem_append.2 (.inl hf))⟩,λq => ?_⟩
     have p1:=h2 x (by simp) q.symm
     have p2:=o2 e h1 (q.trans hk2.symm)
     omega
    ·exact .inr (List.mem_singleton.1 h1)
  ·rw [if_neg hl]
   refine⟨_,rfl,λe => ?_⟩
   rw [ho]
   constructor
   ·rintro ⟨h1,h2⟩
    refine⟨List.mem_append.2 (.inl h1),λf hf hfk => ?_⟩
    rcases List.mem_append.1 hf with hf|hf
    ·exact h2 f hf hfk
    ·rw [List.mem_singleton.1 hf]at hfk ⊢
     have:=h2 _ o1 (hk2.trans hfk)
     omega
   ·rintro ⟨h1,h2⟩
    rcases List.mem_append.1 h1 with h1|h1
    ·exact⟨h1,λf hf=>h2 f (List.mem_append.2 (.inl hf))⟩
    ·have e1:=List.mem_singleton.1 h1
     have p:=h2 _ (List.mem_append.2 (.inl o1)) (by rw [e1];exact hk2)
     have:out[i]=x:=hox (by rw [e1]at p;omega)
     rw [e1,<- this]
     exact⟨o1,o2⟩
theorem Di:∀(xs out L:List Entry),(∀x∈xs,RE x)->(∀o∈out,RE o)->KN out->(∀e,e∈out↔Mx L e)->Cp (L++xs)->∃r,jT out xs=some r/\∀e,e∈r↔Mx (L++xs) e
 | [],out,L,_,_,_,ho,_=>⟨out,rfl,by simpa using ho⟩
 | x::xs,out,L,hx,hg,hn,ho,hc=>by
  obtain ⟨r,r1,r2⟩:=addE_mx hn ho (x:=x) (hc.sub λe he=>by
   rcases List.mem_append.1 he with he|he
   ·exact List.mem_append.2 (.inl he)
   ·rw [List.mem_singleton.1 he];simp)
  obtain ⟨k1,k2,k3⟩:=Eb (hx x (by simp)) hg hn r1
  obtain ⟨q,q1,q2⟩:=Di xs r (L++[x]) (λy hy=>hx y (List.mem_cons_of_mem _ hy)) k1 k3 r2 (by simpa using hc)
  exact⟨q,by simp only [jT,r1,ob_,q1],by simpa using q2⟩
def LR (l:List Entry):Prop:=(∀e∈l,RE e)/\l.Pairwise (λa b=>lt a.Key b.Key)
theorem LR.ents {l:List Entry} (h:LR l):mP l=0:=yT l yB (λe he=>⟨(h.1 e he).2,Li (GQ (h.1 e he).2).1.1⟩) h.2
theorem LR.kn {l:List Entry} (h:LR l):KN l:=kn_of h.ents
theorem LR.mx {l:List Entry} (h:LR l) (e:Entry):e∈l↔Mx l e:=⟨λhe=>⟨he,λf hf hk=>by rw [wL h.kn hf he hk];exact Int.le_refl _⟩,λhe=>he.1⟩
theorem LR.uniq {l m:List Entry} (h:LR l) (k:LR m) (he:∀e,e∈l↔e∈m):l=m:=by
 have nd:∀{l:List Entry},LR l->l.Nodup:=λh=>h.2.imp λ{a b} q e=>by rw [e]at q;exact tX _ q
 exact Jq (R:=λa b:Entry=>lt a.Key b.Key) (λa b h k=>tX _ (lt_trans h k)) ((List.perm_ext_iff_of_nodup (nd h) (nd k)).2 he) h.2 k.2
theorem rQ {a b:List Entry} (ha:LR a) (hb:LR b) (la:a.length<=40) (lb:b.length<=40) (hc:Cp (a++b)) :
  ∃r,eG a b=some (r,0)/\LR r/\r.length<=a.length+b.length/\∀e,e∈r↔Mx (a++b) e:=by
 have ka:=ha.kn
 have hstart:jT [] (a++b)=jT a b:=by
  rw [CB,zF a [] (by simpa using ka)];rfl
 obtain ⟨out,o1,o2⟩:=Di b a a hb.1 ha.1 ka ha.mx hc
 obtain ⟨p1,p2,p3⟩:=DD b a hb.1 ha.1 ka o1
 have hm:∀e∈a++b,RE e:=λe he=>(List.mem_append.1 he).elim (ha.1 e) (hb.1 e)
 have hP:=BV (B:=λk x s=>fG k x s) (List.map kS) (λk x out hx ho _=>JW hx ho k) (a++b) 0 [] hm (by simp) (by simp [KN]) (by simp;omega)
 rw [hstart,o1]at hP
 have hP':forL (a++b) ([]:List (ByteArray×Entry)) (λk x s=>fG k x s)=some (Hw (some out) (List.map kS)):=by
  rw [lF (by simp;omega)];exact hP
 obtain ⟨r,ks,s1,s2,s3,s4⟩:=F6 p1 p3 (by omega)
 have hl:=s3.length_eq
 have e1:decide ((((out.map kS).length:Nat):Int)>200)=false:=decide_eq_false (by simp;omega)
 refine⟨r,?_,⟨λe he=>p1 e (s3.mem_iff.1 he),s4⟩,by omega,λe=>by rw [s3.mem_iff];exact o2 e⟩
 unfold eG
 rw [checks (λe he=>(ha.1 e he).1) (λe he=>(hb.1 e he).1) (by omega) (by omega),ha.ents,hb.ents]
 simp only [beq_self_eq_true,cond_true,ob_,nQ,JL a b (by omega) (by omega),hP',Hw,e1,cond_false,pK,s1,s2]
end Go.Proofs.YtnjnggakgeommaaGreatDoor.Law

open Go Go.Eng
namespace Go.Proofs.YtnjnggakgeommaaGreatDoor.Law
set_option linter.unusedVariables false
set_option linter.unusedSimpArgs false
def ol {σ ρ:Type} (s:σ) (body:σ->Option (Ctl σ ρ)):Option (Ctl σ ρ):=iterN body 300 s
def Le {α:Type} (a b:Option α):Prop:=∀r,a=some r->b=some r
theorem Le.refl {α:Type} (a:Option α):Le a a:=λ_ h=>h
theorem Le.bind {α β:Type} {a b:Option α} {f g:α->Option β} (h:Le a b) (k:∀x,Le (f x) (g x)):Le (a.bind f) (b.bind g):=λr e=>by
 obtain ⟨x,h1,h2⟩:=Option.bind_eq_some_iff.1 e
 rw [h x h1];exact k x r h2
theorem Le.cond {α:Type} {a b c d:Option α} {t:Bool} (h:Le a c) (k:Le b d):Le (bif t then a else b) (bif t then c else d):=by
 cases t
 ·exact k
 ·exact h
theorem Le.thenC {σ ρ τ:Type} {o:Ctl σ ρ} {f f':σ->Option τ} {g g':ρ->Option τ} (h:∀x,Le (f x) (f' x)) (k:∀x,Le (g x) (g' x)):Le (Go.Eng.thenC o f g) (Go.Eng.thenC o f' g'):=by
 cases o
 ·exact h _
 ·exact Le.refl _
 ·exact k _
theorem Le.forR {α σ ρ:Type} {b b':Nat->α->σ->Option (Ctl σ ρ)} (h:∀k x s,Le (b k x s) (b' k x s)):∀(xs:List α) (k:Nat) (s:σ),Le (Go.Eng.forR b xs k s) (Go.Eng.forR b' xs k s)
 | [],k,s=>Le.refl _
 | x::xs,k,s=>Le.bind (h k x s) (λc=>by
   cases c with
   | go s'=>exact Le.forR h xs _ _
   | brk s'=>exact Le.refl _
   | ret r=>exact Le.refl _)
theorem Le.forL {α σ ρ:Type} {xs:List α} {s:σ} {b b':Nat->α->σ->Option (Ctl σ ρ)} (h:∀k x s,Le (b k x s) (b' k x s)):Le (Go.Eng.forL xs s b) (Go.Eng.forL xs s b'):=by
 unfold Go.Eng.forL
 split
 ·exact Le.forR h xs 0 s
 ·exact Le.refl _
theorem Le.iterN {σ ρ:Type} {b b':σ->Option (Ctl σ ρ)} (h:∀s,Le (b s) (b' s)):∀(n:Nat) (s:σ),Le (Go.Eng.iterN b n s) (Go.Eng.iterN b' n s)
 | 0,s=>Le.refl _
 | n+1,s=>Le.bind (h s) (λc=>by
   cases c with
   | go s'=>exact Le.iterN h n s'
   | brk s'=>exact Le.refl _
   | ret r=>exact Le.refl _)
theorem Le.loop {σ ρ:Type} {s:σ} {b b':σ->Option (Ctl σ ρ)} (h:∀s,Le (b s) (b' s)):Le (ol s b) (kT s b'):=λr e=>Cr (Le.iterN h _ _ r e)
end Go.Proofs.YtnjnggakgeommaaGreatDoor.Law

open Go Go.Eng
namespace Go.Proofs.YtnjnggakgeommaaGreatDoor.Law
set_option linter.unusedVariables false
set_option linter.unusedSimpArgs false
def JG (x:Int):List Int->List Int
 | []=>[x]
 | y::l=>bif decide (x<=y)then x::y::l else y::JG x l
def BS:List Int->List Int
 | []=>[]
 | x::l=>JG x (BS l)
theorem yI (x:Int):∀l,(JG x l).Perm (x::l)
 | [] => .refl _
 | y::l=>by
  unfold JG
  cases decide (x<=y)with
  | true=>exact .refl _
  | false=>exact ((yI x l).cons y).trans (List.Perm.swap x y l)
theorem zU:∀l,(BS l).Perm l
 | [] => .refl _
 | x::l=>(yI x _).trans ((zU l).cons x)
theorem zG (x:Int):∀l:List Int,l.Pairwise (· <= ·)->(JG x l).Pairwise (· <= ·)
 | [],_=>List.pairwise_singleton _ _
 | y::l,h=>by
  obtain ⟨h1,h2⟩:=List.pairwise_cons.1 h
  unfold JG
  by_cases hx:x<=y
  ·rw [decide_eq_true hx,cond_true]
   exact List.pairwise_cons.2 ⟨λz hz=>by
    rcases List.mem_cons.1 hz with rfl|hz
    ·exact hx
    ·exact Int.le_trans hx (h1 z hz),h⟩
  ·rw [decide_eq_false hx,cond_false]
   exact List.pairwise_cons.2 ⟨λz hz=>by
    rcases List.mem_cons.1 ((yI x l).mem_iff.1 hz)with rfl|hz
    ·omega
    ·exact h1 z hz,zG x l h2⟩
theorem wD:∀l,(BS l).Pairwise (· <= ·)
 | [] => .nil
 | x::l=>zG x _ (wD l)
theorem JI (l:List Int):l.mergeSort (λx y=>decide (x<=y))=BS l:=by
 refine List.Perm.eq_of_pairwise (le:=(· <= ·)) (λa b _ _ h1 h2=>Int.le_antisymm h1 h2) ?_ (wD l) ((List.mergeSort_perm l _).trans (zU l).symm)
 have:=List.pairwise_mergeSort (le:=λ(x y:Int)=>decide (x<=y)) (λa b c=>by simp;omega) (λa b=>by simp;omega) l
 exact this.imp (by simp)
def Kl (l:List Int):Option (List Int):=bif Nat.ble l.length 1000 then some (BS l)else none
theorem Ke (l:List Int):Le (Kl l) (gY l):=λr h=>by
 unfold Kl at h
 cases hb:Nat.ble l.length 1000 with
 | false=>rw [hb]at h;cases h
 | true =>
  rw [hb,cond_true]at h
  have:=Nat.le_of_ble_eq_true hb
  unfold gY IM
  rw [if_pos (by omega),JI];exact h
end Go.Proofs.YtnjnggakgeommaaGreatDoor.Law

