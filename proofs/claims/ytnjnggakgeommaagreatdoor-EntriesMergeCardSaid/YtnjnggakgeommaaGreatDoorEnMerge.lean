import Derived.Test.YtnjnggakgeommaaGreatDoorEnLine
import Derived.Test.YtnjnggakgeommaaGreatDoorEnKeys
/-
  PLAIN LEMMAS: lists of entries merged: the program's and the document's are the same.
-/
open Go Go.Eng Go.Proofs
namespace Go.Proofs.YtnjnggakgeommaaGreatDoor.Law
set_option linter.unusedVariables false
set_option linter.unusedSimpArgs false
def RE (e:Entry):Prop:=jD e/\jI e=0
theorem FJ {e:Entry} (h:jI e=0):PosE e/\MedE e:=by
 unfold jI at h
 cases hk:(!jk e.Key || !jk e.Item)with
 | true=>rw [hk]at h;cases h
 | false =>
 rw [hk,cond_false]at h
 cases hb:(eQ e.Version 0 1000000||(eQ e.First 0 e.Last||(decide (e.Last>4000)||(eQ e.Every 1 400||eQ e.Days 1 127))))with
 | true=>rw [hb]at h;cases h
 | false =>
 rw [hb,cond_false]at h
 simp only [Bool.or_eq_false_iff,decide_eq_false_iff_not,Bool.not_eq_false']at hb hk
 cases hx:exF e.Except==0 with
 | false=>rw [hx,cond_false]at h;rw [h]at hx;cases hx
 | true =>
 rw [hx,cond_true]at h
 cases hc:(eQ e.From 0 1439||(eQ e.To 0 1439||eQ e.Prio 0 9))with
 | true=>rw [hc]at h;cases h
 | false =>
 simp only [Bool.or_eq_false_iff]at hc
 have h1:=kH hb.1
 have h2:=kH hb.2.1
 have h3:=hb.2.2.1
 have h4:=kH hb.2.2.2.1
 have h5:=kH hb.2.2.2.2
 have h6:=kH hc.1
 have h7:=kH hc.2.1
 have h8:=kH hc.2.2
 have hb:∀n∈oK e,0<=n/\n<=1000000000000000:=λn hn=>by
  simp only [oK,List.mem_cons,List.not_mem_nil,or_false]at hn
  rcases hn with rfl|rfl|rfl|rfl|rfl|rfl|rfl|rfl <;> omega
 exact⟨⟨hk.1,hk.2,λn hn=>(hb n hn).1⟩,λn hn=>⟨by have:=(hb n hn).1;omega,(hb n hn).2⟩⟩
theorem sameK {a b:Entry} (ha:RE a):iP a b=some (decide (a=b)):=FV a b ⟨by have:=ha.1.2.2.1;omega,by have:=ha.1.2.2.2.1;omega⟩
theorem sameR {a b:Entry} (ha:RE a) (hb:RE b):iM a b=some (decide (a=b)):=by
 obtain ⟨pa,ma⟩:=FJ ha.2
 obtain ⟨pb,mb⟩:=FJ hb.2
 unfold iM
 rw [C8 ha.1.1 ha.1.2.1 ma,C8 hb.1.1 hb.1.2.1 mb]
 simp only [ob_]
 rw [zh _ _ (by have:=ha.1.2.2.1;omega),yG _ _ (by have:=ha.1.2.2.2.1;omega)]
 simp only [ob_]
 rw [mR _ (mR _ rfl),ob_,sS]
 congr 1
 rw [Bool.eq_iff_iff]
 simp only [Bool.and_eq_true,decide_eq_true_eq]
 constructor
 ·rintro ⟨h1,h2,h3⟩
  obtain ⟨q1,q2,q3,q4⟩:=D7 (a:=⟨a.Key,a.Item,a.Version,a.First,a.Last,a.Every,a.Days,[],a.From,a.To,a.Prio,[],a.Gone⟩) (b:=⟨b.Key,b.Item,b.Version,b.First,b.Last,b.Every,b.Days,[],b.From,b.To,b.Prio,[],b.Gone⟩) pa pb (sb_inj h1)
  obtain ⟨a1,a2,a3,a4,a5,a6,a7,a8,a9,a10,a11,a12,a13⟩:=a
  obtain ⟨b1,b2,b3,b4,b5,b6,b7,b8,b9,b10,b11,b12,b13⟩:=b
  simp only [oK,List.cons.injEq,and_true]at q1 q2 q3 q4 h2 h3
  obtain ⟨r1,r2,r3,r4,r5,r6,r7,r8⟩:=q3
  subst q1 q2 q4 h2 h3 r1 r2 r3 r4 r5 r6 r7 r8
  rfl
 ·rintro rfl
  exact⟨rfl,rfl,rfl⟩
def gy (k:ByteArray):List Entry->Option Nat
 | []=>none
 | x::xs=>if k=x.Key then some 0 else (gy k xs).map (· + 1)
theorem qL {k:ByteArray}:∀{l:List Entry} {i:Nat},gy k l=some i->∃h:i<l.length,l[i].Key=k
 | [],_,h=>by cases h
 | x::xs,i,h=>by
  unfold gy at h
  split at h
  ·rename_i e
   simp only [so_]at h
   subst h
   exact⟨by simp,e.symm⟩
  ·obtain ⟨j,hj,rfl⟩:=Option.map_eq_some_iff.1 h
   obtain ⟨h1,h2⟩:=qL hj
   exact⟨by simpa using h1,by simpa using h2⟩
theorem vz {k:ByteArray}:∀{l:List Entry},gy k l=none->∀x∈l,x.Key≠k
 | [],_,_,hx=>by cases hx
 | y::ys,h,x,hx=>by
  unfold gy at h
  split at h
  ·cases h
  ·rename_i e
   rcases List.mem_cons.1 hx with rfl|hx
   ·exact λhh=>e hh.symm
   ·exact vz (Option.map_eq_none_iff.1 h) x hx
theorem y7 {k:ByteArray}:∀{l:List Entry},(∀x∈l,x.Key≠k)->gy k l=none
 | [],_=>rfl
 | y::ys,h=>by
  unfold gy
  rw [if_neg (λe=>h y (by simp) e.symm),y7 (λx hx=>h x (List.mem_cons_of_mem _ hx))]
  rfl
def vQ (out:List Entry) (x:Entry):Option (List Entry):=match gy x.Key out with
 | none=>some (out++[x])
 | some i=>match out[i]? with
  | none=>none
  | some o=>if o.Version=x.Version/\o≠x then none else if o.Version<x.Version then some (out.set i x)else some out
def iT:List Entry->List Entry->Option (List Entry)
 | out,[]=>some out
 | out,x::xs=>(vQ out x).bind λo=>iT o xs
def jE (e:Entry):ByteArray×Entry:=(e.Key,e)
theorem mGetE (k:ByteArray):∀out:List Entry,bL eqS (out.map jE) k=(gy k out).bind λi=>out[i]?
 | []=>rfl
 | x::xs=>by
  rw [List.map_cons,zf,gy,show (jE x).1=x.Key from rfl,show (jE x).2=x from rfl]
  by_cases h:k=x.Key
  ·rw [if_pos ((qE _ _).2 h),if_pos h];rfl
  ·rw [if_neg (λq=>h ((qE _ _).1 q)),if_neg h,mGetE k xs]
   cases gy k xs <;> simp
theorem mSetE (x:Entry):∀out:List Entry,AX eqS (out.map jE) x.Key x=(match gy x.Key out with | none=>out++[x] | some i=>out.set i x).map jE
 | []=>rfl
 | y::ys=>by
  rw [List.map_cons,Eh,gy,show (jE y).1=y.Key from rfl]
  by_cases h:x.Key=y.Key
  ·rw [if_pos ((qE _ _).2 h),if_pos h];rfl
  ·rw [if_neg (λq=>h ((qE _ _).1 q)),if_neg h,mSetE x ys]
   cases gy x.Key ys <;> simp [jE]
def x8 (o:Option (List Entry)) {σ:Type} (f:List Entry->σ):Ctl σ (List Entry×Int):=match o with
 | none => .ret ([],13)
 | some l => .go (f l)
theorem EW {out:List Entry} {x:Entry} (hx:RE x) (ho:∀o∈out,RE o) (k:Nat):eu k x (out.map jE)=some (x8 (vQ out x) (List.map jE)):=by
 unfold eu vQ
 have hs:=mSetE x out
 simp only [mGetE]
 cases hk:gy x.Key out with
 | none =>
  rw [hk]at hs
  simp only [Option.bind_none,Option.isSome_none,cond_false,ob_,Bool.not_false,cond_true,hs]
  rfl
 | some i =>
  obtain ⟨hi,hk2⟩:=qL hk
  rw [hk]at hs
  simp only [ob_,List.getElem?_eq_getElem hi,Option.isSome_some,cond_true,Option.getD_some,Bool.not_true,cond_false,sameK (ho _ (List.getElem_mem hi)),hs]
  by_cases hv:out[i].Version=x.Version
  ·have e1:(out[i].Version==x.Version)=true:=by simpa using hv
   have e2:decide (x.Version>out[i].Version)=false:=by simp;omega
   rw [e1,cond_true,ob_]
   by_cases he:out[i]=x
   ·simp only [he,decide_true,Bool.not_true,ob_,cond_false,ne_eq,not_true_eq_false,and_false,if_false,x8]
    have:decide (x.Version>x.Version)=false:=by simp
    rw [this,if_neg (by omega)];rfl
   ·have e3:decide (out[i]=x)=false:=by simpa using he
    simp only [e3,Bool.not_false,ob_,cond_true]
    rw [if_pos ⟨hv,he⟩];rfl
  ·have e1:(out[i].Version==x.Version)=false:=by simpa using hv
   rw [e1,cond_false,if_neg (λh=>hv h.1)]
   by_cases hl:out[i].Version<x.Version
   ·have e2:decide (x.Version>out[i].Version)=true:=by simp;omega
    rw [if_pos hl]
    simp only [e2,ob_,cond_false,cond_true]
    rfl
   ·have e2:decide (x.Version>out[i].Version)=false:=by simp;omega
    rw [if_neg hl]
    simp only [e2,ob_,cond_false]
    rfl
theorem AA (s:List Entry) (x:Entry):∀(l:List Entry) (xs:List Nat) (k:Nat),s.drop k=l->(xs=List.range' k l.length)->∃o,dR (λk y u=>aV s x k y u) xs k ()=some o /\
  dz o (λ_=>some (-1:Int)) (λr=>some r)=some (match gy x.Key l with | none => -1 | some i=>((k+i:Nat):Int))
 | [],xs,k,h,hx=>by subst hx;exact⟨_,rfl,rfl⟩
 | y::ys,xs,k,h,hx=>by
  have hg:=tY h
  have hk:k<s.length:=(List.getElem?_eq_some_iff.1 hg).1
  subst hx
  have hstep:aV s x k k ()=some (bif sEq y.Key x.Key then .ret (k:Int)else .go ()):=by
   unfold aV jR
   rw [uO (by omega) (by omega)]
   have e:0+((k:Int)).toNat=k:=by omega
   simp only [ob_,e,hg]
   cases sEq y.Key x.Key <;> rfl
  rw [List.length_cons,List.range'_succ]
  simp only [dR,hstep,ob_,gy]
  by_cases he:x.Key=y.Key
  ·have e1:sEq y.Key x.Key=true:=(zV _ _).2 he.symm
   rw [e1,cond_true,if_pos he]
   exact⟨_,rfl,rfl⟩
  ·have e1:sEq y.Key x.Key=false:=by rw [sS];exact decide_eq_false λq=>he q.symm
   rw [e1,cond_false,if_neg he]
   obtain ⟨o,h1,h2⟩:=AA s x ys _ (k+1) (bg h) rfl
   refine⟨o,h1,h2.trans ?_⟩
   cases gy x.Key ys with
   | none=>rfl
   | some i =>
    show some (((k+1+i:Nat)):Int)=some ((k+(i+1):Nat):Int)
    rw [show k+1+i=k+(i+1) by omega]
theorem F3 (s:List Entry) (x:Entry) (hl:s.length<=1000000):bn s x=some (match gy x.Key s with | none => -1 | some i=>(i:Int)):=by
 unfold bn
 obtain ⟨o,h1,h2⟩:=AA s x s (List.range ((s.length:Int)).toNat) 0 rfl (by rw [Int.toNat_natCast,List.range_eq_range'])
 rw [fq (by simp;omega),h1,ob_,h2]
 cases gy x.Key s <;> simp
theorem docStep {out:List Entry} {x:Entry} (hx:RE x) (ho:∀o∈out,RE o) (hl:out.length<=1000) (k:Nat):eZ k x out=some (x8 (vQ out x) id):=by
 unfold eZ vQ
 rw [F3 out x (by omega)]
 simp only [ob_]
 cases hk:gy x.Key out with
 | none =>
  have:decide ((-1:Int)<0)=true:=by decide
  simp only [this,cond_true,jC out [x] (by simp;omega),ob_]
  rfl
 | some i =>
  obtain ⟨hi,hk2⟩:=qL hk
  have e0:decide ((i:Int)<0)=false:=by simp
  have e1:0+((i:Int)).toNat=i:=by omega
  simp only [e0,cond_false,uO (show (0:Int)<=(i:Int) by omega) (show (i:Int)<out.length by omega),ob_,e1,List.getElem?_eq_getElem hi,sameR (ho _ (List.getElem_mem hi)) hx]
  by_cases hv:out[i].Version=x.Version
  ·have e1:(out[i].Version==x.Version)=true:=by simpa using hv
   have e2:decide (out[i].Version<x.Version)=false:=by simp;omega
   rw [e1,cond_true,ob_]
   by_cases he:out[i]=x
   ·have e3:decide (out[i]=x)=true:=by simpa using he
    simp only [e3,Bool.not_true,cond_false,e2,ob_]
    rw [if_neg (λh=>h.2 he),if_neg (by omega)];rfl
   ·have e3:decide (out[i]=x)=false:=by simpa using he
    simp only [e3,Bool.not_false,cond_true]
    rw [if_pos ⟨hv,he⟩];rfl
  ·have e1:(out[i].Version==x.Version)=false:=by simpa using hv
   rw [e1,cond_false,if_neg (λh=>hv h.1),ob_,cond_false]
   by_cases hl:out[i].Version<x.Version
   ·have e2:decide (out[i].Version<x.Version)=true:=by simpa using hl
    rw [if_pos hl]
    simp only [e2,ob_,cond_true]
    rfl
   ·have e2:decide (out[i].Version<x.Version)=false:=by simpa using hl
    rw [if_neg hl]
    simp only [e2,ob_,cond_false]
    rfl
end Go.Proofs.YtnjnggakgeommaaGreatDoor.Law

