/-
  THE PLAIN LAW (part 2).
-/
import Derived.Test.YticmkhcacamhkaaGreatDoorPl1
import Derived.Test.YticmkhcacamhkaaGreatDoorEng5
import Derived.Test.YticmkhcacamhkaaGreatDoorDefs
open Go Go.Eng
namespace Go.Proofs.YticmkhcacamhkaaGreatDoor.Law
set_option linter.unusedVariables false
set_option linter.unusedSimpArgs false
def tF (e:Entry) (z d:Int):Int:=(d*1440+e.From-z)*60000
def vg (e:Entry):Int:=if e.To-e.From<=0 then e.To-e.From+1440 else e.To-e.From
def tW (e:Entry) (z d:Int):Window:=⟨tF e z d,tF e z d+vg e*60000⟩
theorem timeK (e:Entry) (h:Right e) (z d:Int) (hz : -1440<=z/\z<=1440) (hd:0<=d/\d<=4000):kr e z d=some (tW e z d):=by
 have h1:=h.from_
 have h2:=h.to_
 unfold kr tW tF vg
 rw [bD (n:=e.To-e.From) (by omega)]
 by_cases hc:e.To-e.From<=0
 ·simp only [decide_eq_true hc,cond_true,ob_,if_pos hc]
  rw [bD (n:=e.To-e.From+1440) (by omega),bD (n:=d*1440) (by omega),bD (n:=d*1440+e.From) (by omega),bD (n:=d*1440+e.From-z) (by omega),bD (n:=(d*1440+e.From-z)*60000) (by omega),bD (n:=(e.To-e.From+1440)*60000) (by omega),bD (by omega)]
 ·simp only [decide_eq_false hc,cond_false,ob_,if_neg hc]
  rw [bD (n:=d*1440) (by omega),bD (n:=d*1440+e.From) (by omega),bD (n:=d*1440+e.From-z) (by omega),bD (n:=(d*1440+e.From-z)*60000) (by omega),bD (n:=(e.To-e.From)*60000) (by omega),bD (by omega)]
def cutW (w t:Window):Window:=⟨jE t.From w.From,lD t.To w.To⟩
def pR (e:Entry) (z:Int) (w:Window) (d:Int):Bool := !e.Gone&&(IU e d&&decide (jE (tF e z d) w.From<lD (tF e z d+vg e*60000) w.To))
def pK (e:Entry) (z:Int) (w:Window) (d:Int):Bool:=IU e d&&(decide (tF e z d<w.To)&&decide (tF e z d+vg e*60000>w.From))
def wants (e:Entry) (z:Int) (w:Window):List Window:=collect (pR e z w) (λd=>cutW w (tW e z d)) (e.Last+1-e.First).toNat e.First
theorem tdivB (x q:Int) (h:x.tdiv 86400000=q):(0<=x->q*86400000<=x/\x<q*86400000+86400000)/\(x<0->x<=q*86400000/\q*86400000-86400000<x):=by
 have h1:=Int.mul_tdiv_add_tmod x 86400000
 rw [h]at h1
 refine⟨λhx => ?_,λhx => ?_⟩
 ·have h2:=Int.tmod_nonneg 86400000 hx
  have h3:=Int.tmod_lt_of_pos x (show (0:Int)<86400000 by decide)
  omega
 ·have h3:=Int.lt_tmod_of_pos x (show (0:Int)<86400000 by decide)
  have h4:x.tmod 86400000<=0:=by
   have h5:=Int.tmod_nonneg 86400000 (show (0:Int) <= -x by omega)
   rw [Int.neg_tmod]at h5
   omega
  omega
def Mq (w:Window):Prop:=0<=w.From/\w.From<=w.To/\w.To<=345686400000
theorem Iz (e:Entry) (h:Right e):1<=vg e/\vg e<=1440:=by
 have h1:=h.from_
 have h2:=h.to_
 unfold vg
 split <;> omega
end Go.Proofs.YticmkhcacamhkaaGreatDoor.Law

open Go Go.Eng
namespace Go.Proofs.YticmkhcacamhkaaGreatDoor.Law
set_option linter.unusedVariables false
set_option linter.unusedSimpArgs false
def NR {α:Type} (r:α->α->Bool) (x:α):List α->List α
 | []=>[x]
 | y::l=>bif r x y then x::y::l else y::NR r x l
def JI {α:Type} (r:α->α->Bool):List α->List α
 | []=>[]
 | x::l=>NR r x (JI r l)
theorem Cm {α:Type} (r:α->α->Bool) (x:α):∀l,(NR r x l).Perm (x::l)
 | [] => .refl _
 | y::l=>by
  unfold NR
  cases r x y with
  | true=>exact .refl _
  | false=>exact ((Cm r x l).cons y).trans (List.Perm.swap x y l)
theorem yA {α:Type} (r:α->α->Bool):∀l,(JI r l).Perm l
 | [] => .refl _
 | x::l=>(Cm r x _).trans ((yA r l).cons x)
theorem CW {α:Type} {r:α->α->Bool} (htr:∀a b c,r a b=true->r b c=true->r a c=true) {x:α}:∀{l:List α},(∀y∈l,r x y=true\/r y x=true)->l.Pairwise (λa b=>r a b=true)->(NR r x l).Pairwise (λa b=>r a b=true)
 | [],_,_=>List.pairwise_singleton _ _
 | y::l,h,hp=>by
  obtain ⟨p1,p2⟩:=List.pairwise_cons.1 hp
  unfold NR
  cases hxy:r x y with
  | true =>
   refine List.pairwise_cons.2 ⟨λz hz => ?_,hp⟩
   rcases List.mem_cons.1 hz with rfl|hz
   ·exact hxy
   ·exact htr _ _ _ hxy (p1 z hz)
  | false =>
   refine List.pairwise_cons.2 ⟨λz hz => ?_,CW htr (λz hz=>h z (List.mem_cons_of_mem _ hz)) p2⟩
   rcases List.mem_cons.1 ((Cm r x l).mem_iff.1 hz)with rfl|hz
   ·exact (h y List.mem_cons_self).resolve_left (by rw [hxy];exact Bool.false_ne_true)
   ·exact p1 z hz
theorem xV {α:Type} {r:α->α->Bool} (htr:∀a b c,r a b=true->r b c=true->r a c=true):∀{l:List α},l.Pairwise (λa b=>r a b=true\/r b a=true)->(JI r l).Pairwise (λa b=>r a b=true)
 | [],_ => .nil
 | x::l,h=>by
  obtain ⟨p1,p2⟩:=List.pairwise_cons.1 h
  exact CW htr (λy hy=>p1 y ((yA r l).mem_iff.1 hy)) (xV htr p2)
theorem srtG_is {α:Type} {r:α->α->Bool} (hir:∀a,r a a=false) (htr:∀a b c,r a b=true->r b c=true->r a c=true) {l s:List α} (ht:l.Pairwise (λa b=>r a b=true\/r b a=true)) (hp:s.Perm l) (hs:s.Pairwise (λa b=>r b a=false)):s=JI r l:=by
 have hsy:∀{x y:α},(r x y=true\/r y x=true)->(r y x=true\/r x y=true):=λh=>h.symm
 have h2:s.Pairwise (λa b=>r a b=true\/r b a=true):=(hp.pairwise_iff (λh=>h.symm)).2 ht
 have h3:s.Pairwise (λa b=>r a b=true):=by
  refine List.Pairwise.imp₂ (λa b h k => ?_) hs h2
  rcases k with k|k
  ·exact k
  ·rw [h]at k;cases k
 exact NI (R:=λa b=>r a b=true) (λa b h k=>by have:=htr a b a h k;rw [hir]at this;cases this) (hp.trans (yA r l).symm) h3 (xV htr ht)
theorem NA {α:Type} {r:α->α->Bool} (hir:∀a,r a a=false) (htr:∀a b c,r a b=true->r b c=true->r a c=true) {l:List α} (ht:l.Pairwise (λa b=>r a b=true\/r b a=true)) {x:α} (hx:x∈l) (hm:∀y∈l,r y x=false):∃t,JI r l=x::t:=by
 have hs:=xV htr ht
 have hp:=yA r l
 cases h:JI r l with
 | nil=>rw [h]at hp;have:=hp.symm.mem_iff.1 hx;cases this
 | cons y t =>
  rw [h]at hp hs
  rcases List.mem_cons.1 (hp.mem_iff.2 hx)with e|e
  ·exact⟨t,by rw [e]⟩
  ·have h1:=(List.pairwise_cons.1 hs).1 x e
   rw [hm y (hp.mem_iff.1 List.mem_cons_self)]at h1;cases h1
end Go.Proofs.YticmkhcacamhkaaGreatDoor.Law

open Go Go.Eng
namespace Go.Proofs.YticmkhcacamhkaaGreatDoor.Law
set_option linter.unusedVariables false
set_option linter.unusedSimpArgs false
def Dc (e:Entry) (z t d:Int):Bool := !e.Gone&&(decide (e.First<=d)&&(decide (d<=e.Last)&&(IU e d&&(decide (tF e z d<=t)&&decide (t<tF e z d+vg e*60000)))))
theorem pI {e:Entry} {z t d:Int}:Dc e z t d=true↔e.Gone=false/\e.First<=d/\d<=e.Last/\IU e d=true/\tF e z d<=t/\t<tF e z d+vg e*60000:=by
 unfold Dc
 simp only [Bool.and_eq_true,decide_eq_true_eq,Bool.not_eq_true']
theorem Ml (e:Entry) (z:Int) {d d':Int} (h:d<d'):tF e z d+86400000<=tF e z d':=by unfold tF;omega
theorem OA {e:Entry} (h:Right e) {z t d d':Int} (h1:Dc e z t d=true) (h2:Dc e z t d'=true):d=d':=by
 obtain ⟨_,_,_,_,a1,a2⟩:=pI.1 h1
 obtain ⟨_,_,_,_,b1,b2⟩:=pI.1 h2
 have hm:=Iz e h
 rcases Int.lt_trichotomy d d' with q|q|q
 ·have:=Ml e z q;omega
 ·exact q
 ·have:=Ml e z q;omega
def FU (z t:Int):Int:=(t+z*60000) / 86400000
def JJ (e:Entry) (z t:Int):Option Int :=
 bif Dc e z t (FU z t-1)then some (tF e z (FU z t-1))else bif Dc e z t (FU z t)then some (tF e z (FU z t))else none
theorem Ot {e:Entry} (h:Right e) {z t d:Int} (h1:Dc e z t d=true):d=FU z t-1\/d=FU z t:=by
 obtain ⟨_,_,_,_,a1,a2⟩:=pI.1 h1
 have hm:=Iz e h
 have hf:=h.from_
 unfold tF at a1 a2
 unfold FU
 omega
theorem AU {e:Entry} (h:Right e) {z t b:Int}:JJ e z t=some b↔∃d,Dc e z t d=true/\b=tF e z d:=by
 unfold JJ
 constructor
 ·intro hb
  cases h1:Dc e z t (FU z t-1)with
  | true=>rw [h1,cond_true,so_]at hb;exact⟨_,h1,hb.symm⟩
  | false =>
   rw [h1,cond_false]at hb
   cases h2:Dc e z t (FU z t)with
   | true=>rw [h2,cond_true,so_]at hb;exact⟨_,h2,hb.symm⟩
   | false=>rw [h2,cond_false]at hb;cases hb
 ·rintro ⟨d,hd,rfl⟩
  rcases Ot h hd with e1|e1
  ·rw [<- e1,hd,cond_true]
  ·cases h1:Dc e z t (FU z t-1)with
   | true=>have:=OA h hd h1;omega
   | false=>rw [cond_false,<- e1,hd,cond_true]
def xJ (x y:Entry×Int):Bool:=decide (y.1.Prio<x.1.Prio)||(decide (x.1.Prio=y.1.Prio)&&(decide (y.2<x.2)||(decide (x.2=y.2)&&sLt y.1.Key x.1.Key)))
theorem yf {x y:Entry×Int}:xJ x y=true↔y.1.Prio<x.1.Prio\/x.1.Prio=y.1.Prio/\(y.2<x.2\/x.2=y.2/\lt y.1.Key x.1.Key):=by
 unfold xJ
 simp only [Bool.or_eq_true,Bool.and_eq_true,decide_eq_true_eq,p8]
theorem EM (x:Entry×Int):xJ x x=false:=by
 rw [<- Bool.not_eq_true,yf]
 rintro (h|⟨_,h|⟨_,h⟩⟩)
 ·omega
 ·omega
 ·exact kR _ h
theorem Ei (a b c:Entry×Int) (h:xJ a b=true) (k:xJ b c=true):xJ a c=true:=by
 rw [yf]at *
 rcases h with h|⟨h,h2⟩ <;> rcases k with k|⟨k,k2⟩
 ·exact .inl (by omega)
 ·exact .inl (by omega)
 ·exact .inl (by omega)
 ·refine .inr ⟨by omega,?_⟩
  rcases h2 with h2|⟨h2,h3⟩ <;> rcases k2 with k2|⟨k2,k3⟩
  ·exact .inl (by omega)
  ·exact .inl (by omega)
  ·exact .inl (by omega)
  ·exact .inr ⟨by omega,lt_trans k3 h3⟩
theorem PN {x y:Entry×Int} (h:x.1.Key≠y.1.Key):xJ x y=true\/xJ y x=true:=by
 rw [yf,yf]
 rcases Int.lt_trichotomy x.1.Prio y.1.Prio with q|q|q
 ·exact .inr (.inl q)
 ·rcases Int.lt_trichotomy x.2 y.2 with w|w|w
  ·exact .inr (.inr ⟨q.symm,.inl w⟩)
  ·rcases uK x.1.Key y.1.Key with e|e|e
   ·exact .inr (.inr ⟨q.symm,.inr ⟨w.symm,e⟩⟩)
   ·exact absurd e h
   ·exact .inl (.inr ⟨q,.inr ⟨w,e⟩⟩)
  ·exact .inl (.inr ⟨q,.inl w⟩)
 ·exact .inl (.inl q)
theorem JB {α β:Type} {f g:α->Option β}:∀{l:List α},(∀x∈l,f x=g x)->l.filterMap f=l.filterMap g
 | [],_=>rfl
 | x::l,h=>by
  rw [List.filterMap_cons,List.filterMap_cons,h x (by simp),JB (λy hy=>h y (by simp [hy]))]
def Ep (p:Player) (t:Int) (e:Entry):Option (Entry×Int):=bif Bl e p then (JJ e p.Zone t).map (λb=>(e,b))else none
def uf (l:List Entry) (p:Player) (t:Int):List (Entry×Int):=l.filterMap (Ep p t)
def Ms (l:List Entry) (p:Player) (t:Int):List (Entry×Int):=JI xJ (uf l p t)
def qV (l:List Entry) (p:Player) (t:Int):ByteArray:=match Ms l p t with | []=>⟨#[]⟩ | x::_=>x.1.Key
theorem zM {p:Player} {t:Int} {e:Entry} {x:Entry×Int} (h:Ep p t e=some x):x.1=e/\Bl e p=true/\JJ e p.Zone t=some x.2:=by
 unfold Ep at h
 cases hf:Bl e p with
 | false=>rw [hf,cond_false]at h;cases h
 | true =>
  rw [hf,cond_true]at h
  cases hb:JJ e p.Zone t with
  | none=>rw [hb]at h;cases h
  | some b=>rw [hb,Option.map_some,so_]at h;rw [<- h];exact⟨rfl,rfl,rfl⟩
theorem F9 {l:List Entry} {p:Player} {t:Int} {x:Entry×Int}:x∈uf l p t↔x.1∈l/\Bl x.1 p=true/\JJ x.1 p.Zone t=some x.2:=by
 unfold uf
 rw [List.mem_filterMap]
 constructor
 ·rintro ⟨e,he,h⟩
  obtain ⟨h1,h2,h3⟩:=zM h
  rw [h1];exact⟨he,h2,h3⟩
 ·rintro ⟨h1,h2,h3⟩
  refine⟨x.1,h1,?_⟩
  unfold Ep
  rw [h2,h3];rfl
theorem NK {l:List Entry} (h:(l.map (·.Key)).Nodup) (p:Player) (t:Int):(uf l p t).Pairwise (λa b=>xJ a b=true\/xJ b a=true):=by
 have h2:l.Pairwise (λa b=>a.Key≠b.Key):=by
  have:=h
  unfold List.Nodup at this
  rwa [List.pairwise_map]at this
 unfold uf
 rw [List.pairwise_filterMap]
 refine h2.imp (λ{a b} hab x hx y hy => ?_)
 obtain ⟨e1,_⟩:=zM hx
 obtain ⟨e2,_⟩:=zM hy
 exact PN (by rw [e1,e2];exact hab)
theorem KD {l:List Entry} (h:(l.map (·.Key)).Nodup) (p:Player) (t:Int) {x:Entry×Int} (hx:x∈uf l p t) (hm:∀y∈uf l p t,xJ y x=false):qV l p t=x.1.Key:=by
 obtain ⟨r,e⟩:=NA EM Ei (NK h p t) hx hm
 unfold qV Ms
 rw [e]
theorem K7 {l:List Entry} {p:Player} {t:Int} (h:uf l p t=[]):qV l p t=⟨#[]⟩:=by
 unfold qV Ms
 rw [h];rfl
theorem key_gap {l:List Entry} (hr:∀e∈l,Right e) {p:Player} {a t:Int} (hat:a<=t)
  (h:∀e∈l,Bl e p=true->∀d,e.Gone=false->e.First<=d->d<=e.Last->IU e d=true->(tF e p.Zone d<=a\/t<tF e p.Zone d)/\(tF e p.Zone d+vg e*60000<=a\/t<tF e p.Zone d+vg e*60000)):qV l p t=qV l p a:=by
 have key:∀e∈l,Ep p t e=Ep p a e:=λe he=>by
  unfold Ep
  cases hf:Bl e p with
  | false=>rfl
  | true =>
   rw [cond_true,cond_true]
   have hb:JJ e p.Zone t=JJ e p.Zone a:=by
    refine Option.ext (λb => ?_)
    rw [AU (hr e he),AU (hr e he)]
    constructor
    ·rintro ⟨d,hd,rfl⟩
     obtain ⟨h1,h2,h3,h4,h5,h6⟩:=pI.1 hd
     obtain ⟨k1,k2⟩:=h e he hf d h1 h2 h3 h4
     exact⟨d,pI.2 ⟨h1,h2,h3,h4,by omega,by omega⟩,rfl⟩
    ·rintro ⟨d,hd,rfl⟩
     obtain ⟨h1,h2,h3,h4,h5,h6⟩:=pI.1 hd
     obtain ⟨k1,k2⟩:=h e he hf d h1 h2 h3 h4
     exact⟨d,pI.2 ⟨h1,h2,h3,h4,by omega,by omega⟩,rfl⟩
   rw [hb]
 have:uf l p t=uf l p a:=by
  unfold uf
  exact JB key
 unfold qV Ms
 rw [this]
theorem yj {p:Int->Bool} {f:Int->Window} {x:Window}:∀(n:Nat) (d:Int),x∈collect p f n d↔∃y,d<=y/\y<d+n/\p y=true/\x=f y
 | 0,d=>by
  simp only [collect,List.not_mem_nil,false_iff]
  rintro ⟨y,h1,h2,_⟩;omega
 | n+1,d=>by
  simp only [collect,List.mem_append,yj n (d+1)]
  constructor
  ·rintro (h|⟨y,h1,h2,h3⟩)
   ·cases hp:p d with
    | true=>rw [hp,cond_true,List.mem_singleton]at h;exact⟨d,by omega,by omega,hp,h⟩
    | false=>rw [hp]at h;cases h
   ·exact⟨y,by omega,by omega,h3⟩
  ·rintro ⟨y,h1,h2,h3,h4⟩
   by_cases hy:y=d
   ·subst hy;left;rw [h3,cond_true,h4];exact List.mem_singleton.2 rfl
   ·right;exact⟨y,by omega,by omega,h3,h4⟩
theorem yC (a b:Int):jE a b=max a b:=by unfold jE;split <;> omega
theorem Bf (a b:Int):lD a b=min a b:=by unfold lD;split <;> omega
theorem Hu {e:Entry} {z:Int} {w:Window} {d:Int}:pR e z w d=true↔e.Gone=false/\IU e d=true/\max (tF e z d) w.From<min (tF e z d+vg e*60000) w.To:=by
 unfold pR
 simp only [Bool.and_eq_true,decide_eq_true_eq,Bool.not_eq_true',yC,Bf]
theorem yX {e:Entry} (h:Right e) {z:Int} {w x:Window}:x∈wants e z w↔∃d,e.First<=d/\d<=e.Last/\pR e z w d=true/\x=cutW w (tW e z d):=by
 have h1:=h.first
 unfold wants
 rw [yj]
 constructor
 ·rintro ⟨y,a,b,c⟩;exact⟨y,a,by omega,c⟩
 ·rintro ⟨y,a,b,c⟩;exact⟨y,a,by omega,c⟩
theorem PI {l:List Entry} (hr:∀e∈l,Right e) {p:Player} {w:Window} {E:List Int} (hE:E.Pairwise (· < ·)) (hin:∀x∈E,w.From<=x/\x<=w.To)
  (hw:∀e∈l,Bl e p=true->∀x∈wants e p.Zone w,x.From∈E/\x.To∈E) {i:Nat} {a b:Int} (ha:E[i]? = some a) (hb:E[i+1]? = some b) {t:Int} (hat:a<=t) (htb:t<b):qV l p t=qV l p a:=by
 have a1:=hin a (List.mem_of_getElem? ha)
 have b1:=hin b (List.mem_of_getElem? hb)
 refine key_gap hr hat (λe he hf d g1 g2 g3 g4 => ?_)
 have hm:=Iz e (hr e he)
 have key:∀v:Int,(v=tF e p.Zone d\/v=tF e p.Zone d+vg e*60000)->v<=a\/t<v:=λv hv=>by
  by_cases q1:w.From<v
  ·by_cases q2:v<w.To
   ·have hp:pR e p.Zone w d=true:=Hu.2 ⟨g1,g4,by omega⟩
    obtain ⟨k1,k2⟩:=hw e he hf _ ((yX (hr e he)).2 ⟨d,g2,g3,hp,rfl⟩)
    unfold cutW tW at k1 k2
    simp only [yC,Bf]at k1 k2
    have hvE:v∈E:=by
     rcases hv with hv|hv
     ·rw [show max (tF e p.Zone d) w.From=v by omega]at k1;exact k1
     ·rw [show min (tF e p.Zone d+vg e*60000) w.To=v by omega]at k2;exact k2
    rcases Jq hE ha hb hvE with h|h
    ·exact .inl h
    ·exact .inr (by omega)
   ·exact .inr (by omega)
  ·exact .inl (by omega)
 exact⟨key _ (.inl rfl),key _ (.inr rfl)⟩
end Go.Proofs.YticmkhcacamhkaaGreatDoor.Law

open Go Go.Eng
namespace Go.Proofs.YticmkhcacamhkaaGreatDoor.Law
set_option linter.unusedVariables false
set_option linter.unusedSimpArgs false
def tiL (e:Entry) (z:Int) (w:Window):List Window:=collect (pR e z w) (tW e z) (e.Last+1-e.First).toNat e.First
theorem timesK2 (e:Entry) (h:Right e) (z:Int) (w:Window) (hz : -1440<=z/\z<=1440) (hw:Mq w):gD e z w=some (tiL e z w):=by
 obtain ⟨w1,w2,w3⟩:=hw
 have hf:=h.first
 have hl:=h.last
 have hm:=Iz e h
 have hfr:=h.from_
 unfold gD
 cases hg:e.Gone with
 | true =>
  simp only [cond_true,ob_]
  unfold tiL
  rw [oW _ _ (λx _ _=>by simp only [pR,hg,Bool.not_true,Bool.false_and])]
 | false =>
 simp only [cond_false,ob_]
 by_cases hlt:w.From>=w.To
 ·simp only [decide_eq_true hlt,cond_true]
  unfold tiL
  rw [oW _ _ (λx _ _=>by
   have:decide (jE (tF e z x) w.From<lD (tF e z x+vg e*60000) w.To)=false:=decide_eq_false (by unfold jE lD;split <;> split <;> omega)
   simp only [pR,this,Bool.and_false])]
 ·simp only [decide_eq_false hlt,cond_false]
  rw [bD (n:=z*60000) (by omega),bD (n:=w.From+z*60000) (by omega)]
  obtain ⟨a,ha⟩:∃a,(w.From+z*60000).tdiv 86400000=a:=⟨_,rfl⟩
  obtain ⟨b,hb⟩:∃b,(w.To+z*60000).tdiv 86400000=b:=⟨_,rfl⟩
  have ha2:=tdivB _ _ ha
  have hb2:=tdivB _ _ hb
  rw [ha,bD (n:=a) (by omega),bD (n:=a-2) (by omega)]
  obtain ⟨lo,hlo⟩:∃lo,jE (a-2) e.First=lo:=⟨_,rfl⟩
  obtain ⟨hi,hhi⟩:∃hi,lD (b+1) e.Last=hi:=⟨_,rfl⟩
  have hlo2:e.First<=lo/\a-2<=lo/\(lo=e.First\/lo=a-2):=by unfold jE at hlo;split at hlo <;> omega
  have hhi2:hi<=e.Last/\hi<=b+1/\(hi=e.Last\/hi=b+1):=by unfold lD at hhi;split at hhi <;> omega
  have hend:∀d,decide (d<=lD (w64 (w64 ((w64 (w.To+w64 (z*60000))).tdiv 86400000)+1)) e.Last)=decide (d<=hi):=λd=>by
   rw [bD (n:=z*60000) (by omega),bD (n:=w.To+z*60000) (by omega),hb,bD (n:=b) (by omega),bD (n:=b+1) (by omega),hhi]
  rw [hlo]
  obtain ⟨d',hd⟩:=Nj (ρ:=Unit) (body:=λs=>eH w z e s) (p:=pK e z w) (f:=tW e z) lo hi (by omega) (λacc d h1 h2 h3=>by
    have hc:decide (d<=hi)=true:=decide_eq_true h2
    simp only [eH,hend,hc,cond_true,timeK e h z d hz (by omega),ob_,dayK e h d (by omega) (by omega),bD (n:=d+1) (by omega),pK]
    cases IU e d with
    | false=>simp
    | true =>
     simp only [Bool.not_true,cond_false,ob_,Bool.true_and]
     by_cases hA:tF e z d<w.To
     ·have hA1:decide (tF e z d<w.To)=true:=decide_eq_true hA
      have hA2:decide ((tW e z d).From<w.To)=true:=decide_eq_true hA
      by_cases hB:tF e z d+vg e*60000>w.From
      ·have hB1:decide (tF e z d+vg e*60000>w.From)=true:=decide_eq_true hB
       have hB2:decide ((tW e z d).To>w.From)=true:=decide_eq_true hB
       simp only [hA1,hA2,hB1,hB2,cond_true,Bool.and_self,ob_,lK acc [tW e z d] (show acc.length+1<=_ by omega)]
      ·have hB1:decide (tF e z d+vg e*60000>w.From)=false:=decide_eq_false hB
       have hB2:decide ((tW e z d).To>w.From)=false:=decide_eq_false hB
       simp only [hA1,hA2,hB1,hB2,cond_true,cond_false,Bool.and_false,ob_,List.append_nil]
     ·have hA1:decide (tF e z d<w.To)=false:=decide_eq_false hA
      have hA2:decide ((tW e z d).From<w.To)=false:=decide_eq_false hA
      simp only [hA1,hA2,cond_false,Bool.false_and,ob_,List.append_nil])
   (λacc d h1=>by
    have hc:decide (d<=hi)=false:=decide_eq_false (by omega)
    simp only [eH,hend,hc,cond_false])
  rw [hd,ob_,qU]
  unfold tiL
  rw [JH (pR e z w) _ e.First e.Last lo hi (by omega) (by omega) (λx x1 x2 hp => ?_)]
  ·congr 1
   refine zA _ _ (λx x1 x2=>⟨?_,rfl⟩)
   simp only [pK,pR,hg,Bool.not_false,Bool.true_and]
   congr 1
   rw [Bool.eq_iff_iff,Bool.and_eq_true,decide_eq_true_eq,decide_eq_true_eq,decide_eq_true_eq]
   unfold jE lD
   split <;> split <;> omega
  ·simp only [pR,hg,Bool.not_false,Bool.true_and,Bool.and_eq_true,decide_eq_true_eq]at hp
   have hp2:=hp.2
   unfold tF at hp2
   unfold jE lD at hp2
   split at hp2 <;> split at hp2 <;> omega
theorem Mt {e:Entry} (h:Right e) (z:Int) (w:Window):(tiL e z w).length<=4001:=by
 have h1:=CG (pR e z w) (tW e z) (e.Last+1-e.First).toNat e.First
 have h2:=h.first
 have h3:=h.last
 unfold tiL
 omega
theorem Dv {e:Entry} (h:Right e) {z:Int} {w x:Window}:x∈tiL e z w↔∃d,e.First<=d/\d<=e.Last/\pR e z w d=true/\x=tW e z d:=by
 have h1:=h.first
 unfold tiL
 rw [yj]
 constructor
 ·rintro ⟨y,a,b,c⟩;exact⟨y,a,by omega,c⟩
 ·rintro ⟨y,a,b,c⟩;exact⟨y,a,by omega,c⟩
def AC (p:Player) (w:Window) (e:Entry):List Span:=bif Bl e p then (tiL e p.Zone w).map (λt=>⟨some e,t⟩)else []
def mZ (l:List Entry) (p:Player) (w:Window):List Span:=l.flatMap (AC p w)
structure CE (l:List Entry) (p:Player):Prop where
 right:∀e∈l,Right e
 tags:∀e∈l,e.Tags.length<=1000
 len:l.length<=4
 keys:(l.map (·.Key)).Nodup
 ne:∀e∈l,e.Key≠⟨#[]⟩
 zone : -1440<=p.Zone/\p.Zone<=1440
 ptags:tagsF p.Tags=0
theorem GZ {l:List Entry} {p:Player} (h:CE l p) (w:Window) {e:Entry} (he:e∈l):(AC p w e).length<=4001:=by
 unfold AC
 cases Bl e p with
 | false=>exact Nat.zero_le _
 | true=>rw [cond_true,List.length_map];exact Mt (h.right e he) _ _
theorem EW {α β:Type} {f:α->List β} {n:Nat}:∀{l:List α},(∀x∈l,(f x).length<=n)->(l.flatMap f).length<=l.length*n
 | [],_=>by simp
 | x::l,h=>by
  have h1:=h x (by simp)
  have h2:=EW (l:=l) (λy hy=>h y (by simp [hy]))
  rw [List.flatMap_cons,List.length_append,List.length_cons,Nat.add_mul]
  omega
theorem spans_eq {l:List Entry} {p:Player} (h:CE l p) {w:Window} (hw:Mq w):je l p w=some (mZ l p w):=by
 have hl:=h.len
 unfold je
 obtain ⟨t,t1,t2⟩:=jW (body:=λk x s=>iE p w l k x s) (λk s=>s=mZ (l.take k) p w) (xs:=l) (s:=([]:List Span)) (by omega) (λk e s he hs=>by
  have et:l.take (k+1)=l.take k++[e]:=by rw [List.take_add_one,he];rfl
  have hm:=List.mem_of_getElem? he
  have hsl:s.length<=20000:=by
   rw [hs]
   have h1:=EW (l:=l.take k) (f:=AC p w) (n:=4001) (λx hx=>GZ h w (List.mem_of_mem_take hx))
   have h2:(l.take k).length<=4:=by rw [List.length_take];omega
   have h3:(l.take k).length*4001<=4*4001:=Nat.mul_le_mul_right _ h2
   unfold mZ
   omega
  have hn:mZ (l.take (k+1)) p w=s++AC p w e:=by
   rw [hs,et]
   unfold mZ
   rw [List.flatMap_append]
   simp
  unfold iE
  rw [fitK e p (h.tags e hm) h.ptags,ob_]
  cases hf:Bl e p with
  | false =>
   refine⟨s,rfl,?_⟩
   rw [hn]
   unfold AC
   rw [hf];simp
  | true =>
   simp only [Bool.not_true,cond_false]
   rw [timesK2 e (h.right e hm) p.Zone w h.zone hw,ob_]
   have htl:=Mt (h.right e hm) p.Zone w
   obtain ⟨u,u1,u2⟩:=jW (body:=λj x s=>iC l k j x s) (λj s'=>s'=s++((tiL e p.Zone w).take j).map (λt=>(⟨some e,t⟩:Span))) (xs:=tiL e p.Zone w) (s:=s) (by omega) (λj x s' hx hs'=>by
    have et2:(tiL e p.Zone w).take (j+1)=(tiL e p.Zone w).take j++[x]:=by rw [List.take_add_one,hx];rfl
    have hjl:((tiL e p.Zone w).take j).length<=4001:=by rw [List.length_take];omega
    unfold iC
    rw [lS,he,ob_,lK _ _ (by rw [hs',List.length_append,List.length_map];simp only [List.length_cons,List.length_nil];omega)]
    refine⟨_,rfl,?_⟩
    rw [et2,List.map_append,hs',List.append_assoc];rfl) (by simp)
   rw [u1]
   refine⟨u,rfl,?_⟩
   rw [hn,u2,List.take_length]
   unfold AC
   rw [hf];rfl) rfl
 rw [t1,t2,List.take_length];rfl
end Go.Proofs.YticmkhcacamhkaaGreatDoor.Law

namespace Go.Eng
set_option linter.unusedVariables false
set_option linter.unusedSimpArgs false
def ME {α:Type} (cmp:α->α->Option Int) (a_2:Int) (s_21:(List α)×Int):Option (Ctl ((List α)×Int) (Unit)) :=
 (bif (decide (s_21.2>a_2))then (inR s_21.2 s_21.1).bind λ_=>(s_21.1[(0+(s_21.2).toNat)]?).bind λe_30=>(inR (w64 (s_21.2-1)) s_21.1).bind λ_=>(s_21.1[(0+((w64 (s_21.2-1))).toNat)]?).bind λe_33=>(cmp e_30 e_33).bind λr_35=>some (decide (r_35<0))else some false).bind λv_26=>bif v_26 then (inR (w64 (s_21.2-1)) s_21.1).bind λ_=>(s_21.1[(0+((w64 (s_21.2-1))).toNat)]?).bind λe_39=>(inR s_21.2 s_21.1).bind λ_=>(s_21.1[(0+(s_21.2).toNat)]?).bind λe_42=>(inR s_21.2 s_21.1).bind λ_=>(s_21.1[(0+(s_21.2).toNat)]?).bind λe_45=>(inR (w64 (s_21.2-1)) (s_21.1.set (0+(s_21.2).toNat) e_39)).bind λ_=>((s_21.1.set (0+(s_21.2).toNat) e_39)[(0+((w64 (s_21.2-1))).toNat)]?).bind λe_48=>some (.go (((s_21.1.set (0+(s_21.2).toNat) e_39).set (0+((w64 (s_21.2-1))).toNat) e_42),(w64 (s_21.2-1))))else some (.brk (s_21.1,s_21.2))
noncomputable def Kk {α:Type} (cmp:α->α->Option Int) (b_3:Int) (a_2:Int) (s_10:(List α)×Int):Option (Ctl ((List α)×Int) (Unit)) :=
 bif (decide (s_10.2<b_3))then (fC (s_10.1,s_10.2) (λs=>ME cmp a_2 s)).bind λo_24=>thenC o_24 (λs_21=>some (.go (s_21.1,(w64 (s_10.2+1))))) (λ_=>none)else some (.brk (s_10.1,s_10.2))
noncomputable def KR {α:Type} (cmp:α->α->Option Int) (data_1:(List α)) (a_2:Int) (b_3:Int):Option ((List α)) :=
 (fC (data_1,(w64 (a_2+1))) (λs=>Kk cmp b_3 a_2 s)).bind λo_13=>thenC o_13 (λs_10=>some s_10.1) (λ_=>none)
noncomputable def PU {α:Type} (cmp:α->α->Option Int) (b_3:Int) (a_2:Int) (data_1:(List α)) (limit_4:Int) (s_11:Unit):Option (Ctl (Unit) ((List α))) :=
 bif (decide ((w64 (b_3-a_2))<=12))then (KR cmp data_1 a_2 b_3).bind λr_17=>(iJ r_17 data_1).bind λ_=>some (.ret r_17)else bif (limit_4==0)then none else none
noncomputable def Ic {α:Type} (cmp:α->α->Option Int) (data_1:(List α)) (a_2:Int) (b_3:Int) (limit_4:Int):Option ((List α)) :=
 (fC () (λs=>PU cmp b_3 a_2 data_1 limit_4 s)).bind λo_14=>thenC o_14 (λs_11=>some data_1) (λr=>some r)
theorem Mw {α:Type} (u v:α) (C:List α):∀A:List α,((A++u::v::C).set (A.length+1) u).set A.length v=A++v::u::C
 | []=>rfl
 | a::A=>by simp only [List.cons_append,List.length_cons,List.set_cons_succ,Mw u v C A]
theorem get_0 {α:Type} (u:α) (C A:List α):(A++u::C)[A.length]? = some u:=by simp
theorem get_1 {α:Type} (u v:α) (C A:List α):(A++u::v::C)[A.length+1]? = some v:=by
 rw [List.getElem?_append_right (by omega)];simp
theorem Oo {α:Type} (u v w:α) (C:List α):∀A:List α,(A++u::v::C).set (A.length+1) w=A++u::w::C
 | []=>rfl
 | a::A=>by simp only [List.cons_append,List.length_cons,List.set_cons_succ,Oo u v w C A]
theorem KX {α:Type} {xs:List α} {i:Nat} (h:i<xs.length):inR (i:Int) xs=some ():=by
 unfold inR;rw [if_pos ⟨by omega,by simpa using h⟩]
section
variable {α:Type} {cmp:α->α->Option Int} {le:α->α->Prop} {p:α->Prop}
theorem insL1_s (u v:α) (A C:List α) {c:Int} (hc:cmp v u=some c) (hl:A.length<=1000000000):ME cmp 0 (A++u::v::C,((A.length+1:Nat):Int))=some (bif decide (c<0)then .go (A++v::u::C,(A.length:Int))else .brk (A++u::v::C,((A.length+1:Nat):Int))):=by
 have hw:w64 (((A.length+1:Nat):Int)-1)=(A.length:Int):=by rw [Eo _ (by omega)];omega
 have h1:inR ((A.length+1:Nat):Int) (A++u::v::C)=some ():=KX (by simp)
 have h2:inR (A.length:Int) (A++u::v::C)=some ():=KX (by simp)
 have h3:inR (A.length:Int) (A++u::u::C)=some ():=KX (by simp)
 have hd:decide (((A.length+1:Nat):Int)>0)=true:=by simp <;> omega
 have e1:0+((A.length+1:Nat):Int).toNat=A.length+1:=by omega
 have e2:0+((A.length:Nat):Int).toNat=A.length:=by omega
 unfold ME
 simp only [hw,h1,h2,hd,e1,e2,get_0,get_1,ob_,hc,cond_true,Oo,h3]
 cases decide (c<0)with
 | false=>rfl
 | true =>
  simp only [cond_true]
  have:=Mw u v C A
  rw [Oo]at this
  rw [this]
theorem Gf (hc:∀a b,p a->p b->∃c,cmp a b=some c/\(c<0->le a b)/\(¬c<0->le b a)) (tr:∀a b c,le a b->le b c->le a c) (v:α) (hv:p v) (R:List α):∀(n:Nat) (A B:List α),A.length=n->n<=1000000000->(∀a∈A,p a)->(A++B).Pairwise le->(∀b∈B,le v b) ->
  ∃A' B',iterN (λs=>ME cmp 0 s) (n+1) (A++v::(B++R),(A.length:Int))=some (.go (A'++v::(B'++R),(A'.length:Int)))/\A'++B'=A++B/\(A'++v::B').Pairwise le
 | 0,A,B,hA,hn,hpa,hp,hb=>by
  have:A=[]:=List.eq_nil_of_length_eq_zero hA
  subst this
  exact⟨[],B,by simp only [List.nil_append,List.length_nil,iterN,Option.bind];rfl,rfl,by simpa using ⟨hb,hp⟩⟩
 | n+1,A,B,hA,hn,hpa,hp,hb=>by
  rcases List.eq_nil_or_concat A with h|⟨A0,u,h⟩
  ·rw [h]at hA;cases hA
  ·subst h
   simp only [List.concat_eq_append]at hA hp hpa ⊢
   have hA0:A0.length=n:=by simpa using hA
   have hl:(A0++[u]).length=A0.length+1:=by simp
   have e:A0++[u]++v::(B++R)=A0++u::v::(B++R):=by simp
   obtain ⟨c,h1,h2,h3⟩:=hc v u hv (hpa u (by simp))
   rw [hl,e,iterN,insL1_s u v A0 (B++R) h1 (by omega),ob_]
   by_cases hcn:c<0
   ·simp only [decide_eq_true hcn,cond_true]
    have hp':(A0++(u::B)).Pairwise le:=by simpa using hp
    obtain ⟨A',B',k1,k2,k3⟩:=Gf hc tr v hv R n A0 (u::B) hA0 (by omega) (λa ha=>hpa a (by simp [ha])) hp' (λb hb'=>by
     rcases List.mem_cons.1 hb' with rfl|hb'
     ·exact h2 hcn
     ·exact hb b hb')
    refine⟨A',B',?_,by rw [k2];simp,k3⟩
    rw [<- k1];simp
   ·simp only [decide_eq_false hcn,cond_false]
    refine⟨A0++[u],B,by simp,rfl,?_⟩
    have huv:=h3 hcn
    rw [List.pairwise_append]at hp ⊢
    obtain ⟨p1,p2,p3⟩:=hp
    refine⟨p1,List.pairwise_cons.2 ⟨hb,p2⟩,λa ha b hb' => ?_⟩
    rcases List.mem_cons.1 hb' with rfl|hb'
    ·rcases List.mem_append.1 ha with ha|ha
     ·rw [List.pairwise_append]at p1
      exact tr _ _ _ (p1.2.2 a ha u (by simp)) huv
     ·rw [List.mem_singleton]at ha;subst ha;exact huv
    ·exact p3 a ha b hb'
theorem Gb (hc:∀a b,p a->p b->∃c,cmp a b=some c/\(c<0->le a b)/\(¬c<0->le b a)) (tr:∀a b c,le a b->le b c->le a c):∀(Q P:List α),P.length+Q.length<=1000000000->(∀x∈P++Q,p x)->P.Pairwise le ->
  ∃s,iterN (λs=>Kk cmp ((P.length+Q.length:Nat):Int) 0 s) (Q.length+1) (P++Q,(P.length:Int))=some (.go (s,((P.length+Q.length:Nat):Int)))/\s.Perm (P++Q)/\s.Pairwise le
 | [],P,hl,hpx,hp=>by
  refine⟨P,?_,by simp,hp⟩
  have hd:decide ((P.length:Int)<((P.length+([]:List α).length:Nat):Int))=false:=by simp
  simp only [iterN,Kk,hd,cond_false,ob_,List.append_nil]
  simp
 | v::Q,P,hl,hpx,hp=>by
  simp only [List.length_cons]at hl
  have hd:decide ((P.length:Int)<((P.length+(v::Q).length:Nat):Int))=true:=by simp only [decide_eq_true_eq,List.length_cons];omega
  obtain ⟨A',B',k1,k2,k3⟩:=Gf hc tr v (hpx v (by simp)) Q P.length P [] rfl (by omega) (λa ha=>hpx a (by simp [ha])) (by simpa using hp) (λb hb=>by cases hb)
  rw [List.nil_append]at k1
  have hlo:=gQ k1
  rw [List.length_cons,iterN]
  have hw:w64 ((P.length:Int)+1)=((A'++v::B').length:Int):=by
   have:=congrArg List.length k2
   simp only [List.length_append,List.length_nil]at this
   rw [Eo _ (by omega)];simp only [List.length_append,List.length_cons];omega
  have h1:Kk cmp ((P.length+(Q.length+1):Nat):Int) 0 (P++v::Q,(P.length:Int))=some (.go (A'++v::(B'++Q),((A'++v::B').length:Int))):=by
   have hd':decide ((P.length:Int)<((P.length+(Q.length+1):Nat):Int))=true:=hd
   unfold Kk
   simp only [hd',cond_true,hlo,ob_,thenC,hw]
  have hlen:(A'++v::B').length=P.length+1:=by
   have:=congrArg List.length k2
   simp only [List.length_append,List.length_nil,List.length_cons]at this ⊢
   omega
  have hk:(A'++B').Perm P:=by rw [k2];simp
  have hperm:(A'++v::B').Perm (P++[v]):=(List.perm_middle).trans ((List.Perm.cons v hk).trans (List.perm_append_comm (l₁:=[v]) (l₂:=P)))
  obtain ⟨s,m1,m2,m3⟩:=Gb hc tr Q (A'++v::B') (by omega) (λx hx=>by
   rcases List.mem_append.1 hx with hx|hx
   ·have:=hperm.mem_iff.1 hx
    exact hpx x (by rcases List.mem_append.1 this with h | h <;> simp_all)
   ·exact hpx x (by simp [hx])) k3
  rw [h1,ob_]
  have e:A'++v::(B'++Q)=(A'++v::B')++Q:=by simp
  have e2:P.length+(Q.length+1)=(A'++v::B').length+Q.length:=by omega
  simp only
  rw [e,e2]
  refine⟨s,m1,m2.trans ?_,m3⟩
  have:=List.Perm.append_right Q hperm
  simpa using this
theorem PD (hc:∀a b,p a->p b->∃c,cmp a b=some c/\(c<0->le a b)/\(¬c<0->le b a)) (tr:∀a b c,le a b->le b c->le a c) (l:List α) (hl:l.length<=12) (hpl:∀x∈l,p x) (lim:Int):∃s,Ic cmp l 0 (l.length:Int) lim=some s/\s.Perm l/\s.Pairwise le:=by
 have key:∃s,KR cmp l 0 (l.length:Int)=some s/\s.Perm l/\s.Pairwise le:=by
  unfold KR
  have hw:w64 (0+1)=1:=rfl
  rw [hw]
  cases l with
  | nil=>exact⟨[],by rw [gQ (n:=1) (o := .go ([],1)) rfl];rfl,.nil,.nil⟩
  | cons v Q =>
   obtain ⟨s,m1,m2,m3⟩:=Gb hc tr Q [v] (by simp only [List.length_cons,List.length_nil]at hl ⊢;omega) (λx hx=>hpl x (by simpa using hx)) (List.pairwise_singleton _ _)
   have e:([v].length+Q.length:Nat)=(v::Q).length:=by simp only [List.length_cons,List.length_nil];omega
   rw [e]at m1
   have:=gQ m1
   refine⟨s,?_,m2,m3⟩
   show (fC (v::Q,1) _).bind _=_
   have e2:(([v]++Q,(([v]:List α).length:Int)):List α×Int)=(v::Q,1):=rfl
   rw [e2]at this
   rw [this];rfl
 obtain ⟨s,h1,h2,h3⟩:=key
 refine⟨s,?_,h2,h3⟩
 have hsm:iJ s l=some ():=by unfold iJ;rw [if_pos h2.length_eq]
 have hd:decide (w64 ((l.length:Int)-0)<=12)=true:=by
  have:(l.length:Int)-0=l.length:=by omega
  rw [this,Eo _ (by omega)];simp;omega
 have:fC () (λs=>PU cmp (l.length:Int) 0 l lim s)=some (.ret s):=by
  refine gQ (n:=1) ?_
  simp only [iterN,PU,hd,cond_true,h1,hsm,ob_]
 unfold Ic
 rw [this];rfl
end
end Go.Eng

open Go Go.Eng
namespace Go.Proofs.YticmkhcacamhkaaGreatDoor.Law
set_option linter.unusedVariables false
set_option linter.unusedSimpArgs false
theorem yK (a b:ByteArray):(lt a b/\wm a b = -1)\/(a=b/\wm a b=0)\/(lt b a/\wm a b=1):=by
 have key:∀(x y:List UInt8),(x<y/\Lib.compareBytes x y = -1)\/(x=y/\Lib.compareBytes x y=0)\/(y<x/\Lib.compareBytes x y=1):=by
  intro x
  induction x with
  | nil=>intro y;cases y with
   | nil=>exact .inr (.inl ⟨rfl,rfl⟩)
   | cons b y=>exact .inl ⟨by simp,rfl⟩
  | cons a x ih=>intro y;cases y with
   | nil=>exact .inr (.inr ⟨by simp,rfl⟩)
   | cons b y =>
    simp only [Lib.compareBytes,List.cons_lt_cons_iff,List.cons.injEq]
    by_cases h1:a<b
    ·exact .inl ⟨.inl h1,by rw [if_pos h1]⟩
    ·by_cases h2:b<a
     ·exact .inr (.inr ⟨.inl h2,by rw [if_neg h1,if_pos h2]⟩)
     ·have e:a=b:=UInt8.le_antisymm (UInt8.not_lt.1 h2) (UInt8.not_lt.1 h1)
      subst e
      rw [if_neg h1,if_neg h1]
      rcases ih y with⟨h,k⟩|⟨h,k⟩|⟨h,k⟩
      ·exact .inl ⟨.inr ⟨rfl,h⟩,k⟩
      ·exact .inr (.inl ⟨⟨rfl,h⟩,k⟩)
      ·exact .inr (.inr ⟨.inr ⟨rfl,h⟩,k⟩)
 unfold wm lt
 rw [toL,toL]
 rcases key a.data.toList b.data.toList with⟨h,k⟩|⟨h,k⟩|⟨h,k⟩
 ·exact .inl ⟨h,k⟩
 ·exact .inr (.inl ⟨Bi (by rw [toL,toL];exact h),k⟩)
 ·exact .inr (.inr ⟨h,k⟩)
theorem tH (a b:ByteArray):strings_Compare a b=some (wm a b):=rfl
def wY (a b:Int):Int:=if a<b then -1 else if a>b then 1 else 0
theorem sM (a b:Int):cmp_Compare_int a b=some (wY a b):=by
 have e:∀x:Int,(x != x)=false:=by simp
 unfold cmp_Compare_int cmp_isNaN_int wY
 simp only [e,ob_,cond_false]
 by_cases h:a<b
 ·simp only [decide_eq_true h,cond_true,if_pos h]
 ·by_cases h2:a>b
  ·simp only [decide_eq_false h,decide_eq_true h2,cond_true,cond_false,if_neg h,if_pos h2]
  ·simp only [decide_eq_false h,decide_eq_false h2,cond_false,if_neg h,if_neg h2]
theorem Lp (a b c:Int):jw [a,b,c]=some (or0 a (or0 b c)):=by
 unfold jw or0
 rw [lH (by simp)]
 simp only [forR,mD]
 cases ha:a==0 with
 | false =>
  have:(a != 0)=true:=by simp [bne,ha]
  simp only [this,cond_true,cond_false,ob_,thenC]
 | true =>
  have:(a != 0)=false:=by simp [bne,ha]
  simp only [this,cond_true,cond_false,ob_]
  cases hb:b==0 with
  | false =>
   have:(b != 0)=true:=by simp [bne,hb]
   simp only [this,cond_true,cond_false,ob_,thenC]
  | true =>
   have:(b != 0)=false:=by simp [bne,hb]
   simp only [this,cond_true,cond_false,ob_]
   cases hc:c==0 with
   | false =>
    have:(c != 0)=true:=by simp [bne,hc]
    simp only [this,cond_true,ob_,thenC]
   | true =>
    have:(c != 0)=false:=by simp [bne,hc]
    simp only [this,cond_false,ob_,thenC]
    rw [eq_of_beq hc]
theorem yP {a b:Int}:or0 a b<0↔a<0\/a=0/\b<0:=by
 unfold or0
 by_cases h:a=0
 ·subst h;simp
 ·have:(a==0)=false:=by simpa using h
  rw [this,cond_false];omega
theorem oz {a b:Int}:wY a b<0↔a<b:=by
 unfold wY
 split
 ·omega
 ·split <;> omega
theorem sJ {a b:Int}:wY a b=0↔a=b:=by
 unfold wY
 split
 ·omega
 ·split <;> omega
theorem Ao {a b:ByteArray}:wm a b<0↔lt a b:=by
 rcases yK a b with⟨h,e⟩|⟨h,e⟩|⟨h,e⟩
 ·rw [e];exact⟨λ_=>h,λ_=>by decide⟩
 ·rw [e,h];exact⟨λk=>absurd k (by decide),λk=>absurd k (kR _)⟩
 ·rw [e];exact⟨λk=>absurd k (by decide),λk=>absurd (lt_trans k h) (kR _)⟩
theorem OO {a b c:ByteArray} (h:¬lt a b) (k:¬lt b c):¬lt a c:=λq=>by
 rcases uK a b with e|e|e
 ·exact h e
 ·rw [e]at q;exact k q
 ·exact k (lt_trans e q)
theorem K9:∀n:Nat,n<=12->∃k,fO (IntKind.u64.wrap (n:Int))=some k:=by
 have h:(List.range 13).all (λn=>(fO (IntKind.u64.wrap (n:Int))).isSome)=true:=by kernel_rfl
 intro n hn
 have:=List.all_eq_true.1 h n (by simp;omega)
 exact Option.isSome_iff_exists.1 this
theorem La {α:Type} {cmp:α->α->Option Int} (c:α->α->Int) {S:List α->Option (List α)} (hS:∀x,S x=(fO (IntKind.u64.wrap (x.length:Int))).bind λr_3=>(Ic cmp x 0 (x.length:Int) r_3).bind λr_5=>(iJ r_5 x).bind λ_=>some r_5)
  {xs:List α} (hl:xs.length<=12) (hF:∀a∈xs,∀b∈xs,cmp a b=some (c a b)) (has:∀a b,c a b<0->¬c b a<0) (hn:∀a b d,¬c a b<0->¬c b d<0->¬c a d<0) :
  ∃r,S xs=some r/\r.Perm xs/\r.Pairwise (λa b=>¬c b a<0):=by
 obtain ⟨k,hk⟩:=K9 xs.length hl
 obtain ⟨s,h1,h2,h3⟩:=PD (cmp:=cmp) (le:=λa b=>¬c b a<0) (p:=(· ∈ xs)) (λa b ha hb=>⟨c a b,hF a ha b hb,λh=>has a b h,λh=>h⟩) (λa b d h k=>hn d b a k h) xs hl (λx hx=>hx) k
 refine⟨s,?_,h2,h3⟩
 have hsm:iJ s xs=some ():=by unfold iJ;rw [if_pos h2.length_eq]
 rw [hS,hk,ob_,h1,ob_,hsm];rfl
def ug (x:Entry×Int):Span:=⟨some x.1,⟨x.2,x.2+vg x.1*60000⟩⟩
def cE (x y:Entry×Int):Int:=or0 (wY y.1.Prio x.1.Prio) (or0 (wY y.2 x.2) (wm y.1.Key x.1.Key))
theorem PX {x y:Entry×Int}:cE x y<0↔xJ x y=true:=by
 unfold cE
 rw [yP,yP,oz,sJ,oz,sJ,Ao,yf]
 constructor
 ·rintro (h|⟨h,k|⟨k,q⟩⟩)
  ·exact .inl h
  ·exact .inr ⟨h.symm,.inl k⟩
  ·exact .inr ⟨h.symm,.inr ⟨k.symm,q⟩⟩
 ·rintro (h|⟨h,k|⟨k,q⟩⟩)
  ·exact .inl h
  ·exact .inr ⟨h.symm,.inl k⟩
  ·exact .inr ⟨h.symm,.inr ⟨k.symm,q⟩⟩
def zeroE:Entry:=⟨⟨#[]⟩,⟨#[]⟩,0,0,0,0,0,[],0,0,0,[],false⟩
def zo (s:Span):Entry×Int:=(s.f_e.getD zeroE,s.f_time.From)
theorem JC (x y:Entry×Int):iU (ug x) (ug y)=some (cE (zo (ug x)) (zo (ug y))):=by
 unfold iU
 show ((some y.1).bind λy_5=>(some x.1).bind λy_7=>_)=_
 simp only [ob_,sM,ug,tH,Lp];rfl
end Go.Proofs.YticmkhcacamhkaaGreatDoor.Law

open Go Go.Eng
namespace Go.Proofs.YticmkhcacamhkaaGreatDoor.Law
set_option linter.unusedVariables false
set_option linter.unusedSimpArgs false
end Go.Proofs.YticmkhcacamhkaaGreatDoor.Law

open Go Go.Eng
namespace Go.Proofs.YticmkhcacamhkaaGreatDoor.Law
set_option linter.unusedVariables false
set_option linter.unusedSimpArgs false
def dd:List Int->List Int
 | []=>[]
 | [x]=>[x]
 | x::y::l=>bif x==y then dd (y::l)else x::dd (y::l)
theorem MQ (x:Int):∀(l:List Int) (b:Int),l.getLast? = some b->dd (l++[x])=bif b==x then dd l else dd l++[x]
 | [],b,h=>by cases h
 | [a],b,h=>by
  simp only [List.getLast?_singleton,so_]at h
  subst h
  simp only [List.cons_append,List.nil_append,dd]
  cases hx:a==x with
  | true=>rw [eq_of_beq hx]
  | false=>rfl
 | a::c::l,b,h=>by
  have ih:=MQ x (c::l) b (by rw [<- h];simp [List.getLast?_cons_cons])
  simp only [List.cons_append]at ih ⊢
  rw [dd,ih,dd]
  cases a==c <;> cases b==x <;> rfl
theorem Mg (s:List Int) (p:Nat) (a b:Int) (hp:1<=p) (ha:s[p]? = some a) (hb:s[p-1]? = some b):dd (s.take (p+1))=bif b==a then dd (s.take p)else dd (s.take p)++[a]:=by
 have hlt:=(List.getElem?_eq_some_iff.1 ha).1
 have e:s.take (p+1)=s.take p++[a]:=by rw [List.take_add_one,ha];rfl
 rw [e]
 refine MQ a _ b ?_
 rw [List.getLast?_eq_getElem?,List.length_take,List.getElem?_take,if_pos (by omega),<- hb]
 congr 1;omega
theorem IK (x:Int):∀l:List Int,x∈dd l↔x∈l
 | []=>Iff.rfl
 | [a]=>Iff.rfl
 | a::b::l=>by
  rw [dd]
  cases h:a==b with
  | true =>
   rw [cond_true,IK x (b::l),eq_of_beq h];simp
  | false=>rw [cond_false,List.mem_cons,IK x (b::l),List.mem_cons (a:=x) (b:=a)]
theorem IB:∀l:List Int,l.Pairwise (· <= ·)->(dd l).Pairwise (· < ·)
 | [],_ => .nil
 | [a],_=>List.pairwise_singleton _ _
 | a::b::l,h=>by
  rw [dd]
  obtain ⟨h1,h2⟩:=List.pairwise_cons.1 h
  cases hx:a==b with
  | true=>exact IB (b::l) h2
  | false =>
   refine List.pairwise_cons.2 ⟨λc hc => ?_,IB (b::l) h2⟩
   have hc:=(IK c (b::l)).1 hc
   have hab:a<b:=by
    have:=h1 b (by simp)
    have hne:a≠b:=by simpa using hx
    omega
   rcases List.mem_cons.1 hc with rfl|hc
   ·exact hab
   ·have:=(List.pairwise_cons.1 h2).1 c hc;omega
theorem Og:∀l:List Int,(dd l).length<=l.length
 | []=>Nat.le_refl _
 | [a]=>Nat.le_refl _
 | a::b::l=>by
  have:=Og (b::l)
  rw [dd]
  cases a==b with
  | true=>rw [cond_true];simp only [List.length_cons]at *;omega
  | false=>rw [cond_false];simp only [List.length_cons]at *;omega
theorem P6 {i:Int} {n:Nat} (h0:0<=i) (h1:i<n):inN i n=some ():=by unfold inN;rw [if_pos ⟨h0,by omega⟩]
theorem uF {α:Type} {xs:List α} {i:Nat} (h:i<xs.length):inR (i:Int) xs=some ():=by
 unfold inR;rw [if_pos ⟨by omega,by simpa using h⟩]
theorem comp_L1 (s data:List Int) (k0 i2 k:Nat) (a b:Int) (hn:s.length<=1000000000) (hd:data.length=s.length) (h1:1<=i2) (hp:k0+i2<s.length) (hk:k<s.length) (ha:data[k0+i2]? = some a) (hb:data[k0+i2-1]? = some b) :
  bU s (k0:Int) (data,(k:Int),(i2:Int))=some (.go (bif b==a then (data,(k:Int),((i2+1:Nat):Int))else (data.set k a,((k+1:Nat):Int),((i2+1:Nat):Int)))):=by
 unfold bU
 have e0:((s.length:Int).toNat-(k0:Int).toNat)=s.length-k0:=by omega
 have hc:decide ((i2:Int)<((s.length-k0:Nat):Int))=true:=by simp;omega
 have hw:w64 ((i2:Int)-1)=((i2-1:Nat):Int):=by rw [bD (by omega)];omega
 have hw2:w64 ((i2:Int)+1)=((i2+1:Nat):Int):=by rw [bD (by omega)];omega
 have hw3:w64 ((k:Int)+1)=((k+1:Nat):Int):=by rw [bD (by omega)];omega
 have i1:inN (i2:Int) (s.length-k0)=some ():=P6 (by omega) (by omega)
 have i3:inN ((i2-1:Nat):Int) (s.length-k0)=some ():=P6 (by omega) (by omega)
 have i4:inR (k:Int) data=some ():=uF (by omega)
 have g1:(k0:Int).toNat+(i2:Int).toNat=k0+i2:=by omega
 have g2:(k0:Int).toNat+((i2-1:Nat):Int).toNat=k0+i2-1:=by omega
 have g3:0+(k:Int).toNat=k:=by omega
 have hkd:data[k]? = some data[k]:=List.getElem?_eq_getElem (by omega)
 simp only [e0,hc,cond_true,hw,hw2,hw3,i1,i3,i4,g1,g2,g3,ob_,ha,hb,hkd]
 have hne:(a != b) = !(b==a):=by rw [bne_comm];rfl
 rw [hne]
 cases b==a <;> rfl
theorem zI (s:List Int) (k0:Nat) (hn:s.length<=1000000000):∀(m i2 k:Nat) (data:List Int),k0+i2+m=s.length->1<=i2->data.length=s.length->k<=k0+i2-1->data.take k=dd (s.take (k0+i2))->data.drop (k0+i2-1)=s.drop (k0+i2-1) ->
  ∃(data':List Int) (k':Nat),iterN (λt=>bU s (k0:Int) t) (m+1) (data,(k:Int),(i2:Int))=some (.go (data',(k':Int),((s.length-k0:Nat):Int)))/\data'.length=s.length/\k'<=s.length/\data'.take k'=dd s
 | 0,i2,k,data,hm,h1,hd,hk,ht,hr=>by
  refine⟨data,k,?_,hd,by omega,?_⟩
  ·have e0:((s.length:Int).toNat-(k0:Int).toNat)=s.length-k0:=by omega
   have hc:decide ((i2:Int)<((s.length-k0:Nat):Int))=false:=by simp;omega
   simp only [iterN,bU,e0,hc,cond_false,ob_]
   rw [show s.length-k0=i2 by omega]
  ·rw [ht,show k0+i2=s.length by omega,List.take_length]
 | m+1,i2,k,data,hm,h1,hd,hk,ht,hr=>by
  have hp:k0+i2<s.length:=by omega
  have hga:data[k0+i2]? = some s[k0+i2]:=by
   have:=congrArg (λl=>l[1]?) hr
   simp only [List.getElem?_drop]at this
   rw [show k0+i2-1+1=k0+i2 by omega]at this
   rw [this,List.getElem?_eq_getElem hp]
  have hgb:data[k0+i2-1]? = some (s[k0+i2-1]'(by omega)):=by
   have:=congrArg (λl=>l[0]?) hr
   simp only [List.getElem?_drop,Nat.add_zero]at this
   rw [this,List.getElem?_eq_getElem (by omega)]
  have hdt:=Mg s (k0+i2) s[k0+i2] (s[k0+i2-1]'(by omega)) (by omega) (List.getElem?_eq_getElem hp) (List.getElem?_eq_getElem (by omega))
  rw [iterN,comp_L1 s data k0 i2 k _ _ hn hd h1 hp (by omega) hga hgb,ob_]
  cases hx:s[k0+i2-1]'(by omega)==s[k0+i2]with
  | true =>
   rw [hx,cond_true]at hdt
   simp only [cond_true]
   refine zI s k0 hn m (i2+1) k data (by omega) (by omega) hd (by omega) (by rw [ht,<- hdt];rfl) ?_
   have:=congrArg (List.drop 1) hr
   simp only [List.drop_drop]at this
   rw [show k0+i2-1+1=k0+(i2+1)-1 by omega]at this
   exact this
  | false =>
   rw [hx,cond_false]at hdt
   simp only [cond_false]
   have hkl:k<data.length:=by omega
   refine zI s k0 hn m (i2+1) (k+1) (data.set k s[k0+i2]) (by omega) (by omega) (by simpa using hd) (by omega) ?_ ?_
   ·rw [List.take_add_one,List.getElem?_set_self hkl,List.take_set_of_le (Nat.le_refl _),ht]
    show _=dd (s.take (k0+i2+1))
    rw [hdt];rfl
   ·rw [List.drop_set_of_lt (by omega)]
    have:=congrArg (List.drop 1) hr
    simp only [List.drop_drop]at this
    rw [show k0+i2-1+1=k0+(i2+1)-1 by omega]at this
    exact this
theorem EC (s:List Int) (hn:s.length<=1000000000):∀(m i:Nat),i+m=s.length->1<=i->dd (s.take i)=s.take i ->
  (iterN (λt=>aY s t) (m+1) (i:Int)=some (.go (s.length:Int))/\dd s=s)\/iterN (λt=>aY s t) (m+1) (i:Int)=some (.ret (dd s))
 | 0,i,hm,h1,hd=>by
  refine .inl ⟨?_,?_⟩
  ·have hc:decide ((i:Int)<(s.length:Int))=false:=by simp;omega
   simp only [iterN,aY,hc,cond_false,ob_]
   rw [show i=s.length by omega]
  ·rw [show i=s.length by omega,List.take_length]at hd;exact hd
 | m+1,i,hm,h1,hd=>by
  have hi:i<s.length:=by omega
  have hc:decide ((i:Int)<(s.length:Int))=true:=by simp;omega
  have hw:w64 ((i:Int)-1)=((i-1:Nat):Int):=by rw [bD (by omega)];omega
  have hw2:w64 ((i:Int)+1)=((i+1:Nat):Int):=by rw [bD (by omega)];omega
  have e1:0+(i:Int).toNat=i:=by omega
  have e2:0+((i-1:Nat):Int).toNat=i-1:=by omega
  have hga:s[i]? = some s[i]:=List.getElem?_eq_getElem hi
  have hgb:s[i-1]? = some (s[i-1]'(by omega)):=List.getElem?_eq_getElem (by omega)
  have hdt:=Mg s i s[i] (s[i-1]'(by omega)) h1 hga hgb
  have i1:inR (i:Int) s=some ():=uF hi
  have i2:inR ((i-1:Nat):Int) s=some ():=uF (by omega)
  rw [iterN]
  have hswap:(s[i]==s[i-1]'(by omega))=(s[i-1]'(by omega)==s[i]):=by rw [BEq.comm]
  cases hx:s[i-1]'(by omega)==s[i]with
  | false =>
   have:aY s (i:Int)=some (.go ((i+1:Nat):Int)):=by
    unfold aY
    simp only [hc,cond_true,hw,hw2,e1,e2,i1,i2,hga,hgb,ob_,hswap,hx,cond_false]
   rw [this,ob_]
   rw [hx,cond_false,hd]at hdt
   refine EC s hn m (i+1) (by omega) (by omega) ?_
   rw [hdt,List.take_add_one,hga];rfl
  | true =>
   right
   rw [hx,cond_true,hd]at hdt
   obtain ⟨data',k',q1,q2,q3,q4⟩:=zI s i hn (s.length-(i+1)) 1 i s (by omega) (by omega) rfl (by omega) hdt.symm rfl
   have hlo:=gQ q1
   have hne:neL s=some ():=by
    cases s with
    | nil=>simp at hi
    | cons a l=>rfl
   have hsr:qY s (i:Int) (s.length:Int)=some ():=by unfold qY;rw [if_pos ⟨by omega,by omega,by omega,by omega⟩]
   have hsr2:qY data' (k':Int) (data'.length:Int)=some ():=by unfold qY;rw [if_pos ⟨by omega,by omega,by omega,by omega⟩]
   have hlen:(data'.take k'++List.replicate (data'.length-k') (0:Int)++data'.drop (k'+(data'.length-k'))).length=data'.length:=by simp;omega
   have hsr3:qY (data'.take k'++List.replicate (data'.length-k') (0:Int)++data'.drop (k'+(data'.length-k'))) 0 (k':Int)=some ():=by unfold qY;rw [if_pos ⟨by omega,by omega,by omega,by rw [hlen];omega⟩]
   have n1:((data'.length:Int)).toNat=data'.length:=by omega
   have n2:(k':Int).toNat=k':=by omega
   have:aY s (i:Int)=some (.ret (dd s)):=by
    unfold aY
    have one:((1:Nat):Int)=1:=rfl
    rw [one]at hlo
    simp only [hc,cond_true,hw,e1,e2,i1,i2,hga,hgb,ob_,hswap,hx,hne,hsr,hlo,thenC,hsr2,n1,n2,hsr3]
    congr 2
    show List.take k' (List.drop 0 _)=dd s
    rw [List.drop_zero,List.append_assoc,List.take_append_of_le_length (by rw [List.length_take];omega),List.take_take,Nat.min_self,q4]
   rw [this];rfl
theorem Lx (s:List Int) (hn:s.length<=1000000000):bO s=some (dd s):=by
 unfold bO
 by_cases h:(s.length:Int)<2
 ·rw [decide_eq_true h,cond_true]
  match s,h with
  | [],_=>rfl
  | [a],_=>rfl
  | a::b::l,h=>simp at h;omega
 ·rw [decide_eq_false h,cond_false]
  have h1:dd (s.take 1)=s.take 1:=by
   match s with
   | []=>rfl
   | a::l=>rfl
  rcases EC s hn (s.length-1) 1 (by omega) (Nat.le_refl _) h1 with⟨h2,h3⟩|h2
  ·have:=gQ h2
   show (fC 1 _).bind _=_
   rw [show ((1:Nat):Int)=1 from rfl]at this
   rw [this,h3];rfl
  ·have:=gQ h2
   show (fC 1 _).bind _=_
   rw [show ((1:Nat):Int)=1 from rfl]at this
   rw [this];rfl
theorem qj (e:List Int) (hn:e.length<=1000000000):∃s c,dC e=some s/\s.length=e.length/\bO s=some c/\c.Pairwise (· < ·)/\(∀x,x∈c↔x∈e)/\c.length<=e.length:=by
 have hs:dC e=some (e.mergeSort λx y=>decide (x<=y)):=by
  unfold dC Ki;rw [if_pos (by omega)]
 have hl:(e.mergeSort λx y=>decide (x<=y)).length=e.length:=List.length_mergeSort e
 refine⟨_,_,hs,hl,Lx _ (by rw [hl];exact hn),IB _ ?_,λx => ?_,by rw [<- hl];exact Og _⟩
 ·have:=List.pairwise_mergeSort (le:=λ(x y:Int)=>decide (x<=y)) (λa b c=>by simp;omega) (λa b=>by simp;omega) e
  exact this.imp (by simp)
 ·rw [IK];exact List.mem_mergeSort
end Go.Proofs.YticmkhcacamhkaaGreatDoor.Law

open Go Go.Eng
namespace Go.Proofs.YticmkhcacamhkaaGreatDoor.Law
set_option linter.unusedVariables false
set_option linter.unusedSimpArgs false
def putC (id:ByteArray) (a b:Int) (out:List Slot_):Option (List Slot_) :=
 (bif (decide ((w64 ((out.length:Int)-1))>=0))then (inR (w64 ((out.length:Int)-1)) out).bind λ_=>(out[(0+((w64 ((out.length:Int)-1))).toNat)]?).bind λe_81=>some (sEq e_81.Entry id)else some false).bind λv_77 =>
 (bif v_77 then (inR (w64 ((out.length:Int)-1)) out).bind λ_=>(out[(0+((w64 ((out.length:Int)-1))).toNat)]?).bind λe_90=>some (out.set (0+((w64 ((out.length:Int)-1))).toNat) (⟨(⟨e_90.Time.From,b⟩:Window),e_90.Entry⟩:Slot_))
 else (lX out ([(⟨(⟨a,b⟩:Window),id⟩:Slot_)]:List Slot_)).bind λa_96=>some a_96)
theorem putC_eq (id:ByteArray) (a b:Int) (out:List Slot_) (hl:out.length<=1000000):putC id a b out=some (vY id a b out):=by
 unfold putC
 cases ho:out.length with
 | zero =>
  have e:=List.eq_nil_of_length_eq_zero ho
  subst e
  rw [decide_eq_false (by decide)];rfl
 | succ n =>
  have hw:w64 ((out.length:Int)-1)=(n:Int):=by rw [bD (by omega)];omega
  rw [<- ho,hw,decide_eq_true (by omega),cond_true,yz (by omega) (by omega)]
  have hn:n<out.length:=by omega
  have e1:out[(0+((n:Int)).toNat)]? = some out[n]:=by rw [show 0+((n:Int)).toNat=n by omega];exact List.getElem?_eq_getElem hn
  rw [e1]
  simp only [ob_,uz]
  by_cases he:out[n].Entry=id
  ·rw [decide_eq_true he,cond_true,E5 id a b out n _ ho (List.getElem?_eq_getElem hn) he,show 0+((n:Int)).toNat=n by omega]
  ·rw [decide_eq_false he,cond_false,lK _ _ (by simp;omega),EJ id a b out (λm x h1 h2=>by
    obtain rfl:m=n:=by omega
    rw [List.getElem?_eq_getElem hn,so_]at h2
    rw [<- h2];exact he)];rfl
structure EB (m:List Entry) (z:Int) (w:Window) (E:List Int):Prop where
 from_:w.From∈E
 to_:w.To∈E
 in_:∀x∈E,w.From<=x/\x<=w.To
 has:∀e∈m,∀x∈wants e z w,x.From∈E/\x.To∈E
theorem Oj {e:Entry} (h:Right e) {z:Int} {w x:Window} (hx:x∈wants e z w):w.From<=x.From/\x.From<=w.To/\w.From<=x.To/\x.To<=w.To:=by
 obtain ⟨d,_,_,hp,rfl⟩:=(yX h).1 hx
 obtain ⟨_,_,hp⟩:=Hu.1 hp
 unfold cutW tW
 simp only [yC,Bf]
 omega
end Go.Proofs.YticmkhcacamhkaaGreatDoor.Law

namespace Go.Eng
set_option linter.unusedVariables false
set_option linter.unusedSimpArgs false
def Fx {α:Type} (f:α->Option Bool) (xs:List α) (k x:Nat) (s:Unit):Option (Ctl Unit Int) :=
 (inR (k:Int) xs).bind λ_=>(xs[(0+((k:Int)).toNat)]?).bind λe=>(f e).bind λr=>bif r then some (.ret (k:Int))else some (.go ())
def ixF {α:Type} (f:α->Option Bool) (xs:List α):Option Int :=
 (forL (List.range ((xs.length:Int)).toNat) () (λk x s=>Fx f xs k x s)).bind λo=>thenC o (λ_=>some (-1)) (λr=>some r)
def wK {α:Type} (f:α->Option Bool) (s:List α×Int×Int):Option (Ctl (List α×Int×Int) Unit) :=
 bif (decide (s.2.2<(s.1.length:Int)))then (inR s.2.2 s.1).bind λ_=>(s.1[(0+(s.2.2).toNat)]?).bind λe=>(f e).bind λr=>(bif (!r)then (inR s.2.1 s.1).bind λ_=>(s.1[(0+(s.2.1).toNat)]?).bind λe_29=>some ((s.1.set (0+(s.2.1).toNat) e),(w64 (s.2.1+1)))else some (s.1,s.2.1)).bind λv=>some (.go (v.1,v.2,(w64 (s.2.2+1))))else some (.brk (s.1,s.2.1,s.2.2))
theorem uF {α:Type} {xs:List α} {k:Nat} (h:k<xs.length):inR (k:Int) xs=some ():=by unfold inR;rw [if_pos ⟨by omega,by omega⟩]
theorem ixF_eq {α:Type} {f:α->Option Bool} {q:α->Bool} {xs:List α} (hf:∀x∈xs,f x=some (q x)) (hl:xs.length<=1000000000) :
  (ixF f xs=some (-1)/\∀x∈xs,q x=false)\/∃(k:Nat) (h:k<xs.length),ixF f xs=some (k:Int)/\q xs[k]=true/\∀x∈xs.take k,q x=false:=by
 have run:∀(ys:List Nat) (k:Nat),k+ys.length=xs.length->(∀x∈xs.take k,q x=false) ->
   (forR (λk x s=>Fx f xs k x s) ys k ()=some (.go ())/\∀x∈xs,q x=false)\/∃(j:Nat) (h:j<xs.length),forR (λk x s=>Fx f xs k x s) ys k ()=some (.ret (j:Int))/\q xs[j]=true/\∀x∈xs.take j,q x=false:=by
  intro ys
  induction ys with
  | nil=>intro k h hq;exact .inl ⟨rfl,by rw [List.length_nil,Nat.add_zero]at h;rw [h,List.take_length]at hq;exact hq⟩
  | cons y ys ih =>
   intro k h hq
   simp only [List.length_cons]at h
   have hk:k<xs.length:=by omega
   have hst:Fx f xs k y ()=some (bif q xs[k]then .ret (k:Int)else .go ()):=by
    unfold Fx
    simp only [uF hk,ob_,Int.toNat_natCast,Nat.zero_add,List.getElem?_eq_getElem hk,hf _ (List.getElem_mem hk)]
    cases q xs[k] <;> rfl
   rw [forR,hst,ob_]
   cases hqk:q xs[k]with
   | true=>exact .inr ⟨k,hk,rfl,hqk,hq⟩
   | false =>
    refine ih (k+1) (by omega) (λx hx => ?_)
    rw [List.take_succ_eq_append_getElem hk]at hx
    rcases List.mem_append.1 hx with hx|hx
    ·exact hq x hx
    ·rw [List.mem_singleton.1 hx];exact hqk
 unfold ixF
 rw [Int.toNat_natCast,lH (by simp;omega)]
 rcases run (List.range xs.length) 0 (by simp) (by simp)with⟨h1,h2⟩|⟨k,hk,h1,h2,h3⟩
 ·exact .inl ⟨by rw [h1];rfl,h2⟩
 ·exact .inr ⟨k,hk,by rw [h1];rfl,h2,h3⟩
theorem filter_all {α:Type} {p:α->Bool} {xs:List α} (h:∀x∈xs,p x=true):xs.filter p=xs:=List.filter_eq_self.2 h
theorem Fb {α:Type} {f:α->Option Bool} {q:α->Bool} {xs:List α} (hf:∀x∈xs,f x=some (q x)) (hl:xs.length<=1000000000) :
  ∀(m:Nat) (l:List α) (i j:Nat),j+m=xs.length->i<=j->l.length=xs.length->l.take i=(xs.take j).filter (λx => !q x)->l.drop j=xs.drop j ->
   ∃l' i',iterN (λs=>wK f s) (m+1) (l,(i:Int),(j:Int))=some (.go (l',(i':Nat),(xs.length:Int)))/\i'<=xs.length/\l'.length=xs.length/\l'.take i'=xs.filter (λx => !q x)
 | 0,l,i,j,hj,hij,hll,ht,hd=>by
  have hj':j=xs.length:=by omega
  subst hj'
  have hc:decide ((xs.length:Int)<(l.length:Int))=false:=by simp [hll]
  refine⟨l,i,?_,hij,hll,by rw [ht,List.take_length]⟩
  simp only [iterN,wK,hc,cond_false,ob_]
 | m+1,l,i,j,hj,hij,hll,ht,hd=>by
  have hjx:j<xs.length:=by omega
  have hjl:j<l.length:=by omega
  have hil:i<l.length:=by omega
  have hc:decide ((j:Int)<(l.length:Int))=true:=by simp;omega
  have he:l[j]=xs[j]:=by
   have h1:(l.drop j)[0]? = (xs.drop j)[0]? := by rw [hd]
   rw [List.getElem?_drop,List.getElem?_drop,Nat.add_zero,List.getElem?_eq_getElem hjl,List.getElem?_eq_getElem hjx]at h1
   exact Option.some.inj h1
  have w1:w64 ((j:Int)+1)=((j+1:Nat):Int):=by rw [bD (by omega)];omega
  have w2:w64 ((i:Int)+1)=((i+1:Nat):Int):=by rw [bD (by omega)];omega
  have hfe:=hf _ (List.getElem_mem hjx)
  have hdrop:(l.drop j).drop 1=(xs.drop j).drop 1:=by rw [hd]
  rw [List.drop_drop,List.drop_drop]at hdrop
  cases hq:q xs[j]with
  | false =>
   have hst:wK f (l,(i:Int),(j:Int))=some (.go (l.set i xs[j],((i+1:Nat):Int),((j+1:Nat):Int))):=by
    simp only [wK,hc,cond_true,uF hjl,uF hil,ob_,Int.toNat_natCast,Nat.zero_add,List.getElem?_eq_getElem hjl,List.getElem?_eq_getElem hil,he,hfe,hq,Bool.not_false,w1,w2]
   rw [iterN,hst,ob_]
   refine Fb hf hl m (l.set i xs[j]) (i+1) (j+1) (by omega) (by omega) (by simpa using hll) ?_ ?_
   ·rw [List.take_succ_eq_append_getElem (by simpa using hil),List.take_set_of_le (Nat.le_refl _),ht,List.take_succ_eq_append_getElem hjx,List.filter_append]
    simp [hq]
   ·rw [List.drop_set_of_lt (by omega)];exact hdrop
  | true =>
   have hst:wK f (l,(i:Int),(j:Int))=some (.go (l,(i:Int),((j+1:Nat):Int))):=by
    simp only [wK,hc,cond_true,uF hjl,ob_,Int.toNat_natCast,Nat.zero_add,List.getElem?_eq_getElem hjl,he,hfe,hq,Bool.not_true,cond_false,w1]
   rw [iterN,hst,ob_]
   refine Fb hf hl m l i (j+1) (by omega) (by omega) hll ?_ hdrop
   rw [ht,List.take_succ_eq_append_getElem hjx,List.filter_append]
   simp [hq]
end Go.Eng

