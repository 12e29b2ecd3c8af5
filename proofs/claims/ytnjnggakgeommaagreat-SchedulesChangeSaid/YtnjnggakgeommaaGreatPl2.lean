/-
  THE PLAIN LAW (part 2).
-/
import Derived.Test.YtnjnggakgeommaaGreatPl1
import Derived.Test.YtnjnggakgeommaaGreatEng5
import Derived.Test.YtnjnggakgeommaaGreatDefs
open Go Go.Eng
namespace Go.Proofs.YtnjnggakgeommaaGreat.Law
set_option linter.unusedVariables false
set_option linter.unusedSimpArgs false
def tF (e:Entry) (z d:Int):Int:=(d*1440+e.From-z)*60000
def nR (e:Entry):Int:=if e.To-e.From<=0 then e.To-e.From+1440 else e.To-e.From
def tW (e:Entry) (z d:Int):Window:=⟨tF e z d,tF e z d+nR e*60000⟩
theorem timeK (e:Entry) (h:Right e) (z d:Int) (hz : -1440<=z/\z<=1440) (hd:0<=d/\d<=4000):kS e z d=some (tW e z d):=by
 have h1:=h.from_
 have h2:=h.to_
 unfold kS tW tF nR
 rw [aM (n:=e.To-e.From) (by omega)]
 by_cases hc:e.To-e.From<=0
 ·simp only [decide_eq_true hc,cond_true,ob_,if_pos hc]
  rw [aM (n:=e.To-e.From+1440) (by omega),aM (n:=d*1440) (by omega),aM (n:=d*1440+e.From) (by omega),aM (n:=d*1440+e.From-z) (by omega),aM (n:=(d*1440+e.From-z)*60000) (by omega),aM (n:=(e.To-e.From+1440)*60000) (by omega),aM (by omega)]
 ·simp only [decide_eq_false hc,cond_false,ob_,if_neg hc]
  rw [aM (n:=d*1440) (by omega),aM (n:=d*1440+e.From) (by omega),aM (n:=d*1440+e.From-z) (by omega),aM (n:=(d*1440+e.From-z)*60000) (by omega),aM (n:=(e.To-e.From)*60000) (by omega),aM (by omega)]
theorem timeR (e:Entry) (h:Right e) (z d:Int) (hz : -1440<=z/\z<=1440) (hd:0<=d/\d<=4000):lD e z d=some (tW e z d):=by
 have h1:=h.from_
 have h2:=h.to_
 unfold lD tW tF nR
 by_cases hc:e.To<=e.From
 ·simp only [decide_eq_true hc,cond_true,ob_,if_pos (show e.To-e.From<=0 by omega)]
  rw [aM (n:=e.To+1440) (by omega),aM (n:=d*86400000) (by omega),aM (n:=z*60000) (by omega),aM (n:=d*86400000-z*60000) (by omega),aM (n:=e.From*60000) (by omega),aM (n:=(e.To+1440)*60000) (by omega),aM (by omega),aM (by omega)]
  congr 2 <;> omega
 ·simp only [decide_eq_false hc,cond_false,ob_,if_neg (show ¬e.To-e.From<=0 by omega)]
  rw [aM (n:=d*86400000) (by omega),aM (n:=z*60000) (by omega),aM (n:=d*86400000-z*60000) (by omega),aM (n:=e.From*60000) (by omega),aM (n:=e.To*60000) (by omega),aM (by omega),aM (by omega)]
  congr 2 <;> omega
def cutW (w t:Window):Window:=⟨jw t.From w.From,jB t.To w.To⟩
def pR (e:Entry) (z:Int) (w:Window) (d:Int):Bool := !e.Gone&&(wW e d&&decide (jw (tF e z d) w.From<jB (tF e z d+nR e*60000) w.To))
def pK (e:Entry) (z:Int) (w:Window) (d:Int):Bool:=wW e d&&(decide (tF e z d<w.To)&&decide (tF e z d+nR e*60000>w.From))
def wants (e:Entry) (z:Int) (w:Window):List Window:=collect (pR e z w) (λd=>cutW w (tW e z d)) (e.Last+1-e.First).toNat e.First
theorem IV (e:Entry) (h:Right e) (z:Int) (w:Window) (hz : -1440<=z/\z<=1440):kz e z w=some (wants e z w):=by
 have hf:=h.first
 have hl:=h.last
 obtain ⟨d',hd⟩:=zB (ρ:=Unit) (body:=λs=>kg e z w s) (p:=pR e z w) (f:=λd=>cutW w (tW e z d)) e.First e.Last (by omega) (λacc d h1 h2 h3=>by
   have hc:decide (d<=e.Last)=true:=decide_eq_true h2
   simp only [kg,hc,cond_true,timeR e h z d hz (by omega),ob_,dayR e h d h1 h2,aM (n:=d+1) (by omega),pR,tW]
   cases e.Gone with
   | true=>simp
   | false =>
    simp only [Bool.not_false,cond_true,ob_,Bool.true_and]
    cases wW e d with
    | false=>simp
    | true =>
     simp only [cond_true,ob_,Bool.true_and]
     cases decide (jw (tF e z d) w.From<jB (tF e z d+nR e*60000) w.To)with
     | false=>simp
     | true=>simp only [cond_true,iL acc [_] (show acc.length+1<=_ by omega),ob_];rfl)
  (λacc d h1=>by
   have hc:decide (d<=e.Last)=false:=decide_eq_false (by omega)
   simp only [kg,hc,cond_false])
 unfold kz wants
 rw [hd,ob_,gQ]
theorem Hg (x q:Int) (h:x.tdiv 86400000=q):(0<=x->q*86400000<=x/\x<q*86400000+86400000)/\(x<0->x<=q*86400000/\q*86400000-86400000<x):=by
 have h1:=Int.mul_tdiv_add_tmod x 86400000
 rw [h]at h1
 refine⟨λhx => ?_,λhx => ?_⟩
 ·have h2:=Int.tmod_nonneg 86400000 hx
  have h3:=Int.tmod_lt_of_pos x (show (0:Int)<86400000 by decide)
  omega
 ·have h3:=Int.lt_tmod_of_pos x (show (0:Int)<86400000 by decide)
  have h4:x.tmod 86400000<=0:=by
   have h5:=Int.tmod_nonneg 86400000 (show (0:Int) <= -x by omega)
   rw [Int.neg_tmod]at h5
   omega
  omega
def rF (w:Window):Prop:=0<=w.From/\w.From<=w.To/\w.To<=345686400000
theorem zK (e:Entry) (h:Right e):1<=nR e/\nR e<=1440:=by
 have h1:=h.from_
 have h2:=h.to_
 unfold nR
 split <;> omega
theorem LK (e:Entry) (h:Right e) (z:Int) (w:Window) (hz : -1440<=z/\z<=1440) (hw:rF w):∃l,fG e z w=some l/\l.length<=100000/\l.map (cutW w)=wants e z w:=by
 obtain ⟨w1,w2,w3⟩:=hw
 have hf:=h.first
 have hl:=h.last
 have hm:=zK e h
 have hfr:=h.from_
 unfold fG
 cases hg:e.Gone with
 | true =>
  simp only [cond_true,ob_]
  refine⟨[],rfl,by simp,?_⟩
  unfold wants
  rw [kC _ _ (λx _ _=>by simp only [pR,hg,Bool.not_true,Bool.false_and])];rfl
 | false =>
 simp only [cond_false,ob_]
 by_cases hlt:w.From>=w.To
 ·simp only [decide_eq_true hlt,cond_true]
  refine⟨[],rfl,by simp,?_⟩
  unfold wants
  rw [kC _ _ (λx _ _=>by
   have:decide (jw (tF e z x) w.From<jB (tF e z x+nR e*60000) w.To)=false:=decide_eq_false (by unfold jw jB;split <;> split <;> omega)
   simp only [pR,this,Bool.and_false])];rfl
 ·simp only [decide_eq_false hlt,cond_false]
  rw [aM (n:=z*60000) (by omega),aM (n:=w.From+z*60000) (by omega)]
  obtain ⟨a,ha⟩:∃a,(w.From+z*60000).tdiv 86400000=a:=⟨_,rfl⟩
  obtain ⟨b,hb⟩:∃b,(w.To+z*60000).tdiv 86400000=b:=⟨_,rfl⟩
  have ha2:=Hg _ _ ha
  have hb2:=Hg _ _ hb
  rw [ha,aM (n:=a) (by omega),aM (n:=a-2) (by omega)]
  obtain ⟨lo,hlo⟩:∃lo,jw (a-2) e.First=lo:=⟨_,rfl⟩
  obtain ⟨hi,hhi⟩:∃hi,jB (b+1) e.Last=hi:=⟨_,rfl⟩
  have hlo2:e.First<=lo/\a-2<=lo/\(lo=e.First\/lo=a-2):=by unfold jw at hlo;split at hlo <;> omega
  have hhi2:hi<=e.Last/\hi<=b+1/\(hi=e.Last\/hi=b+1):=by unfold jB at hhi;split at hhi <;> omega
  have hend:∀d,decide (d<=jB (w64 (w64 ((w64 (w.To+w64 (z*60000))).tdiv 86400000)+1)) e.Last)=decide (d<=hi):=λd=>by
   rw [aM (n:=z*60000) (by omega),aM (n:=w.To+z*60000) (by omega),hb,aM (n:=b) (by omega),aM (n:=b+1) (by omega),hhi]
  rw [hlo]
  obtain ⟨d',hd⟩:=zB (ρ:=Unit) (body:=λs=>dN w z e s) (p:=pK e z w) (f:=tW e z) lo hi (by omega) (λacc d h1 h2 h3=>by
    have hc:decide (d<=hi)=true:=decide_eq_true h2
    simp only [dN,hend,hc,cond_true,timeK e h z d hz (by omega),ob_,dayK e h d (by omega) (by omega),aM (n:=d+1) (by omega),pK]
    cases wW e d with
    | false=>simp
    | true =>
     simp only [Bool.not_true,cond_false,ob_,Bool.true_and]
     by_cases hA:tF e z d<w.To
     ·have hA1:decide (tF e z d<w.To)=true:=decide_eq_true hA
      have hA2:decide ((tW e z d).From<w.To)=true:=decide_eq_true hA
      by_cases hB:tF e z d+nR e*60000>w.From
      ·have hB1:decide (tF e z d+nR e*60000>w.From)=true:=decide_eq_true hB
       have hB2:decide ((tW e z d).To>w.From)=true:=decide_eq_true hB
       simp only [hA1,hA2,hB1,hB2,cond_true,Bool.and_self,ob_,iL acc [tW e z d] (show acc.length+1<=_ by omega)]
      ·have hB1:decide (tF e z d+nR e*60000>w.From)=false:=decide_eq_false hB
       have hB2:decide ((tW e z d).To>w.From)=false:=decide_eq_false hB
       simp only [hA1,hA2,hB1,hB2,cond_true,cond_false,Bool.and_false,ob_,List.append_nil]
     ·have hA1:decide (tF e z d<w.To)=false:=decide_eq_false hA
      have hA2:decide ((tW e z d).From<w.To)=false:=decide_eq_false hA
      simp only [hA1,hA2,cond_false,Bool.false_and,ob_,List.append_nil])
   (λacc d h1=>by
    have hc:decide (d<=hi)=false:=decide_eq_false (by omega)
    simp only [dN,hend,hc,cond_false])
  refine⟨collect (pK e z w) (tW e z) (hi+1-lo).toNat lo,by rw [hd,ob_,gQ],?_,?_⟩
  ·have:=rM (pK e z w) (tW e z) (hi+1-lo).toNat lo
   omega
  ·rw [Ao]
   unfold wants
   rw [Ak (pR e z w) _ e.First e.Last lo hi (by omega) (by omega) (λx x1 x2 hp => ?_)]
   ·refine r9 _ _ (λx x1 x2=>⟨?_,rfl⟩)
    simp only [pK,pR,hg,Bool.not_false,Bool.true_and]
    congr 1
    rw [Bool.eq_iff_iff,Bool.and_eq_true,decide_eq_true_eq,decide_eq_true_eq,decide_eq_true_eq]
    unfold jw jB
    split <;> split <;> omega
   ·simp only [pR,hg,Bool.not_false,Bool.true_and,Bool.and_eq_true,decide_eq_true_eq]at hp
    have hp2:=hp.2
    unfold tF at hp2
    unfold jw jB at hp2
    split at hp2 <;> split at hp2 <;> omega
theorem MZ (w:Window) (r:List Window) (hr:r.length<=1000000):iY (List.range ((r.length:Int)).toNat) r (λk x s=>jb w k x s)=some (.go (r.map (cutW w))):=by
 obtain ⟨s',h1,h2,h3⟩:=Co (ρ:=Unit) (body:=λk x s=>jb w k x s) (λk s=>s.length=r.length/\∀i,s[i]? = if i<k then (r.map (cutW w))[i]? else r[i]?) (xs:=List.range ((r.length:Int)).toNat) (s:=r) (by simp;omega) (λk x s hx hk ⟨i1,i2⟩=>by
   simp only [List.length_range,Int.toNat_natCast]at hk
   have hg:r[k]? = some r[k]:=List.getElem?_eq_getElem hk
   have hs:s[0+((k:Int)).toNat]? = some r[k]:=by
    rw [show 0+((k:Int)).toNat=k by omega,i2 k,if_neg (by omega),hg]
   have hin:inR (k:Int) s=some ():=uE (by omega) (by omega)
   simp only [jb,hin,hs,gW,ob_]
   refine⟨_,rfl,by simpa using i1,λi => ?_⟩
   rw [show 0+((k:Int)).toNat=k by omega,List.getElem?_set]
   by_cases hik:k=i
   ·subst hik
    rw [if_pos rfl,if_pos (by omega),if_pos (by omega),List.getElem?_map,hg];rfl
   ·rw [if_neg hik,i2 i]
    by_cases h5:i<k
    ·rw [if_pos h5,if_pos (by omega)]
    ·rw [if_neg h5,if_neg (by omega)]) ⟨rfl,λi=>by simp⟩
 rw [h1]
 congr 2
 refine List.ext_getElem? (λi => ?_)
 rw [h3 i]
 simp only [List.length_range,Int.toNat_natCast]
 split
 ·rfl
 ·rw [List.getElem?_eq_none (by omega),List.getElem?_eq_none (by simp;omega)]
def zF (z:Int):Int:=bif iW z (-1440) 1440 then 1 else 0
theorem FL {w:Window} (h:mM w=0):rF w:=by
 unfold mM at h
 cases hb:(iW w.From 0 w.To||decide (w.To>345686400000))with
 | true=>rw [hb]at h;cases h
 | false =>
  simp only [Bool.or_eq_false_iff,decide_eq_false_iff_not]at hb
  have:=vw hb.1
  exact⟨by omega,by omega,by omega⟩
theorem J9 {a b:Int} (h:or0 a b=0):a=0/\b=0:=by
 unfold or0 at h
 cases ha:a==0 with
 | true=>rw [ha]at h;exact⟨eq_of_beq ha,h⟩
 | false=>rw [ha,cond_false]at h;rw [h]at ha;cases ha
theorem Mo (e:Entry) (z:Int) (w:Window) (he:pq e):lJ e z w=some (bif or0 (nI e) (or0 (zF z) (mM w))==0 then (wants e z w,0)else ([],or0 (nI e) (or0 (zF z) (mM w)))):=by
 unfold lJ
 rw [oneK e he,ob_,qO,winK]
 cases h:nI e==0 with
 | false =>
  have:(nI e != 0)=true:=by simp [bne,h]
  have h2:or0 (nI e) (or0 (zF z) (mM w))=nI e:=by unfold or0;rw [h,cond_false]
  simp only [this,cond_true,h2,h,cond_false]
 | true =>
  have:(nI e != 0)=false:=by simp [bne,h]
  have h2:or0 (nI e) (or0 (zF z) (mM w))=or0 (zF z) (mM w):=by unfold or0;rw [h,cond_true]
  simp only [this,cond_false,h2,ob_]
  cases hz:iW z (-1440) 1440 with
  | true =>
   have h3:or0 (zF z) (mM w)=1:=by unfold or0 zF;rw [hz];rfl
   rw [h3];rfl
  | false =>
   have h3:or0 (zF z) (mM w)=mM w:=by unfold or0 zF;rw [hz];rfl
   simp only [h3,cond_false]
   cases hw:mM w==0 with
   | false =>
    have:(mM w != 0)=true:=by simp [bne,hw]
    simp only [this,cond_true,cond_false]
   | true =>
    have:(mM w != 0)=false:=by simp [bne,hw]
    simp only [this,cond_true,cond_false]
    obtain ⟨l,k1,k2,k3⟩:=LK e (Ik (eq_of_beq h)) z w (vw hz) (FL (eq_of_beq hw))
    rw [k1,ob_,MZ w l (by omega),ob_,gQ,k3]
theorem Ju (l:List Window) (hl:l.length<=1000000):dE l l=some true:=by
 unfold dE
 have:((l.length:Int) != (l.length:Int))=false:=by simp
 rw [this,cond_false,eX (by omega)]
 have run:∀(xs:List Window) (k:Nat),l.drop k=xs->dG (λk x s=>bK l k x s) xs k ()=some (.go ()):=by
  intro xs
  induction xs with
  | nil=>exact λk _=>rfl
  | cons x xs ih =>
   intro k h
   have hg:=vU h
   have hst:bK l k x ()=some (.go ()):=by
    simp [bK,jK,hg]
   rw [dG,hst,ob_]
   exact ih (k+1) (aP h)
 rw [run l 0 rfl,ob_,gQ]
theorem MM:tL=some true:=by
 unfold tL
 rw [Mo _ _ _ ⟨eZ rfl,eZ rfl,by simp,by simp,by simp⟩]
 decide +kernel
end Go.Proofs.YtnjnggakgeommaaGreat.Law

open Go Go.Eng
namespace Go.Proofs.YtnjnggakgeommaaGreat.Law
set_option linter.unusedVariables false
set_option linter.unusedSimpArgs false
def Kg {α:Type} (r:α->α->Bool) (x:α):List α->List α
 | []=>[x]
 | y::l=>bif r x y then x::y::l else y::Kg r x l
def Io {α:Type} (r:α->α->Bool):List α->List α
 | []=>[]
 | x::l=>Kg r x (Io r l)
theorem zT {α:Type} (r:α->α->Bool) (x:α):∀l,(Kg r x l).Perm (x::l)
 | [] => .refl _
 | y::l=>by
  unfold Kg
  cases r x y with
  | true=>exact .refl _
  | false=>exact ((zT r x l).cons y).trans (List.Perm.swap x y l)
theorem sD {α:Type} (r:α->α->Bool):∀l,(Io r l).Perm l
 | [] => .refl _
 | x::l=>(zT r x _).trans ((sD r l).cons x)
theorem Av {α:Type} {r:α->α->Bool} (htr:∀a b c,r a b=true->r b c=true->r a c=true) {x:α}:∀{l:List α},(∀y∈l,r x y=true\/r y x=true)->l.Pairwise (λa b=>r a b=true)->(Kg r x l).Pairwise (λa b=>r a b=true)
 | [],_,_=>List.pairwise_singleton _ _
 | y::l,h,hp=>by
  obtain ⟨p1,p2⟩:=List.pairwise_cons.1 hp
  unfold Kg
  cases hxy:r x y with
  | true =>
   refine List.pairwise_cons.2 ⟨λz hz => ?_,hp⟩
   rcases List.mem_cons.1 hz with rfl|hz
   ·exact hxy
   ·exact htr _ _ _ hxy (p1 z hz)
  | false =>
   refine List.pairwise_cons.2 ⟨λz hz => ?_,Av htr (λz hz=>h z (List.mem_cons_of_mem _ hz)) p2⟩
   rcases List.mem_cons.1 ((zT r x l).mem_iff.1 hz)with rfl|hz
   ·exact (h y List.mem_cons_self).resolve_left (by rw [hxy];exact Bool.false_ne_true)
   ·exact p1 z hz
theorem vG {α:Type} {r:α->α->Bool} (htr:∀a b c,r a b=true->r b c=true->r a c=true):∀{l:List α},l.Pairwise (λa b=>r a b=true\/r b a=true)->(Io r l).Pairwise (λa b=>r a b=true)
 | [],_ => .nil
 | x::l,h=>by
  obtain ⟨p1,p2⟩:=List.pairwise_cons.1 h
  exact Av htr (λy hy=>p1 y ((sD r l).mem_iff.1 hy)) (vG htr p2)
theorem srtG_is {α:Type} {r:α->α->Bool} (hir:∀a,r a a=false) (htr:∀a b c,r a b=true->r b c=true->r a c=true) {l s:List α} (ht:l.Pairwise (λa b=>r a b=true\/r b a=true)) (hp:s.Perm l) (hs:s.Pairwise (λa b=>r b a=false)):s=Io r l:=by
 have hsy:∀{x y:α},(r x y=true\/r y x=true)->(r y x=true\/r x y=true):=λh=>h.symm
 have h2:s.Pairwise (λa b=>r a b=true\/r b a=true):=(hp.pairwise_iff (λh=>h.symm)).2 ht
 have h3:s.Pairwise (λa b=>r a b=true):=by
  refine List.Pairwise.imp₂ (λa b h k => ?_) hs h2
  rcases k with k|k
  ·exact k
  ·rw [h]at k;cases k
 exact KN (R:=λa b=>r a b=true) (λa b h k=>by have:=htr a b a h k;rw [hir]at this;cases this) (hp.trans (sD r l).symm) h3 (vG htr ht)
theorem KQ {α:Type} {r:α->α->Bool} (hir:∀a,r a a=false) (htr:∀a b c,r a b=true->r b c=true->r a c=true) {l:List α} (ht:l.Pairwise (λa b=>r a b=true\/r b a=true)) {x:α} (hx:x∈l) (hm:∀y∈l,r y x=false):∃t,Io r l=x::t:=by
 have hs:=vG htr ht
 have hp:=sD r l
 cases h:Io r l with
 | nil=>rw [h]at hp;have:=hp.symm.mem_iff.1 hx;cases this
 | cons y t =>
  rw [h]at hp hs
  rcases List.mem_cons.1 (hp.mem_iff.2 hx)with e|e
  ·exact⟨t,by rw [e]⟩
  ·have h1:=(List.pairwise_cons.1 hs).1 x e
   rw [hm y (hp.mem_iff.1 List.mem_cons_self)]at h1;cases h1
end Go.Proofs.YtnjnggakgeommaaGreat.Law

open Go Go.Eng
namespace Go.Proofs.YtnjnggakgeommaaGreat.Law
set_option linter.unusedVariables false
set_option linter.unusedSimpArgs false
def u6 (e:Entry) (z t d:Int):Bool := !e.Gone&&(decide (e.First<=d)&&(decide (d<=e.Last)&&(wW e d&&(decide (tF e z d<=t)&&decide (t<tF e z d+nR e*60000)))))
theorem nY {e:Entry} {z t d:Int}:u6 e z t d=true↔e.Gone=false/\e.First<=d/\d<=e.Last/\wW e d=true/\tF e z d<=t/\t<tF e z d+nR e*60000:=by
 unfold u6
 simp only [Bool.and_eq_true,decide_eq_true_eq,Bool.not_eq_true']
theorem EY (e:Entry) (z:Int) {d d':Int} (h:d<d'):tF e z d+86400000<=tF e z d':=by unfold tF;omega
theorem Lj {e:Entry} (h:Right e) {z t d d':Int} (h1:u6 e z t d=true) (h2:u6 e z t d'=true):d=d':=by
 obtain ⟨_,_,_,_,a1,a2⟩:=nY.1 h1
 obtain ⟨_,_,_,_,b1,b2⟩:=nY.1 h2
 have hm:=zK e h
 rcases Int.lt_trichotomy d d' with q|q|q
 ·have:=EY e z q;omega
 ·exact q
 ·have:=EY e z q;omega
def uq (z t:Int):Int:=(t+z*60000) / 86400000
def Ba (e:Entry) (z t:Int):Option Int :=
 bif u6 e z t (uq z t-1)then some (tF e z (uq z t-1))else bif u6 e z t (uq z t)then some (tF e z (uq z t))else none
theorem LV {e:Entry} (h:Right e) {z t d:Int} (h1:u6 e z t d=true):d=uq z t-1\/d=uq z t:=by
 obtain ⟨_,_,_,_,a1,a2⟩:=nY.1 h1
 have hm:=zK e h
 have hf:=h.from_
 unfold tF at a1 a2
 unfold uq
 omega
theorem zl {e:Entry} (h:Right e) {z t b:Int}:Ba e z t=some b↔∃d,u6 e z t d=true/\b=tF e z d:=by
 unfold Ba
 constructor
 ·intro hb
  cases h1:u6 e z t (uq z t-1)with
  | true=>rw [h1,cond_true,so_]at hb;exact⟨_,h1,hb.symm⟩
  | false =>
   rw [h1,cond_false]at hb
   cases h2:u6 e z t (uq z t)with
   | true=>rw [h2,cond_true,so_]at hb;exact⟨_,h2,hb.symm⟩
   | false=>rw [h2,cond_false]at hb;cases hb
 ·rintro ⟨d,hd,rfl⟩
  rcases LV h hd with e1|e1
  ·rw [<- e1,hd,cond_true]
  ·cases h1:u6 e z t (uq z t-1)with
   | true=>have:=Lj h hd h1;omega
   | false=>rw [cond_false,<- e1,hd,cond_true]
def qZ (x y:Entry×Int):Bool:=decide (y.1.Prio<x.1.Prio)||(decide (x.1.Prio=y.1.Prio)&&(decide (y.2<x.2)||(decide (x.2=y.2)&&sLt y.1.Key x.1.Key)))
theorem tJ {x y:Entry×Int}:qZ x y=true↔y.1.Prio<x.1.Prio\/x.1.Prio=y.1.Prio/\(y.2<x.2\/x.2=y.2/\lt y.1.Key x.1.Key):=by
 unfold qZ
 simp only [Bool.or_eq_true,Bool.and_eq_true,decide_eq_true_eq,uA]
theorem vC (x:Entry×Int):qZ x x=false:=by
 rw [<- Bool.not_eq_true,tJ]
 rintro (h|⟨_,h|⟨_,h⟩⟩)
 ·omega
 ·omega
 ·exact qW _ h
theorem uS (a b c:Entry×Int) (h:qZ a b=true) (k:qZ b c=true):qZ a c=true:=by
 rw [tJ]at *
 rcases h with h|⟨h,h2⟩ <;> rcases k with k|⟨k,k2⟩
 ·exact .inl (by omega)
 ·exact .inl (by omega)
 ·exact .inl (by omega)
 ·refine .inr ⟨by omega,?_⟩
  rcases h2 with h2|⟨h2,h3⟩ <;> rcases k2 with k2|⟨k2,k3⟩
  ·exact .inl (by omega)
  ·exact .inl (by omega)
  ·exact .inl (by omega)
  ·exact .inr ⟨by omega,lt_trans k3 h3⟩
theorem Ms {x y:Entry×Int} (h:x.1.Key≠y.1.Key):qZ x y=true\/qZ y x=true:=by
 rw [tJ,tJ]
 rcases Int.lt_trichotomy x.1.Prio y.1.Prio with q|q|q
 ·exact .inr (.inl q)
 ·rcases Int.lt_trichotomy x.2 y.2 with w|w|w
  ·exact .inr (.inr ⟨q.symm,.inl w⟩)
  ·rcases EH x.1.Key y.1.Key with e|e|e
   ·exact .inr (.inr ⟨q.symm,.inr ⟨w.symm,e⟩⟩)
   ·exact absurd e h
   ·exact .inl (.inr ⟨q,.inr ⟨w,e⟩⟩)
  ·exact .inl (.inr ⟨q,.inl w⟩)
 ·exact .inl (.inl q)
theorem GL {α β:Type} {f g:α->Option β}:∀{l:List α},(∀x∈l,f x=g x)->l.filterMap f=l.filterMap g
 | [],_=>rfl
 | x::l,h=>by
  rw [List.filterMap_cons,List.filterMap_cons,h x (by simp),GL (λy hy=>h y (by simp [hy]))]
def AA (p:Player) (t:Int) (e:Entry):Option (Entry×Int):=bif sS e p then (Ba e p.Zone t).map (λb=>(e,b))else none
def lv (l:List Entry) (p:Player) (t:Int):List (Entry×Int):=l.filterMap (AA p t)
def yl (l:List Entry) (p:Player) (t:Int):List (Entry×Int):=Io qZ (lv l p t)
def ig (l:List Entry) (p:Player) (t:Int):ByteArray:=match yl l p t with | []=>⟨#[]⟩ | x::_=>x.1.Key
theorem xS {p:Player} {t:Int} {e:Entry} {x:Entry×Int} (h:AA p t e=some x):x.1=e/\sS e p=true/\Ba e p.Zone t=some x.2:=by
 unfold AA at h
 cases hf:sS e p with
 | false=>rw [hf,cond_false]at h;cases h
 | true =>
  rw [hf,cond_true]at h
  cases hb:Ba e p.Zone t with
  | none=>rw [hb]at h;cases h
  | some b=>rw [hb,Option.map_some,so_]at h;rw [<- h];exact⟨rfl,rfl,rfl⟩
theorem wu {l:List Entry} {p:Player} {t:Int} {x:Entry×Int}:x∈lv l p t↔x.1∈l/\sS x.1 p=true/\Ba x.1 p.Zone t=some x.2:=by
 unfold lv
 rw [List.mem_filterMap]
 constructor
 ·rintro ⟨e,he,h⟩
  obtain ⟨h1,h2,h3⟩:=xS h
  rw [h1];exact⟨he,h2,h3⟩
 ·rintro ⟨h1,h2,h3⟩
  refine⟨x.1,h1,?_⟩
  unfold AA
  rw [h2,h3];rfl
theorem D8 {l:List Entry} (h:(l.map (·.Key)).Nodup) (p:Player) (t:Int):(lv l p t).Pairwise (λa b=>qZ a b=true\/qZ b a=true):=by
 have h2:l.Pairwise (λa b=>a.Key≠b.Key):=by
  have:=h
  unfold List.Nodup at this
  rwa [List.pairwise_map]at this
 unfold lv
 rw [List.pairwise_filterMap]
 refine h2.imp (λ{a b} hab x hx y hy => ?_)
 obtain ⟨e1,_⟩:=xS hx
 obtain ⟨e2,_⟩:=xS hy
 exact Ms (by rw [e1,e2];exact hab)
theorem Jo {l:List Entry} (h:(l.map (·.Key)).Nodup) (p:Player) (t:Int) {x:Entry×Int} (hx:x∈lv l p t) (hm:∀y∈lv l p t,qZ y x=false):ig l p t=x.1.Key:=by
 obtain ⟨r,e⟩:=KQ vC uS (D8 h p t) hx hm
 unfold ig yl
 rw [e]
theorem Jk {l:List Entry} {p:Player} {t:Int} (h:lv l p t=[]):ig l p t=⟨#[]⟩:=by
 unfold ig yl
 rw [h];rfl
theorem key_gap {l:List Entry} (hr:∀e∈l,Right e) {p:Player} {a t:Int} (hat:a<=t)
  (h:∀e∈l,sS e p=true->∀d,e.Gone=false->e.First<=d->d<=e.Last->wW e d=true->(tF e p.Zone d<=a\/t<tF e p.Zone d)/\(tF e p.Zone d+nR e*60000<=a\/t<tF e p.Zone d+nR e*60000)):ig l p t=ig l p a:=by
 have key:∀e∈l,AA p t e=AA p a e:=λe he=>by
  unfold AA
  cases hf:sS e p with
  | false=>rfl
  | true =>
   rw [cond_true,cond_true]
   have hb:Ba e p.Zone t=Ba e p.Zone a:=by
    refine Option.ext (λb => ?_)
    rw [zl (hr e he),zl (hr e he)]
    constructor
    ·rintro ⟨d,hd,rfl⟩
     obtain ⟨h1,h2,h3,h4,h5,h6⟩:=nY.1 hd
     obtain ⟨k1,k2⟩:=h e he hf d h1 h2 h3 h4
     exact⟨d,nY.2 ⟨h1,h2,h3,h4,by omega,by omega⟩,rfl⟩
    ·rintro ⟨d,hd,rfl⟩
     obtain ⟨h1,h2,h3,h4,h5,h6⟩:=nY.1 hd
     obtain ⟨k1,k2⟩:=h e he hf d h1 h2 h3 h4
     exact⟨d,nY.2 ⟨h1,h2,h3,h4,by omega,by omega⟩,rfl⟩
   rw [hb]
 have:lv l p t=lv l p a:=by
  unfold lv
  exact GL key
 unfold ig yl
 rw [this]
theorem rJ {p:Int->Bool} {f:Int->Window} {x:Window}:∀(n:Nat) (d:Int),x∈collect p f n d↔∃y,d<=y/\y<d+n/\p y=true/\x=f y
 | 0,d=>by
  simp only [collect,List.not_mem_nil,false_iff]
  rintro ⟨y,h1,h2,_⟩;omega
 | n+1,d=>by
  simp only [collect,List.mem_append,rJ n (d+1)]
  constructor
  ·rintro (h|⟨y,h1,h2,h3⟩)
   ·cases hp:p d with
    | true=>rw [hp,cond_true,List.mem_singleton]at h;exact⟨d,by omega,by omega,hp,h⟩
    | false=>rw [hp]at h;cases h
   ·exact⟨y,by omega,by omega,h3⟩
  ·rintro ⟨y,h1,h2,h3,h4⟩
   by_cases hy:y=d
   ·subst hy;left;rw [h3,cond_true,h4];exact List.mem_singleton.2 rfl
   ·right;exact⟨y,by omega,by omega,h3,h4⟩
theorem tZ (a b:Int):jw a b=max a b:=by unfold jw;split <;> omega
theorem uJ (a b:Int):jB a b=min a b:=by unfold jB;split <;> omega
theorem FW {e:Entry} {z:Int} {w:Window} {d:Int}:pR e z w d=true↔e.Gone=false/\wW e d=true/\max (tF e z d) w.From<min (tF e z d+nR e*60000) w.To:=by
 unfold pR
 simp only [Bool.and_eq_true,decide_eq_true_eq,Bool.not_eq_true',tZ,uJ]
theorem wE {e:Entry} (h:Right e) {z:Int} {w x:Window}:x∈wants e z w↔∃d,e.First<=d/\d<=e.Last/\pR e z w d=true/\x=cutW w (tW e z d):=by
 have h1:=h.first
 unfold wants
 rw [rJ]
 constructor
 ·rintro ⟨y,a,b,c⟩;exact⟨y,a,by omega,c⟩
 ·rintro ⟨y,a,b,c⟩;exact⟨y,a,by omega,c⟩
theorem BH {l:List Entry} (hr:∀e∈l,Right e) {p:Player} {w:Window} {E:List Int} (hE:E.Pairwise (· < ·)) (hin:∀x∈E,w.From<=x/\x<=w.To)
  (hw:∀e∈l,sS e p=true->∀x∈wants e p.Zone w,x.From∈E/\x.To∈E) {i:Nat} {a b:Int} (ha:E[i]? = some a) (hb:E[i+1]? = some b) {t:Int} (hat:a<=t) (htb:t<b):ig l p t=ig l p a:=by
 have a1:=hin a (List.mem_of_getElem? ha)
 have b1:=hin b (List.mem_of_getElem? hb)
 refine key_gap hr hat (λe he hf d g1 g2 g3 g4 => ?_)
 have hm:=zK e (hr e he)
 have key:∀v:Int,(v=tF e p.Zone d\/v=tF e p.Zone d+nR e*60000)->v<=a\/t<v:=λv hv=>by
  by_cases q1:w.From<v
  ·by_cases q2:v<w.To
   ·have hp:pR e p.Zone w d=true:=FW.2 ⟨g1,g4,by omega⟩
    obtain ⟨k1,k2⟩:=hw e he hf _ ((wE (hr e he)).2 ⟨d,g2,g3,hp,rfl⟩)
    unfold cutW tW at k1 k2
    simp only [tZ,uJ]at k1 k2
    have hvE:v∈E:=by
     rcases hv with hv|hv
     ·rw [show max (tF e p.Zone d) w.From=v by omega]at k1;exact k1
     ·rw [show min (tF e p.Zone d+nR e*60000) w.To=v by omega]at k2;exact k2
    rcases Lh hE ha hb hvE with h|h
    ·exact .inl h
    ·exact .inr (by omega)
   ·exact .inr (by omega)
  ·exact .inl (by omega)
 exact⟨key _ (.inl rfl),key _ (.inr rfl)⟩
end Go.Proofs.YtnjnggakgeommaaGreat.Law

open Go Go.Eng
namespace Go.Proofs.YtnjnggakgeommaaGreat.Law
set_option linter.unusedVariables false
set_option linter.unusedSimpArgs false
def tiL (e:Entry) (z:Int) (w:Window):List Window:=collect (pR e z w) (tW e z) (e.Last+1-e.First).toNat e.First
theorem ET (e:Entry) (h:Right e) (z:Int) (w:Window) (hz : -1440<=z/\z<=1440) (hw:rF w):fG e z w=some (tiL e z w):=by
 obtain ⟨w1,w2,w3⟩:=hw
 have hf:=h.first
 have hl:=h.last
 have hm:=zK e h
 have hfr:=h.from_
 unfold fG
 cases hg:e.Gone with
 | true =>
  simp only [cond_true,ob_]
  unfold tiL
  rw [kC _ _ (λx _ _=>by simp only [pR,hg,Bool.not_true,Bool.false_and])]
 | false =>
 simp only [cond_false,ob_]
 by_cases hlt:w.From>=w.To
 ·simp only [decide_eq_true hlt,cond_true]
  unfold tiL
  rw [kC _ _ (λx _ _=>by
   have:decide (jw (tF e z x) w.From<jB (tF e z x+nR e*60000) w.To)=false:=decide_eq_false (by unfold jw jB;split <;> split <;> omega)
   simp only [pR,this,Bool.and_false])]
 ·simp only [decide_eq_false hlt,cond_false]
  rw [aM (n:=z*60000) (by omega),aM (n:=w.From+z*60000) (by omega)]
  obtain ⟨a,ha⟩:∃a,(w.From+z*60000).tdiv 86400000=a:=⟨_,rfl⟩
  obtain ⟨b,hb⟩:∃b,(w.To+z*60000).tdiv 86400000=b:=⟨_,rfl⟩
  have ha2:=Hg _ _ ha
  have hb2:=Hg _ _ hb
  rw [ha,aM (n:=a) (by omega),aM (n:=a-2) (by omega)]
  obtain ⟨lo,hlo⟩:∃lo,jw (a-2) e.First=lo:=⟨_,rfl⟩
  obtain ⟨hi,hhi⟩:∃hi,jB (b+1) e.Last=hi:=⟨_,rfl⟩
  have hlo2:e.First<=lo/\a-2<=lo/\(lo=e.First\/lo=a-2):=by unfold jw at hlo;split at hlo <;> omega
  have hhi2:hi<=e.Last/\hi<=b+1/\(hi=e.Last\/hi=b+1):=by unfold jB at hhi;split at hhi <;> omega
  have hend:∀d,decide (d<=jB (w64 (w64 ((w64 (w.To+w64 (z*60000))).tdiv 86400000)+1)) e.Last)=decide (d<=hi):=λd=>by
   rw [aM (n:=z*60000) (by omega),aM (n:=w.To+z*60000) (by omega),hb,aM (n:=b) (by omega),aM (n:=b+1) (by omega),hhi]
  rw [hlo]
  obtain ⟨d',hd⟩:=zB (ρ:=Unit) (body:=λs=>dN w z e s) (p:=pK e z w) (f:=tW e z) lo hi (by omega) (λacc d h1 h2 h3=>by
    have hc:decide (d<=hi)=true:=decide_eq_true h2
    simp only [dN,hend,hc,cond_true,timeK e h z d hz (by omega),ob_,dayK e h d (by omega) (by omega),aM (n:=d+1) (by omega),pK]
    cases wW e d with
    | false=>simp
    | true =>
     simp only [Bool.not_true,cond_false,ob_,Bool.true_and]
     by_cases hA:tF e z d<w.To
     ·have hA1:decide (tF e z d<w.To)=true:=decide_eq_true hA
      have hA2:decide ((tW e z d).From<w.To)=true:=decide_eq_true hA
      by_cases hB:tF e z d+nR e*60000>w.From
      ·have hB1:decide (tF e z d+nR e*60000>w.From)=true:=decide_eq_true hB
       have hB2:decide ((tW e z d).To>w.From)=true:=decide_eq_true hB
       simp only [hA1,hA2,hB1,hB2,cond_true,Bool.and_self,ob_,iL acc [tW e z d] (show acc.length+1<=_ by omega)]
      ·have hB1:decide (tF e z d+nR e*60000>w.From)=false:=decide_eq_false hB
       have hB2:decide ((tW e z d).To>w.From)=false:=decide_eq_false hB
       simp only [hA1,hA2,hB1,hB2,cond_true,cond_false,Bool.and_false,ob_,List.append_nil]
     ·have hA1:decide (tF e z d<w.To)=false:=decide_eq_false hA
      have hA2:decide ((tW e z d).From<w.To)=false:=decide_eq_false hA
      simp only [hA1,hA2,cond_false,Bool.false_and,ob_,List.append_nil])
   (λacc d h1=>by
    have hc:decide (d<=hi)=false:=decide_eq_false (by omega)
    simp only [dN,hend,hc,cond_false])
  rw [hd,ob_,gQ]
  unfold tiL
  rw [Ak (pR e z w) _ e.First e.Last lo hi (by omega) (by omega) (λx x1 x2 hp => ?_)]
  ·congr 1
   refine r9 _ _ (λx x1 x2=>⟨?_,rfl⟩)
   simp only [pK,pR,hg,Bool.not_false,Bool.true_and]
   congr 1
   rw [Bool.eq_iff_iff,Bool.and_eq_true,decide_eq_true_eq,decide_eq_true_eq,decide_eq_true_eq]
   unfold jw jB
   split <;> split <;> omega
  ·simp only [pR,hg,Bool.not_false,Bool.true_and,Bool.and_eq_true,decide_eq_true_eq]at hp
   have hp2:=hp.2
   unfold tF at hp2
   unfold jw jB at hp2
   split at hp2 <;> split at hp2 <;> omega
theorem Bj {e:Entry} (h:Right e) (z:Int) (w:Window):(tiL e z w).length<=4001:=by
 have h1:=rM (pR e z w) (tW e z) (e.Last+1-e.First).toNat e.First
 have h2:=h.first
 have h3:=h.last
 unfold tiL
 omega
theorem ze {e:Entry} (h:Right e) {z:Int} {w x:Window}:x∈tiL e z w↔∃d,e.First<=d/\d<=e.Last/\pR e z w d=true/\x=tW e z d:=by
 have h1:=h.first
 unfold tiL
 rw [rJ]
 constructor
 ·rintro ⟨y,a,b,c⟩;exact⟨y,a,by omega,c⟩
 ·rintro ⟨y,a,b,c⟩;exact⟨y,a,by omega,c⟩
def yu (p:Player) (w:Window) (e:Entry):List Span:=bif sS e p then (tiL e p.Zone w).map (λt=>⟨some e,t⟩)else []
def lM (l:List Entry) (p:Player) (w:Window):List Span:=l.flatMap (yu p w)
structure CE (l:List Entry) (p:Player):Prop where
 right:∀e∈l,Right e
 tags:∀e∈l,e.Tags.length<=1000
 len:l.length<=4
 keys:(l.map (·.Key)).Nodup
 ne:∀e∈l,e.Key≠⟨#[]⟩
 zone : -1440<=p.Zone/\p.Zone<=1440
 ptags:tagsF p.Tags=0
theorem DN {l:List Entry} {p:Player} (h:CE l p) (w:Window) {e:Entry} (he:e∈l):(yu p w e).length<=4001:=by
 unfold yu
 cases sS e p with
 | false=>exact Nat.zero_le _
 | true=>rw [cond_true,List.length_map];exact Bj (h.right e he) _ _
theorem Df {α β:Type} {f:α->List β} {n:Nat}:∀{l:List α},(∀x∈l,(f x).length<=n)->(l.flatMap f).length<=l.length*n
 | [],_=>by simp
 | x::l,h=>by
  have h1:=h x (by simp)
  have h2:=Df (l:=l) (λy hy=>h y (by simp [hy]))
  rw [List.flatMap_cons,List.length_append,List.length_cons,Nat.add_mul]
  omega
theorem spans_eq {l:List Entry} {p:Player} (h:CE l p) {w:Window} (hw:rF w):iR l p w=some (lM l p w):=by
 have hl:=h.len
 unfold iR
 obtain ⟨t,t1,t2⟩:=rE (body:=λk x s=>gM p w l k x s) (λk s=>s=lM (l.take k) p w) (xs:=l) (s:=([]:List Span)) (by omega) (λk e s he hs=>by
  have et:l.take (k+1)=l.take k++[e]:=by rw [List.take_add_one,he];rfl
  have hm:=List.mem_of_getElem? he
  have hsl:s.length<=20000:=by
   rw [hs]
   have h1:=Df (l:=l.take k) (f:=yu p w) (n:=4001) (λx hx=>DN h w (List.mem_of_mem_take hx))
   have h2:(l.take k).length<=4:=by rw [List.length_take];omega
   have h3:(l.take k).length*4001<=4*4001:=Nat.mul_le_mul_right _ h2
   unfold lM
   omega
  have hn:lM (l.take (k+1)) p w=s++yu p w e:=by
   rw [hs,et]
   unfold lM
   rw [List.flatMap_append]
   simp
  unfold gM
  rw [fitK e p (h.tags e hm) h.ptags,ob_]
  cases hf:sS e p with
  | false =>
   refine⟨s,rfl,?_⟩
   rw [hn]
   unfold yu
   rw [hf];simp
  | true =>
   simp only [Bool.not_true,cond_false]
   rw [ET e (h.right e hm) p.Zone w h.zone hw,ob_]
   have htl:=Bj (h.right e hm) p.Zone w
   obtain ⟨u,u1,u2⟩:=rE (body:=λj x s=>gZ l k j x s) (λj s'=>s'=s++((tiL e p.Zone w).take j).map (λt=>(⟨some e,t⟩:Span))) (xs:=tiL e p.Zone w) (s:=s) (by omega) (λj x s' hx hs'=>by
    have et2:(tiL e p.Zone w).take (j+1)=(tiL e p.Zone w).take j++[x]:=by rw [List.take_add_one,hx];rfl
    have hjl:((tiL e p.Zone w).take j).length<=4001:=by rw [List.length_take];omega
    unfold gZ
    rw [jK,he,ob_,iL _ _ (by rw [hs',List.length_append,List.length_map];simp only [List.length_cons,List.length_nil];omega)]
    refine⟨_,rfl,?_⟩
    rw [et2,List.map_append,hs',List.append_assoc];rfl) (by simp)
   rw [u1]
   refine⟨u,rfl,?_⟩
   rw [hn,u2,List.take_length]
   unfold yu
   rw [hf];rfl) rfl
 rw [t1,t2,List.take_length];rfl
end Go.Proofs.YtnjnggakgeommaaGreat.Law

namespace Go.Eng
set_option linter.unusedVariables false
set_option linter.unusedSimpArgs false
def Jz {α:Type} (cmp:α->α->Option Int) (a_2:Int) (s_21:(List α)×Int):Option (Ctl ((List α)×Int) (Unit)) :=
 (bif (decide (s_21.2>a_2))then (inR s_21.2 s_21.1).bind λ_=>(s_21.1[(0+(s_21.2).toNat)]?).bind λe_30=>(inR (w64 (s_21.2-1)) s_21.1).bind λ_=>(s_21.1[(0+((w64 (s_21.2-1))).toNat)]?).bind λe_33=>(cmp e_30 e_33).bind λr_35=>some (decide (r_35<0))else some false).bind λv_26=>bif v_26 then (inR (w64 (s_21.2-1)) s_21.1).bind λ_=>(s_21.1[(0+((w64 (s_21.2-1))).toNat)]?).bind λe_39=>(inR s_21.2 s_21.1).bind λ_=>(s_21.1[(0+(s_21.2).toNat)]?).bind λe_42=>(inR s_21.2 s_21.1).bind λ_=>(s_21.1[(0+(s_21.2).toNat)]?).bind λe_45=>(inR (w64 (s_21.2-1)) (s_21.1.set (0+(s_21.2).toNat) e_39)).bind λ_=>((s_21.1.set (0+(s_21.2).toNat) e_39)[(0+((w64 (s_21.2-1))).toNat)]?).bind λe_48=>some (.go (((s_21.1.set (0+(s_21.2).toNat) e_39).set (0+((w64 (s_21.2-1))).toNat) e_42),(w64 (s_21.2-1))))else some (.brk (s_21.1,s_21.2))
noncomputable def Hz {α:Type} (cmp:α->α->Option Int) (b_3:Int) (a_2:Int) (s_10:(List α)×Int):Option (Ctl ((List α)×Int) (Unit)) :=
 bif (decide (s_10.2<b_3))then (gY (s_10.1,s_10.2) (λs=>Jz cmp a_2 s)).bind λo_24=>bD o_24 (λs_21=>some (.go (s_21.1,(w64 (s_10.2+1))))) (λ_=>none)else some (.brk (s_10.1,s_10.2))
noncomputable def IE {α:Type} (cmp:α->α->Option Int) (data_1:(List α)) (a_2:Int) (b_3:Int):Option ((List α)) :=
 (gY (data_1,(w64 (a_2+1))) (λs=>Hz cmp b_3 a_2 s)).bind λo_13=>bD o_13 (λs_10=>some s_10.1) (λ_=>none)
noncomputable def MK {α:Type} (cmp:α->α->Option Int) (b_3:Int) (a_2:Int) (data_1:(List α)) (limit_4:Int) (s_11:Unit):Option (Ctl (Unit) ((List α))) :=
 bif (decide ((w64 (b_3-a_2))<=12))then (IE cmp data_1 a_2 b_3).bind λr_17=>(kX r_17 data_1).bind λ_=>some (.ret r_17)else bif (limit_4==0)then none else none
noncomputable def Jl {α:Type} (cmp:α->α->Option Int) (data_1:(List α)) (a_2:Int) (b_3:Int) (limit_4:Int):Option ((List α)) :=
 (gY () (λs=>MK cmp b_3 a_2 data_1 limit_4 s)).bind λo_14=>bD o_14 (λs_11=>some data_1) (λr=>some r)
theorem JG {α:Type} (u v:α) (C:List α):∀A:List α,((A++u::v::C).set (A.length+1) u).set A.length v=A++v::u::C
 | []=>rfl
 | a::A=>by simp only [List.cons_append,List.length_cons,List.set_cons_succ,JG u v C A]
theorem get_0 {α:Type} (u:α) (C A:List α):(A++u::C)[A.length]? = some u:=by simp
theorem get_1 {α:Type} (u v:α) (C A:List α):(A++u::v::C)[A.length+1]? = some v:=by
 rw [List.getElem?_append_right (by omega)];simp
theorem Mq {α:Type} (u v w:α) (C:List α):∀A:List α,(A++u::v::C).set (A.length+1) w=A++u::w::C
 | []=>rfl
 | a::A=>by simp only [List.cons_append,List.length_cons,List.set_cons_succ,Mq u v w C A]
theorem IK {α:Type} {xs:List α} {i:Nat} (h:i<xs.length):inR (i:Int) xs=some ():=by
 unfold inR;rw [if_pos ⟨by omega,by simpa using h⟩]
section
variable {α:Type} {cmp:α->α->Option Int} {le:α->α->Prop} {p:α->Prop}
theorem insL1_s (u v:α) (A C:List α) {c:Int} (hc:cmp v u=some c) (hl:A.length<=1000000000):Jz cmp 0 (A++u::v::C,((A.length+1:Nat):Int))=some (bif decide (c<0)then .go (A++v::u::C,(A.length:Int))else .brk (A++u::v::C,((A.length+1:Nat):Int))):=by
 have hw:w64 (((A.length+1:Nat):Int)-1)=(A.length:Int):=by rw [Da _ (by omega)];omega
 have h1:inR ((A.length+1:Nat):Int) (A++u::v::C)=some ():=IK (by simp)
 have h2:inR (A.length:Int) (A++u::v::C)=some ():=IK (by simp)
 have h3:inR (A.length:Int) (A++u::u::C)=some ():=IK (by simp)
 have hd:decide (((A.length+1:Nat):Int)>0)=true:=by simp <;> omega
 have e1:0+((A.length+1:Nat):Int).toNat=A.length+1:=by omega
 have e2:0+((A.length:Nat):Int).toNat=A.length:=by omega
 unfold Jz
 simp only [hw,h1,h2,hd,e1,e2,get_0,get_1,ob_,hc,cond_true,Mq,h3]
 cases decide (c<0)with
 | false=>rfl
 | true =>
  simp only [cond_true]
  have:=JG u v C A
  rw [Mq]at this
  rw [this]
theorem Et (hc:∀a b,p a->p b->∃c,cmp a b=some c/\(c<0->le a b)/\(¬c<0->le b a)) (tr:∀a b c,le a b->le b c->le a c) (v:α) (hv:p v) (R:List α):∀(n:Nat) (A B:List α),A.length=n->n<=1000000000->(∀a∈A,p a)->(A++B).Pairwise le->(∀b∈B,le v b) ->
  ∃A' B',cO (λs=>Jz cmp 0 s) (n+1) (A++v::(B++R),(A.length:Int))=some (.go (A'++v::(B'++R),(A'.length:Int)))/\A'++B'=A++B/\(A'++v::B').Pairwise le
 | 0,A,B,hA,hn,hpa,hp,hb=>by
  have:A=[]:=List.eq_nil_of_length_eq_zero hA
  subst this
  exact⟨[],B,by simp only [List.nil_append,List.length_nil,cO,Option.bind];rfl,rfl,by simpa using ⟨hb,hp⟩⟩
 | n+1,A,B,hA,hn,hpa,hp,hb=>by
  rcases List.eq_nil_or_concat A with h|⟨A0,u,h⟩
  ·rw [h]at hA;cases hA
  ·subst h
   simp only [List.concat_eq_append]at hA hp hpa ⊢
   have hA0:A0.length=n:=by simpa using hA
   have hl:(A0++[u]).length=A0.length+1:=by simp
   have e:A0++[u]++v::(B++R)=A0++u::v::(B++R):=by simp
   obtain ⟨c,h1,h2,h3⟩:=hc v u hv (hpa u (by simp))
   rw [hl,e,cO,insL1_s u v A0 (B++R) h1 (by omega),ob_]
   by_cases hcn:c<0
   ·simp only [decide_eq_true hcn,cond_true]
    have hp':(A0++(u::B)).Pairwise le:=by simpa using hp
    obtain ⟨A',B',k1,k2,k3⟩:=Et hc tr v hv R n A0 (u::B) hA0 (by omega) (λa ha=>hpa a (by simp [ha])) hp' (λb hb'=>by
     rcases List.mem_cons.1 hb' with rfl|hb'
     ·exact h2 hcn
     ·exact hb b hb')
    refine⟨A',B',?_,by rw [k2];simp,k3⟩
    rw [<- k1];simp
   ·simp only [decide_eq_false hcn,cond_false]
    refine⟨A0++[u],B,by simp,rfl,?_⟩
    have huv:=h3 hcn
    rw [List.pairwise_append]at hp ⊢
    obtain ⟨p1,p2,p3⟩:=hp
    refine⟨p1,List.pairwise_cons.2 ⟨hb,p2⟩,λa ha b hb' => ?_⟩
    rcases List.mem_cons.1 hb' with rfl|hb'
    ·rcases List.mem_append.1 ha with ha|ha
     ·rw [List.pairwise_append]at p1
      exact tr _ _ _ (p1.2.2 a ha u (by simp)) huv
     ·rw [List.mem_singleton]at ha;subst ha;exact huv
    ·exact p3 a ha b hb'
theorem DZ (hc:∀a b,p a->p b->∃c,cmp a b=some c/\(c<0->le a b)/\(¬c<0->le b a)) (tr:∀a b c,le a b->le b c->le a c):∀(Q P:List α),P.length+Q.length<=1000000000->(∀x∈P++Q,p x)->P.Pairwise le ->
  ∃s,cO (λs=>Hz cmp ((P.length+Q.length:Nat):Int) 0 s) (Q.length+1) (P++Q,(P.length:Int))=some (.go (s,((P.length+Q.length:Nat):Int)))/\s.Perm (P++Q)/\s.Pairwise le
 | [],P,hl,hpx,hp=>by
  refine⟨P,?_,by simp,hp⟩
  have hd:decide ((P.length:Int)<((P.length+([]:List α).length:Nat):Int))=false:=by simp
  simp only [cO,Hz,hd,cond_false,ob_,List.append_nil]
  simp
 | v::Q,P,hl,hpx,hp=>by
  simp only [List.length_cons]at hl
  have hd:decide ((P.length:Int)<((P.length+(v::Q).length:Nat):Int))=true:=by simp only [decide_eq_true_eq,List.length_cons];omega
  obtain ⟨A',B',k1,k2,k3⟩:=Et hc tr v (hpx v (by simp)) Q P.length P [] rfl (by omega) (λa ha=>hpx a (by simp [ha])) (by simpa using hp) (λb hb=>by cases hb)
  rw [List.nil_append]at k1
  have hlo:=gU k1
  rw [List.length_cons,cO]
  have hw:w64 ((P.length:Int)+1)=((A'++v::B').length:Int):=by
   have:=congrArg List.length k2
   simp only [List.length_append,List.length_nil]at this
   rw [Da _ (by omega)];simp only [List.length_append,List.length_cons];omega
  have h1:Hz cmp ((P.length+(Q.length+1):Nat):Int) 0 (P++v::Q,(P.length:Int))=some (.go (A'++v::(B'++Q),((A'++v::B').length:Int))):=by
   have hd':decide ((P.length:Int)<((P.length+(Q.length+1):Nat):Int))=true:=hd
   unfold Hz
   simp only [hd',cond_true,hlo,ob_,bD,hw]
  have hlen:(A'++v::B').length=P.length+1:=by
   have:=congrArg List.length k2
   simp only [List.length_append,List.length_nil,List.length_cons]at this ⊢
   omega
  have hk:(A'++B').Perm P:=by rw [k2];simp
  have hperm:(A'++v::B').Perm (P++[v]):=(List.perm_middle).trans ((List.Perm.cons v hk).trans (List.perm_append_comm (l₁:=[v]) (l₂:=P)))
  obtain ⟨s,m1,m2,m3⟩:=DZ hc tr Q (A'++v::B') (by omega) (λx hx=>by
   rcases List.mem_append.1 hx with hx|hx
   ·have:=hperm.mem_iff.1 hx
    exact hpx x (by rcases List.mem_append.1 this with h | h <;> simp_all)
   ·exact hpx x (by simp [hx])) k3
  rw [h1,ob_]
  have e:A'++v::(B'++Q)=(A'++v::B')++Q:=by simp
  have e2:P.length+(Q.length+1)=(A'++v::B').length+Q.length:=by omega
  simp only
  rw [e,e2]
  refine⟨s,m1,m2.trans ?_,m3⟩
  have:=List.Perm.append_right Q hperm
  simpa using this
theorem pdq_ok (hc:∀a b,p a->p b->∃c,cmp a b=some c/\(c<0->le a b)/\(¬c<0->le b a)) (tr:∀a b c,le a b->le b c->le a c) (l:List α) (hl:l.length<=12) (hpl:∀x∈l,p x) (lim:Int):∃s,Jl cmp l 0 (l.length:Int) lim=some s/\s.Perm l/\s.Pairwise le:=by
 have key:∃s,IE cmp l 0 (l.length:Int)=some s/\s.Perm l/\s.Pairwise le:=by
  unfold IE
  have hw:w64 (0+1)=1:=rfl
  rw [hw]
  cases l with
  | nil=>exact⟨[],by rw [gU (n:=1) (o := .go ([],1)) rfl];rfl,.nil,.nil⟩
  | cons v Q =>
   obtain ⟨s,m1,m2,m3⟩:=DZ hc tr Q [v] (by simp only [List.length_cons,List.length_nil]at hl ⊢;omega) (λx hx=>hpl x (by simpa using hx)) (List.pairwise_singleton _ _)
   have e:([v].length+Q.length:Nat)=(v::Q).length:=by simp only [List.length_cons,List.length_nil];omega
   rw [e]at m1
   have:=gU m1
   refine⟨s,?_,m2,m3⟩
   show (gY (v::Q,1) _).bind _=_
   have e2:(([v]++Q,(([v]:List α).length:Int)):List α×Int)=(v::Q,1):=rfl
   rw [e2]at this
   rw [this];rfl
 obtain ⟨s,h1,h2,h3⟩:=key
 refine⟨s,?_,h2,h3⟩
 have hsm:kX s l=some ():=by unfold kX;rw [if_pos h2.length_eq]
 have hd:decide (w64 ((l.length:Int)-0)<=12)=true:=by
  have:(l.length:Int)-0=l.length:=by omega
  rw [this,Da _ (by omega)];simp;omega
 have:gY () (λs=>MK cmp (l.length:Int) 0 l lim s)=some (.ret s):=by
  refine gU (n:=1) ?_
  simp only [cO,MK,hd,cond_true,h1,hsm,ob_]
 unfold Jl
 rw [this];rfl
end
end Go.Eng

open Go Go.Eng
namespace Go.Proofs.YtnjnggakgeommaaGreat.Law
set_option linter.unusedVariables false
set_option linter.unusedSimpArgs false
theorem KJ (a b:ByteArray):(lt a b/\zZ a b = -1)\/(a=b/\zZ a b=0)\/(lt b a/\zZ a b=1):=by
 have key:∀(x y:List UInt8),(x<y/\Lib.compareBytes x y = -1)\/(x=y/\Lib.compareBytes x y=0)\/(y<x/\Lib.compareBytes x y=1):=by
  intro x
  induction x with
  | nil=>intro y;cases y with
   | nil=>exact .inr (.inl ⟨rfl,rfl⟩)
   | cons b y=>exact .inl ⟨by simp,rfl⟩
  | cons a x ih=>intro y;cases y with
   | nil=>exact .inr (.inr ⟨by simp,rfl⟩)
   | cons b y =>
    simp only [Lib.compareBytes,List.cons_lt_cons_iff,List.cons.injEq]
    by_cases h1:a<b
    ·exact .inl ⟨.inl h1,by rw [if_pos h1]⟩
    ·by_cases h2:b<a
     ·exact .inr (.inr ⟨.inl h2,by rw [if_neg h1,if_pos h2]⟩)
     ·have e:a=b:=UInt8.le_antisymm (UInt8.not_lt.1 h2) (UInt8.not_lt.1 h1)
      subst e
      rw [if_neg h1,if_neg h1]
      rcases ih y with⟨h,k⟩|⟨h,k⟩|⟨h,k⟩
      ·exact .inl ⟨.inr ⟨rfl,h⟩,k⟩
      ·exact .inr (.inl ⟨⟨rfl,h⟩,k⟩)
      ·exact .inr (.inr ⟨.inr ⟨rfl,h⟩,k⟩)
 unfold zZ lt
 rw [toL,toL]
 rcases key a.data.toList b.data.toList with⟨h,k⟩|⟨h,k⟩|⟨h,k⟩
 ·exact .inl ⟨h,k⟩
 ·exact .inr (.inl ⟨Bf (by rw [toL,toL];exact h),k⟩)
 ·exact .inr (.inr ⟨h,k⟩)
theorem CL (a b:ByteArray):strings_Compare a b=some (zZ a b):=rfl
def ma (a b:Int):Int:=if a<b then -1 else if a>b then 1 else 0
theorem wI (a b:Int):cmp_Compare_int a b=some (ma a b):=by
 have e:∀x:Int,(x != x)=false:=by simp
 unfold cmp_Compare_int cmp_isNaN_int ma
 simp only [e,ob_,cond_false]
 by_cases h:a<b
 ·simp only [decide_eq_true h,cond_true,if_pos h]
 ·by_cases h2:a>b
  ·simp only [decide_eq_false h,decide_eq_true h2,cond_true,cond_false,if_neg h,if_pos h2]
  ·simp only [decide_eq_false h,decide_eq_false h2,cond_false,if_neg h,if_neg h2]
theorem or3_eq (a b c:Int):qz [a,b,c]=some (or0 a (or0 b c)):=by
 unfold qz or0
 rw [eX (by simp)]
 simp only [dG,oP]
 cases ha:a==0 with
 | false =>
  have:(a != 0)=true:=by simp [bne,ha]
  simp only [this,cond_true,cond_false,ob_,bD]
 | true =>
  have:(a != 0)=false:=by simp [bne,ha]
  simp only [this,cond_true,cond_false,ob_]
  cases hb:b==0 with
  | false =>
   have:(b != 0)=true:=by simp [bne,hb]
   simp only [this,cond_true,cond_false,ob_,bD]
  | true =>
   have:(b != 0)=false:=by simp [bne,hb]
   simp only [this,cond_true,cond_false,ob_]
   cases hc:c==0 with
   | false =>
    have:(c != 0)=true:=by simp [bne,hc]
    simp only [this,cond_true,ob_,bD]
   | true =>
    have:(c != 0)=false:=by simp [bne,hc]
    simp only [this,cond_false,ob_,bD]
    rw [eq_of_beq hc]
theorem yG {a b:Int}:or0 a b<0↔a<0\/a=0/\b<0:=by
 unfold or0
 by_cases h:a=0
 ·subst h;simp
 ·have:(a==0)=false:=by simpa using h
  rw [this,cond_false];omega
theorem Gw {a b:Int}:or0 a b=0↔a=0/\b=0:=by
 unfold or0
 by_cases h:a=0
 ·subst h;simp
 ·have:(a==0)=false:=by simpa using h
  rw [this,cond_false];omega
theorem sI {a b:Int}:ma a b<0↔a<b:=by
 unfold ma
 split
 ·omega
 ·split <;> omega
theorem DU {a b:Int}:ma a b=0↔a=b:=by
 unfold ma
 split
 ·omega
 ·split <;> omega
theorem Mc {a b:ByteArray}:zZ a b<0↔lt a b:=by
 rcases KJ a b with⟨h,e⟩|⟨h,e⟩|⟨h,e⟩
 ·rw [e];exact⟨λ_=>h,λ_=>by decide⟩
 ·rw [e,h];exact⟨λk=>absurd k (by decide),λk=>absurd k (qW _)⟩
 ·rw [e];exact⟨λk=>absurd k (by decide),λk=>absurd (lt_trans k h) (qW _)⟩
theorem lt_ntr {a b c:ByteArray} (h:¬lt a b) (k:¬lt b c):¬lt a c:=λq=>by
 rcases EH a b with e|e|e
 ·exact h e
 ·rw [e]at q;exact k q
 ·exact k (lt_trans e q)
theorem len_ok:∀n:Nat,n<=12->∃k,lh (IntKind.u64.wrap (n:Int))=some k:=by
 have h:(List.range 13).all (λn=>(lh (IntKind.u64.wrap (n:Int))).isSome)=true:=by kernel_rfl
 intro n hn
 have:=List.all_eq_true.1 h n (by simp;omega)
 exact Option.isSome_iff_exists.1 this
theorem sort12 {α:Type} {cmp:α->α->Option Int} (c:α->α->Int) {S:List α->Option (List α)} (hS:∀x,S x=(lh (IntKind.u64.wrap (x.length:Int))).bind λr_3=>(Jl cmp x 0 (x.length:Int) r_3).bind λr_5=>(kX r_5 x).bind λ_=>some r_5)
  {xs:List α} (hl:xs.length<=12) (hF:∀a∈xs,∀b∈xs,cmp a b=some (c a b)) (has:∀a b,c a b<0->¬c b a<0) (hn:∀a b d,¬c a b<0->¬c b d<0->¬c a d<0) :
  ∃r,S xs=some r/\r.Perm xs/\r.Pairwise (λa b=>¬c b a<0):=by
 obtain ⟨k,hk⟩:=len_ok xs.length hl
 obtain ⟨s,h1,h2,h3⟩:=pdq_ok (cmp:=cmp) (le:=λa b=>¬c b a<0) (p:=(· ∈ xs)) (λa b ha hb=>⟨c a b,hF a ha b hb,λh=>has a b h,λh=>h⟩) (λa b d h k=>hn d b a k h) xs hl (λx hx=>hx) k
 refine⟨s,?_,h2,h3⟩
 have hsm:kX s xs=some ():=by unfold kX;rw [if_pos h2.length_eq]
 rw [hS,hk,ob_,h1,ob_,hsm];rfl
def qx (x:Entry×Int):Span:=⟨some x.1,⟨x.2,x.2+nR x.1*60000⟩⟩
def cE (x y:Entry×Int):Int:=or0 (ma y.1.Prio x.1.Prio) (or0 (ma y.2 x.2) (zZ y.1.Key x.1.Key))
theorem Js {x y:Entry×Int}:cE x y<0↔qZ x y=true:=by
 unfold cE
 rw [yG,yG,sI,DU,sI,DU,Mc,tJ]
 constructor
 ·rintro (h|⟨h,k|⟨k,q⟩⟩)
  ·exact .inl h
  ·exact .inr ⟨h.symm,.inl k⟩
  ·exact .inr ⟨h.symm,.inr ⟨k.symm,q⟩⟩
 ·rintro (h|⟨h,k|⟨k,q⟩⟩)
  ·exact .inl h
  ·exact .inr ⟨h.symm,.inl k⟩
  ·exact .inr ⟨h.symm,.inr ⟨k.symm,q⟩⟩
theorem M0 {a b c:Entry×Int} (h:¬qZ a b=true) (k:¬qZ b c=true):¬qZ a c=true:=by
 rw [tJ]at *
 simp only [not_or,not_and]at h k
 rintro (q|⟨q,q2|⟨q2,q3⟩⟩)
 ·omega
 ·have h2:=h.2
  have k2:=k.2
  by_cases e:a.1.Prio=b.1.Prio
  ·have:=(h2 e).1
   have:=(k2 (by omega)).1
   omega
  ·omega
 ·have h2:=h.2
  have k2:=k.2
  by_cases e:a.1.Prio=b.1.Prio
  ·have a1:=h2 e
   have a2:=k2 (by omega)
   by_cases e2:a.2=b.2
   ·exact lt_ntr (a2.2 (by omega)) (a1.2 e2) q3
   ·have:=a1.1
    have:=a2.1
    omega
  ·omega
def zeroE:Entry:=⟨⟨#[]⟩,⟨#[]⟩,0,0,0,0,0,[],0,0,0,[],false⟩
def wV (s:Span):Entry×Int:=(s.f_e.getD zeroE,s.f_time.From)
theorem GK (x y:Entry×Int):iI (qx x) (qx y)=some (cE (wV (qx x)) (wV (qx y))):=by
 unfold iI
 show ((some y.1).bind λy_5=>(some x.1).bind λy_7=>_)=_
 simp only [ob_,wI,qx,CL,or3_eq];rfl
end Go.Proofs.YtnjnggakgeommaaGreat.Law

open Go Go.Eng
namespace Go.Proofs.YtnjnggakgeommaaGreat.Law
set_option linter.unusedVariables false
set_option linter.unusedSimpArgs false
theorem timeR2 (e:Entry) (h:Right e) (z d:Int) (hz : -1440<=z/\z<=1440) (hd : -100<=d/\d<=100000):lD e z d=some (tW e z d):=by
 have h1:=h.from_
 have h2:=h.to_
 unfold lD tW tF nR
 by_cases hc:e.To<=e.From
 ·simp only [decide_eq_true hc,cond_true,ob_,if_pos (show e.To-e.From<=0 by omega)]
  rw [aM (n:=e.To+1440) (by omega),aM (n:=d*86400000) (by omega),aM (n:=z*60000) (by omega),aM (n:=d*86400000-z*60000) (by omega),aM (n:=e.From*60000) (by omega),aM (n:=(e.To+1440)*60000) (by omega),aM (by omega),aM (by omega)]
  congr 2 <;> omega
 ·simp only [decide_eq_false hc,cond_false,ob_,if_neg (show ¬e.To-e.From<=0 by omega)]
  rw [aM (n:=d*86400000) (by omega),aM (n:=z*60000) (by omega),aM (n:=d*86400000-z*60000) (by omega),aM (n:=e.From*60000) (by omega),aM (n:=e.To*60000) (by omega),aM (by omega),aM (by omega)]
  congr 2 <;> omega
theorem M4 (a b c d:Int):gN [a,b] [c,d]=some (or0 (ma a c) (ma b d)):=by
 unfold gN or0
 rw [eX (by simp)]
 have f1:dK [c,d] 0 a ()=some (bif ma a c != 0 then .ret (ma a c)else .go ()):=by
  unfold dK
  rw [decide_eq_false (by simp),cond_false]
  show ((some c).bind λy_14=>_)=_
  rw [ob_,wI,ob_]
  cases ma a c != 0 <;> rfl
 have f2:dK [c,d] (0+1) b ()=some (bif ma b d != 0 then .ret (ma b d)else .go ()):=by
  unfold dK
  rw [decide_eq_false (by simp),cond_false]
  show ((some d).bind λy_14=>_)=_
  rw [ob_,wI,ob_]
  cases ma b d != 0 <;> rfl
 simp only [dG,f1,f2,ob_]
 cases ha:ma a c==0 with
 | false =>
  have:(ma a c != 0)=true:=by simp [bne,ha]
  rw [this];rfl
 | true =>
  have:(ma a c != 0)=false:=by simp [bne,ha]
  rw [this]
  simp only [cond_false,cond_true]
  cases hb:ma b d==0 with
  | false =>
   have:(ma b d != 0)=true:=by simp [bne,hb]
   rw [this];rfl
  | true =>
   have:(ma b d != 0)=false:=by simp [bne,hb]
   rw [this,eq_of_beq hb];rfl
theorem L6 {x:Int} (hx : -10000000000000<=x/\x<=10000000000000):tH x 86400000=some (x / 86400000):=by
 obtain ⟨q,hq⟩:∃q,x.tdiv 86400000=q:=⟨_,rfl⟩
 have hb:=Hg x q hq
 have hm:x.tmod 86400000=x-86400000*q:=by
  have:=Int.mul_tdiv_add_tmod x 86400000
  rw [hq]at this;omega
 unfold tH A9 IJ
 simp only [show ¬(86400000:Int)=0 by decide,if_false,ob_,hm,hq]
 have hqb : -1000000<=q/\q<=1000000:=by omega
 have hw:IntKind.i64.wrap q=q:=aM (by omega)
 simp only [hw]
 by_cases h:x-86400000*q<0
 ·rw [decide_eq_true h,cond_true,aM (n:=q-1) (by omega)]
  congr 1
  omega
 ·rw [decide_eq_false h,cond_false]
  congr 1
  omega
theorem dayR2 {e:Entry} (h:Right e) (d:Int):lZ e d=some (decide (e.First<=d)&&(decide (d<=e.Last)&&wW e d)):=by
 by_cases h1:e.First<=d
 ·by_cases h2:d<=e.Last
  ·rw [dayR e h d h1 h2,decide_eq_true h1,decide_eq_true h2];rfl
  ·unfold lZ kL
   rw [decide_eq_true h1,decide_eq_false h2];rfl
 ·unfold lZ kL
  rw [decide_eq_false h1];rfl
def oq (e:Entry) (z t:Int):Int×Bool:=match Ba e z t with | some b=>(b,true) | none=>(0,false)
theorem EE {e:Entry} (h:Right e) {z t d:Int} (hz : -1440<=z/\z<=1440) (hd : -100<=d/\d<=100000) (k:Nat):ol e z t k d ()=some (bif u6 e z t d then .ret (tF e z d,true)else .go ()):=by
 unfold ol
 rw [timeR2 e h z d hz hd,ob_,dayR2 h]
 have e1:(bif (!e.Gone)then (some (decide (e.First<=d)&&(decide (d<=e.Last)&&wW e d))).bind λr_23=>bif r_23 then bif (decide ((tW e z d).From<=t))then some (decide (t<(tW e z d).To))else some false else some false else some false)=some (u6 e z t d):=by
  unfold u6 tW
  simp only [ob_]
  cases e.Gone with
  | true=>rfl
  | false =>
   cases decide (e.First<=d)with
   | false=>rfl
   | true =>
    cases decide (d<=e.Last)with
    | false=>rfl
    | true =>
     cases wW e d with
     | false=>rfl
     | true=>cases decide (tF e z d<=t) <;> rfl
 rw [e1,ob_]
 unfold tW
 cases u6 e z t d <;> rfl
theorem Db {e:Entry} (h:Right e) {z t:Int} (hz : -1440<=z/\z<=1440) (ht:0<=t/\t<=1000000000000):oC e z t=some (oq e z t):=by
 unfold oC
 rw [aM (n:=z*60000) (by omega),aM (n:=t+z*60000) (by omega),L6 (by omega),ob_]
 have hq:(t+z*60000) / 86400000=uq z t:=rfl
 rw [hq]
 have hd : -2<=uq z t/\uq z t<=20000:=by unfold uq;omega
 rw [aM (n:=uq z t-1) (by omega),eX (by simp)]
 simp only [dG,EE h hz (t:=t) (d:=uq z t-1) (by omega) 0,EE h hz (t:=t) (d:=uq z t) (by omega) (0+1)]
 unfold oq Ba
 cases u6 e z t (uq z t-1)with
 | true=>rfl
 | false=>cases u6 e z t (uq z t) <;> rfl
def cW2 (p:Player) (t:Int) (a b:Entry):Int:=bif or0 (ma b.Prio a.Prio) (ma (oq b p.Zone t).1 (oq a p.Zone t).1) != 0 then or0 (ma b.Prio a.Prio) (ma (oq b p.Zone t).1 (oq a p.Zone t).1)else zZ b.Key a.Key
theorem ww {p:Player} {t:Int} {a b:Entry}:cW2 p t a b<0↔qZ (a,(oq a p.Zone t).1) (b,(oq b p.Zone t).1)=true:=by
 rw [<- Js]
 unfold cW2 cE
 by_cases h:or0 (ma b.Prio a.Prio) (ma (oq b p.Zone t).1 (oq a p.Zone t).1)=0
 ·obtain ⟨h1,h2⟩:=Gw.1 h
  rw [h,h1,h2];exact Iff.rfl
 ·have:(or0 (ma b.Prio a.Prio) (ma (oq b p.Zone t).1 (oq a p.Zone t).1) != 0)=true:=by simpa using h
  rw [this,cond_true,yG,yG,yG]
  constructor
  ·rintro (q|⟨q,q2⟩)
   ·exact .inl q
   ·exact .inr ⟨q,.inl q2⟩
  ·rintro (q|⟨q,q2|⟨q2,q3⟩⟩)
   ·exact .inl q
   ·exact .inr ⟨q,q2⟩
   ·exact absurd (Gw.2 ⟨q,q2⟩) h
theorem whyC_eq {p:Player} {t:Int} (hz : -1440<=p.Zone/\p.Zone<=1440) (ht:0<=t/\t<=1000000000000) {a b:Entry} (ha:Right a) (hb:Right b):nz a b p t=some (cW2 p t a b):=by
 unfold nz cW2
 rw [Db ha hz ht,Db hb hz ht,ob_,ob_,M4,ob_,CL]
 cases or0 (ma b.Prio a.Prio) (ma (oq b p.Zone t).1 (oq a p.Zone t).1) != 0 <;> rfl
def EJ (l:List Entry) (p:Player) (t:Int):List Entry:=l.filter λe=>(oq e p.Zone t).2&&sS e p
theorem Mf (l:List Entry) (p:Player) (t:Int):(lv l p t).map (·.1)=EJ l p t/\∀x∈lv l p t,x=(x.1,(oq x.1 p.Zone t).1):=by
 constructor
 ·unfold lv EJ
  induction l with
  | nil=>rfl
  | cons e l ih =>
   rw [List.filterMap_cons,List.filter_cons,<- ih]
   unfold AA oq
   cases hf:sS e p with
   | false=>cases Ba e p.Zone t <;> rfl
   | true=>cases Ba e p.Zone t <;> rfl
 ·intro x hx
  obtain ⟨_,_,h3⟩:=wu.1 hx
  unfold oq
  rw [h3]
theorem LB {l:List Entry} {p:Player} (h:CE l p) {t:Int} (ht:0<=t/\t<=1000000000000):sJ l p t=some ((yl l p t).map (·.1)):=by
 have hl:=h.len
 obtain ⟨m1,m2⟩:=Mf l p t
 unfold sJ
 obtain ⟨u,u1,u2⟩:=rE (body:=λk x s=>nP p t k x s) (λk s=>s=EJ (l.take k) p t) (xs:=l) (s:=([]:List Entry)) (by omega) (λk e s he hs=>by
  have et:l.take (k+1)=l.take k++[e]:=by rw [List.take_add_one,he];rfl
  have hm:=List.mem_of_getElem? he
  have hsl:s.length<=4:=by
   rw [hs]
   refine Nat.le_trans (List.length_filter_le _ _) ?_
   rw [List.length_take];omega
  have hf:EJ (l.take (k+1)) p t=s++(bif (oq e p.Zone t).2&&sS e p then [e]else []):=by
   rw [hs,et]
   unfold EJ
   rw [List.filter_append]
   congr 1
  unfold nP
  rw [Db (h.right e hm) h.zone ht,ob_,fitR e p (h.tags e hm) (by have:=(J7 h.ptags).1;omega),hf]
  cases (oq e p.Zone t).2 with
  | false=>exact⟨_,rfl,by simp⟩
  | true =>
   cases sS e p with
   | false=>exact⟨_,rfl,by simp⟩
   | true =>
    simp only [ob_,cond_true,Bool.and_true]
    rw [iL _ _ (by simp only [List.length_cons,List.length_nil];omega)]
    exact⟨_,rfl,rfl⟩) rfl
 rw [u1,u2,List.take_length]
 simp only [ob_,bD]
 have hml:(EJ l p t).length<=4:=Nat.le_trans (List.length_filter_le _ _) hl
 have hmm:∀e∈EJ l p t,e∈l:=λe he=>(List.mem_filter.1 he).1
 obtain ⟨r,r1,r2,r3⟩:=sort12 (cmp:=λa b=>nz a b p t) (S:=λx=>dQ x p t) (cW2 p t) (λ_=>rfl) (xs:=EJ l p t) (by omega) (λa ha b hb=>whyC_eq h.zone ht (h.right a (hmm a ha)) (h.right b (hmm b hb)))
  (λa b q1 q2=>by have:=uS _ _ _ (ww.1 q1) (ww.1 q2);rw [vC]at this;cases this)
  (λa b c q1 q2 q3=>M0 (λe=>q1 (ww.2 e)) (λe=>q2 (ww.2 e)) (ww.1 q3))
 have e3:kX r (EJ l p t)=some ():=by unfold kX;rw [if_pos r2.length_eq]
 have hp:(r.map λe=>(e,(oq e p.Zone t).1)).Perm (lv l p t):=by
  have h1:=r2.map λe=>(e,(oq e p.Zone t).1)
  rw [<- m1,List.map_map]at h1
  have h2:(lv l p t).map ((λe=>(e,(oq e p.Zone t).1)) ∘ (·.1))=lv l p t:=by
   have:∀x∈lv l p t,((λe=>(e,(oq e p.Zone t).1)) ∘ (·.1)) x=x:=λx hx=>(m2 x hx).symm
   rw [List.map_congr_left this,List.map_id']
  rwa [h2]at h1
 have hs:(r.map λe=>(e,(oq e p.Zone t).1))=yl l p t:=srtG_is vC uS (D8 h.keys p t) hp (by
  rw [List.pairwise_map]
  refine r3.imp (λ{a b} q => ?_)
  cases hb:qZ (b,(oq b p.Zone t).1) (a,(oq a p.Zone t).1)with
  | false=>rfl
  | true=>exact absurd (ww.2 hb) q)
 have hr:r=(yl l p t).map (·.1):=by
  rw [<- hs,List.map_map]
  have:∀e∈r,((·.1) ∘ λe=>(e,(oq e p.Zone t).1)) e=e:=λe _=>rfl
  rw [List.map_congr_left this,List.map_id']
 rw [r1,ob_,e3,ob_,hr]
end Go.Proofs.YtnjnggakgeommaaGreat.Law

open Go Go.Eng
namespace Go.Proofs.YtnjnggakgeommaaGreat.Law
set_option linter.unusedVariables false
set_option linter.unusedSimpArgs false
def dd:List Int->List Int
 | []=>[]
 | [x]=>[x]
 | x::y::l=>bif x==y then dd (y::l)else x::dd (y::l)
theorem JX (x:Int):∀(l:List Int) (b:Int),l.getLast? = some b->dd (l++[x])=bif b==x then dd l else dd l++[x]
 | [],b,h=>by cases h
 | [a],b,h=>by
  simp only [List.getLast?_singleton,so_]at h
  subst h
  simp only [List.cons_append,List.nil_append,dd]
  cases hx:a==x with
  | true=>rw [eq_of_beq hx]
  | false=>rfl
 | a::c::l,b,h=>by
  have ih:=JX x (c::l) b (by rw [<- h];simp [List.getLast?_cons_cons])
  simp only [List.cons_append]at ih ⊢
  rw [dd,ih,dd]
  cases a==c <;> cases b==x <;> rfl
theorem Kb (s:List Int) (p:Nat) (a b:Int) (hp:1<=p) (ha:s[p]? = some a) (hb:s[p-1]? = some b):dd (s.take (p+1))=bif b==a then dd (s.take p)else dd (s.take p)++[a]:=by
 have hlt:=(List.getElem?_eq_some_iff.1 ha).1
 have e:s.take (p+1)=s.take p++[a]:=by rw [List.take_add_one,ha];rfl
 rw [e]
 refine JX a _ b ?_
 rw [List.getLast?_eq_getElem?,List.length_take,List.getElem?_take,if_pos (by omega),<- hb]
 congr 1;omega
theorem FT (x:Int):∀l:List Int,x∈dd l↔x∈l
 | []=>Iff.rfl
 | [a]=>Iff.rfl
 | a::b::l=>by
  rw [dd]
  cases h:a==b with
  | true =>
   rw [cond_true,FT x (b::l),eq_of_beq h];simp
  | false=>rw [cond_false,List.mem_cons,FT x (b::l),List.mem_cons (a:=x) (b:=a)]
theorem E9:∀l:List Int,l.Pairwise (· <= ·)->(dd l).Pairwise (· < ·)
 | [],_ => .nil
 | [a],_=>List.pairwise_singleton _ _
 | a::b::l,h=>by
  rw [dd]
  obtain ⟨h1,h2⟩:=List.pairwise_cons.1 h
  cases hx:a==b with
  | true=>exact E9 (b::l) h2
  | false =>
   refine List.pairwise_cons.2 ⟨λc hc => ?_,E9 (b::l) h2⟩
   have hc:=(FT c (b::l)).1 hc
   have hab:a<b:=by
    have:=h1 b (by simp)
    have hne:a≠b:=by simpa using hx
    omega
   rcases List.mem_cons.1 hc with rfl|hc
   ·exact hab
   ·have:=(List.pairwise_cons.1 h2).1 c hc;omega
theorem MU:∀l:List Int,(dd l).length<=l.length
 | []=>Nat.le_refl _
 | [a]=>Nat.le_refl _
 | a::b::l=>by
  have:=MU (b::l)
  rw [dd]
  cases a==b with
  | true=>rw [cond_true];simp only [List.length_cons]at *;omega
  | false=>rw [cond_false];simp only [List.length_cons]at *;omega
theorem Mw {i:Int} {n:Nat} (h0:0<=i) (h1:i<n):inN i n=some ():=by unfold inN;rw [if_pos ⟨h0,by omega⟩]
theorem rG {α:Type} {xs:List α} {i:Nat} (h:i<xs.length):inR (i:Int) xs=some ():=by
 unfold inR;rw [if_pos ⟨by omega,by simpa using h⟩]
theorem comp_L1 (s data:List Int) (k0 i2 k:Nat) (a b:Int) (hn:s.length<=1000000000) (hd:data.length=s.length) (h1:1<=i2) (hp:k0+i2<s.length) (hk:k<s.length) (ha:data[k0+i2]? = some a) (hb:data[k0+i2-1]? = some b) :
  cz s (k0:Int) (data,(k:Int),(i2:Int))=some (.go (bif b==a then (data,(k:Int),((i2+1:Nat):Int))else (data.set k a,((k+1:Nat):Int),((i2+1:Nat):Int)))):=by
 unfold cz
 have e0:((s.length:Int).toNat-(k0:Int).toNat)=s.length-k0:=by omega
 have hc:decide ((i2:Int)<((s.length-k0:Nat):Int))=true:=by simp;omega
 have hw:w64 ((i2:Int)-1)=((i2-1:Nat):Int):=by rw [aM (by omega)];omega
 have hw2:w64 ((i2:Int)+1)=((i2+1:Nat):Int):=by rw [aM (by omega)];omega
 have hw3:w64 ((k:Int)+1)=((k+1:Nat):Int):=by rw [aM (by omega)];omega
 have i1:inN (i2:Int) (s.length-k0)=some ():=Mw (by omega) (by omega)
 have i3:inN ((i2-1:Nat):Int) (s.length-k0)=some ():=Mw (by omega) (by omega)
 have i4:inR (k:Int) data=some ():=rG (by omega)
 have g1:(k0:Int).toNat+(i2:Int).toNat=k0+i2:=by omega
 have g2:(k0:Int).toNat+((i2-1:Nat):Int).toNat=k0+i2-1:=by omega
 have g3:0+(k:Int).toNat=k:=by omega
 have hkd:data[k]? = some data[k]:=List.getElem?_eq_getElem (by omega)
 simp only [e0,hc,cond_true,hw,hw2,hw3,i1,i3,i4,g1,g2,g3,ob_,ha,hb,hkd]
 have hne:(a != b) = !(b==a):=by rw [bne_comm];rfl
 rw [hne]
 cases b==a <;> rfl
theorem xL (s:List Int) (k0:Nat) (hn:s.length<=1000000000):∀(m i2 k:Nat) (data:List Int),k0+i2+m=s.length->1<=i2->data.length=s.length->k<=k0+i2-1->data.take k=dd (s.take (k0+i2))->data.drop (k0+i2-1)=s.drop (k0+i2-1) ->
  ∃(data':List Int) (k':Nat),cO (λt=>cz s (k0:Int) t) (m+1) (data,(k:Int),(i2:Int))=some (.go (data',(k':Int),((s.length-k0:Nat):Int)))/\data'.length=s.length/\k'<=s.length/\data'.take k'=dd s
 | 0,i2,k,data,hm,h1,hd,hk,ht,hr=>by
  refine⟨data,k,?_,hd,by omega,?_⟩
  ·have e0:((s.length:Int).toNat-(k0:Int).toNat)=s.length-k0:=by omega
   have hc:decide ((i2:Int)<((s.length-k0:Nat):Int))=false:=by simp;omega
   simp only [cO,cz,e0,hc,cond_false,ob_]
   rw [show s.length-k0=i2 by omega]
  ·rw [ht,show k0+i2=s.length by omega,List.take_length]
 | m+1,i2,k,data,hm,h1,hd,hk,ht,hr=>by
  have hp:k0+i2<s.length:=by omega
  have hga:data[k0+i2]? = some s[k0+i2]:=by
   have:=congrArg (λl=>l[1]?) hr
   simp only [List.getElem?_drop]at this
   rw [show k0+i2-1+1=k0+i2 by omega]at this
   rw [this,List.getElem?_eq_getElem hp]
  have hgb:data[k0+i2-1]? = some (s[k0+i2-1]'(by omega)):=by
   have:=congrArg (λl=>l[0]?) hr
   simp only [List.getElem?_drop,Nat.add_zero]at this
   rw [this,List.getElem?_eq_getElem (by omega)]
  have hdt:=Kb s (k0+i2) s[k0+i2] (s[k0+i2-1]'(by omega)) (by omega) (List.getElem?_eq_getElem hp) (List.getElem?_eq_getElem (by omega))
  rw [cO,comp_L1 s data k0 i2 k _ _ hn hd h1 hp (by omega) hga hgb,ob_]
  cases hx:s[k0+i2-1]'(by omega)==s[k0+i2]with
  | true =>
   rw [hx,cond_true]at hdt
   simp only [cond_true]
   refine xL s k0 hn m (i2+1) k data (by omega) (by omega) hd (by omega) (by rw [ht,<- hdt];rfl) ?_
   have:=congrArg (List.drop 1) hr
   simp only [List.drop_drop]at this
   rw [show k0+i2-1+1=k0+(i2+1)-1 by omega]at this
   exact this
  | false =>
   rw [hx,cond_false]at hdt
   simp only [cond_false]
   have hkl:k<data.length:=by omega
   refine xL s k0 hn m (i2+1) (k+1) (data.set k s[k0+i2]) (by omega) (by omega) (by simpa using hd) (by omega) ?_ ?_
   ·rw [List.take_add_one,List.getElem?_set_self hkl,List.take_set_of_le (Nat.le_refl _),ht]
    show _=dd (s.take (k0+i2+1))
    rw [hdt];rfl
   ·rw [List.drop_set_of_lt (by omega)]
    have:=congrArg (List.drop 1) hr
    simp only [List.drop_drop]at this
    rw [show k0+i2-1+1=k0+(i2+1)-1 by omega]at this
    exact this
theorem Cr (s:List Int) (hn:s.length<=1000000000):∀(m i:Nat),i+m=s.length->1<=i->dd (s.take i)=s.take i ->
  (cO (λt=>bu s t) (m+1) (i:Int)=some (.go (s.length:Int))/\dd s=s)\/cO (λt=>bu s t) (m+1) (i:Int)=some (.ret (dd s))
 | 0,i,hm,h1,hd=>by
  refine .inl ⟨?_,?_⟩
  ·have hc:decide ((i:Int)<(s.length:Int))=false:=by simp;omega
   simp only [cO,bu,hc,cond_false,ob_]
   rw [show i=s.length by omega]
  ·rw [show i=s.length by omega,List.take_length]at hd;exact hd
 | m+1,i,hm,h1,hd=>by
  have hi:i<s.length:=by omega
  have hc:decide ((i:Int)<(s.length:Int))=true:=by simp;omega
  have hw:w64 ((i:Int)-1)=((i-1:Nat):Int):=by rw [aM (by omega)];omega
  have hw2:w64 ((i:Int)+1)=((i+1:Nat):Int):=by rw [aM (by omega)];omega
  have e1:0+(i:Int).toNat=i:=by omega
  have e2:0+((i-1:Nat):Int).toNat=i-1:=by omega
  have hga:s[i]? = some s[i]:=List.getElem?_eq_getElem hi
  have hgb:s[i-1]? = some (s[i-1]'(by omega)):=List.getElem?_eq_getElem (by omega)
  have hdt:=Kb s i s[i] (s[i-1]'(by omega)) h1 hga hgb
  have i1:inR (i:Int) s=some ():=rG hi
  have i2:inR ((i-1:Nat):Int) s=some ():=rG (by omega)
  rw [cO]
  have hswap:(s[i]==s[i-1]'(by omega))=(s[i-1]'(by omega)==s[i]):=by rw [BEq.comm]
  cases hx:s[i-1]'(by omega)==s[i]with
  | false =>
   have:bu s (i:Int)=some (.go ((i+1:Nat):Int)):=by
    unfold bu
    simp only [hc,cond_true,hw,hw2,e1,e2,i1,i2,hga,hgb,ob_,hswap,hx,cond_false]
   rw [this,ob_]
   rw [hx,cond_false,hd]at hdt
   refine Cr s hn m (i+1) (by omega) (by omega) ?_
   rw [hdt,List.take_add_one,hga];rfl
  | true =>
   right
   rw [hx,cond_true,hd]at hdt
   obtain ⟨data',k',q1,q2,q3,q4⟩:=xL s i hn (s.length-(i+1)) 1 i s (by omega) (by omega) rfl (by omega) hdt.symm rfl
   have hlo:=gU q1
   have hne:neL s=some ():=by
    cases s with
    | nil=>simp at hi
    | cons a l=>rfl
   have hsr:qU s (i:Int) (s.length:Int)=some ():=by unfold qU;rw [if_pos ⟨by omega,by omega,by omega,by omega⟩]
   have hsr2:qU data' (k':Int) (data'.length:Int)=some ():=by unfold qU;rw [if_pos ⟨by omega,by omega,by omega,by omega⟩]
   have hlen:(data'.take k'++List.replicate (data'.length-k') (0:Int)++data'.drop (k'+(data'.length-k'))).length=data'.length:=by simp;omega
   have hsr3:qU (data'.take k'++List.replicate (data'.length-k') (0:Int)++data'.drop (k'+(data'.length-k'))) 0 (k':Int)=some ():=by unfold qU;rw [if_pos ⟨by omega,by omega,by omega,by rw [hlen];omega⟩]
   have n1:((data'.length:Int)).toNat=data'.length:=by omega
   have n2:(k':Int).toNat=k':=by omega
   have:bu s (i:Int)=some (.ret (dd s)):=by
    unfold bu
    have one:((1:Nat):Int)=1:=rfl
    rw [one]at hlo
    simp only [hc,cond_true,hw,e1,e2,i1,i2,hga,hgb,ob_,hswap,hx,hne,hsr,hlo,bD,hsr2,n1,n2,hsr3]
    congr 2
    show List.take k' (List.drop 0 _)=dd s
    rw [List.drop_zero,List.append_assoc,List.take_append_of_le_length (by rw [List.length_take];omega),List.take_take,Nat.min_self,q4]
   rw [this];rfl
theorem IW (s:List Int) (hn:s.length<=1000000000):cB s=some (dd s):=by
 unfold cB
 by_cases h:(s.length:Int)<2
 ·rw [decide_eq_true h,cond_true]
  match s,h with
  | [],_=>rfl
  | [a],_=>rfl
  | a::b::l,h=>simp at h;omega
 ·rw [decide_eq_false h,cond_false]
  have h1:dd (s.take 1)=s.take 1:=by
   match s with
   | []=>rfl
   | a::l=>rfl
  rcases Cr s hn (s.length-1) 1 (by omega) (Nat.le_refl _) h1 with⟨h2,h3⟩|h2
  ·have:=gU h2
   show (gY 1 _).bind _=_
   rw [show ((1:Nat):Int)=1 from rfl]at this
   rw [this,h3];rfl
  ·have:=gU h2
   show (gY 1 _).bind _=_
   rw [show ((1:Nat):Int)=1 from rfl]at this
   rw [this];rfl
theorem om (e:List Int) (hn:e.length<=1000000000):∃s c,eT e=some s/\s.length=e.length/\cB s=some c/\c.Pairwise (· < ·)/\(∀x,x∈c↔x∈e)/\c.length<=e.length:=by
 have hs:eT e=some (e.mergeSort λx y=>decide (x<=y)):=by
  unfold eT Jv;rw [if_pos (by omega)]
 have hl:(e.mergeSort λx y=>decide (x<=y)).length=e.length:=List.length_mergeSort e
 refine⟨_,_,hs,hl,IW _ (by rw [hl];exact hn),E9 _ ?_,λx => ?_,by rw [<- hl];exact MU _⟩
 ·have:=List.pairwise_mergeSort (le:=λ(x y:Int)=>decide (x<=y)) (λa b c=>by simp;omega) (λa b=>by simp;omega) e
  exact this.imp (by simp)
 ·rw [FT];exact List.mem_mergeSort
end Go.Proofs.YtnjnggakgeommaaGreat.Law

open Go Go.Eng
namespace Go.Proofs.YtnjnggakgeommaaGreat.Law
set_option linter.unusedVariables false
set_option linter.unusedSimpArgs false
def putC (id:ByteArray) (a b:Int) (out:List Slot_):Option (List Slot_) :=
 (bif (decide ((w64 ((out.length:Int)-1))>=0))then (inR (w64 ((out.length:Int)-1)) out).bind λ_=>(out[(0+((w64 ((out.length:Int)-1))).toNat)]?).bind λe_81=>some (sEq e_81.Entry id)else some false).bind λv_77 =>
 (bif v_77 then (inR (w64 ((out.length:Int)-1)) out).bind λ_=>(out[(0+((w64 ((out.length:Int)-1))).toNat)]?).bind λe_90=>some (out.set (0+((w64 ((out.length:Int)-1))).toNat) (⟨(⟨e_90.Time.From,b⟩:Window),e_90.Entry⟩:Slot_))
 else (ll out ([(⟨(⟨a,b⟩:Window),id⟩:Slot_)]:List Slot_)).bind λa_96=>some a_96)
theorem putC_eq (id:ByteArray) (a b:Int) (out:List Slot_) (hl:out.length<=1000000):putC id a b out=some (og id a b out):=by
 unfold putC
 cases ho:out.length with
 | zero =>
  have e:=List.eq_nil_of_length_eq_zero ho
  subst e
  rw [decide_eq_false (by decide)];rfl
 | succ n =>
  have hw:w64 ((out.length:Int)-1)=(n:Int):=by rw [aM (by omega)];omega
  rw [<- ho,hw,decide_eq_true (by omega),cond_true,uE (by omega) (by omega)]
  have hn:n<out.length:=by omega
  have e1:out[(0+((n:Int)).toNat)]? = some out[n]:=by rw [show 0+((n:Int)).toNat=n by omega];exact List.getElem?_eq_getElem hn
  rw [e1]
  simp only [ob_,Be]
  by_cases he:out[n].Entry=id
  ·rw [decide_eq_true he,cond_true,Cz id a b out n _ ho (List.getElem?_eq_getElem hn) he,show 0+((n:Int)).toNat=n by omega]
  ·rw [decide_eq_false he,cond_false,iL _ _ (by simp;omega),Ck id a b out (λm x h1 h2=>by
    obtain rfl:m=n:=by omega
    rw [List.getElem?_eq_getElem hn,so_]at h2
    rw [<- h2];exact he)];rfl
structure EB (m:List Entry) (z:Int) (w:Window) (E:List Int):Prop where
 from_:w.From∈E
 to_:w.To∈E
 in_:∀x∈E,w.From<=x/\x<=w.To
 has:∀e∈m,∀x∈wants e z w,x.From∈E/\x.To∈E
theorem Hw {e:Entry} (h:Right e) {z:Int} {w x:Window} (hx:x∈wants e z w):w.From<=x.From/\x.From<=w.To/\w.From<=x.To/\x.To<=w.To:=by
 obtain ⟨d,_,_,hp,rfl⟩:=(wE h).1 hx
 obtain ⟨_,_,hp⟩:=FW.1 hp
 unfold cutW tW
 simp only [tZ,uJ]
 omega
theorem xR {e:Entry} (h:Right e) (z:Int) (w:Window):(wants e z w).length<=4001:=by
 have h1:=rM (pR e z w) (λd=>cutW w (tW e z d)) (e.Last+1-e.First).toNat e.First
 have h2:=h.first
 have h3:=h.last
 unfold wants
 omega
theorem Ib {l:List Entry} {p:Player} (h:CE l p) {w:Window} {k:Nat} {e:Entry} (he:l[k]? = some e) {E:List Int} (hE:EB (l.take k) p.Zone w E) (hl:E.length<=2+8002*k) (hk:k<=4):∃E',kZ p.Zone w k e E=some (.go E')/\EB (l.take (k+1)) p.Zone w E'/\E'.length<=2+8002*(k+1):=by
 have et:l.take (k+1)=l.take k++[e]:=by rw [List.take_add_one,he];rfl
 have hm:=List.mem_of_getElem? he
 have hr:=h.right e hm
 have hwl:=xR hr p.Zone w
 unfold kZ
 rw [IV e hr p.Zone w h.zone,ob_]
 obtain ⟨u,u1,u2,u3,u4,u5⟩:=rE (body:=λj x s=>mG j x s) (λj s=>(∀x∈E,x∈s)/\(∀x∈s,w.From<=x/\x<=w.To)/\(∀x∈(wants e p.Zone w).take j,x.From∈s/\x.To∈s)/\s.length=E.length+2*j) (xs:=wants e p.Zone w) (s:=E) (by omega) (λj x s hx ⟨i1,i2,i3,i4⟩=>by
  have et2:(wants e p.Zone w).take (j+1)=(wants e p.Zone w).take j++[x]:=by rw [List.take_add_one,hx];rfl
  have hj:j<(wants e p.Zone w).length:=(List.getElem?_eq_some_iff.1 hx).1
  obtain ⟨b1,b2,b3,b4⟩:=Hw hr (List.mem_of_getElem? hx)
  unfold mG
  rw [iL _ _ (by simp only [List.length_cons,List.length_nil];omega)]
  refine⟨_,rfl,λy hy=>List.mem_append_left _ (i1 y hy),λy hy => ?_,λy hy => ?_,?_⟩
  ·rcases List.mem_append.1 hy with hy|hy
   ·exact i2 y hy
   ·simp only [List.mem_cons,List.not_mem_nil,or_false]at hy
    rcases hy with rfl|rfl <;> omega
  ·rw [et2]at hy
   rcases List.mem_append.1 hy with hy|hy
   ·exact⟨List.mem_append_left _ (i3 y hy).1,List.mem_append_left _ (i3 y hy).2⟩
   ·rw [List.mem_singleton.1 hy]
    exact⟨List.mem_append_right _ (by simp),List.mem_append_right _ (by simp)⟩
  ·rw [List.length_append];simp only [List.length_cons,List.length_nil];omega) ⟨λx hx=>hx,hE.in_,λx hx=>(by cases hx),rfl⟩
 rw [u1]
 refine⟨u,rfl,⟨u2 _ hE.from_,u2 _ hE.to_,u3,λe' he' x hx => ?_⟩,by omega⟩
 rw [et]at he'
 rcases List.mem_append.1 he' with he'|he'
 ·exact⟨u2 _ (hE.has e' he' x hx).1,u2 _ (hE.has e' he' x hx).2⟩
 ·rw [List.mem_singleton.1 he']at hx
  rw [List.take_length]at u4
  exact u4 x hx
theorem Ec {l:List Entry} {p:Player} (h:CE l p) {w:Window} (hw:w.From<=w.To):∃C,oF l p.Zone w=some C/\C.Pairwise (· < ·)/\EB l p.Zone w C/\C.length<=40000:=by
 have hl:=h.len
 unfold oF
 obtain ⟨E,e1,e2,e3⟩:=rE (body:=λk x s=>kZ p.Zone w k x s) (λk s=>EB (l.take k) p.Zone w s/\s.length<=2+8002*k) (xs:=l) (s:=([w.From,w.To]:List Int)) (by omega) (λk e s he ⟨i1,i2⟩=>by
  have hk:k<l.length:=(List.getElem?_eq_some_iff.1 he).1
  exact Ib h he i1 i2 (by omega)) ⟨⟨by simp,by simp,λx hx=>by
   simp only [List.mem_cons,List.not_mem_nil,or_false]at hx
   rcases hx with rfl|rfl <;> omega,λe he=>(by cases he)⟩,by simp⟩
 rw [List.take_length]at e2
 have hel:E.length<=40000:=by
  have:8002*l.length<=8002*4:=Nat.mul_le_mul_left _ hl
  omega
 rw [e1]
 simp only [ob_,bD]
 have hne:neL E=some ():=by
  unfold neL
  have:=List.ne_nil_of_mem e2.from_
  first | rw [if_pos this] | (cases E with | nil=>exact absurd rfl this | cons a E=>rfl)
 obtain ⟨s,C,c1,c2,c3,c4,c5,c6⟩:=om E (by omega)
 have c2':kX s E=some ():=by unfold kX;rw [if_pos c2]
 rw [hne,ob_,c1,ob_,c2',ob_,c3,ob_]
 refine⟨C,rfl,c4,⟨(c5 _).2 e2.from_,(c5 _).2 e2.to_,λx hx=>e2.in_ x ((c5 x).1 hx),λe he x hx => ?_⟩,by omega⟩
 obtain ⟨a,b⟩:=e2.has e he x hx
 exact⟨(c5 _).2 a,(c5 _).2 b⟩
end Go.Proofs.YtnjnggakgeommaaGreat.Law

namespace Go.Eng
set_option linter.unusedVariables false
set_option linter.unusedSimpArgs false
def BC {α:Type} (f:α->Option Bool) (xs:List α) (k x:Nat) (s:Unit):Option (Ctl Unit Int) :=
 (inR (k:Int) xs).bind λ_=>(xs[(0+((k:Int)).toNat)]?).bind λe=>(f e).bind λr=>bif r then some (.ret (k:Int))else some (.go ())
def ixF {α:Type} (f:α->Option Bool) (xs:List α):Option Int :=
 (iY (List.range ((xs.length:Int)).toNat) () (λk x s=>BC f xs k x s)).bind λo=>bD o (λ_=>some (-1)) (λr=>some r)
def uO {α:Type} (f:α->Option Bool) (s:List α×Int×Int):Option (Ctl (List α×Int×Int) Unit) :=
 bif (decide (s.2.2<(s.1.length:Int)))then (inR s.2.2 s.1).bind λ_=>(s.1[(0+(s.2.2).toNat)]?).bind λe=>(f e).bind λr=>(bif (!r)then (inR s.2.1 s.1).bind λ_=>(s.1[(0+(s.2.1).toNat)]?).bind λe_29=>some ((s.1.set (0+(s.2.1).toNat) e),(w64 (s.2.1+1)))else some (s.1,s.2.1)).bind λv=>some (.go (v.1,v.2,(w64 (s.2.2+1))))else some (.brk (s.1,s.2.1,s.2.2))
theorem rG {α:Type} {xs:List α} {k:Nat} (h:k<xs.length):inR (k:Int) xs=some ():=by unfold inR;rw [if_pos ⟨by omega,by omega⟩]
theorem ixF_eq {α:Type} {f:α->Option Bool} {q:α->Bool} {xs:List α} (hf:∀x∈xs,f x=some (q x)) (hl:xs.length<=1000000000) :
  (ixF f xs=some (-1)/\∀x∈xs,q x=false)\/∃(k:Nat) (h:k<xs.length),ixF f xs=some (k:Int)/\q xs[k]=true/\∀x∈xs.take k,q x=false:=by
 have run:∀(ys:List Nat) (k:Nat),k+ys.length=xs.length->(∀x∈xs.take k,q x=false) ->
   (dG (λk x s=>BC f xs k x s) ys k ()=some (.go ())/\∀x∈xs,q x=false)\/∃(j:Nat) (h:j<xs.length),dG (λk x s=>BC f xs k x s) ys k ()=some (.ret (j:Int))/\q xs[j]=true/\∀x∈xs.take j,q x=false:=by
  intro ys
  induction ys with
  | nil=>intro k h hq;exact .inl ⟨rfl,by rw [List.length_nil,Nat.add_zero]at h;rw [h,List.take_length]at hq;exact hq⟩
  | cons y ys ih =>
   intro k h hq
   simp only [List.length_cons]at h
   have hk:k<xs.length:=by omega
   have hst:BC f xs k y ()=some (bif q xs[k]then .ret (k:Int)else .go ()):=by
    unfold BC
    simp only [rG hk,ob_,Int.toNat_natCast,Nat.zero_add,List.getElem?_eq_getElem hk,hf _ (List.getElem_mem hk)]
    cases q xs[k] <;> rfl
   rw [dG,hst,ob_]
   cases hqk:q xs[k]with
   | true=>exact .inr ⟨k,hk,rfl,hqk,hq⟩
   | false =>
    refine ih (k+1) (by omega) (λx hx => ?_)
    rw [List.take_succ_eq_append_getElem hk]at hx
    rcases List.mem_append.1 hx with hx|hx
    ·exact hq x hx
    ·rw [List.mem_singleton.1 hx];exact hqk
 unfold ixF
 rw [Int.toNat_natCast,eX (by simp;omega)]
 rcases run (List.range xs.length) 0 (by simp) (by simp)with⟨h1,h2⟩|⟨k,hk,h1,h2,h3⟩
 ·exact .inl ⟨by rw [h1];rfl,h2⟩
 ·exact .inr ⟨k,hk,by rw [h1];rfl,h2,h3⟩
theorem filter_all {α:Type} {p:α->Bool} {xs:List α} (h:∀x∈xs,p x=true):xs.filter p=xs:=List.filter_eq_self.2 h
theorem Bt {α:Type} {f:α->Option Bool} {q:α->Bool} {xs:List α} (hf:∀x∈xs,f x=some (q x)) (hl:xs.length<=1000000000) :
  ∀(m:Nat) (l:List α) (i j:Nat),j+m=xs.length->i<=j->l.length=xs.length->l.take i=(xs.take j).filter (λx => !q x)->l.drop j=xs.drop j ->
   ∃l' i',cO (λs=>uO f s) (m+1) (l,(i:Int),(j:Int))=some (.go (l',(i':Nat),(xs.length:Int)))/\i'<=xs.length/\l'.length=xs.length/\l'.take i'=xs.filter (λx => !q x)
 | 0,l,i,j,hj,hij,hll,ht,hd=>by
  have hj':j=xs.length:=by omega
  subst hj'
  have hc:decide ((xs.length:Int)<(l.length:Int))=false:=by simp [hll]
  refine⟨l,i,?_,hij,hll,by rw [ht,List.take_length]⟩
  simp only [cO,uO,hc,cond_false,ob_]
 | m+1,l,i,j,hj,hij,hll,ht,hd=>by
  have hjx:j<xs.length:=by omega
  have hjl:j<l.length:=by omega
  have hil:i<l.length:=by omega
  have hc:decide ((j:Int)<(l.length:Int))=true:=by simp;omega
  have he:l[j]=xs[j]:=by
   have h1:(l.drop j)[0]? = (xs.drop j)[0]? := by rw [hd]
   rw [List.getElem?_drop,List.getElem?_drop,Nat.add_zero,List.getElem?_eq_getElem hjl,List.getElem?_eq_getElem hjx]at h1
   exact Option.some.inj h1
  have w1:w64 ((j:Int)+1)=((j+1:Nat):Int):=by rw [aM (by omega)];omega
  have w2:w64 ((i:Int)+1)=((i+1:Nat):Int):=by rw [aM (by omega)];omega
  have hfe:=hf _ (List.getElem_mem hjx)
  have hdrop:(l.drop j).drop 1=(xs.drop j).drop 1:=by rw [hd]
  rw [List.drop_drop,List.drop_drop]at hdrop
  cases hq:q xs[j]with
  | false =>
   have hst:uO f (l,(i:Int),(j:Int))=some (.go (l.set i xs[j],((i+1:Nat):Int),((j+1:Nat):Int))):=by
    simp only [uO,hc,cond_true,rG hjl,rG hil,ob_,Int.toNat_natCast,Nat.zero_add,List.getElem?_eq_getElem hjl,List.getElem?_eq_getElem hil,he,hfe,hq,Bool.not_false,w1,w2]
   rw [cO,hst,ob_]
   refine Bt hf hl m (l.set i xs[j]) (i+1) (j+1) (by omega) (by omega) (by simpa using hll) ?_ ?_
   ·rw [List.take_succ_eq_append_getElem (by simpa using hil),List.take_set_of_le (Nat.le_refl _),ht,List.take_succ_eq_append_getElem hjx,List.filter_append]
    simp [hq]
   ·rw [List.drop_set_of_lt (by omega)];exact hdrop
  | true =>
   have hst:uO f (l,(i:Int),(j:Int))=some (.go (l,(i:Int),((j+1:Nat):Int))):=by
    simp only [uO,hc,cond_true,rG hjl,ob_,Int.toNat_natCast,Nat.zero_add,List.getElem?_eq_getElem hjl,he,hfe,hq,Bool.not_true,cond_false,w1]
   rw [cO,hst,ob_]
   refine Bt hf hl m l i (j+1) (by omega) (by omega) hll ?_ hdrop
   rw [ht,List.take_succ_eq_append_getElem hjx,List.filter_append]
   simp [hq]
end Go.Eng

