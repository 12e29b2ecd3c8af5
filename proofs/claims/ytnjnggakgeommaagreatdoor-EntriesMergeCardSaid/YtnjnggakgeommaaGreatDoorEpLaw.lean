import Derived.Test.YtnjnggakgeommaaGreatDoorEpTime
/-
  PLAIN LAW: EntriesTimed is true of every stream.
-/
open Go Go.Eng
namespace Go.Proofs.YtnjnggakgeommaaGreatDoor.Law
set_option linter.unusedVariables false
set_option linter.unusedSimpArgs false
def tF (e:Entry) (z d:Int):Int:=(d*1440+e.From-z)*60000
def xL (e:Entry):Int:=if e.To-e.From<=0 then e.To-e.From+1440 else e.To-e.From
def tW (e:Entry) (z d:Int):Window:=⟨tF e z d,tF e z d+xL e*60000⟩
theorem timeK (e:Entry) (h:Right e) (z d:Int) (hz : -1440<=z/\z<=1440) (hd:0<=d/\d<=4000):iI e z d=some (tW e z d):=by
 have h1:=h.from_
 have h2:=h.to_
 unfold iI tW tF xL
 rw [bN (n:=e.To-e.From) (by omega)]
 by_cases hc:e.To-e.From<=0
 ·simp only [decide_eq_true hc,cond_true,ob_,if_pos hc]
  rw [bN (n:=e.To-e.From+1440) (by omega),bN (n:=d*1440) (by omega),bN (n:=d*1440+e.From) (by omega),bN (n:=d*1440+e.From-z) (by omega),bN (n:=(d*1440+e.From-z)*60000) (by omega),bN (n:=(e.To-e.From+1440)*60000) (by omega),bN (by omega)]
 ·simp only [decide_eq_false hc,cond_false,ob_,if_neg hc]
  rw [bN (n:=d*1440) (by omega),bN (n:=d*1440+e.From) (by omega),bN (n:=d*1440+e.From-z) (by omega),bN (n:=(d*1440+e.From-z)*60000) (by omega),bN (n:=(e.To-e.From)*60000) (by omega),bN (by omega)]
def cutW (w t:Window):Window:=⟨pW t.From w.From,qi t.To w.To⟩
def pR (e:Entry) (z:Int) (w:Window) (d:Int):Bool := !e.Gone&&(F8 e d&&decide (pW (tF e z d) w.From<qi (tF e z d+xL e*60000) w.To))
def pK (e:Entry) (z:Int) (w:Window) (d:Int):Bool:=F8 e d&&(decide (tF e z d<w.To)&&decide (tF e z d+xL e*60000>w.From))
def wants (e:Entry) (z:Int) (w:Window):List Window:=collect (pR e z w) (λd=>cutW w (tW e z d)) (e.Last+1-e.First).toNat e.First
theorem tdivB (x q:Int) (h:x.tdiv 86400000=q):(0<=x->q*86400000<=x/\x<q*86400000+86400000)/\(x<0->x<=q*86400000/\q*86400000-86400000<x):=by
 have h1:=Int.mul_tdiv_add_tmod x 86400000
 rw [h]at h1
 refine⟨λhx => ?_,λhx => ?_⟩
 ·have h2:=Int.tmod_nonneg 86400000 hx
  have h3:=Int.tmod_lt_of_pos x (show (0:Int)<86400000 by decide)
  omega
 ·have h3:=Int.lt_tmod_of_pos x (show (0:Int)<86400000 by decide)
  have h4:x.tmod 86400000<=0:=by
   have h5:=Int.tmod_nonneg 86400000 (show (0:Int) <= -x by omega)
   rw [Int.neg_tmod]at h5
   omega
  omega
def WinOK (w:Window):Prop:=0<=w.From/\w.From<=w.To/\w.To<=345686400000
theorem mins_b (e:Entry) (h:Right e):1<=xL e/\xL e<=1440:=by
 have h1:=h.from_
 have h2:=h.to_
 unfold xL
 split <;> omega
theorem timesK (e:Entry) (h:Right e) (z:Int) (w:Window) (hz : -1440<=z/\z<=1440) (hw:WinOK w):∃l,ji e z w=some l/\l.length<=100000/\l.map (cutW w)=wants e z w:=by
 obtain ⟨w1,w2,w3⟩:=hw
 have hf:=h.first
 have hl:=h.last
 have hm:=mins_b e h
 have hfr:=h.from_
 unfold ji
 cases hg:e.Gone with
 | true =>
  simp only [cond_true,ob_]
  refine⟨[],rfl,by simp,?_⟩
  unfold wants
  rw [j4 _ _ (λx _ _=>by simp only [pR,hg,Bool.not_true,Bool.false_and])];rfl
 | false =>
 simp only [cond_false,ob_]
 by_cases hlt:w.From>=w.To
 ·simp only [decide_eq_true hlt,cond_true]
  refine⟨[],rfl,by simp,?_⟩
  unfold wants
  rw [j4 _ _ (λx _ _=>by
   have:decide (pW (tF e z x) w.From<qi (tF e z x+xL e*60000) w.To)=false:=decide_eq_false (by unfold pW qi;split <;> split <;> omega)
   simp only [pR,this,Bool.and_false])];rfl
 ·simp only [decide_eq_false hlt,cond_false]
  rw [bN (n:=z*60000) (by omega),bN (n:=w.From+z*60000) (by omega)]
  obtain ⟨a,ha⟩:∃a,(w.From+z*60000).tdiv 86400000=a:=⟨_,rfl⟩
  obtain ⟨b,hb⟩:∃b,(w.To+z*60000).tdiv 86400000=b:=⟨_,rfl⟩
  have ha2:=tdivB _ _ ha
  have hb2:=tdivB _ _ hb
  rw [ha,bN (n:=a) (by omega),bN (n:=a-2) (by omega)]
  obtain ⟨lo,hlo⟩:∃lo,pW (a-2) e.First=lo:=⟨_,rfl⟩
  obtain ⟨hi,hhi⟩:∃hi,qi (b+1) e.Last=hi:=⟨_,rfl⟩
  have hlo2:e.First<=lo/\a-2<=lo/\(lo=e.First\/lo=a-2):=by unfold pW at hlo;split at hlo <;> omega
  have hhi2:hi<=e.Last/\hi<=b+1/\(hi=e.Last\/hi=b+1):=by unfold qi at hhi;split at hhi <;> omega
  have hend:∀d,decide (d<=qi (w64 (w64 ((w64 (w.To+w64 (z*60000))).tdiv 86400000)+1)) e.Last)=decide (d<=hi):=λd=>by
   rw [bN (n:=z*60000) (by omega),bN (n:=w.To+z*60000) (by omega),hb,bN (n:=b) (by omega),bN (n:=b+1) (by omega),hhi]
  rw [hlo]
  obtain ⟨d',hd⟩:=ED (ρ:=Unit) (body:=λs=>fD w z e s) (p:=pK e z w) (f:=tW e z) lo hi (by omega) (λacc d h1 h2 h3=>by
    have hc:decide (d<=hi)=true:=decide_eq_true h2
    simp only [fD,hend,hc,cond_true,timeK e h z d hz (by omega),ob_,dayK e h d (by omega) (by omega),bN (n:=d+1) (by omega),pK]
    cases F8 e d with
    | false=>simp
    | true =>
     simp only [Bool.not_true,cond_false,ob_,Bool.true_and]
     by_cases hA:tF e z d<w.To
     ·have hA1:decide (tF e z d<w.To)=true:=decide_eq_true hA
      have hA2:decide ((tW e z d).From<w.To)=true:=decide_eq_true hA
      by_cases hB:tF e z d+xL e*60000>w.From
      ·have hB1:decide (tF e z d+xL e*60000>w.From)=true:=decide_eq_true hB
       have hB2:decide ((tW e z d).To>w.From)=true:=decide_eq_true hB
       simp only [hA1,hA2,hB1,hB2,cond_true,Bool.and_self,ob_,jC acc [tW e z d] (show acc.length+1<=_ by omega)]
      ·have hB1:decide (tF e z d+xL e*60000>w.From)=false:=decide_eq_false hB
       have hB2:decide ((tW e z d).To>w.From)=false:=decide_eq_false hB
       simp only [hA1,hA2,hB1,hB2,cond_true,cond_false,Bool.and_false,ob_,List.append_nil]
     ·have hA1:decide (tF e z d<w.To)=false:=decide_eq_false hA
      have hA2:decide ((tW e z d).From<w.To)=false:=decide_eq_false hA
      simp only [hA1,hA2,cond_false,Bool.false_and,ob_,List.append_nil])
   (λacc d h1=>by
    have hc:decide (d<=hi)=false:=decide_eq_false (by omega)
    simp only [fD,hend,hc,cond_false])
  refine⟨collect (pK e z w) (tW e z) (hi+1-lo).toNat lo,by rw [hd,ob_,fZ],?_,?_⟩
  ·have:=vw (pK e z w) (tW e z) (hi+1-lo).toNat lo
   omega
  ·rw [uX]
   unfold wants
   rw [Bi (pR e z w) _ e.First e.Last lo hi (by omega) (by omega) (λx x1 x2 hp => ?_)]
   ·refine qQ _ _ (λx x1 x2=>⟨?_,rfl⟩)
    simp only [pK,pR,hg,Bool.not_false,Bool.true_and]
    congr 1
    rw [Bool.eq_iff_iff,Bool.and_eq_true,decide_eq_true_eq,decide_eq_true_eq,decide_eq_true_eq]
    unfold pW qi
    split <;> split <;> omega
   ·simp only [pR,hg,Bool.not_false,Bool.true_and,Bool.and_eq_true,decide_eq_true_eq]at hp
    have hp2:=hp.2
    unfold tF at hp2
    unfold pW qi at hp2
    split at hp2 <;> split at hp2 <;> omega
theorem Fw (w:Window) (r:List Window) (hr:r.length<=1000000):gN (List.range ((r.length:Int)).toNat) r (λk x s=>fG w k x s)=some (.go (r.map (cutW w))):=by
 obtain ⟨s',h1,h2,h3⟩:=xS (ρ:=Unit) (body:=λk x s=>fG w k x s) (λk s=>s.length=r.length/\∀i,s[i]? = if i<k then (r.map (cutW w))[i]? else r[i]?) (xs:=List.range ((r.length:Int)).toNat) (s:=r) (by simp;omega) (λk x s hx hk ⟨i1,i2⟩=>by
   simp only [List.length_range,Int.toNat_natCast]at hk
   have hg:r[k]? = some r[k]:=List.getElem?_eq_getElem hk
   have hs:s[0+((k:Int)).toNat]? = some r[k]:=by
    rw [show 0+((k:Int)).toNat=k by omega,i2 k,if_neg (by omega),hg]
   have hin:inR (k:Int) s=some ():=uO (by omega) (by omega)
   simp only [fG,hin,hs,lV,ob_]
   refine⟨_,rfl,by simpa using i1,λi => ?_⟩
   rw [show 0+((k:Int)).toNat=k by omega,List.getElem?_set]
   by_cases hik:k=i
   ·subst hik
    rw [if_pos rfl,if_pos (by omega),if_pos (by omega),List.getElem?_map,hg];rfl
   ·rw [if_neg hik,i2 i]
    by_cases h5:i<k
    ·rw [if_pos h5,if_pos (by omega)]
    ·rw [if_neg h5,if_neg (by omega)]) ⟨rfl,λi=>by simp⟩
 rw [h1]
 congr 2
 refine List.ext_getElem? (λi => ?_)
 rw [h3 i]
 simp only [List.length_range,Int.toNat_natCast]
 split
 ·rfl
 ·rw [List.getElem?_eq_none (by omega),List.getElem?_eq_none (by simp;omega)]
def zF (z:Int):Int:=bif eQ z (-1440) 1440 then 1 else 0
theorem winF_0 {w:Window} (h:rT w=0):WinOK w:=by
 unfold rT at h
 cases hb:(eQ w.From 0 w.To||decide (w.To>345686400000))with
 | true=>rw [hb]at h;cases h
 | false =>
  simp only [Bool.or_eq_false_iff,decide_eq_false_iff_not]at hb
  have:=kH hb.1
  exact⟨by omega,by omega,by omega⟩
theorem or0_0 {a b:Int} (h:or0 a b=0):a=0/\b=0:=by
 unfold or0 at h
 cases ha:a==0 with
 | true=>rw [ha]at h;exact⟨eq_of_beq ha,h⟩
 | false=>rw [ha,cond_false]at h;rw [h]at ha;cases ha
theorem EU (e:Entry) (z:Int) (w:Window) (he:jD e):iX e z w=some (bif or0 (jI e) (or0 (zF z) (rT w))==0 then (wants e z w,0)else ([],or0 (jI e) (or0 (zF z) (rT w)))):=by
 unfold iX
 rw [oneK e he,ob_,mJ,winK]
 cases h:jI e==0 with
 | false =>
  have:(jI e != 0)=true:=by simp [bne,h]
  have h2:or0 (jI e) (or0 (zF z) (rT w))=jI e:=by unfold or0;rw [h,cond_false]
  simp only [this,cond_true,h2,h,cond_false]
 | true =>
  have:(jI e != 0)=false:=by simp [bne,h]
  have h2:or0 (jI e) (or0 (zF z) (rT w))=or0 (zF z) (rT w):=by unfold or0;rw [h,cond_true]
  simp only [this,cond_false,h2,ob_]
  cases hz:eQ z (-1440) 1440 with
  | true =>
   have h3:or0 (zF z) (rT w)=1:=by unfold or0 zF;rw [hz];rfl
   rw [h3];rfl
  | false =>
   have h3:or0 (zF z) (rT w)=rT w:=by unfold or0 zF;rw [hz];rfl
   simp only [h3,cond_false]
   cases hw:rT w==0 with
   | false =>
    have:(rT w != 0)=true:=by simp [bne,hw]
    simp only [this,cond_true,cond_false]
   | true =>
    have:(rT w != 0)=false:=by simp [bne,hw]
    simp only [this,cond_true,cond_false]
    obtain ⟨l,k1,k2,k3⟩:=timesK e (entF_0 (eq_of_beq h)) z w (kH hz) (winF_0 (eq_of_beq hw))
    rw [k1,ob_,Fw w l (by omega),ob_,fZ,k3]
theorem AQ:ow=some true:=by
 unfold ow
 rw [EU _ _ _ ⟨dw rfl,dw rfl,by simp,by simp,by simp⟩]
 decide +kernel
end Go.Proofs.YtnjnggakgeommaaGreatDoor.Law

