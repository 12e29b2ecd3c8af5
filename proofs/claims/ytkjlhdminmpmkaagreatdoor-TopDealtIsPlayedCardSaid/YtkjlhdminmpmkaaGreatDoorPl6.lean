/-
  THE PLAIN LAW (part 6).
-/
import Derived.Test.YtkjlhdminmpmkaaGreatDoorPl5
open Go Go.Eng
namespace Go.Proofs.YtkjlhdminmpmkaaGreatDoor.Law
set_option linter.unusedVariables false
set_option linter.unusedSimpArgs false
structure Cut (m:List Beat_) (n:Int) (k:Nat):Prop where
 le:k<=m.length
 lo:∀i (h:i<m.length),i<k->m[i].f_from<=n
 hi:∀(h:k<m.length),n<m[k].f_from
theorem QF (m:List Beat_) (n:Int):∃k,Cut m n k:=by
 induction m with
 | nil=>exact⟨0,⟨Nat.le_refl _,λi h=>absurd h (Nat.not_lt_zero i),λh=>absurd h (Nat.lt_irrefl 0)⟩⟩
 | cons x m ih =>
  by_cases hx:x.f_from<=n
  ·obtain ⟨k,h1,h2,h3⟩:=ih
   refine⟨k+1,⟨by simp;omega,λi h hik => ?_,λh => ?_⟩⟩
   ·cases i with
    | zero=>exact hx
    | succ i=>exact h2 i (by simpa using h) (by omega)
   ·exact h3 (by simpa using h)
  ·exact⟨0,⟨Nat.zero_le _,λi h hik=>absurd hik (Nat.not_lt_zero i),λh=>by simpa using hx⟩⟩
def qI (x:Int):Int×Int:=bif momB x then (x,0)else (0,11)
def Rw (p q:Beat_):Bool:=decide (w64 (q.f_from-p.f_from)>2592000000)||decide (w64 (q.f_to-p.f_to)>2592000000)
def between (p q:Beat_) (n:Int):Int:=w64 (p.f_to+w64 ((w64 ((w64 (n-p.f_from))*(w64 (q.f_to-p.f_to)))).tdiv (w64 (q.f_from-p.f_from))))
def z2:Beat_:=⟨0,0⟩
def JX (m:List Beat_) (n:Int) (k:Nat):Int×Int :=
 if m.length=0 then (0,8)else if k=0 then qI ((m.getD 0 z2).f_to+n-(m.getD 0 z2).f_from)else
 if k=m.length then qI (w64 (w64 ((m.getD (k-1) z2).f_to+n)-(m.getD (k-1) z2).f_from))else
 bif Rw (m.getD (k-1) z2) (m.getD k z2)then (0,2)else qI (between (m.getD (k-1) z2) (m.getD k z2) n)
def inM (x:Int):Prop:=0<=x/\x<=345686399999
def BndM (m:List Beat_):Prop:=∀x∈m,inM x.f_from/\inM x.f_to
theorem getD_at {α:Type} {m:List α} {i:Nat} {z:α} (h:i<m.length):m.getD i z=m[i]:=by
 rw [List.getD_eq_getElem?_getD,List.getElem?_eq_getElem h];rfl
theorem IU (x:Int):((bR x).bind λr=>bif (!r)then some (0,11)else some (x,0))=some (qI x):=by
 rw [xS,ob_];unfold qI
 cases momB x <;> rfl
theorem Cv {m:List Beat_} {n:Int} {k:Nat} (hc:Cut m n k) (hl:m.length<=1000000):∀(d j:Nat),j+d=k->iterN (λs=>gu m n s) (d+1) (j:Int)=some (.go (k:Int))
 | 0,j,h=>by
  have hj:j=k:=by omega
  subst hj
  have hst:gu m n (j:Int)=some (.brk (j:Int)):=by
   unfold gu
   by_cases hlt:j<m.length
   ·have h1:decide ((j:Int)<(m.length:Int))=true:=by simp;omega
    have h2:decide ((m[j]).f_from<=n)=false:=by have:=hc.hi hlt;simp;omega
    simp only [h1,cond_true,jV,List.getElem?_eq_getElem hlt,ob_,h2,cond_false]
   ·have h1:decide ((j:Int)<(m.length:Int))=false:=by simp;omega
    simp only [h1,cond_false,ob_]
  rw [iterN,hst];rfl
 | d+1,j,h=>by
  have hjk:j<k:=by omega
  have hlt:j<m.length:=by have:=hc.le;omega
  have hst:gu m n (j:Int)=some (.go ((j+1:Nat):Int)):=by
   unfold gu
   have h1:decide ((j:Int)<(m.length:Int))=true:=by simp;omega
   have h2:decide ((m[j]).f_from<=n)=true:=decide_eq_true (hc.lo j hlt hjk)
   simp only [h1,cond_true,jV,List.getElem?_eq_getElem hlt,ob_,h2]
   rw [dw (by omega)];congr 2
  rw [iterN,hst,ob_]
  exact Cv hc hl d (j+1) (by omega)
theorem Gg {m:List Beat_} {n:Int} {k:Nat} (hc:Cut m n k) (hb:BndM m) (hn:inM n) (hl:m.length<=1000000):gZ m n=some (JX m n k):=by
 unfold gZ JX
 by_cases h0:m.length=0
 ·have:((m.length:Int)==0)=true:=by simp [h0]
  simp only [this,cond_true,if_pos h0]
 ·have:((m.length:Int)==0)=false:=by simpa using h0
  have hlo:=fC (Cv hc hl k 0 (by omega))
  rw [show ((0:Nat):Int)=0 from rfl]at hlo
  simp only [this,cond_false,if_neg h0,hlo,ob_,eu]
  by_cases hk0:k=0
  ·subst hk0
   have h1:(((0:Nat):Int)==0)=true:=rfl
   have h2:idx m 0=some (m.getD 0 z2):=by
    have:=jV m 0
    rw [show ((0:Nat):Int)=0 from rfl]at this
    rw [this,getD_at (by omega)];exact List.getElem?_eq_getElem _
   have hm:m.getD 0 z2∈m:=by rw [getD_at (by omega)];exact List.getElem_mem _
   obtain ⟨⟨b1,b2⟩,b3,b4⟩:=hb _ hm
   obtain ⟨n1,n2⟩:=hn
   simp only [h1,cond_true,h2,ob_,if_true]
   rw [dw (n:=(m.getD 0 z2).f_from-n) (by omega),dw (by omega),show (m.getD 0 z2).f_to-((m.getD 0 z2).f_from-n)=(m.getD 0 z2).f_to+n-(m.getD 0 z2).f_from by omega]
   exact IU _
  ·have h1:((k:Int)==0)=false:=by simpa using hk0
   have hle:=hc.le
   have hw:w64 ((k:Int)-1)=((k-1:Nat):Int):=by rw [dw (by omega)];omega
   have hp:idx m (w64 ((k:Int)-1))=some (m.getD (k-1) z2):=by rw [hw,jV,getD_at (by omega)];exact List.getElem?_eq_getElem _
   have hpl:(m.getD (k-1) z2).f_from<=n:=by rw [getD_at (by omega)];exact hc.lo _ _ (by omega)
   simp only [h1,cond_false,if_neg hk0,hp,ob_]
   by_cases hkl:k=m.length
   ·have h2:((k:Int)==(m.length:Int))=true:=by simp [hkl]
    simp only [h2,cond_true,if_pos hkl]
    exact IU _
   ·have hlt:k<m.length:=by omega
    have h2:((k:Int)==(m.length:Int))=false:=by simp;omega
    have hq:idx m (k:Int)=some (m.getD k z2):=by rw [jV,getD_at hlt];exact List.getElem?_eq_getElem _
    have hqh:n<(m.getD k z2).f_from:=by rw [getD_at hlt];exact hc.hi hlt
    have hbp:=hb (m.getD (k-1) z2) (by rw [getD_at (by omega)];exact List.getElem_mem _)
    have hbq:=hb (m.getD k z2) (by rw [getD_at hlt];exact List.getElem_mem _)
    obtain ⟨⟨b1,b2⟩,_⟩:=hbp
    obtain ⟨⟨b5,b6⟩,_⟩:=hbq
    have hdne:w64 ((m.getD k z2).f_from-(m.getD (k-1) z2).f_from)≠0:=by rw [dw (by omega)];omega
    simp only [h2,cond_false,if_neg hkl,hq,ob_]
    have hfar:(bif (decide ((w64 ((m.getD k z2).f_from-(m.getD (k-1) z2).f_from))>2592000000))then some true else some (decide ((w64 ((m.getD k z2).f_to-(m.getD (k-1) z2).f_to))>2592000000)))=some (Rw (m.getD (k-1) z2) (m.getD k z2)):=by
     unfold Rw
     cases decide ((w64 ((m.getD k z2).f_from-(m.getD (k-1) z2).f_from))>2592000000) <;> rfl
    rw [hfar,ob_]
    cases Rw (m.getD (k-1) z2) (m.getD k z2)with
    | true=>rfl
    | false =>
     simp only [cond_false,FK,if_neg hdne,ob_]
     exact IU _
def gB (b:Beat):Beat_:=⟨b.Clock,b.At⟩
end Go.Proofs.YtkjlhdminmpmkaaGreatDoor.Law

open Go Go.Eng
namespace Go.Proofs.YtkjlhdminmpmkaaGreatDoor.Law
set_option linter.unusedVariables false
set_option linter.unusedSimpArgs false
def ofB (p:ByteArray) (b:Beat):Bool:=decide (b.Player=p)
def gK (b:Beat):Beat_:=⟨b.At,b.Clock⟩
theorem Mc (l:List Beat) (p:ByteArray) (back:Bool) (hl:l.length<=1000000):j3 l p back=some ((l.filter (ofB p)).map (bif back then gK else gB)):=by
 have run:∀(xs:List Beat) (k:Nat) (acc:List Beat_),acc.length+xs.length<=1000000->forR (λk x s=>jg p back k x s) xs k acc=some (.go (acc++(xs.filter (ofB p)).map (bif back then gK else gB))):=by
  intro xs
  induction xs with
  | nil=>intro k acc _;simp [forR]
  | cons x xs ih =>
   intro k acc hlen
   simp only [List.length_cons]at hlen
   have hst:jg p back k x acc=some (.go (acc++(bif ofB p x then [(bif back then gK else gB) x]else []))):=by
    have hsn:sNe x.Player p = !ofB p x:=yB _ _
    unfold jg
    rw [hsn]
    cases ofB p x with
    | false=>simp
    | true =>
     simp only [Bool.not_true,cond_false,cond_true]
     cases back with
     | true=>simp only [cond_true,ql acc [_] (show acc.length+1<=_ by omega),ob_];rfl
     | false=>simp only [cond_false,ql acc [_] (show acc.length+1<=_ by omega),ob_];rfl
   rw [forR,hst,ob_]
   simp only
   rw [ih _ _ (by cases ofB p x <;> simp <;> omega),List.filter_cons]
   cases ofB p x <;> simp
 unfold j3
 rw [jE (by omega),run l 0 [] (by simpa using hl),ob_,eu,List.nil_append]
theorem bnd_of {l:List Beat} {p:ByteArray} (h:∀x∈l,momB x.At=true/\momB x.Clock=true) (back:Bool):BndM ((l.filter (ofB p)).map (bif back then gK else gB)):=by
 intro y hy
 obtain ⟨x,hx,rfl⟩:=List.mem_map.1 hy
 obtain ⟨h1,h2⟩:=h x (List.mem_filter.1 hx).1
 cases back with
 | true=>exact⟨Bl h1,Bl h2⟩
 | false=>exact⟨Bl h2,Bl h1⟩
end Go.Proofs.YtkjlhdminmpmkaaGreatDoor.Law

open Go Go.Eng
namespace Go.Proofs.YtkjlhdminmpmkaaGreatDoor.Law
set_option linter.unusedVariables false
set_option linter.unusedSimpArgs false
section
variable {α β:Type}
theorem D7 (c:α->α->Int) (v:α) (R0:List α) (h:∀a∈R0,¬c v a<0):∀R,gm c v (R++R0)=gm c v R++R0
 | []=>by
  cases R0 with
  | nil=>rfl
  | cons u R1 =>
   show (bif decide (c v u<0)then u::gm c v R1 else v::u::R1)=v::u::R1
   rw [decide_eq_false (h u (by simp))];rfl
 | u::R=>by
  show (bif decide (c v u<0)then u::gm c v (R++R0)else v::u::(R++R0))=(bif decide (c v u<0)then u::gm c v R else v::u::R)++R0
  rw [D7 c v R0 h R]
  cases decide (c v u<0) <;> rfl
theorem JR (c:α->α->Int) (R0:List α):∀(Q R:List α),(∀v∈Q,∀a∈R0,¬c v a<0)->sI c (R++R0) Q=sI c R Q++R0
 | [],R,h=>rfl
 | v::Q,R,h=>by
  show sI c (gm c v (R++R0)) Q=sI c (gm c v R) Q++R0
  rw [D7 c v R0 (h v (by simp)) R]
  exact JR c R0 Q _ (λw hw=>h w (List.mem_cons_of_mem _ hw))
theorem K3 (c:α->α->Int) (l2:List α):∀(l1 R:List α),sI c R (l1++l2)=sI c (sI c R l1) l2
 | [],R=>rfl
 | v::l1,R=>K3 c l2 l1 (gm c v R)
theorem Qx (c:α->α->Int) (l1 l2:List α) (h:∀v∈l2,∀a∈l1,¬c v a<0):lM c (l1++l2)=lM c l1++lM c l2:=by
 unfold lM
 rw [K3]
 have:=JR c (sI c [] l1) l2 [] (λv hv a ha=>h v hv a (by have:=(BL c l1 []).mem_iff.1 ha;simpa using this))
 rw [List.nil_append]at this
 rw [this,List.reverse_append]
theorem Fb (f:α->β) {c:α->α->Int} {c':β->β->Int} (h:∀a b,c' (f a) (f b)=c a b) (v:α):∀R:List α,gm c' (f v) (R.map f)=(gm c v R).map f
 | []=>rfl
 | u::R=>by
  show (bif decide (c' (f v) (f u)<0)then f u::gm c' (f v) (R.map f)else f v::f u::R.map f)=(bif decide (c v u<0)then u::gm c v R else v::u::R).map f
  rw [h,Fb f h v R]
  cases decide (c v u<0) <;> rfl
theorem KY (f:α->β) {c:α->α->Int} {c':β->β->Int} (h:∀a b,c' (f a) (f b)=c a b):∀Q R:List α,sI c' (R.map f) (Q.map f)=(sI c R Q).map f
 | [],R=>rfl
 | v::Q,R=>by
  show sI c' (gm c' (f v) (R.map f)) (Q.map f)=(sI c (gm c v R) Q).map f
  rw [Fb f h,KY f h Q]
theorem Q9 (f:α->β) {c:α->α->Int} {c':β->β->Int} (h:∀a b,c' (f a) (f b)=c a b) (l:List α):lM c' (l.map f)=(lM c l).map f:=by
 unfold lM
 have:=KY f h l []
 rw [List.map_nil]at this
 rw [this,List.map_reverse]
theorem EP (c:α->α->Int) (l:List α) (x:α):x∈lM c l↔x∈l:=(Hm c l).mem_iff
end
structure Dated where
 f_at:Int
 f_i:Int
def MB (B:List Beat) (p:ByteArray):List Beat_:=(B.filter (ofB p)).map gB
noncomputable def plF (B:List Beat) (x:Log_):Int×Int:=(gZ (MB B x.Player) x.Clock).getD (0,0)
theorem Lt (x:Int):(qI x).2=0/\momB (qI x).1=true\/(qI x).2=11:=by
 unfold qI
 cases h:momB x with
 | true=>exact .inl ⟨rfl,h⟩
 | false=>exact .inr rfl
theorem MC (m:List Beat_) (n:Int) (k:Nat):(JX m n k).2=0/\momB (JX m n k).1=true\/(JX m n k).2=8\/(JX m n k).2=2\/(JX m n k).2=11:=by
 have f:∀x,(qI x).2=0/\momB (qI x).1=true\/(qI x).2=8\/(qI x).2=2\/(qI x).2=11:=λx=>by
  rcases Lt x with h|h
  ·exact .inl h
  ·exact .inr (.inr (.inr h))
 unfold JX
 split
 ·exact .inr (.inl rfl)
 ·split
  ·exact f _
  ·split
   ·exact f _
   ·cases Rw (m.getD (k-1) z2) (m.getD k z2)with
    | true=>exact .inr (.inr (.inl rfl))
    | false=>exact f _
structure BOk (B:List Beat):Prop where
 mom:∀x∈B,momB x.At=true/\momB x.Clock=true
 few:B.length<=1000000
theorem MW {B:List Beat} (hB:BOk B) (x:Log_) (hx:inM x.Clock):gZ (MB B x.Player) x.Clock=some (plF B x) /\
  ((plF B x).2=0/\momB (plF B x).1=true\/(plF B x).2=8\/(plF B x).2=2\/(plF B x).2=11):=by
 obtain ⟨k,hk⟩:=QF (MB B x.Player) x.Clock
 have hb:BndM (MB B x.Player):=bnd_of hB.mom false
 have hf:(B.filter (ofB x.Player)).length<=1000000:=Nat.le_trans (List.length_filter_le _ _) hB.few
 have h1:=Gg hk hb hx (by unfold MB;simpa using hf)
 unfold plF
 rw [h1]
 exact⟨rfl,MC _ _ _⟩
noncomputable def atF (B:List Beat) (x:Log_):Option Int:=bif (plF B x).2==0 then some (plF B x).1 else bif (plF B x).2==8 then some x.Clock else none
theorem atF_in {B:List Beat} (hB:BOk B) {x:Log_} (hx:inM x.Clock) {a:Int} (h:atF B x=some a):inM a:=by
 unfold atF at h
 rcases (MW hB x hx).2 with⟨h0,h1⟩|h0|h0|h0
 ·rw [h0]at h;cases h;exact Bl h1
 ·rw [h0]at h;cases h;exact hx
 ·rw [h0]at h;cases h
 ·rw [h0]at h;cases h
noncomputable def dts (B:List Beat):Nat->List Log_->List Dated
 | _,[]=>[]
 | k,x::xs=>(match atF B x with | some a=>[⟨a,(k:Int)⟩] | none=>[])++dts B (k+1) xs
noncomputable def lfs (B:List Beat):Nat->List Log_->List Int
 | _,[]=>[]
 | k,x::xs=>(match atF B x with | some _=>[] | none=>[(k:Int)])++lfs B (k+1) xs
theorem NG (B:List Beat) (ys:List Log_):∀(xs:List Log_) (k:Nat),dts B k (xs++ys)=dts B k xs++dts B (k+xs.length) ys
 | [],k=>rfl
 | x::xs,k=>by
  rw [List.cons_append,dts,dts,NG B ys xs (k+1),List.append_assoc,List.length_cons,show k+1+xs.length=k+(xs.length+1) by omega]
theorem N8 (B:List Beat) (ys:List Log_):∀(xs:List Log_) (k:Nat),lfs B k (xs++ys)=lfs B k xs++lfs B (k+xs.length) ys
 | [],k=>rfl
 | x::xs,k=>by
  rw [List.cons_append,lfs,lfs,N8 B ys xs (k+1),List.append_assoc,List.length_cons,show k+1+xs.length=k+(xs.length+1) by omega]
theorem Nr (B:List Beat):∀(xs:List Log_) (k:Nat) (d:Dated),d∈dts B k xs->∃i x,xs[i]? = some x/\d.f_i=((k+i:Nat):Int)/\atF B x=some d.f_at
 | [],k,d,h=>by cases h
 | x::xs,k,d,h=>by
  rw [dts]at h
  rcases List.mem_append.1 h with h|h
  ·cases ha:atF B x with
   | none=>rw [ha]at h;cases h
   | some a=>rw [ha]at h;rw [List.mem_singleton.1 h];exact⟨0,x,rfl,rfl,ha⟩
  ·obtain ⟨i,y,h1,h2,h3⟩:=Nr B xs (k+1) d h
   exact⟨i+1,y,by simpa using h1,by rw [h2];congr 1;omega,h3⟩
theorem Mf (B:List Beat):∀(xs:List Log_) (k:Nat),(dts B k xs).length+(lfs B k xs).length=xs.length
 | [],k=>rfl
 | x::xs,k=>by
  have:=Mf B xs (k+1)
  rw [dts,lfs]
  cases atF B x <;> simp <;> omega
def zL:Log_:=⟨⟨#[]⟩,⟨#[]⟩,0,0,0,⟨#[]⟩⟩
def yL (L:List Log_) (d:Dated):Log_:=L.getD d.f_i.toNat zL
def qC (L:List Log_) (pl:List Play) (d:Dated):Int×Int :=
 match pl.getLast? with
 | some q=>bif decide (q.Player=(yL L d).Player)&&decide (q.At+q.Long>d.f_at)then (q.At+q.Long,d.f_at+(yL L d).Long-(q.At+q.Long))else (d.f_at,(yL L d).Long)
 | none=>(d.f_at,(yL L d).Long)
def stp (L:List Log_) (pl:List Play) (d:Dated):Option Play:=bif decide ((qC L pl d).2<=0) || !momB (qC L pl d).1 then none else some ⟨(yL L d).Player,(yL L d).Item,(qC L pl d).1,(qC L pl d).2⟩
def nW (L:List Log_):List Play->List Dated->List Play×List Int
 | pl,[]=>(pl,[])
 | pl,d::ds=>match stp L pl d with
  | some q=>nW L (pl++[q]) ds
  | none=>((nW L pl ds).1,d.f_i::(nW L pl ds).2)
theorem DY (L:List Log_) (es:List Dated):∀(ds:List Dated) (pl:List Play),nW L pl (ds++es)=((nW L (nW L pl ds).1 es).1,(nW L pl ds).2++(nW L (nW L pl ds).1 es).2)
 | [],pl=>rfl
 | d::ds,pl=>by
  rw [List.cons_append,nW,nW]
  cases stp L pl d with
  | some q=>exact DY L es ds _
  | none=>simp only [DY L es ds pl];rfl
def Bq (q:Play):Prop:=0<=q.At/\q.At<=345686399999/\0<q.Long/\q.Long<=86400000
structure VD (L:List Log_) (d:Dated):Prop where
 i0:0<=d.f_i
 il:d.f_i<L.length
 a0:0<=d.f_at
 al:d.f_at<=345686399999
 l0:1<=(yL L d).Long
 ll:(yL L d).Long<=86400000
theorem VD.at {L:List Log_} {d:Dated} (h:VD L d):idx L d.f_i=some (yL L d):=by
 have h0:=h.i0
 have h1:=h.il
 unfold idx yL
 rw [if_pos h0,getD_at (by omega)]
 exact List.getElem?_eq_getElem _
theorem JP {L:List Log_} {pl:List Play} {d:Dated} {q:Play} (hd:VD L d) (hp:∀q∈pl,Bq q) (h:stp L pl d=some q):Bq q/\q.Player=(yL L d).Player:=by
 obtain ⟨h1,h2,h3,h4,h5,h6⟩:=hd
 unfold stp at h
 cases hc:(decide ((qC L pl d).2<=0) || !momB (qC L pl d).1)with
 | true=>rw [hc]at h;cases h
 | false =>
  rw [hc,cond_false]at h
  cases h
  rw [Bool.or_eq_false_iff]at hc
  obtain ⟨c1,c2⟩:=hc
  have c1:=of_decide_eq_false c1
  have c2:=Bl (by simpa using c2:momB (qC L pl d).1=true)
  refine⟨⟨c2.1,c2.2,by show 0<(qC L pl d).2;omega,?_⟩,rfl⟩
  show (qC L pl d).2<=86400000
  unfold qC
  split
  ·rename_i q hq
   cases hb:(decide (q.Player=(yL L d).Player)&&decide (q.At+q.Long>d.f_at))with
   | true =>
    rw [Bool.and_eq_true]at hb
    have:=of_decide_eq_true hb.2
    simp only [cond_true];omega
   | false=>exact h6
  ·exact h6
theorem Cm {L:List Log_}:∀(ds:List Dated) (pl:List Play),(∀d∈ds,VD L d)->(∀q∈pl,Bq q)->(∀q∈(nW L pl ds).1,Bq q)/\(∀q∈(nW L pl ds).1,q∈pl\/∃d∈ds,q.Player=(yL L d).Player)
 | [],pl,hd,hp=>⟨hp,λq hq => .inl hq⟩
 | d::ds,pl,hd,hp=>by
  rw [nW]
  cases hs:stp L pl d with
  | some q =>
   obtain ⟨g1,g2⟩:=JP (hd d (by simp)) hp hs
   obtain ⟨i1,i2⟩:=Cm ds (pl++[q]) (λd hd'=>hd d (List.mem_cons_of_mem _ hd')) (λz hz=>by
    rcases List.mem_append.1 hz with hz|hz
    ·exact hp z hz
    ·rw [List.mem_singleton.1 hz];exact g1)
   refine⟨i1,λz hz => ?_⟩
   rcases i2 z hz with h|⟨e,he,h⟩
   ·rcases List.mem_append.1 h with h|h
    ·exact .inl h
    ·rw [List.mem_singleton.1 h];exact .inr ⟨d,by simp,g2⟩
   ·exact .inr ⟨e,List.mem_cons_of_mem _ he,h⟩
  | none =>
   obtain ⟨i1,i2⟩:=Cm ds pl (λd hd'=>hd d (List.mem_cons_of_mem _ hd')) hp
   refine⟨i1,λz hz => ?_⟩
   rcases i2 z hz with h|⟨e,he,h⟩
   ·exact .inl h
   ·exact .inr ⟨e,List.mem_cons_of_mem _ he,h⟩
theorem DX {L:List Log_}:∀(ds:List Dated) (pl:List Play),(nW L pl ds).1.length+(nW L pl ds).2.length=pl.length+ds.length
 | [],pl=>rfl
 | d::ds,pl=>by
  rw [nW]
  cases stp L pl d with
  | some q=>have:=DX ds (pl++[q]) (L:=L);simp only [List.length_append,List.length_cons,List.length_nil]at *;omega
  | none=>have:=DX ds pl (L:=L);simp only [List.length_cons]at *;omega
end Go.Proofs.YtkjlhdminmpmkaaGreatDoor.Law

open Go Go.Eng
namespace Go.Proofs.YtkjlhdminmpmkaaGreatDoor.Law
set_option linter.unusedVariables false
set_option linter.unusedSimpArgs false
end Go.Proofs.YtkjlhdminmpmkaaGreatDoor.Law

open Go Go.Eng
namespace Go.Proofs.YtkjlhdminmpmkaaGreatDoor.Law
set_option linter.unusedVariables false
set_option linter.unusedSimpArgs false
end Go.Proofs.YtkjlhdminmpmkaaGreatDoor.Law

open Go Go.Eng
namespace Go.Proofs.YtkjlhdminmpmkaaGreatDoor.Law
set_option linter.unusedVariables false
set_option linter.unusedSimpArgs false
def gP (d:Dated):Placed:=⟨d.f_i,d.f_at⟩
theorem K4 {B:List Beat} (hB:BOk B) {L:List Log_} {j:Nat} {to:Int} {x:Log_} (hj:L[j]? = some x) (ht:(j:Int)<to) (hx:inM x.Clock) (hjl:j<=1000000) (P:List Placed) (F:List Int) (hl:P.length+F.length<=100000) :
  fH to L (MB B x.Player) (P,F,(j:Int))=some (.go (P++(match atF B x with | some a=>[⟨(j:Int),a⟩] | none=>[]),F++(match atF B x with | some _=>[] | none=>[(j:Int)]),((j+1:Nat):Int))):=by
 obtain ⟨h2,h3⟩:=MW hB x hx
 unfold fH atF
 have hd:decide ((j:Int)<to)=true:=decide_eq_true ht
 have hw:w64 ((j:Int)+1)=((j+1:Nat):Int):=by rw [dw (by omega)];omega
 simp only [hd,cond_true,jV,hj,ob_,h2,hw]
 have aD:∀d:Placed,iJ P [d]=some (P++[d]):=λd=>ql _ _ (by simp;omega)
 have aF:∀d:Int,iJ F [d]=some (F++[d]):=λd=>ql _ _ (by simp;omega)
 rcases h3 with⟨h0,_⟩|h0|h0|h0
 ·have e0:((plF B x).2==0)=true:=by rw [h0];rfl
  simp only [e0,cond_true,cond_false,ob_,aD,List.append_nil]
 ·have e8:((plF B x).2==8)=true:=by rw [h0];rfl
  have e0:((plF B x).2==0)=false:=by rw [h0];rfl
  simp only [e8,e0,cond_true,cond_false,ob_,aD,List.append_nil]
 ·have e8:((plF B x).2==8)=false:=by rw [h0];rfl
  have e0:((plF B x).2==0)=false:=by rw [h0];rfl
  simp only [e8,e0,cond_true,cond_false,ob_,aF,List.append_nil]
 ·have e8:((plF B x).2==8)=false:=by rw [h0];rfl
  have e0:((plF B x).2==0)=false:=by rw [h0];rfl
  simp only [e8,e0,cond_true,cond_false,ob_,aF,List.append_nil]
theorem Cx {B:List Beat} (hB:BOk B) {L post:List Log_} {p:ByteArray} {to:Nat} (hL:L.length<=1000):∀(xs:List Log_) (j:Nat) (P:List Placed) (F:List Int),L.drop j=xs++post->j+xs.length=to->(∀x∈xs,x.Player=p/\inM x.Clock)->P.length+F.length+xs.length<=10000 ->
  iterN (λs=>fH (to:Int) L (MB B p) s) (xs.length+1) (P,F,(j:Int))=some (.go (P++(dts B j xs).map gP,F++lfs B j xs,(to:Int)))
 | [],j,P,F,hd,ht,hx,hl=>by
  have hc:decide ((j:Int)<(to:Int))=false:=decide_eq_false (by simp at ht;omega)
  simp only [List.length_nil,iterN,fH,hc,cond_false,ob_,dts,lfs,List.map_nil,List.append_nil]
  simp at ht;rw [ht]
 | x::xs,j,P,F,hd,ht,hx,hl=>by
  simp only [List.length_cons]at hl ht
  have hg:L[j]? = some x:=lq (by rw [hd];rfl)
  obtain ⟨hp,hc⟩:=hx x (by simp)
  have hjl:=(List.getElem?_eq_some_iff.1 hg).1
  have hs:=K4 hB (to:=(to:Int)) hg (by omega) hc (by omega) P F (by omega)
  rw [hp]at hs
  rw [List.length_cons,iterN,hs,ob_]
  simp only
  rw [Cx hB hL xs (j+1) _ _ (show L.drop (j+1)=xs++post from aV (show L.drop j=x::(xs++post) from hd)) (by omega) (λy hy=>hx y (List.mem_cons_of_mem _ hy)) (by cases atF B x <;> simp <;> omega),dts,lfs,List.map_append,List.append_assoc,List.append_assoc]
  cases atF B x <;> rfl
def cP (a b:Placed):Int:=yT a.f_at b.f_at
def cD (a b:Dated):Int:=yT a.f_at b.f_at
def c2 (L:List Log_) (a b:Dated):Int:=KU (Aa (yL L a).Player (yL L b).Player) (yT a.f_at b.f_at)
theorem stableP (l:List Placed) (hl:l.length<=19):bB l=some (lM cP l):=by
 unfold bB
 have h1:dK l (l.length:Int)=Qu kw l (l.length:Int):=rfl
 rw [h1,Qg (p:=λ_=>True) (c:=cP) (λa b _ _=>by unfold kw cP;rw [zI];rfl) l hl (λ_ _=>trivial),ob_]
 unfold j5;rw [if_pos (xe cP l)];rfl
theorem Pg {a b:List Int} (h:a.Perm b) (hl:a.length<=100000):∃s,cK a=some s/\cK b=some s/\s.length=a.length:=by
 have hlb:b.length=a.length:=h.length_eq.symm
 have hs:∀l:List Int,(l.mergeSort (λx y=>decide (x<=y))).Pairwise (· <= ·):=λl=>by
  have:=List.pairwise_mergeSort (le:=λ(x y:Int)=>decide (x<=y)) (λa b c=>by simp;omega) (λa b=>by simp;omega) l
  exact this.imp (by simp)
 have e:a.mergeSort (λx y=>decide (x<=y))=b.mergeSort (λx y=>decide (x<=y)) :=
  List.Perm.eq_of_pairwise (le:=(· <= ·)) (λa b _ _ h1 h2=>Int.le_antisymm h1 h2) (hs a) (hs b) ((List.mergeSort_perm a _).trans (h.trans (List.mergeSort_perm b _).symm))
 refine⟨a.mergeSort (λx y=>decide (x<=y)),?_,?_,List.length_mergeSort a⟩
 ·unfold cK Hw;rw [if_pos (by omega)]
 ·unfold cK Hw;rw [if_pos (by omega),e]
theorem K5 {α:Type} (l:List α) (q:α):(l++[q]).getLast? = some q:=by simp
def FW (pl:List Play) (p:ByteArray):Int:=match pl.getLast? with
 | some q=>bif decide (q.Player=p)then q.At+q.Long else 0
 | none=>0
theorem PR (pl:List Play) (q:Play) (p:ByteArray) (h:q.Player=p):FW (pl++[q]) p=q.At+q.Long:=by
 unfold FW;rw [K5];simp only [decide_eq_true h,cond_true]
theorem Qd {L:List Log_} (k:Nat) {d:Dated} (hd:VD L d) (F:List Int) (pl:List Play) (hp:∀q∈pl,Bq q) (hl:F.length+pl.length<=10000) :
  kP L k (gP d) (pl,F,FW pl (yL L d).Player)=some (.go (match stp L pl d with | some q=>(pl++[q],F,q.At+q.Long) | none=>(pl,F++[d.f_i],FW pl (yL L d).Player))):=by
 have hy:=hd.at
 obtain ⟨h1,h2,h3,h4,h5,h6⟩:=hd
 have key:jc d.f_at (FW pl (yL L d).Player)=(qC L pl d).1/\d.f_at+(yL L d).Long-(qC L pl d).1=(qC L pl d).2/\(0<=(qC L pl d).1/\(qC L pl d).1<=345772799999):=by
  have m0:jc d.f_at 0=d.f_at:=by unfold jc;rw [if_neg (by omega)]
  unfold FW qC
  cases hg:pl.getLast? with
  | none=>show jc d.f_at 0=d.f_at/\d.f_at+(yL L d).Long-d.f_at=(yL L d).Long/\(0<=d.f_at/\d.f_at<=345772799999);exact⟨m0,by omega,by omega,by omega⟩
  | some q =>
   obtain ⟨q1,q2,q3,q4⟩:=hp q (List.mem_of_getLast? hg)
   show jc d.f_at (bif decide (q.Player=(yL L d).Player)then q.At+q.Long else 0)=(bif decide (q.Player=(yL L d).Player)&&decide (q.At+q.Long>d.f_at)then (q.At+q.Long,d.f_at+(yL L d).Long-(q.At+q.Long))else (d.f_at,(yL L d).Long)).1 /\
    d.f_at+(yL L d).Long-(bif decide (q.Player=(yL L d).Player)&&decide (q.At+q.Long>d.f_at)then (q.At+q.Long,d.f_at+(yL L d).Long-(q.At+q.Long))else (d.f_at,(yL L d).Long)).1=(bif decide (q.Player=(yL L d).Player)&&decide (q.At+q.Long>d.f_at)then (q.At+q.Long,d.f_at+(yL L d).Long-(q.At+q.Long))else (d.f_at,(yL L d).Long)).2 /\
    (0<=(bif decide (q.Player=(yL L d).Player)&&decide (q.At+q.Long>d.f_at)then (q.At+q.Long,d.f_at+(yL L d).Long-(q.At+q.Long))else (d.f_at,(yL L d).Long)).1/\(bif decide (q.Player=(yL L d).Player)&&decide (q.At+q.Long>d.f_at)then (q.At+q.Long,d.f_at+(yL L d).Long-(q.At+q.Long))else (d.f_at,(yL L d).Long)).1<=345772799999)
   cases hpl:decide (q.Player=(yL L d).Player)with
   | true =>
    cases hgt:decide (q.At+q.Long>d.f_at)with
    | true =>
     have hgt:=of_decide_eq_true hgt
     have m1:jc d.f_at (q.At+q.Long)=q.At+q.Long:=by unfold jc;rw [if_pos hgt]
     show jc d.f_at (q.At+q.Long)=q.At+q.Long/\d.f_at+(yL L d).Long-(q.At+q.Long)=d.f_at+(yL L d).Long-(q.At+q.Long)/\(0<=q.At+q.Long/\q.At+q.Long<=345772799999)
     exact⟨m1,rfl,by omega,by omega⟩
    | false =>
     have hgt:=of_decide_eq_false hgt
     have m1:jc d.f_at (q.At+q.Long)=d.f_at:=by unfold jc;rw [if_neg hgt]
     show jc d.f_at (q.At+q.Long)=d.f_at/\d.f_at+(yL L d).Long-d.f_at=(yL L d).Long/\(0<=d.f_at/\d.f_at<=345772799999)
     exact⟨m1,by omega,by omega,by omega⟩
   | false =>
    show jc d.f_at 0=d.f_at/\d.f_at+(yL L d).Long-d.f_at=(yL L d).Long/\(0<=d.f_at/\d.f_at<=345772799999)
    exact⟨m0,by omega,by omega,by omega⟩
 obtain ⟨k1,k2,k3,k4⟩:=key
 have w2:w64 (d.f_at+(yL L d).Long)=d.f_at+(yL L d).Long:=dw (by omega)
 have w3:w64 (d.f_at+(yL L d).Long-(qC L pl d).1)=(qC L pl d).2:=by rw [dw (by omega)];exact k2
 have hr:decide ((qC L pl d).1>=d.f_at+(yL L d).Long)=decide ((qC L pl d).2<=0):=decide_eq_decide.2 (by omega)
 have aF:iJ F [d.f_i]=some (F++[d.f_i]):=ql _ _ (by simp;omega)
 have aP:∀q:Play,iJ pl [q]=some (pl++[q]):=λq=>ql _ _ (by simp;omega)
 have hend:d.f_at+(yL L d).Long=(qC L pl d).1+(qC L pl d).2:=by omega
 unfold kP stp
 simp only [gP,hy,ob_,k1,w2,hr,w3,xS]
 cases h7:decide ((qC L pl d).2<=0)with
 | true=>simp only [cond_true,ob_,Bool.true_or,aF]
 | false =>
  cases h8:momB (qC L pl d).1 with
  | true=>simp only [cond_true,cond_false,ob_,Bool.or_self,Bool.not_true,aP,hend]
  | false=>simp only [cond_true,cond_false,ob_,Bool.false_or,Bool.not_false,aF]
theorem Be {L:List Log_} {p:ByteArray}:∀(ds:List Dated) (k:Nat) (F:List Int) (pl:List Play),(∀d∈ds,VD L d/\(yL L d).Player=p)->(∀q∈pl,Bq q)->F.length+pl.length+ds.length<=10000 ->
  forR (λk x s=>kP L k x s) (ds.map gP) k (pl,F,FW pl p)=some (.go ((nW L pl ds).1,F++(nW L pl ds).2,FW (nW L pl ds).1 p))
 | [],k,F,pl,hd,hp,hl=>by simp only [nW,List.append_nil];rfl
 | d::ds,k,F,pl,hd,hp,hl=>by
  simp only [List.length_cons]at hl
  obtain ⟨v,hpd⟩:=hd d (by simp)
  have hs1:=Qd k v F pl hp (by omega)
  rw [hpd]at hs1
  rw [List.map_cons,forR,hs1,ob_,nW]
  cases hs:stp L pl d with
  | some q =>
   obtain ⟨g1,g2⟩:=JP v hp hs
   simp only
   rw [<- PR pl q p (g2.trans hpd),Be ds (k+1) F (pl++[q]) (λd hd'=>hd d (List.mem_cons_of_mem _ hd')) (λz hz=>by
    rcases List.mem_append.1 hz with hz|hz
    ·exact hp z hz
    ·rw [List.mem_singleton.1 hz];exact g1) (by simp;omega)]
  | none =>
   simp only
   rw [Be ds (k+1) (F++[d.f_i]) pl (λd hd'=>hd d (List.mem_cons_of_mem _ hd')) hp (by simp;omega)]
   simp
end Go.Proofs.YtkjlhdminmpmkaaGreatDoor.Law

