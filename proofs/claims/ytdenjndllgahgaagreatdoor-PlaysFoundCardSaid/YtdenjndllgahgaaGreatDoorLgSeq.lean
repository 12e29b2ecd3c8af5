import Derived.Test.YtdenjndllgahgaaGreatDoorPlStable
import Derived.Test.YtdenjndllgahgaaGreatDoorLgLine
import Derived.Test.YtdenjndllgahgaaGreatDoorCkLaw
/-
  PLAIN LEMMAS: a list sorted in parts; where logs stand; the run of plays.
-/
open Go Go.Eng
namespace Go.Proofs.YtdenjndllgahgaaGreatDoor.Law
set_option linter.unusedVariables false
set_option linter.unusedSimpArgs false
section
variable {α β:Type}
theorem wJ (c:α->α->Int) (v:α) (R0:List α) (h:∀a∈R0,¬c v a<0):∀R,eP c v (R++R0)=eP c v R++R0
 | []=>by
  cases R0 with
  | nil=>rfl
  | cons u R1 =>
   show (bif decide (c v u<0)then u::eP c v R1 else v::u::R1)=v::u::R1
   rw [decide_eq_false (h u (by simp))];rfl
 | u::R=>by
  show (bif decide (c v u<0)then u::eP c v (R++R0)else v::u::(R++R0))=(bif decide (c v u<0)then u::eP c v R else v::u::R)++R0
  rw [wJ c v R0 h R]
  cases decide (c v u<0) <;> rfl
theorem Bf (c:α->α->Int) (R0:List α):∀(Q R:List α),(∀v∈Q,∀a∈R0,¬c v a<0)->nk c (R++R0) Q=nk c R Q++R0
 | [],R,h=>rfl
 | v::Q,R,h=>by
  show nk c (eP c v (R++R0)) Q=nk c (eP c v R) Q++R0
  rw [wJ c v R0 (h v (by simp)) R]
  exact Bf c R0 Q _ (λw hw=>h w (List.mem_cons_of_mem _ hw))
theorem BR (c:α->α->Int) (l2:List α):∀(l1 R:List α),nk c R (l1++l2)=nk c (nk c R l1) l2
 | [],R=>rfl
 | v::l1,R=>BR c l2 l1 (eP c v R)
theorem FU (c:α->α->Int) (l1 l2:List α) (h:∀v∈l2,∀a∈l1,¬c v a<0):iO c (l1++l2)=iO c l1++iO c l2:=by
 unfold iO
 rw [BR]
 have:=Bf c (nk c [] l1) l2 [] (λv hv a ha=>h v hv a (by have:=(uq c l1 []).mem_iff.1 ha;simpa using this))
 rw [List.nil_append]at this
 rw [this,List.reverse_append]
theorem xy (f:α->β) {c:α->α->Int} {c':β->β->Int} (h:∀a b,c' (f a) (f b)=c a b) (v:α):∀R:List α,eP c' (f v) (R.map f)=(eP c v R).map f
 | []=>rfl
 | u::R=>by
  show (bif decide (c' (f v) (f u)<0)then f u::eP c' (f v) (R.map f)else f v::f u::R.map f)=(bif decide (c v u<0)then u::eP c v R else v::u::R).map f
  rw [h,xy f h v R]
  cases decide (c v u<0) <;> rfl
theorem Au (f:α->β) {c:α->α->Int} {c':β->β->Int} (h:∀a b,c' (f a) (f b)=c a b):∀Q R:List α,nk c' (R.map f) (Q.map f)=(nk c R Q).map f
 | [],R=>rfl
 | v::Q,R=>by
  show nk c' (eP c' (f v) (R.map f)) (Q.map f)=(nk c (eP c v R) Q).map f
  rw [xy f h,Au f h Q]
theorem Fq (f:α->β) {c:α->α->Int} {c':β->β->Int} (h:∀a b,c' (f a) (f b)=c a b) (l:List α):iO c' (l.map f)=(iO c l).map f:=by
 unfold iO
 have:=Au f h l []
 rw [List.map_nil]at this
 rw [this,List.map_reverse]
theorem r9 (c:α->α->Int) (l:List α) (x:α):x∈iO c l↔x∈l:=(yS c l).mem_iff
end
def MB (B:List Beat) (p:ByteArray):List Beat_:=(B.filter (ofB p)).map gB
noncomputable def plF (B:List Beat) (x:Log_):Int×Int:=(gH (MB B x.Player) x.Clock).getD (0,0)
theorem Db (x:Int):(kQ x).2=0/\momB (kQ x).1=true\/(kQ x).2=11:=by
 unfold kQ
 cases h:momB x with
 | true=>exact .inl ⟨rfl,h⟩
 | false=>exact .inr rfl
theorem Ch (m:List Beat_) (n:Int) (k:Nat):(xx m n k).2=0/\momB (xx m n k).1=true\/(xx m n k).2=8\/(xx m n k).2=2\/(xx m n k).2=11:=by
 have f:∀x,(kQ x).2=0/\momB (kQ x).1=true\/(kQ x).2=8\/(kQ x).2=2\/(kQ x).2=11:=λx=>by
  rcases Db x with h|h
  ·exact .inl h
  ·exact .inr (.inr (.inr h))
 unfold xx
 split
 ·exact .inr (.inl rfl)
 ·split
  ·exact f _
  ·split
   ·exact f _
   ·cases u6 (m.getD (k-1) z2) (m.getD k z2)with
    | true=>exact .inr (.inr (.inl rfl))
    | false=>exact f _
structure BOk (B:List Beat):Prop where
 mom:∀x∈B,momB x.At=true/\momB x.Clock=true
 few:B.length<=1000000
theorem CQ {B:List Beat} (hB:BOk B) (x:Log_) (hx:inM x.Clock):gH (MB B x.Player) x.Clock=some (plF B x)/\jX B x.Player x.Clock=some (plF B x) /\
  ((plF B x).2=0/\momB (plF B x).1=true\/(plF B x).2=8\/(plF B x).2=2\/(plF B x).2=11):=by
 obtain ⟨k,hk⟩:=FW (MB B x.Player) x.Clock
 have hb:Fy (MB B x.Player):=FI hB.mom false
 have hf:(B.filter (ofB x.Player)).length<=1000000:=Nat.le_trans (List.length_filter_le _ _) hB.few
 have h1:=yJ hk hb hx (by unfold MB;simpa using hf)
 have h2:=right_eq (all:=B) (AA B x.Player hB.few) hk hb hx hf
 unfold plF
 rw [h1]
 exact⟨rfl,h2,Ch _ _ _⟩
noncomputable def atF (B:List Beat) (x:Log_):Option Int:=bif (plF B x).2==0 then some (plF B x).1 else bif (plF B x).2==8 then some x.Clock else none
theorem atF_in {B:List Beat} (hB:BOk B) {x:Log_} (hx:inM x.Clock) {a:Int} (h:atF B x=some a):inM a:=by
 unfold atF at h
 rcases (CQ hB x hx).2.2 with⟨h0,h1⟩|h0|h0|h0
 ·rw [h0]at h;cases h;exact q9 h1
 ·rw [h0]at h;cases h;exact hx
 ·rw [h0]at h;cases h
 ·rw [h0]at h;cases h
noncomputable def dts (B:List Beat):Nat->List Log_->List Dated
 | _,[]=>[]
 | k,x::xs=>(match atF B x with | some a=>[⟨a,(k:Int)⟩] | none=>[])++dts B (k+1) xs
noncomputable def lfs (B:List Beat):Nat->List Log_->List Int
 | _,[]=>[]
 | k,x::xs=>(match atF B x with | some _=>[] | none=>[(k:Int)])++lfs B (k+1) xs
theorem Du (B:List Beat) (ys:List Log_):∀(xs:List Log_) (k:Nat),dts B k (xs++ys)=dts B k xs++dts B (k+xs.length) ys
 | [],k=>rfl
 | x::xs,k=>by
  rw [List.cons_append,dts,dts,Du B ys xs (k+1),List.append_assoc,List.length_cons,show k+1+xs.length=k+(xs.length+1) by omega]
theorem Dl (B:List Beat) (ys:List Log_):∀(xs:List Log_) (k:Nat),lfs B k (xs++ys)=lfs B k xs++lfs B (k+xs.length) ys
 | [],k=>rfl
 | x::xs,k=>by
  rw [List.cons_append,lfs,lfs,Dl B ys xs (k+1),List.append_assoc,List.length_cons,show k+1+xs.length=k+(xs.length+1) by omega]
theorem DY (B:List Beat):∀(xs:List Log_) (k:Nat) (d:Dated),d∈dts B k xs->∃i x,xs[i]? = some x/\d.f_i=((k+i:Nat):Int)/\atF B x=some d.f_at
 | [],k,d,h=>by cases h
 | x::xs,k,d,h=>by
  rw [dts]at h
  rcases List.mem_append.1 h with h|h
  ·cases ha:atF B x with
   | none=>rw [ha]at h;cases h
   | some a=>rw [ha]at h;rw [List.mem_singleton.1 h];exact⟨0,x,rfl,rfl,ha⟩
  ·obtain ⟨i,y,h1,h2,h3⟩:=DY B xs (k+1) d h
   exact⟨i+1,y,by simpa using h1,by rw [h2];congr 1;omega,h3⟩
theorem zX (B:List Beat):∀(xs:List Log_) (k:Nat),(dts B k xs).length+(lfs B k xs).length=xs.length
 | [],k=>rfl
 | x::xs,k=>by
  have:=zX B xs (k+1)
  rw [dts,lfs]
  cases atF B x <;> simp <;> omega
def zL:Log_:=⟨⟨#[]⟩,⟨#[]⟩,0,0,0,⟨#[]⟩⟩
def yL (L:List Log_) (d:Dated):Log_:=L.getD d.f_i.toNat zL
def kM (L:List Log_) (pl:List Play) (d:Dated):Int×Int :=
 match pl.getLast? with
 | some q=>bif decide (q.Player=(yL L d).Player)&&decide (q.At+q.Long>d.f_at)then (q.At+q.Long,d.f_at+(yL L d).Long-(q.At+q.Long))else (d.f_at,(yL L d).Long)
 | none=>(d.f_at,(yL L d).Long)
def stp (L:List Log_) (pl:List Play) (d:Dated):Option Play:=bif decide ((kM L pl d).2<=0) || !momB (kM L pl d).1 then none else some ⟨(yL L d).Player,(yL L d).Item,(kM L pl d).1,(kM L pl d).2⟩
def jP (L:List Log_):List Play->List Dated->List Play×List Int
 | pl,[]=>(pl,[])
 | pl,d::ds=>match stp L pl d with
  | some q=>jP L (pl++[q]) ds
  | none=>((jP L pl ds).1,d.f_i::(jP L pl ds).2)
theorem xA (L:List Log_) (es:List Dated):∀(ds:List Dated) (pl:List Play),jP L pl (ds++es)=((jP L (jP L pl ds).1 es).1,(jP L pl ds).2++(jP L (jP L pl ds).1 es).2)
 | [],pl=>rfl
 | d::ds,pl=>by
  rw [List.cons_append,jP,jP]
  cases stp L pl d with
  | some q=>exact xA L es ds _
  | none=>simp only [xA L es ds pl];rfl
def uE (q:Play):Prop:=0<=q.At/\q.At<=345686399999/\0<q.Long/\q.Long<=86400000
structure VD (L:List Log_) (d:Dated):Prop where
 i0:0<=d.f_i
 il:d.f_i<L.length
 a0:0<=d.f_at
 al:d.f_at<=345686399999
 l0:1<=(yL L d).Long
 ll:(yL L d).Long<=86400000
theorem VD.at {L:List Log_} {d:Dated} (h:VD L d):idx L d.f_i=some (yL L d):=by
 have h0:=h.i0
 have h1:=h.il
 unfold idx yL
 rw [if_pos h0,getD_at (by omega)]
 exact List.getElem?_eq_getElem _
theorem xz {L:List Log_} {pl:List Play} {d:Dated} {q:Play} (hd:VD L d) (hp:∀q∈pl,uE q) (h:stp L pl d=some q):uE q/\q.Player=(yL L d).Player:=by
 obtain ⟨h1,h2,h3,h4,h5,h6⟩:=hd
 unfold stp at h
 cases hc:(decide ((kM L pl d).2<=0) || !momB (kM L pl d).1)with
 | true=>rw [hc]at h;cases h
 | false =>
  rw [hc,cond_false]at h
  cases h
  rw [Bool.or_eq_false_iff]at hc
  obtain ⟨c1,c2⟩:=hc
  have c1:=of_decide_eq_false c1
  have c2:=q9 (by simpa using c2:momB (kM L pl d).1=true)
  refine⟨⟨c2.1,c2.2,by show 0<(kM L pl d).2;omega,?_⟩,rfl⟩
  show (kM L pl d).2<=86400000
  unfold kM
  split
  ·rename_i q hq
   cases hb:(decide (q.Player=(yL L d).Player)&&decide (q.At+q.Long>d.f_at))with
   | true =>
    rw [Bool.and_eq_true]at hb
    have:=of_decide_eq_true hb.2
    simp only [cond_true];omega
   | false=>exact h6
  ·exact h6
theorem tT {L:List Log_}:∀(ds:List Dated) (pl:List Play),(∀d∈ds,VD L d)->(∀q∈pl,uE q)->(∀q∈(jP L pl ds).1,uE q)/\(∀q∈(jP L pl ds).1,q∈pl\/∃d∈ds,q.Player=(yL L d).Player)
 | [],pl,hd,hp=>⟨hp,λq hq => .inl hq⟩
 | d::ds,pl,hd,hp=>by
  rw [jP]
  cases hs:stp L pl d with
  | some q =>
   obtain ⟨g1,g2⟩:=xz (hd d (by simp)) hp hs
   obtain ⟨i1,i2⟩:=tT ds (pl++[q]) (λd hd'=>hd d (List.mem_cons_of_mem _ hd')) (λz hz=>by
    rcases List.mem_append.1 hz with hz|hz
    ·exact hp z hz
    ·rw [List.mem_singleton.1 hz];exact g1)
   refine⟨i1,λz hz => ?_⟩
   rcases i2 z hz with h|⟨e,he,h⟩
   ·rcases List.mem_append.1 h with h|h
    ·exact .inl h
    ·rw [List.mem_singleton.1 h];exact .inr ⟨d,by simp,g2⟩
   ·exact .inr ⟨e,List.mem_cons_of_mem _ he,h⟩
  | none =>
   obtain ⟨i1,i2⟩:=tT ds pl (λd hd'=>hd d (List.mem_cons_of_mem _ hd')) hp
   refine⟨i1,λz hz => ?_⟩
   rcases i2 z hz with h|⟨e,he,h⟩
   ·exact .inl h
   ·exact .inr ⟨e,List.mem_cons_of_mem _ he,h⟩
theorem rH {L:List Log_}:∀(ds:List Dated) (pl:List Play),(jP L pl ds).1.length+(jP L pl ds).2.length=pl.length+ds.length
 | [],pl=>rfl
 | d::ds,pl=>by
  rw [jP]
  cases stp L pl d with
  | some q=>have:=rH ds (pl++[q]) (L:=L);simp only [List.length_append,List.length_cons,List.length_nil]at *;omega
  | none=>have:=rH ds pl (L:=L);simp only [List.length_cons]at *;omega
end Go.Proofs.YtdenjndllgahgaaGreatDoor.Law

