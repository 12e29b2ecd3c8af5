import Derived.Test.YtdenjndllgahgaaGreatDoorLgRoot
/-
  PLAIN LEMMAS: logs out of a stream are of no great size.
-/
open Go Go.Eng
namespace Go.Proofs.YtdenjndllgahgaaGreatDoor.Law
set_option linter.unusedVariables false
set_option linter.unusedSimpArgs false
theorem mb {α β:Type} {E:Option α} {f:α->Option β} {P:α->Prop} {Q:β->Prop} (h:∃a,E=some a/\P a) (k:∀a,P a->∃r,f a=some r/\Q r):∃r,E.bind f=some r/\Q r:=by
 obtain ⟨a,h1,h2⟩:=h
 obtain ⟨r,h3,h4⟩:=k a h2
 exact⟨r,by rw [h1];exact h3,h4⟩
theorem mc {β:Type} {c:Bool} {X Y:Option β} {Q:β->Prop} (h1:c=true->∃r,X=some r/\Q r) (h2:c=false->∃r,Y=some r/\Q r):∃r,(bif c then X else Y)=some r/\Q r:=by
 cases c with
 | true=>exact h1 rfl
 | false=>exact h2 rfl
theorem mr {β:Type} {a:β} {Q:β->Prop} (h:Q a):∃r,some a=some r/\Q r:=⟨a,rfl,h⟩
theorem AY (s:Stream) (n:Int) {b:Int} (hs:Ok s b) (hb:b<=1000000) (h:1<=n) (hn:n<=4611686018427387904):∃a,bB s n=some a/\(0<=a.1/\a.1<n/\Ok a.2 (b+1)):=by
 obtain ⟨r,s',h1,h2,h3,h4⟩:=qP s n hs hb h hn
 exact⟨(r,s'),h1,h2,h3,h4⟩
theorem qZ (s:Stream) (n:Int) {b:Int} (hs:Ok s b) (hb:b<=1000000) (h:1<=n) (hn:n<=1000):∃a,bM s n=some a/\Ok a.2 (b+1):=by
 obtain ⟨r,s',h1,h2⟩:=flip_ok s n hs hb h hn
 exact⟨(r,s'),h1,h2⟩
theorem xG (s:Stream) (l:List Int) {b:Int} (hs:Ok s b) (hb:b<=1000000) (h:1<=l.length) (hn:l.length<=1000):∃a,dx s l=some a/\(a.1∈l/\Ok a.2 (b+1)):=by
 obtain ⟨r,s',h1,h2,h3⟩:=pick_ok s l hs hb h hn
 exact⟨(r,s'),h1,h2,h3⟩
theorem pQ (s:Stream) (l:List ByteArray) {b:Int} (hs:Ok s b) (hb:b<=1000000) (h:1<=l.length) (hn:l.length<=1000):∃a,bA s l=some a/\(a.1∈l/\Ok a.2 (b+1)):=by
 obtain ⟨r,s',h1,h2,h3⟩:=some_ok s l hs hb h hn
 exact⟨(r,s'),h1,h2,h3⟩
theorem BG (s:Stream) (lo hi:Int) {b:Int} (hs:Ok s b) (hb:b<=1000000) (h:lo<=hi) (h1 : -1000000000000<=lo) (h2:hi<=1000000000000):∃a,dQ s lo hi=some a/\(lo<=a.1/\a.1<=hi/\Ok a.2 (b+1)):=by
 obtain ⟨r,s',k1,k2,k3,k4⟩:=Di s lo hi hs hb h h1 h2
 exact⟨(r,s'),k1,k2,k3,k4⟩
theorem Eu (s:Stream) (lo hi:Int) {b:Int} (hs:Ok s b) (hb:b<=900000) (h:lo<=hi) (h1 : -1000000000000<=lo) (h2:hi<=1000000000000):∃a,eY s lo hi=some a/\(Med a.1/\Ok a.2 (b+2)):=by
 unfold eY
 refine mb (qZ s 12 hs (by omega) (by decide) (by decide)) (λc hc=>mc (λ_ => ?_) (λ_ => ?_))
 ·refine mb (xG c.2 _ hc (by omega) (by simp) (by simp)) (λr hr=>mr ⟨?_,hr.2.mono (by omega)⟩)
  have e1:w64 (lo-1)=lo-1:=dI (by omega)
  have e2:w64 (hi+1)=hi+1:=dI (by omega)
  have hm:=hr.1
  rw [e1,e2]at hm
  simp only [List.mem_cons,List.not_mem_nil,or_false]at hm
  unfold Med
  rcases hm with h|h|h|h|h|h <;> omega
 ·refine mb (BG c.2 lo hi hc (by omega) h h1 h2) (λr hr=>mr ⟨?_,hr.2.2.mono (by omega)⟩)
  unfold Med
  have:=hr.1;have:=hr.2.1
  omega
theorem yS (last:ByteArray) {x:Log_} (hl:bN last) (h:dJ x):iT last x=some (mk (last.data.toList++[32]++r9 x)):=by
 have l1:=wZ h;have l2:=iL hl
 unfold iT
 rw [Aa h,show last=BB last.data.toList from rfl,show (⟨#[32]⟩:ByteArray)=BB [32] from rfl]
 simp only [ob_]
 rw [kw _ _ (by simp only [List.length_append,List.length_cons,List.length_nil];omega)];simp only [ob_]
 rw [kw _ _ (by simp only [List.length_append,List.length_cons,List.length_nil];omega)];simp only [ob_]
 rw [D9 _ (by simp only [List.length_append,List.length_cons,List.length_nil];omega)]
 rfl
theorem kK {a:ByteArray} {l:List ByteArray} (h:a∈l) (hl:∀x∈l,bN x):bN a:=hl a h
theorem tO {a b:ByteArray} (ha:bN a) (hb:bN b):∀x ∈ [a,b],bN x:=λx hx=>by
 simp only [List.mem_cons,List.not_mem_nil,or_false]at hx
 rcases hx with rfl|rfl
 ·exact ha
 ·exact hb
theorem shorts3 {a b c:ByteArray} (ha:bN a) (hb:bN b) (hc:bN c):∀x ∈ [a,b,c],bN x:=λx hx=>by
 simp only [List.mem_cons,List.not_mem_nil,or_false]at hx
 rcases hx with rfl|rfl|rfl
 ·exact ha
 ·exact hb
 ·exact hc
theorem yo (s:Stream) (most:Int) (hm:0<=most/\most<=20) {b:Int} (hs:Ok s b) (hb:b<=700000):∃r,dS s most=some r/\(Ok r.2 (b+300)/\r.1.length<=2*most.toNat/\∀x∈r.1,dJ x):=by
 unfold dS
 obtain ⟨s',h1,h2,h3,h4⟩:=qK (body:=λk x s=>bO most k x s) (λk s=>Ok ⟨s.2.1,s.2.2⟩ (b+150*k)/\s.1.length<=most.toNat*k/\∀x∈s.1,dJ x)
  (xs:=[(⟨#[112,97]⟩:ByteArray),(⟨#[112,98]⟩:ByteArray)]) (s:=(([]:List Log_),s.L,s.f_at)) (by simp) (λk x t hxm hk ⟨i1,i2,i3⟩=>by
   have hk2:k<2:=hk
   have hsh:bN x:=by
    simp only [List.mem_cons,List.not_mem_nil,or_false]at hxm
    rcases hxm with rfl|rfl <;> exact cK rfl
   obtain ⟨a,a1,a2,a3⟩:=xG _ [0,50,1000] i1 (by omega) (by simp) (by simp)
   have ha:0<=a.1/\a.1<=1000:=by
    simp only [List.mem_cons,List.not_mem_nil,or_false]at a2
    rcases a2 with h|h|h <;> omega
   obtain ⟨n,n1,n2,n3,n4⟩:=BG a.2 0 most a3 (by omega) hm.1 (by omega) (by omega)
   obtain ⟨u,m1,m2,m3,m4,m5,m6⟩:=qK (body:=λk y s=>dn x k y s) (λj s=>Ok ⟨s.2.2.2.1,s.2.2.2.2⟩ (b+150*k+2+4*j)/\bN s.2.1/\(0<=s.2.2.1/\s.2.2.1<=1000+100*j)/\s.1.length<=most.toNat*k+j/\∀x∈s.1,dJ x)
    (xs:=List.range n.1.toNat) (s:=(t.1,(⟨#[]⟩:ByteArray),a.1,n.2.L,n.2.f_at)) (by simp;omega) (λj y v _ hj ⟨j1,j2,j3,j4,j5⟩=>by
     have hj3:j<20:=by rw [List.length_range]at hj;omega
     have hmk:most.toNat*k<=20*2:=Nat.mul_le_mul (by omega) (by omega)
     obtain ⟨p,p1,p2,p3⟩:=pQ _ [(⟨#[105,97]⟩:ByteArray),(⟨#[105,98]⟩:ByteArray)] j1 (by omega) (by simp) (by simp)
     have hp:bN p.1:=kK p2 (tO (cK rfl) (cK rfl))
     obtain ⟨q,q1,q2,q3⟩:=xG p.2 [1,10,30,100] p3 (by omega) (by simp) (by simp)
     have hq:Med q.1:=by
      unfold Med
      simp only [List.mem_cons,List.not_mem_nil,or_false]at q2
      rcases q2 with h|h|h|h <;> omega
     have hw:w64 ((j:Int)+1)=(j:Int)+1:=dI (by omega)
     have hg0:dJ (⟨x,p.1,w64 ((j:Int)+1),v.2.2.1,q.1,(⟨#[]⟩:ByteArray)⟩:Log_):=⟨hsh,hp,cK rfl,by rw [hw];show Med ((j:Int)+1);unfold Med;omega,by show Med v.2.2.1;unfold Med;omega,hq⟩
     obtain ⟨r,r1,r2,r3⟩:=xG q.2 [0,5,10,50,100] q3 (by omega) (by simp) (by simp)
     have hr:0<=r.1/\r.1<=100:=by
      simp only [List.mem_cons,List.not_mem_nil,or_false]at r2
      rcases r2 with h|h|h|h|h <;> omega
     obtain ⟨c,c1,c2⟩:=qZ r.2 6 r3 (by omega) (by decide) (by decide)
     have hsum:=yS v.2.1 j2 hg0
     have hw2:w64 (v.2.2.1+r.1)=v.2.2.1+r.1:=dI (by omega)
     have hgl:∀z∈v.1++[(⟨x,p.1,w64 ((j:Int)+1),v.2.2.1,q.1,mk (v.2.1.data.toList++[32]++r9 (⟨x,p.1,w64 ((j:Int)+1),v.2.2.1,q.1,(⟨#[]⟩:ByteArray)⟩:Log_))⟩:Log_)],dJ z:=λz hz=>by
      rcases List.mem_append.1 hz with hz|hz
      ·exact j5 z hz
      ·rw [List.mem_singleton.1 hz];exact⟨hsh,hp,mE _,hg0.2.2.2.1,hg0.2.2.2.2.1,hq⟩
     simp only [dn,p1,q1,hsum,r1,c1,ob_]
     cases c.1 with
     | true =>
      simp only [Bool.not_true,cond_false,ob_]
      exact⟨_,rfl,c2.mono (by omega),mE _,by show 0<=w64 (v.2.2.1+r.1)/\w64 (v.2.2.1+r.1)<=_;rw [hw2];omega,by show v.1.length<=_;omega,j5⟩
     | false =>
      simp only [Bool.not_false,cond_true]
      rw [mZ v.1 [_] (by simp;omega)]
      simp only [ob_]
      exact⟨_,rfl,c2.mono (by omega),mE _,by show 0<=w64 (v.2.2.1+r.1)/\w64 (v.2.2.1+r.1)<=_;rw [hw2];omega,by simp;omega,hgl⟩) ⟨n4.mono (by omega),cK rfl,by simpa using ha,by simpa using i2,i3⟩
   have hstep:bO most k x t=some (.go (u.1,u.2.2.2.1,u.2.2.2.2)):=by
    unfold bO
    rw [a1];simp only [ob_]
    rw [n1];simp only [ob_]
    rw [m1];rfl
   rw [hstep]
   have hl:(List.range n.1.toNat).length<=most.toNat:=by rw [List.length_range];omega
   refine⟨_,rfl,m2.mono (by omega),?_,m6⟩
   show u.1.length<=most.toNat*(k+1)
   rw [Nat.mul_succ];omega) ⟨by simpa using hs,by simp,by simp⟩
 rw [h1]
 refine mr ⟨h2.mono (by simp),?_,h4⟩
 show s'.1.length<=_
 have:s'.1.length<=most.toNat*2:=h3
 omega
theorem pF {xs:List Log_} {k:Nat} (h:k<xs.length) (hs:∀x∈xs,dJ x):∃a,xs[k]? = some a/\dJ a:=⟨xs[k],List.getElem?_eq_getElem h,hs _ (List.getElem_mem _)⟩
theorem inR_w {xs:List Log_} {k:Int} (h0:0<=k) (h:k<(xs.length:Int)):∃a,inR k xs=some a/\True:=⟨(),rq h0 h,trivial⟩
theorem logs_ok (s:Stream) (most:Int) (hm:0<=most/\most<=20) {b:Int} (hs:Ok s b) (hb:b<=600000):∃r,gH s most=some r/\(Ok r.2 (b+400)/\r.1.length<=2*most.toNat/\∀x∈r.1,dJ x):=by
 unfold gH
 refine mb (yo s most hm hs (by omega)) (λr hr => ?_)
 obtain ⟨r1,r2,r3⟩:=hr
 refine mb (P:=λv=>Ok ⟨v.2.1,v.2.2⟩ (b+301)/\(v.1=true->0<r.1.length)) (mc (λh => ?_) (λ_ => ?_)) (λv hv => ?_)
 ·refine mb (qZ r.2 4 r1 (by omega) (by decide) (by decide)) (λc hc=>mr ⟨hc.mono (by omega),λ_ => ?_⟩)
  simp only [decide_eq_true_eq]at h;omega
 ·exact mr ⟨r1.mono (by omega),λh=>by cases h⟩
 refine mb (P:=λu=>Ok ⟨u.2.1,u.2.2⟩ (b+320)/\u.1.length=r.1.length/\∀x∈u.1,dJ x) (mc (λh => ?_) (λ_ => ?_)) (λu hu => ?_)
 ·have hpos:=hv.2 h
  refine mb (AY _ _ hv.1 (by omega) (by omega) (by omega)) (λi hi => ?_)
  have hlt:0+i.1.toNat<r.1.length:=by omega
  refine mb (inR_w hi.1 hi.2.1) (λ_ _ => ?_)
  refine mb (pQ i.2 _ hi.2.2 (by omega) (by simp) (by simp)) (λp hp => ?_)
  have hps:bN p.1:=kK hp.1 (tO (cK rfl) (cK rfl))
  refine mb (pF hlt r3) (λe he => ?_)
  refine mb (P:=λm=>bN m) ⟨mk [120],D9 [120] (by simp),mE _⟩ (λm hmk => ?_)
  refine mb (pQ p.2 _ hp.2 (by omega) (by simp) (by simp)) (λq hq => ?_)
  have hqs:bN q.1:=kK hq.1 (tO he.2.2.1 hmk)
  refine mb (pF hlt r3) (λe2 he2 => ?_)
  have hs1:∀x∈r.1.set (0+i.1.toNat) (⟨e2.Player,p.1,e2.No,e2.Clock,e2.Long,e2.Sum⟩:Log_),dJ x:=jD r3 ⟨he2.1,hps,he2.2.2⟩
  refine mb (pF (by simpa using hlt) hs1) (λe3 he3=>mr ⟨hq.2.mono (by omega),by simp,jD hs1 ⟨he3.1,he3.2.1,hqs,he3.2.2.2⟩⟩)
 ·exact mr ⟨hv.1.mono (by omega),rfl,r3⟩
 obtain ⟨u1,u2,u3⟩:=hu
 refine mb (P:=λv=>Ok ⟨v.2.1,v.2.2⟩ (b+321)/\(v.1=true->0<u.1.length)) (mc (λh => ?_) (λ_ => ?_)) (λv hv => ?_)
 ·refine mb (qZ _ 12 u1 (by omega) (by decide) (by decide)) (λc hc=>mr ⟨hc.mono (by omega),λ_ => ?_⟩)
  simp only [decide_eq_true_eq]at h;omega
 ·exact mr ⟨u1.mono (by omega),λh=>by cases h⟩
 refine mb (P:=λz=>Ok ⟨z.2.1,z.2.2⟩ (b+390)/\z.1.length=u.1.length/\∀x∈z.1,dJ x) (mc (λh => ?_) (λ_ => ?_)) (λz hz=>mr ⟨hz.1.mono (by omega),by rw [hz.2.1,u2];exact r2,hz.2.2⟩)
 ·have hpos:=hv.2 h
  refine mb (AY _ _ hv.1 (by omega) (by omega) (by omega)) (λi hi => ?_)
  have hlt:0+i.1.toNat<u.1.length:=by omega
  refine mb (inR_w hi.1 hi.2.1) (λ_ _ => ?_)
  refine mb (AY i.2 4 hi.2.2 (by omega) (by omega) (by omega)) (λj hj => ?_)
  refine mc (λ_ => ?_) (λ_=>mc (λ_ => ?_) (λ_=>mc (λ_ => ?_) (λ_ => ?_)))
  ·refine mb (pF hlt u3) (λe he => ?_)
   refine mb (pQ j.2 _ hj.2.2 (by omega) (by simp) (by simp)) (λp hp => ?_)
   refine mb (pQ p.2 _ hp.2 (by omega) (by simp) (by simp)) (λq hq => ?_)
   have hps:bN p.1:=kK hp.1 (shorts3 he.1 (cK rfl) (cK rfl))
   have hqs:bN q.1:=kK hq.1 (tO (cK rfl) (cK rfl))
   refine mb (pF hlt u3) (λe2 he2 => ?_)
   have hs1:∀x∈u.1.set (0+i.1.toNat) (⟨p.1,e2.Item,e2.No,e2.Clock,e2.Long,e2.Sum⟩:Log_),dJ x:=jD u3 ⟨hps,he2.2⟩
   refine mb (pF (by simpa using hlt) hs1) (λe3 he3=>mr ⟨hq.2.mono (by omega),by simp,jD hs1 ⟨he3.1,hqs,he3.2.2⟩⟩)
  ·refine mb (Eu j.2 1 1000000 hj.2.2 (by omega) (by omega) (by omega) (by omega)) (λp hp => ?_)
   refine mb (pF hlt u3) (λe he=>mr ⟨hp.2.mono (by omega),by simp,jD u3 ⟨he.1,he.2.1,he.2.2.1,hp.1,he.2.2.2.2⟩⟩)
  ·refine mb (Eu j.2 0 1000 hj.2.2 (by omega) (by omega) (by omega) (by omega)) (λp hp => ?_)
   refine mb (Eu p.2 1 1000 hp.2 (by omega) (by omega) (by omega) (by omega)) (λq hq => ?_)
   refine mb (pF hlt u3) (λe2 he2 => ?_)
   have hs1:∀x∈u.1.set (0+i.1.toNat) (⟨e2.Player,e2.Item,e2.No,p.1,e2.Long,e2.Sum⟩:Log_),dJ x:=jD u3 ⟨he2.1,he2.2.1,he2.2.2.1,he2.2.2.2.1,hp.1,he2.2.2.2.2.2⟩
   refine mb (pF (by simpa using hlt) hs1) (λe3 he3=>mr ⟨hq.2.mono (by omega),by simp,jD hs1 ⟨he3.1,he3.2.1,he3.2.2.1,he3.2.2.2.1,he3.2.2.2.2.1,hq.1⟩⟩)
  ·refine mb (pQ j.2 _ hj.2.2 (by omega) (by simp) (by simp)) (λp hp => ?_)
   have hps:bN p.1:=by
    have:=hp.1
    simp only [List.mem_cons,List.not_mem_nil,or_false]at this
    rcases this with h|h|h|h <;> rw [h] <;> exact cK rfl
   refine mb (pF hlt u3) (λe he=>mr ⟨hp.2.mono (by omega),by simp,jD u3 ⟨he.1,he.2.1,hps,he.2.2.2⟩⟩)
 ·exact mr ⟨hv.1.mono (by omega),rfl,u3⟩
end Go.Proofs.YtdenjndllgahgaaGreatDoor.Law

