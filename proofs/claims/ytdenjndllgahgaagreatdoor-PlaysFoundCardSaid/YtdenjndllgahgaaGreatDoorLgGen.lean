import Derived.Test.YtdenjndllgahgaaGreatDoorLgRoot
/-
  PLAIN LEMMAS: logs out of a stream are of no great size.
-/
open Go Go.Eng
namespace Go.Proofs.YtdenjndllgahgaaGreatDoor.Law
set_option linter.unusedVariables false
set_option linter.unusedSimpArgs false
theorem mb {α β:Type} {E:Option α} {f:α->Option β} {P:α->Prop} {Q:β->Prop} (h:∃a,E=some a/\P a) (k:∀a,P a->∃r,f a=some r/\Q r):∃r,E.bind f=some r/\Q r:=by
 obtain ⟨a,h1,h2⟩:=h
 obtain ⟨r,h3,h4⟩:=k a h2
 exact⟨r,by rw [h1];exact h3,h4⟩
theorem mc {β:Type} {c:Bool} {X Y:Option β} {Q:β->Prop} (h1:c=true->∃r,X=some r/\Q r) (h2:c=false->∃r,Y=some r/\Q r):∃r,(bif c then X else Y)=some r/\Q r:=by
 cases c with
 | true=>exact h1 rfl
 | false=>exact h2 rfl
theorem mr {β:Type} {a:β} {Q:β->Prop} (h:Q a):∃r,some a=some r/\Q r:=⟨a,rfl,h⟩
theorem C8 (s:Stream) (n:Int) {b:Int} (hs:Ok s b) (hb:b<=1000000) (h:1<=n) (hn:n<=4611686018427387904):∃a,bQ s n=some a/\(0<=a.1/\a.1<n/\Ok a.2 (b+1)):=by
 obtain ⟨r,s',h1,h2,h3,h4⟩:=qc s n hs hb h hn
 exact⟨(r,s'),h1,h2,h3,h4⟩
theorem vU (s:Stream) (n:Int) {b:Int} (hs:Ok s b) (hb:b<=1000000) (h:1<=n) (hn:n<=1000):∃a,bS s n=some a/\Ok a.2 (b+1):=by
 obtain ⟨r,s',h1,h2⟩:=zm s n hs hb h hn
 exact⟨(r,s'),h1,h2⟩
theorem Ab (s:Stream) (l:List Int) {b:Int} (hs:Ok s b) (hb:b<=1000000) (h:1<=l.length) (hn:l.length<=1000):∃a,dC s l=some a/\(a.1∈l/\Ok a.2 (b+1)):=by
 obtain ⟨r,s',h1,h2,h3⟩:=vD s l hs hb h hn
 exact⟨(r,s'),h1,h2,h3⟩
theorem uh (s:Stream) (l:List ByteArray) {b:Int} (hs:Ok s b) (hb:b<=1000000) (h:1<=l.length) (hn:l.length<=1000):∃a,cB s l=some a/\(a.1∈l/\Ok a.2 (b+1)):=by
 obtain ⟨r,s',h1,h2,h3⟩:=Dz s l hs hb h hn
 exact⟨(r,s'),h1,h2,h3⟩
theorem Ef (s:Stream) (lo hi:Int) {b:Int} (hs:Ok s b) (hb:b<=1000000) (h:lo<=hi) (h1 : -1000000000000<=lo) (h2:hi<=1000000000000):∃a,dD s lo hi=some a/\(lo<=a.1/\a.1<=hi/\Ok a.2 (b+1)):=by
 obtain ⟨r,s',k1,k2,k3,k4⟩:=pV s lo hi hs hb h h1 h2
 exact⟨(r,s'),k1,k2,k3,k4⟩
theorem E8 (s:Stream) (lo hi:Int) {b:Int} (hs:Ok s b) (hb:b<=900000) (h:lo<=hi) (h1 : -1000000000000<=lo) (h2:hi<=1000000000000):∃a,dU s lo hi=some a/\(Med a.1/\Ok a.2 (b+2)):=by
 unfold dU
 refine mb (vU s 12 hs (by omega) (by decide) (by decide)) (λc hc=>mc (λ_ => ?_) (λ_ => ?_))
 ·refine mb (Ab c.2 _ hc (by omega) (by simp) (by simp)) (λr hr=>mr ⟨?_,hr.2.mono (by omega)⟩)
  have e1:w64 (lo-1)=lo-1:=dx (by omega)
  have e2:w64 (hi+1)=hi+1:=dx (by omega)
  have hm:=hr.1
  rw [e1,e2]at hm
  simp only [List.mem_cons,List.not_mem_nil,or_false]at hm
  unfold Med
  rcases hm with h|h|h|h|h|h <;> omega
 ·refine mb (Ef c.2 lo hi hc (by omega) h h1 h2) (λr hr=>mr ⟨?_,hr.2.2.mono (by omega)⟩)
  unfold Med
  have:=hr.1;have:=hr.2.1
  omega
theorem FV (last:ByteArray) {x:Log_} (hl:eO last) (h:jg x):nE last x=some (mk (last.data.toList++[32]++yP x)):=by
 have l1:=EX h;have l2:=ny hl
 unfold nE
 rw [Dc h,show last=BB last.data.toList from rfl,show (⟨#[32]⟩:ByteArray)=BB [32] from rfl]
 simp only [ob_]
 rw [yO _ _ (by simp only [List.length_append,List.length_cons,List.length_nil];omega)];simp only [ob_]
 rw [yO _ _ (by simp only [List.length_append,List.length_cons,List.length_nil];omega)];simp only [ob_]
 rw [markR _ (by simp only [List.length_append,List.length_cons,List.length_nil];omega)]
 rfl
theorem nz {a:ByteArray} {l:List ByteArray} (h:a∈l) (hl:∀x∈l,eO x):eO a:=hl a h
theorem vO {a b:ByteArray} (ha:eO a) (hb:eO b):∀x ∈ [a,b],eO x:=λx hx=>by
 simp only [List.mem_cons,List.not_mem_nil,or_false]at hx
 rcases hx with rfl|rfl
 ·exact ha
 ·exact hb
theorem shorts3 {a b c:ByteArray} (ha:eO a) (hb:eO b) (hc:eO c):∀x ∈ [a,b,c],eO x:=λx hx=>by
 simp only [List.mem_cons,List.not_mem_nil,or_false]at hx
 rcases hx with rfl|rfl|rfl
 ·exact ha
 ·exact hb
 ·exact hc
theorem Ak (s:Stream) (most:Int) (hm:0<=most/\most<=20) {b:Int} (hs:Ok s b) (hb:b<=700000):∃r,fI s most=some r/\(Ok r.2 (b+300)/\r.1.length<=2*most.toNat/\∀x∈r.1,jg x):=by
 unfold fI
 obtain ⟨s',h1,h2,h3,h4⟩:=rJ (body:=λk x s=>dH most k x s) (λk s=>Ok ⟨s.2.1,s.2.2⟩ (b+150*k)/\s.1.length<=most.toNat*k/\∀x∈s.1,jg x)
  (xs:=[(⟨#[112,97]⟩:ByteArray),(⟨#[112,98]⟩:ByteArray)]) (s:=(([]:List Log_),s.L,s.f_at)) (by simp) (λk x t hxm hk ⟨i1,i2,i3⟩=>by
   have hk2:k<2:=hk
   have hsh:eO x:=by
    simp only [List.mem_cons,List.not_mem_nil,or_false]at hxm
    rcases hxm with rfl|rfl <;> exact dZ rfl
   obtain ⟨a,a1,a2,a3⟩:=Ab _ [0,50,1000] i1 (by omega) (by simp) (by simp)
   have ha:0<=a.1/\a.1<=1000:=by
    simp only [List.mem_cons,List.not_mem_nil,or_false]at a2
    rcases a2 with h|h|h <;> omega
   obtain ⟨n,n1,n2,n3,n4⟩:=Ef a.2 0 most a3 (by omega) hm.1 (by omega) (by omega)
   obtain ⟨u,m1,m2,m3,m4,m5,m6⟩:=rJ (body:=λk y s=>eX x k y s) (λj s=>Ok ⟨s.2.2.2.1,s.2.2.2.2⟩ (b+150*k+2+4*j)/\eO s.2.1/\(0<=s.2.2.1/\s.2.2.1<=1000+100*j)/\s.1.length<=most.toNat*k+j/\∀x∈s.1,jg x)
    (xs:=List.range n.1.toNat) (s:=(t.1,(⟨#[]⟩:ByteArray),a.1,n.2.L,n.2.f_at)) (by simp;omega) (λj y v _ hj ⟨j1,j2,j3,j4,j5⟩=>by
     have hj3:j<20:=by rw [List.length_range]at hj;omega
     have hmk:most.toNat*k<=20*2:=Nat.mul_le_mul (by omega) (by omega)
     obtain ⟨p,p1,p2,p3⟩:=uh _ [(⟨#[105,97]⟩:ByteArray),(⟨#[105,98]⟩:ByteArray)] j1 (by omega) (by simp) (by simp)
     have hp:eO p.1:=nz p2 (vO (dZ rfl) (dZ rfl))
     obtain ⟨q,q1,q2,q3⟩:=Ab p.2 [1,10,30,100] p3 (by omega) (by simp) (by simp)
     have hq:Med q.1:=by
      unfold Med
      simp only [List.mem_cons,List.not_mem_nil,or_false]at q2
      rcases q2 with h|h|h|h <;> omega
     have hw:w64 ((j:Int)+1)=(j:Int)+1:=dx (by omega)
     have hg0:jg (⟨x,p.1,w64 ((j:Int)+1),v.2.2.1,q.1,(⟨#[]⟩:ByteArray)⟩:Log_):=⟨hsh,hp,dZ rfl,by rw [hw];show Med ((j:Int)+1);unfold Med;omega,by show Med v.2.2.1;unfold Med;omega,hq⟩
     obtain ⟨r,r1,r2,r3⟩:=Ab q.2 [0,5,10,50,100] q3 (by omega) (by simp) (by simp)
     have hr:0<=r.1/\r.1<=100:=by
      simp only [List.mem_cons,List.not_mem_nil,or_false]at r2
      rcases r2 with h|h|h|h|h <;> omega
     obtain ⟨c,c1,c2⟩:=vU r.2 6 r3 (by omega) (by decide) (by decide)
     have hsum:=FV v.2.1 j2 hg0
     have hw2:w64 (v.2.2.1+r.1)=v.2.2.1+r.1:=dx (by omega)
     have hgl:∀z∈v.1++[(⟨x,p.1,w64 ((j:Int)+1),v.2.2.1,q.1,mk (v.2.1.data.toList++[32]++yP (⟨x,p.1,w64 ((j:Int)+1),v.2.2.1,q.1,(⟨#[]⟩:ByteArray)⟩:Log_))⟩:Log_)],jg z:=λz hz=>by
      rcases List.mem_append.1 hz with hz|hz
      ·exact j5 z hz
      ·rw [List.mem_singleton.1 hz];exact⟨hsh,hp,rY _,hg0.2.2.2.1,hg0.2.2.2.2.1,hq⟩
     simp only [eX,p1,q1,hsum,r1,c1,ob_]
     cases c.1 with
     | true =>
      simp only [Bool.not_true,cond_false,ob_]
      exact⟨_,rfl,c2.mono (by omega),rY _,by show 0<=w64 (v.2.2.1+r.1)/\w64 (v.2.2.1+r.1)<=_;rw [hw2];omega,by show v.1.length<=_;omega,j5⟩
     | false =>
      simp only [Bool.not_false,cond_true]
      rw [iM v.1 [_] (by simp;omega)]
      simp only [ob_]
      exact⟨_,rfl,c2.mono (by omega),rY _,by show 0<=w64 (v.2.2.1+r.1)/\w64 (v.2.2.1+r.1)<=_;rw [hw2];omega,by simp;omega,hgl⟩) ⟨n4.mono (by omega),dZ rfl,by simpa using ha,by simpa using i2,i3⟩
   have hstep:dH most k x t=some (.go (u.1,u.2.2.2.1,u.2.2.2.2)):=by
    unfold dH
    rw [a1];simp only [ob_]
    rw [n1];simp only [ob_]
    rw [m1];rfl
   rw [hstep]
   have hl:(List.range n.1.toNat).length<=most.toNat:=by rw [List.length_range];omega
   refine⟨_,rfl,m2.mono (by omega),?_,m6⟩
   show u.1.length<=most.toNat*(k+1)
   rw [Nat.mul_succ];omega) ⟨by simpa using hs,by simp,by simp⟩
 rw [h1]
 refine mr ⟨h2.mono (by simp),?_,h4⟩
 show s'.1.length<=_
 have:s'.1.length<=most.toNat*2:=h3
 omega
theorem F5 {α:Type} {p:α->Prop} {xs:List α} {i:Nat} {a:α} (h:∀x∈xs,p x) (ha:p a):∀x∈xs.set i a,p x:=kV h ha
theorem pz {xs:List Log_} {k:Nat} (h:k<xs.length) (hs:∀x∈xs,jg x):∃a,xs[k]? = some a/\jg a:=⟨xs[k],List.getElem?_eq_getElem h,hs _ (List.getElem_mem _)⟩
theorem inR_w {xs:List Log_} {k:Int} (h0:0<=k) (h:k<(xs.length:Int)):∃a,inR k xs=some a/\True:=⟨(),Ad h0 h,trivial⟩
theorem logs_ok (s:Stream) (most:Int) (hm:0<=most/\most<=20) {b:Int} (hs:Ok s b) (hb:b<=600000):∃r,jl s most=some r/\(Ok r.2 (b+400)/\r.1.length<=2*most.toNat/\∀x∈r.1,jg x):=by
 unfold jl
 refine mb (Ak s most hm hs (by omega)) (λr hr => ?_)
 obtain ⟨r1,r2,r3⟩:=hr
 refine mb (P:=λv=>Ok ⟨v.2.1,v.2.2⟩ (b+301)/\(v.1=true->0<r.1.length)) (mc (λh => ?_) (λ_ => ?_)) (λv hv => ?_)
 ·refine mb (vU r.2 4 r1 (by omega) (by decide) (by decide)) (λc hc=>mr ⟨hc.mono (by omega),λ_ => ?_⟩)
  simp only [decide_eq_true_eq]at h;omega
 ·exact mr ⟨r1.mono (by omega),λh=>by cases h⟩
 refine mb (P:=λu=>Ok ⟨u.2.1,u.2.2⟩ (b+320)/\u.1.length=r.1.length/\∀x∈u.1,jg x) (mc (λh => ?_) (λ_ => ?_)) (λu hu => ?_)
 ·have hpos:=hv.2 h
  refine mb (C8 _ _ hv.1 (by omega) (by omega) (by omega)) (λi hi => ?_)
  have hlt:0+i.1.toNat<r.1.length:=by omega
  refine mb (inR_w hi.1 hi.2.1) (λ_ _ => ?_)
  refine mb (uh i.2 _ hi.2.2 (by omega) (by simp) (by simp)) (λp hp => ?_)
  have hps:eO p.1:=nz hp.1 (vO (dZ rfl) (dZ rfl))
  refine mb (pz hlt r3) (λe he => ?_)
  refine mb (P:=λm=>eO m) ⟨mk [120],markR [120] (by simp),rY _⟩ (λm hmk => ?_)
  refine mb (uh p.2 _ hp.2 (by omega) (by simp) (by simp)) (λq hq => ?_)
  have hqs:eO q.1:=nz hq.1 (vO he.2.2.1 hmk)
  refine mb (pz hlt r3) (λe2 he2 => ?_)
  have hs1:∀x∈r.1.set (0+i.1.toNat) (⟨e2.Player,p.1,e2.No,e2.Clock,e2.Long,e2.Sum⟩:Log_),jg x:=kV r3 ⟨he2.1,hps,he2.2.2⟩
  refine mb (pz (by simpa using hlt) hs1) (λe3 he3=>mr ⟨hq.2.mono (by omega),by simp,kV hs1 ⟨he3.1,he3.2.1,hqs,he3.2.2.2⟩⟩)
 ·exact mr ⟨hv.1.mono (by omega),rfl,r3⟩
 obtain ⟨u1,u2,u3⟩:=hu
 refine mb (P:=λv=>Ok ⟨v.2.1,v.2.2⟩ (b+321)/\(v.1=true->0<u.1.length)) (mc (λh => ?_) (λ_ => ?_)) (λv hv => ?_)
 ·refine mb (vU _ 12 u1 (by omega) (by decide) (by decide)) (λc hc=>mr ⟨hc.mono (by omega),λ_ => ?_⟩)
  simp only [decide_eq_true_eq]at h;omega
 ·exact mr ⟨u1.mono (by omega),λh=>by cases h⟩
 refine mb (P:=λz=>Ok ⟨z.2.1,z.2.2⟩ (b+390)/\z.1.length=u.1.length/\∀x∈z.1,jg x) (mc (λh => ?_) (λ_ => ?_)) (λz hz=>mr ⟨hz.1.mono (by omega),by rw [hz.2.1,u2];exact r2,hz.2.2⟩)
 ·have hpos:=hv.2 h
  refine mb (C8 _ _ hv.1 (by omega) (by omega) (by omega)) (λi hi => ?_)
  have hlt:0+i.1.toNat<u.1.length:=by omega
  refine mb (inR_w hi.1 hi.2.1) (λ_ _ => ?_)
  refine mb (C8 i.2 4 hi.2.2 (by omega) (by omega) (by omega)) (λj hj => ?_)
  refine mc (λ_ => ?_) (λ_=>mc (λ_ => ?_) (λ_=>mc (λ_ => ?_) (λ_ => ?_)))
  ·refine mb (pz hlt u3) (λe he => ?_)
   refine mb (uh j.2 _ hj.2.2 (by omega) (by simp) (by simp)) (λp hp => ?_)
   refine mb (uh p.2 _ hp.2 (by omega) (by simp) (by simp)) (λq hq => ?_)
   have hps:eO p.1:=nz hp.1 (shorts3 he.1 (dZ rfl) (dZ rfl))
   have hqs:eO q.1:=nz hq.1 (vO (dZ rfl) (dZ rfl))
   refine mb (pz hlt u3) (λe2 he2 => ?_)
   have hs1:∀x∈u.1.set (0+i.1.toNat) (⟨p.1,e2.Item,e2.No,e2.Clock,e2.Long,e2.Sum⟩:Log_),jg x:=kV u3 ⟨hps,he2.2⟩
   refine mb (pz (by simpa using hlt) hs1) (λe3 he3=>mr ⟨hq.2.mono (by omega),by simp,kV hs1 ⟨he3.1,hqs,he3.2.2⟩⟩)
  ·refine mb (E8 j.2 1 1000000 hj.2.2 (by omega) (by omega) (by omega) (by omega)) (λp hp => ?_)
   refine mb (pz hlt u3) (λe he=>mr ⟨hp.2.mono (by omega),by simp,kV u3 ⟨he.1,he.2.1,he.2.2.1,hp.1,he.2.2.2.2⟩⟩)
  ·refine mb (E8 j.2 0 1000 hj.2.2 (by omega) (by omega) (by omega) (by omega)) (λp hp => ?_)
   refine mb (E8 p.2 1 1000 hp.2 (by omega) (by omega) (by omega) (by omega)) (λq hq => ?_)
   refine mb (pz hlt u3) (λe2 he2 => ?_)
   have hs1:∀x∈u.1.set (0+i.1.toNat) (⟨e2.Player,e2.Item,e2.No,p.1,e2.Long,e2.Sum⟩:Log_),jg x:=kV u3 ⟨he2.1,he2.2.1,he2.2.2.1,he2.2.2.2.1,hp.1,he2.2.2.2.2.2⟩
   refine mb (pz (by simpa using hlt) hs1) (λe3 he3=>mr ⟨hq.2.mono (by omega),by simp,kV hs1 ⟨he3.1,he3.2.1,he3.2.2.1,he3.2.2.2.1,he3.2.2.2.2.1,hq.1⟩⟩)
  ·refine mb (uh j.2 _ hj.2.2 (by omega) (by simp) (by simp)) (λp hp => ?_)
   have hps:eO p.1:=by
    have:=hp.1
    simp only [List.mem_cons,List.not_mem_nil,or_false]at this
    rcases this with h|h|h|h <;> rw [h] <;> exact dZ rfl
   refine mb (pz hlt u3) (λe he=>mr ⟨hp.2.mono (by omega),by simp,kV u3 ⟨he.1,he.2.1,hps,he.2.2.2⟩⟩)
 ·exact mr ⟨hv.1.mono (by omega),rfl,u3⟩
end Go.Proofs.YtdenjndllgahgaaGreatDoor.Law

