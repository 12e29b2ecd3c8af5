import Derived.Test.YtdenjndllgahgaaGreatDoorCkBase
/-
  PLAIN LEMMAS: beats that are made.
-/
open Go Go.Eng
namespace Go.Proofs.YtdenjndllgahgaaGreatDoor.Law
set_option linter.unusedVariables false
set_option linter.unusedSimpArgs false
def wN (x:Beat):Prop:=eO x.Player
theorem x8 (s:Stream) {b:Int} (hs:Ok s b) (hb:b<=800000):∃xs s',fu s=some (xs,s')/\Ok s' (b+100)/\xs.length<=6/\∀x∈xs,wN x:=by
 unfold fu
 obtain ⟨s',h1,h2,h3,h4⟩:=rJ (body:=λk x s=>d9 k x s) (λk s=>Ok ⟨s.2.1,s.2.2⟩ (b+20*k)/\s.1.length<=3*k/\∀x∈s.1,wN x)
  (xs:=[(⟨#[112,97]⟩:ByteArray),(⟨#[112,98]⟩:ByteArray)]) (s:=(([]:List Beat),s.L,s.f_at)) (by simp) (λk x t hxm hk ⟨i1,i2,i3⟩=>by
   have hk2:k<2:=hk
   have hsh:eO x:=by
    simp only [List.mem_cons,List.not_mem_nil,or_false]at hxm
    rcases hxm with rfl|rfl <;> exact dZ rfl
   obtain ⟨a,s1,a1,_,_,a2⟩:=pV _ 0 100 i1 (by omega) (by decide) (by decide) (by decide)
   obtain ⟨c,s2,a3,_,_,a4⟩:=pV s1 0 100 a2 (by omega) (by decide) (by decide) (by decide)
   obtain ⟨n,s3,a5,n1,n2,a6⟩:=pV s2 0 3 a4 (by omega) (by decide) (by decide) (by decide)
   obtain ⟨u,m1,m2,m3,m4⟩:=rJ (body:=λk y s=>eG x k y s) (λj s=>Ok ⟨s.2.2.2.1,s.2.2.2.2⟩ (b+20*k+3+2*j)/\s.1.length<=3*k+j/\∀x∈s.1,wN x)
    (xs:=List.range n.toNat) (s:=(t.1,a,c,s3.L,s3.f_at)) (by simp;omega) (λj y v _ hj ⟨j1,j2,j3⟩=>by
     have hj3:j<3:=by rw [List.length_range]at hj;omega
     obtain ⟨p,s4,p1,_,p2⟩:=vD _ [1,50,100,1000,2678400000] j1 (by omega) (by simp) (by simp)
     obtain ⟨q,s5,q1,_,q2⟩:=vD s4 [1,40,100,1300,2592000000] p2 (by omega) (by simp) (by simp)
     simp only [eG,iM v.1 [_] (show v.1.length+[_].length<=_ by simp;omega),p1,q1,ob_]
     refine⟨_,rfl,q2.mono (by omega),by simp;omega,λz hz => ?_⟩
     rcases List.mem_append.1 hz with hz|hz
     ·exact j3 z hz
     ·rw [List.mem_singleton.1 hz];exact hsh) ⟨a6.mono (by omega),by simpa using i2,i3⟩
   simp only [d9,a1,a3,a5,m1,ob_,fo]
   rw [List.length_range]at m2 m3
   exact⟨_,rfl,m2.mono (by omega),by show u.1.length<=3*(k+1);omega,m4⟩) ⟨by simpa using hs,by simp,by simp⟩
 rw [h1]
 exact⟨s'.1,⟨s'.2.1,s'.2.2⟩,rfl,h2.mono (by simp),h3,h4⟩
theorem GI (s:Stream) {b:Int} (hs:Ok s b) (hb:b<=700000):∃xs s',iT s=some (xs,s')/\Ok s' (b+200)/\xs.length<=6/\∀x∈xs,wN x:=by
 obtain ⟨xs,s1,h1,h2,h3,h4⟩:=x8 s hs (by omega)
 simp only [iT,h1,ob_]
 obtain ⟨v,s2,h5,h6,h7⟩:∃(v:Bool) (s2:Stream),(bif decide ((xs.length:Int)>0)then (bS s1 12).bind λr_9=>some (r_9.1,r_9.2.L,r_9.2.f_at)else some (false,s1.L,s1.f_at))=some (v,s2.L,s2.f_at)/\Ok s2 (b+101)/\(v=true->0<xs.length):=by
  cases hd:decide ((xs.length:Int)>0)with
  | true =>
   obtain ⟨c,s2,k1,k2⟩:=zm s1 12 h2 (by omega) (by decide) (by decide)
   simp only [decide_eq_true_eq]at hd
   exact⟨c,s2,by simp only [cond_true,k1,ob_],k2.mono (by omega),λ_=>by omega⟩
  | false=>exact⟨false,s1,rfl,h2.mono (by omega),λh=>by cases h⟩
 simp only [h5,ob_]
 cases v with
 | false=>exact⟨xs,_,rfl,h6.mono (by omega),h3,h4⟩
 | true =>
  have hpos:=h7 rfl
  have e2:(⟨s2.L,s2.f_at⟩:Stream)=s2:=rfl
  obtain ⟨i,s3,k1,k2,k3,k4⟩:=qc s2 xs.length h6 (by omega) (by omega) (by omega)
  have hi:0+i.toNat<xs.length:=by omega
  have ho:=(h4 _ (List.getElem_mem hi))
  have hset:∀a,0+i.toNat<(xs.set (0+i.toNat) a).length:=λa=>by simpa using hi
  obtain ⟨p,s4,n1,n2,n3⟩:=Dz s3 [xs[0+i.toNat].Player,(⟨#[]⟩:ByteArray),(⟨#[112,97]⟩:ByteArray)] k4 (by omega) (by simp) (by simp)
  obtain ⟨a,s5,n4,n5⟩:=FO s4 0 1000 n3 (by omega) (by decide) (by decide) (by decide)
  obtain ⟨c,s6,n6,n7⟩:=FO s5 0 1000 n5 (by omega) (by decide) (by decide) (by decide)
  simp only [cond_true,e2,k1,ob_,Ad k2 k3,get_at hi,n1,n4,n6,F6 hi,F6 (hset _),List.set_set]
  refine⟨_,_,rfl,n7.mono (by omega),by simpa using h3,kV h4 ?_⟩
  simp only [List.mem_cons,List.not_mem_nil,or_false]at n2
  rcases n2 with rfl|rfl|rfl
  ·exact ho
  ·exact dZ rfl
  ·exact dZ rfl
end Go.Proofs.YtdenjndllgahgaaGreatDoor.Law

