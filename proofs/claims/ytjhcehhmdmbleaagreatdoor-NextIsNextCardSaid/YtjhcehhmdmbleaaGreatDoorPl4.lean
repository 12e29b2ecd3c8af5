/-
  THE PLAIN LAW (part 4).
-/
import Derived.Test.YtjhcehhmdmbleaaGreatDoorPl3
open Go Go.Eng
namespace Go.Proofs.YtjhcehhmdmbleaaGreatDoor.Law
set_option linter.unusedVariables false
set_option linter.unusedSimpArgs false
theorem MC (a b:ByteArray):sNe a b = !sEq a b:=rfl
theorem nextIsNext (l:List Int):mU l=some true:=by
 obtain ⟨xs,s1,a1,a2,a3,a4,a5⟩:=rightE ⟨l,0⟩ (b:=0) ⟨Int.le_refl _,Int.le_refl _⟩ (by decide)
 obtain ⟨p,s2,b1,b2,b3,b4⟩:=rightP s1 a2 (by omega)
 obtain ⟨dy,s3,c1,c2,c3,c4⟩:=zI s2 0 9 b2 (by omega) (by decide) (by decide) (by decide)
 obtain ⟨of,s4,d1,d2,d3⟩:=qA s3 [0,1,36000000] c4 (by omega) (by simp) (by simp)
 have hof:=uO (lo:=0) (hi:=36000000) d2 rfl
 have hc:=ce_of a4 a3 a5 b4
 have hm:∀ t,0≤t→t < 345686400000→dD xs p t=some 0:=fun t t1 t2=>by
  rw [momentK a4 (by omega) b3]
  unfold faV moF
  rw [a5,b4,FZ (by omega)]; rfl
 have hw:w64 (w64 (dy * 86400000) + of)=dy * 86400000 + of:=by rw [bE (n:=dy * 86400000) (by omega),bE (by omega)]
 generalize hat:dy * 86400000 + of=at_ at hw
 have hb:0≤at_∧at_≤900000000:=by omega
 obtain ⟨a,n1,n2⟩:=next_go hc (t:=at_) (by omega) (hm _ (by omega) (by omega))
 have hon:∀ t,0≤t→t < 345686400000→jB xs p t=some (kG xs p t,!(vH xs p t).isEmpty,0):=fun t t1 t2=>On_eq hc ⟨t1,t2⟩ (hm t t1 t2)
 unfold mU
 rw [a1,Option.bind_some]
 simp only []
 rw [b1,Option.bind_some]
 simp only []
 rw [c1,Option.bind_some]
 simp only []
 rw [d1,Option.bind_some]
 simp only []
 rw [hw,n2,Option.bind_some,hon at_ (by omega) (by omega),Option.bind_some]
 simp only [bne_self_eq_false,cond_false]
 have hse:∀ x y:ByteArray,x=y→sNe x y=false:=fun x y e=>by rw [MC,(BR _ _).2 e]; rfl
 obtain ⟨x,r,ht⟩:=Lj (by omega) n1
 subst ht
 have hmul:∀ (d q:Int),0≤d→d≤40000000000→0≤q→q≤1000→w64 ((w64 (d.tdiv 1000)) * q)=d.tdiv 1000 * q∧0≤d.tdiv 1000 * q∧d.tdiv 1000 * q≤d:=fun d q d1 d2 q1 q2=>by
  have e1:0≤d.tdiv 1000:=Int.tdiv_nonneg d1 (by decide)
  have e2:d.tdiv 1000 * 1000≤d:=by
   have:=Int.mul_tdiv_add_tmod d 1000
   have h2:=Int.tmod_nonneg 1000 d1
   omega
  have e3:d.tdiv 1000 * q≤d.tdiv 1000 * 1000:=Int.mul_le_mul_of_nonneg_left q2 e1
  have e4:0≤d.tdiv 1000 * q:=Int.mul_nonneg e1 q1
  rw [bE (n:=d.tdiv 1000) (by omega),bE (by omega)]
  exact⟨rfl,e4,by omega⟩
 rcases IL n1 with⟨rfl,g1⟩ | ⟨y,r',rfl,g1,g2,g3,g4⟩
 ·have e0:MN [x] = -1:=rfl
  rw [e0]
  have h1:((-1:Int) != (-1))=false:=by decide
  rw [h1,cond_false,Option.bind_some,cond_false,decide_eq_false (by decide),cond_false]
  obtain ⟨u,u1,u2⟩:=uM (body:=fun k z s=>iU (xs,s1) (p,s2) (dy,s3) (of,s4) (kG xs p at_,!(vH xs p at_).isEmpty,0) k z s) (fun k s=>Ok ⟨s.1,s.2⟩ (1000 + k)) (xs:=List.range (4:Int).toNat) (s:=(s4.L,s4.f_at)) (by simp) (fun k z s hx hs=>by
   have hk:k < 4:=by
    have:=(List.getElem?_eq_some_iff.1 hx).1
    simpa using this
   obtain ⟨q,s',q1,q2,q3,q4⟩:=zI ⟨s.1,s.2⟩ 0 1000 hs (by omega) (by decide) (by decide) (by decide)
   unfold iU
   simp only []
   rw [q1,Option.bind_some,hw,bE (n:=at_ + 34560000000) (by omega),bE (n:=at_ + 34560000000 - 1) (by omega),bE (n:=at_ + 34560000000 - 1 - at_) (by omega)]
   obtain ⟨m1,m2,m3⟩:=hmul (at_ + 34560000000 - 1 - at_) q (by omega) (by omega) q2 q3
   simp only []
   rw [m1,bE (n:=at_ + _) (by omega),hon _ (by omega) (by omega),Option.bind_some]
   simp only [bne_self_eq_false,cond_false]
   rw [hse _ _ (g1 _ (by omega) (by omega)),Option.bind_some,cond_false]
   exact⟨_,rfl,q4.mono (by omega)⟩) (d3.mono (by omega))
  rw [u1]
  simp only [Option.bind_some,thenC,H8]
 ·have e0:MN (x::y::r')=y.Time.From:=rfl
  rw [e0]
  have h1:(y.Time.From != (-1))=true:=by rw [bne_iff_ne]; omega
  rw [h1,cond_true,decide_eq_false (by omega),Option.bind_some,cond_false,decide_eq_true (by omega),cond_true,hon y.Time.From (by omega) (by omega),Option.bind_some]
  simp only [bne_self_eq_false,cond_false]
  have h2:sEq (kG xs p y.Time.From) (kG xs p at_)=false:=by
   rw [← Bool.not_eq_true]; exact fun e=>g3 ((BR _ _).1 e)
  rw [h2,Option.bind_some,cond_false]
  obtain ⟨u,u1,u2⟩:=uM (body:=fun k z s=>jb (xs,s1) (p,s2) (dy,s3) (of,s4) (y.Time.From,0) (kG xs p at_,!(vH xs p at_).isEmpty,0) k z s) (fun k s=>Ok ⟨s.1,s.2⟩ (1000 + k)) (xs:=List.range (4:Int).toNat) (s:=(s4.L,s4.f_at)) (by simp) (fun k z s hx hs=>by
   have hk:k < 4:=by
    have:=(List.getElem?_eq_some_iff.1 hx).1
    simpa using this
   obtain ⟨q,s',q1,q2,q3,q4⟩:=zI ⟨s.1,s.2⟩ 0 1000 hs (by omega) (by decide) (by decide) (by decide)
   unfold jb
   simp only []
   rw [q1,Option.bind_some,hw,bE (n:=y.Time.From - 1) (by omega),bE (n:=y.Time.From - 1 - at_) (by omega)]
   obtain ⟨m1,m2,m3⟩:=hmul (y.Time.From - 1 - at_) q (by omega) (by omega) q2 q3
   simp only []
   rw [m1,bE (n:=at_ + _) (by omega),hon _ (by omega) (by omega),Option.bind_some]
   simp only [bne_self_eq_false,cond_false]
   rw [hse _ _ (g4 _ (by omega) (by omega)),Option.bind_some,cond_false]
   exact⟨_,rfl,q4.mono (by omega)⟩) (d3.mono (by omega))
  rw [u1]
  simp only [Option.bind_some,thenC,H8]
end Go.Proofs.YtjhcehhmdmbleaaGreatDoor.Law

