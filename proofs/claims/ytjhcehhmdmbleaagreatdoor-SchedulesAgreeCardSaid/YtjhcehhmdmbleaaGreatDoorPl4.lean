/-
  THE PLAIN LAW (part 4).
-/
import Derived.Test.YtjhcehhmdmbleaaGreatDoorPl3
open Go Go.Eng
namespace Go.Proofs.YtjhcehhmdmbleaaGreatDoor.Law
set_option linter.unusedVariables false
set_option linter.unusedSimpArgs false
theorem xG {f:Int→ByteArray} {T:Int}:∀ {l:List Slot_} {F:Int},jd f T F l → ∀ (k:Nat) (x:Slot_),l[k]? = some x →
  (F≤x.Time.From∧x.Time.From < x.Time.To∧x.Time.To≤T ∧ ∀ t,x.Time.From≤t→t < x.Time.To→f t=x.Entry)∧(k=0→x.Time.From=F)∧(∀ (j:Nat) (y:Slot_),k=j + 1→l[j]? = some y→x.Time.From=y.Time.To∧x.Entry≠y.Entry)∧(k + 1=l.length→x.Time.To=T)
 | [],F,h,k,x,hk=>by simp at hk
 | z::r,F,h,k,x,hk=>by
  unfold jd at h
  obtain ⟨h1,h2,h3,h4,h5,h6⟩:=h
  cases k with
  | zero =>
   rw [List.getElem?_cons_zero,Option.some.injEq]at hk
   subst hk
   refine⟨⟨by omega,by omega,h3,fun t t1 t2=>h4 t (by omega) t2⟩,fun _=>h1,fun j y hj=>by omega,fun hl => ?_⟩
   have:r = []:=List.eq_nil_of_length_eq_zero (by simpa using hl.symm)
   rw [this]at h6
   unfold jd at h6; exact h6
  | succ k =>
   rw [List.getElem?_cons_succ]at hk
   obtain ⟨⟨i1,i2,i3,i4⟩,i5,i6,i7⟩:=xG h6 k x hk
   refine⟨⟨by omega,i2,i3,i4⟩,fun h0=>by omega,fun j y hj hy => ?_,fun hl=>i7 (by simpa using hl)⟩
   cases j with
   | zero =>
    rw [List.getElem?_cons_zero,Option.some.injEq]at hy
    subst hy
    obtain rfl:k=0:=by omega
    refine⟨i5 rfl,?_⟩
    cases r with
    | nil=>simp at hk
    | cons w r =>
     rw [List.getElem?_cons_zero,Option.some.injEq]at hk
     rw [← hk]; exact h5 w rfl
   | succ j =>
    rw [List.getElem?_cons_succ]at hy
    exact i6 j y (by omega) hy
theorem errs00:oG [0,0]=some 0:=by
 unfold oG
 rw [qN (by simp)]; rfl
theorem zK (a b:ByteArray):sNe a b = !sEq a b:=rfl
theorem key_ne' {l:List Entry} {p:Player} (h:CE l p) (t:Int):sNe (kZ l p t) (⟨#[]⟩:ByteArray) = !(mq l p t).isEmpty:=by
 unfold kZ
 cases hc:mq l p t with
 | nil =>
  show sNe (⟨#[]⟩:ByteArray) (⟨#[]⟩:ByteArray)=false
  rw [zK,(vg _ _).2 rfl]; rfl
 | cons x r =>
  have hx:x∈kg l p t:=(qP rW (kg l p t)).mem_iff.1 (by
   have:x∈mq l p t:=by rw [hc]; exact List.mem_cons_self
   exact this)
  have hk:=h.ne x.1 (Ar.1 hx).1
  show sNe x.1.Key (⟨#[]⟩:ByteArray)=true
  rw [zK,Bool.not_eq_true',← Bool.not_eq_true]
  exact fun e=>hk ((vg _ _).1 e)
theorem Hg {xs:List Entry} {p:Player} (hc:CE xs p) (hm:∀ t,0≤t→t < 345686400000→dn xs p t=some 0) {F T:Int} (hF:0≤F) (hT:T≤345686400000) {t:List Slot_} (ht:jd (kZ xs p) T F t) (htl:t.length≤1000000) (e:Int) (s1 s2:Stream) (k:Nat) (x:Slot_) (hx:t[k]? = some x) (s:(List Int)×Int) {b:Int} (hs:Ok ⟨s.1,s.2⟩ b) (hb:b≤900000) :
  ∃ s',fA (t,e) (xs,s1) (p,s2) k x s=some (.go s')∧Ok ⟨s'.1,s'.2⟩ (b + 1):=by
 obtain ⟨⟨i1,i2,i3,i4⟩,i5,i6,i7⟩:=xG ht k x hx
 have hk:k < t.length:=(List.getElem?_eq_some_iff.1 hx).1
 unfold fA
 have h1:(bif (decide (x.Time.From≥x.Time.To))then some true else bif (decide ((k:Int) > 0))then (idx t (w64 ((k:Int) - 1))).bind fun y_44=>bif (x.Time.From != y_44.Time.To)then some true else (idx t (w64 ((k:Int) - 1))).bind fun y_47=>some (sEq x.Entry y_47.Entry)else some false)=some false:=by
  rw [decide_eq_false (by omega),cond_false]
  cases k with
  | zero=>rw [decide_eq_false (by omega),cond_false]
  | succ j =>
   have hj:t[j]? = some t[j]:=List.getElem?_eq_getElem (by omega)
   obtain ⟨q1,q2⟩:=i6 j t[j] rfl hj
   rw [decide_eq_true (by omega),cond_true,bO (by omega),show (((j + 1:Nat):Int) - 1)=(j:Int) by omega,lh,hj,Option.bind_some,Option.bind_some,q1,bne_self_eq_false,cond_false]
   cases hq:sEq x.Entry t[j].Entry with
   | false=>rfl
   | true=>exact absurd ((vg _ _).1 hq) q2
 simp only []
 rw [h1,Option.bind_some,cond_false]
 obtain ⟨r,s',r1,r2,r3,r4⟩:=Hy ⟨s.1,s.2⟩ 0 (x.Time.To - x.Time.From - 1) hs (by omega) (by omega) (by omega) (by omega)
 rw [bO (n:=x.Time.To - x.Time.From) (by omega),bO (n:=x.Time.To - x.Time.From - 1) (by omega),r1,Option.bind_some]
 have hat:0≤x.Time.From + r∧x.Time.From + r < 345686400000:=by omega
 have hkey:=i4 (x.Time.From + r) (by omega) (by omega)
 simp only []
 rw [bO (n:=x.Time.From + r) (by omega),On_eq hc hat (hm _ hat.1 hat.2),Option.bind_some,Why_eq hc hat (hm _ hat.1 hat.2),Option.bind_some]
 simp only []
 rw [errs00,Option.bind_some,bne_self_eq_false,cond_false,hkey,zK,(vg _ _).2 rfl]
 simp only [Bool.not_true,cond_false]
 have hn:=key_ne' hc (x.Time.From + r)
 rw [hkey]at hn
 rw [hn,beq_self_eq_true]
 have hkk:kZ xs p (x.Time.From + r)=x.Entry:=hkey
 unfold kZ at hkk
 cases hcs:mq xs p (x.Time.From + r)with
 | nil =>
  simp only [List.isEmpty_nil,Bool.not_true,Bool.not_false,cond_false,List.map_nil,List.length_nil]
  exact⟨_,rfl,r4⟩
 | cons c l =>
  rw [hcs]at hkk
  simp only [List.isEmpty_cons,Bool.not_true,Bool.not_false,cond_false,cond_true,List.map_cons]
  rw [decide_eq_true (by simp only [List.length_cons]; omega)]
  have e0:idx (c.1.Key::l.map fun x=>x.1.Key) 0=some c.1.Key:=rfl
  rw [e0]
  simp only [Option.bind_some,beq_self_eq_true,Bool.not_true,cond_false]
  have hkk':c.1.Key=x.Entry:=hkk
  rw [hkk',zK,(vg _ _).2 rfl]
  exact⟨_,rfl,r4⟩
theorem schedulesAgree (l:List Int):jL l=some true:=by
 obtain ⟨xs,s1,a1,a2,a3,a4,a5⟩:=rightE ⟨l,0⟩ (b:=0) ⟨Int.le_refl _,Int.le_refl _⟩ (by decide)
 obtain ⟨p,s2,b1,b2,b3,b4⟩:=rightP s1 a2 (by omega)
 obtain ⟨F,s3,c1,c2,c3⟩:=o5 s2 [0,1,36000000] b2 (by omega) (by simp) (by simp)
 obtain ⟨T,s4,d1,d2,d3⟩:=o5 s3 [86400000,345600000] c3 (by omega) (by simp) (by simp)
 have hF:=sW (lo:=0) (hi:=36000000) c2 rfl
 have hT:=sW (lo:=86400000) (hi:=345600000) d2 rfl
 have hc:=ce_of a4 a3 a5 b4
 have hm:∀ t,0≤t→t < 345686400000→dn xs p t=some 0:=fun t t1 t2=>by
  rw [momentK a4 (by omega) b3]
  unfold faV moF
  rw [a5,b4,Cn (by omega)]; rfl
 obtain ⟨t,e1,e2,e3⟩:=I1 hc (w:=⟨F,T⟩) ⟨by simp only []; omega,by simp only []; omega,by simp only []; omega⟩ (by simp only []; omega)
 have hth:jR xs p ⟨F,T⟩=some (t,0):=by
  unfold jR ko
  have hw:winF ⟨F,T⟩=0:=by
   unfold winF
   simp only []
   rw [Cn (by omega),decide_eq_false (by omega),bO (by omega),decide_eq_false (by omega)]; rfl
  rw [entsK a4 (by omega),a5,Option.bind_some,bne_self_eq_false,cond_false,playK p b3,b4,Option.bind_some,bne_self_eq_false,cond_false,winK,hw,Option.bind_some,Option.bind_some,bne_self_eq_false,cond_false,e1]; rfl
 obtain ⟨x,r,ht⟩:=Lt (by simp only []; omega) e2
 have h0:t[0]? = some x:=by rw [ht]; rfl
 have hlen:0 < t.length:=by rw [ht]; simp
 have hl:t[t.length - 1]? = some t[t.length - 1]:=List.getElem?_eq_getElem (by omega)
 have q1:=(xG e2 0 x h0).2.1 rfl
 have q2:=(xG e2 _ _ hl).2.2.2 (by omega)
 obtain ⟨u,u1,u2⟩:=uR (body:=fun k x s=>fA (t,0) (xs,s1) (p,s2) k x s) (fun k s=>Ok ⟨s.1,s.2⟩ (1000 + k)) (xs:=t) (s:=(s4.L,s4.f_at)) (by omega) (fun k x s hx hs=>by
  have hk:k < t.length:=(List.getElem?_eq_some_iff.1 hx).1
  obtain ⟨s',w1,w2⟩:=Hg hc hm hF.1 (by simp only []; omega) e2 (by omega) 0 s1 s2 k x hx s hs (by omega)
  exact⟨s',w1,w2.mono (by omega)⟩) (d3.mono (by omega))
 unfold jL
 rw [a1,Option.bind_some]
 simp only []
 rw [b1,Option.bind_some]
 simp only []
 rw [c1,Option.bind_some]
 simp only []
 rw [d1,Option.bind_some]
 simp only []
 rw [hth,Option.bind_some]
 simp only [bne_self_eq_false,cond_false]
 have hz:((t.length:Int) == 0)=false:=by rw [beq_eq_false_iff_ne]; omega
 have e0:idx t 0=some x:=by rw [show (0:Int)=((0:Nat):Int) from rfl,lh,h0]
 have el:idx t (w64 ((t.length:Int) - 1))=some t[t.length - 1]:=by rw [bO (by omega),show (t.length:Int) - 1=((t.length - 1:Nat):Int) by omega,lh,hl]
 rw [hz,cond_false,e0,Option.bind_some,q1]
 simp only [bne_self_eq_false,cond_false]
 rw [el,Option.bind_some,q2]
 simp only [bne_self_eq_false,Option.bind_some,cond_false]
 rw [u1]
 simp only [Option.bind_some,thenC,MQ]
end Go.Proofs.YtjhcehhmdmbleaaGreatDoor.Law

