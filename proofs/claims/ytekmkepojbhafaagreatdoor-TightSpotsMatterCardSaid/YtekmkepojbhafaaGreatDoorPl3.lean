/-
  THE PLAIN LAW (part 3).
-/
import Derived.Test.YtekmkepojbhafaaGreatDoorPl2
import Derived.Test.YtekmkepojbhafaaGreatDoorDefs
open Go Go.Eng
namespace Go.Proofs.YtekmkepojbhafaaGreatDoor.Law
set_option linter.unusedVariables false
set_option linter.unusedSimpArgs false
def or0 (a b:Int):Int:=bif a==0 then b else a
theorem Ke (x:List Spot) (c:List Campaign) (hx:∀s∈x,GoodS s) (hc:∀s∈c,H8 s) (h1:x.length<=1000) (h2:c.length<=1000):dN x c=some (or0 (pU x) (xZ c)):=by
  unfold dN or0
  rw [spotsK x hx (by omega),campsK c hc (by omega)]
  simp only [ob_]
  cases h:pU x==0 with
  | true => have : (pU x != 0) = false := by simp [bne, h]
            simp only [this,cond_false,cond_true]
  | false => have : (pU x != 0) = true := by simp [bne, h]
             simp only [this,cond_true,cond_false]
theorem K9 {last:ByteArray} {x:Spot} (h:eT last x=0):tagsF x.Tags=0:=by
  unfold eT at h
  generalize (CO x.Time||out x.Room 1000000)=q at h
  generalize sLe x.Key last=p at h
  generalize nQ x.Key=k at h
  cases k <;> cases p <;> cases q <;> first | (cases h;done) | exact h
theorem Ep:∀(l:List Spot) (last:ByteArray),chk Spot.Key eT last l=0->∀x∈l,tagsF x.Tags=0
  | [],_,_,x,hx=>by simp at hx
  | y::l,last,h,x,hx=>by
    rw [chk]at h
    cases he:eT last y==0 with
    | false=>rw [he]at h;simp only [cond_false]at h;rw [h]at he;cases he
    | true =>
      rw [he]at h
      simp only [cond_true]at h
      rcases List.mem_cons.1 hx with rfl|hx
      · exact K9 (eq_of_beq he)
      · exact Ep l _ h x hx
theorem LV {l:List Spot} (h:pU l=0):∀x∈l,tagsF x.Tags=0:=by
  unfold pU at h
  by_cases hl:l.length>60
  · rw [decide_eq_true hl]at h;cases h
  · rw [decide_eq_false hl]at h;exact Ep l _ h
end Go.Proofs.YtekmkepojbhafaaGreatDoor.Law

open Go Go.Eng Go.Flow
namespace Go.Proofs.YtekmkepojbhafaaGreatDoor.Law
set_option linter.unusedVariables false
set_option linter.unusedSimpArgs false
set_option linter.unusedSectionVars false
theorem Mi {l:List Campaign} (hl:∀c∈l,CampR c) (hm:l.length<=1000) (spots:List Spot):EJ (λ_ (c:Campaign)=>c.Goal) 0 l=(bR spots l).goals/\0<=(bR spots l).goals/\(bR spots l).goals<=10000000000:=by
 have hin:=JX (λ_ (c:Campaign)=>c.Goal) 10000000 l 0 (λj x hx=>⟨(hl x hx).1,(hl x hx).2.1⟩)
 have hS:EJ (λ_ (c:Campaign)=>c.Goal) 0 l=(bR spots l).goals:=by
  unfold Net.goals
  exact Nk _ _ l 0 (λi x hx=>by show x.Goal=_;rw [(EU hx).1])
 rw [hS]at hin
 refine⟨hS,hin.1,?_⟩
 have:=hin.2
 have h2:(l.length:Int)<=1000:=by omega
 omega
theorem Nt (N:Net) (hr:N.Right):N.cutV (λ_=>false)<=N.goals:=by
 unfold Net.cutV Net.goals
 have h1:S N.m (λk=>bif (λ_=>false) k then N.room k else 0)=0:=Net.S_all0 (λk _=>rfl)
 have h2:S N.q (λi=>min (N.goal i) (N.ways (λ_=>false) i))<=S N.q N.goal:=S_le (λi _=>by omega)
 omega
theorem Hq {N:Net} (hr:N.Right) {r:Int} (h:fD N r):r<=N.goals/\(r=N.goals↔∀B,N.goals<=N.cutV B):=by
 obtain ⟨h1,B,h2⟩:=h
 have h3:=Nt N hr
 have h4:=h1 (λ_=>false)
 refine⟨by omega,λe B=>by rw [<- e];exact h1 B,λh => ?_⟩
 have:=h B
 omega
theorem Ms {n hi:Int} (h:out n hi=false):0<=n/\n<=hi:=by
 unfold out at h
 simp only [Bool.or_eq_false_iff,decide_eq_false_iff_not]at h
 omega
theorem FV {last:ByteArray} {x:Spot} (h:eT last x=0):0<=x.Room/\x.Room<=1000000:=by
 unfold eT at h
 cases hk:nQ x.Key <;> cases hl:sLe x.Key last <;> cases ho:out x.Room 1000000 <;> cases hb:CO x.Time <;> rw [hk,hl,ho,hb]at h <;> first | (cases h;done) | exact Ms ho
theorem G8:∀(l:List Spot) (last:ByteArray),chk Spot.Key eT last l=0->∀x∈l,0<=x.Room/\x.Room<=1000000
 | [],_,_,x,hx=>by simp at hx
 | y::l,last,h,x,hx=>by
  rw [chk]at h
  cases he:eT last y==0 with
  | false=>rw [he]at h;simp only [cond_false]at h;rw [h]at he;cases he
  | true =>
   rw [he]at h
   simp only [cond_true]at h
   rcases List.mem_cons.1 hx with rfl|hx
   ·exact FV (eq_of_beq he)
   ·exact G8 l _ h x hx
theorem Iy {last:ByteArray} {c:Campaign} (h:jd last c=0):0<=c.Goal/\c.Goal<=1000000/\0<=c.Most/\c.Most<=1000000:=by
 unfold jd at h
 cases hk:(!nQ c.Key||(decide (c.Class.size≠0) && !nQ c.Class)) <;> rw [hk]at h <;> simp only [cond_true,cond_false]at h
 ·cases hl:sLe c.Key last <;> rw [hl]at h <;> simp only [cond_true,cond_false]at h
  ·cases ho:(CO c.Time||(out c.Goal 1000000||(out c.Most 1000000||out c.Cents 1000000000))) <;> rw [ho]at h <;> simp only [cond_true,cond_false]at h
   ·simp only [Bool.or_eq_false_iff]at ho
    have h1:=Ms ho.2.1
    have h2:=Ms ho.2.2.1
    omega
   ·cases h
  ·cases h
 ·cases h
theorem DL:∀(l:List Campaign) (last:ByteArray),chk Campaign.Key jd last l=0->∀x∈l,0<=x.Goal/\x.Goal<=1000000/\0<=x.Most/\x.Most<=1000000
 | [],_,_,x,hx=>by simp at hx
 | y::l,last,h,x,hx=>by
  rw [chk]at h
  cases he:jd last y==0 with
  | false=>rw [he]at h;simp only [cond_false]at h;rw [h]at he;cases he
  | true =>
   rw [he]at h
   simp only [cond_true]at h
   rcases List.mem_cons.1 hx with rfl|hx
   ·exact Iy (eq_of_beq he)
   ·exact DL l _ h x hx
theorem F6 {x:List Spot} {c:List Campaign} (hx:∀s∈x,GoodS s) (hc:∀s∈c,H8 s) (h1:x.length<=30) (h2:c.length<=30) (hs:pU x=0) (hcf:xZ c=0):Office x c:=by
 have e1:chk Spot.Key eT lM x=0:=by
  unfold pU at hs
  rw [decide_eq_false (by omega)]at hs;exact hs
 have e2:chk Campaign.Key jd lM c=0:=by
  unfold xZ at hcf
  rw [decide_eq_false (by omega)]at hcf;exact hcf
 refine⟨LV hs,λs hm => ?_,λo hm => ?_,h1,by omega⟩
 ·have:=G8 x _ e1 s hm
  exact⟨this.1,by omega,by have:=(hx s hm).2.1;omega⟩
 ·have:=DL c _ e2 o hm
  exact⟨this.1,by omega,this.2.2.1,by omega,by have:=(hc o hm).2.2.1;omega⟩
end Go.Proofs.YtekmkepojbhafaaGreatDoor.Law

open Go Go.Eng Go.Flow
namespace Go.Proofs.YtekmkepojbhafaaGreatDoor.Law
set_option linter.unusedVariables false
set_option linter.unusedSimpArgs false
set_option linter.unusedSectionVars false
theorem ED {α β:Type} {f:α->β} {ks:List β} {k:Nat} {x:β} {l:List α} (hx:ks[k]? = some x) (h:(l.map f).Sublist (ks.take k)):(l.map f).Sublist (ks.take (k+1))/\∀c,f c=x->((l++[c]).map f).Sublist (ks.take (k+1)):=by
 have e:ks.take (k+1)=ks.take k++[x]:=by
  rw [List.take_add_one,hx];rfl
 rw [e]
 refine⟨h.trans (List.sublist_append_left _ _),λc hc => ?_⟩
 rw [List.map_append]
 refine h.append ?_
 rw [List.map_cons,hc]
 exact List.Sublist.refl _
theorem ltl {a b:ByteArray} (h:sLt a b=true):lt a b:=(Bf a b).1 h
theorem H7 {L:Nat->ByteArray->(List ByteArray×List Int×Int)->Option (Ctl (List ByteArray×List Int×Int) Unit)} {n:Int} (hn:1<=n) (hn2:n<=1000)
  (hL:∀k x s,L k x s=(fK (⟨s.2.1,s.2.2⟩:Stream) n).bind λr=>(bif r.1 then (kw s.1 ([x]:List ByteArray)).bind λa=>some a else some s.1).bind λv=>some (.go (v,r.2.L,r.2.f_at)))
  (s:Stream) {b:Int} (hs:Ok s b) (hb:b<=900000):∃t s',forL ([(⟨#[99,105,116,121]⟩:ByteArray),(⟨#[109,97,108,108]⟩:ByteArray)]:List ByteArray) (([]:List ByteArray),s.L,s.f_at) (λk x s=>L k x s)=some (.go (t,s'.L,s'.f_at))/\tagsF t=0/\t.length<=20/\(∀x∈t,qc x)/\Ok s' (b+2):=by
 obtain ⟨c,s1,h1,h2⟩:=Bn s n hs (by omega) hn hn2
 obtain ⟨d,s2,k1,k2⟩:=Bn s1 n h2 (by omega) hn hn2
 have e1:(⟨s.L,s.f_at⟩:Stream)=s:=rfl
 have e2:(⟨s1.L,s1.f_at⟩:Stream)=s1:=rfl
 rw [tV (by simp)]
 cases c <;> cases d <;> simp only [forR,hL,e1,h1,ob_,cond_true,cond_false,wT [] [(⟨#[99,105,116,121]⟩:ByteArray)] (by simp),wT [] [(⟨#[109,97,108,108]⟩:ByteArray)] (by simp),List.nil_append,e2,k1,wT [(⟨#[99,105,116,121]⟩:ByteArray)] [(⟨#[109,97,108,108]⟩:ByteArray)] (by simp)]
 ·exact⟨[],s2,rfl,by kernel_rfl,by decide,λx hx=>(by cases hx),k2.mono (by omega)⟩
 ·exact⟨[⟨#[109,97,108,108]⟩],s2,rfl,by kernel_rfl,by decide,λx hx=>(by rw [List.mem_singleton.1 hx];exact qA rfl),k2.mono (by omega)⟩
 ·exact⟨[⟨#[99,105,116,121]⟩],s2,rfl,by kernel_rfl,by decide,λx hx=>(by rw [List.mem_singleton.1 hx];exact qA rfl),k2.mono (by omega)⟩
 ·exact⟨[⟨#[99,105,116,121]⟩,⟨#[109,97,108,108]⟩],s2,rfl,by kernel_rfl,by decide,λx hx=>(by
   simp only [List.mem_cons,List.not_mem_nil,or_false]at hx
   rcases hx with rfl|rfl <;> exact qA rfl),k2.mono (by omega)⟩
def zb:List ByteArray:=[(⟨#[99,97]⟩:ByteArray),(⟨#[99,98]⟩:ByteArray),(⟨#[99,99]⟩:ByteArray),(⟨#[99,100]⟩:ByteArray)]
theorem Ja:zb.Pairwise lt:=by
 unfold zb
 simp only [List.pairwise_cons,List.mem_cons,List.not_mem_nil,or_false,forall_eq_or_imp,forall_eq]
 refine⟨⟨ltl (by kernel_rfl),ltl (by kernel_rfl),ltl (by kernel_rfl)⟩,⟨ltl (by kernel_rfl),ltl (by kernel_rfl)⟩,ltl (by kernel_rfl),λa h=>(by cases h),List.Pairwise.nil⟩
theorem LB:∀k∈zb,nQ k=true/\qc k/\sLe k lM=false:=by
 intro k hk
 simp only [zb,List.mem_cons,List.not_mem_nil,or_false]at hk
 rcases hk with rfl|rfl|rfl|rfl <;> exact⟨by kernel_rfl,qA rfl,by kernel_rfl⟩
def vR:List ByteArray:=[(⟨#[115,97]⟩:ByteArray),(⟨#[115,98]⟩:ByteArray),(⟨#[115,99]⟩:ByteArray),(⟨#[115,100]⟩:ByteArray),(⟨#[115,101]⟩:ByteArray)]
theorem Jv:vR.Pairwise lt:=by
 unfold vR
 simp only [List.pairwise_cons,List.mem_cons,List.not_mem_nil,or_false,forall_eq_or_imp,forall_eq]
 refine⟨⟨ltl (by kernel_rfl),ltl (by kernel_rfl),ltl (by kernel_rfl),ltl (by kernel_rfl)⟩,⟨ltl (by kernel_rfl),ltl (by kernel_rfl),ltl (by kernel_rfl)⟩,⟨ltl (by kernel_rfl),ltl (by kernel_rfl)⟩,ltl (by kernel_rfl),λa h=>(by cases h),List.Pairwise.nil⟩
theorem KR:∀k∈vR,nQ k=true/\qc k/\sLe k lM=false:=by
 intro k hk
 simp only [vR,List.mem_cons,List.not_mem_nil,or_false]at hk
 rcases hk with rfl|rfl|rfl|rfl|rfl <;> exact⟨by kernel_rfl,qA rfl,by kernel_rfl⟩
theorem F3 {c:Spot} {last:ByteArray} (h:eT lM c=0) (hl:sLe c.Key last=false):eT last c=0:=by
 unfold eT at *
 rw [hl]
 cases h1 : !nQ c.Key with
 | true=>rw [h1]at h;cases h
 | false =>
  rw [h1,cond_false]at h
  cases h2:sLe c.Key lM with
  | true=>rw [h2]at h;cases h
  | false=>rw [h2]at h;exact h
theorem GA {c:Campaign} {last:ByteArray} (h:jd lM c=0) (hl:sLe c.Key last=false):jd last c=0:=by
 unfold jd at *
 rw [hl]
 cases h1:(!nQ c.Key||(decide (c.Class.size≠0) && !nQ c.Class))with
 | true=>rw [h1]at h;cases h
 | false =>
  rw [h1,cond_false]at h
  cases h2:sLe c.Key lM with
  | true=>rw [h2]at h;cases h
  | false=>rw [h2]at h;exact h
theorem Jr {α:Type} (key:α->ByteArray) (stp:ByteArray->α->Int) (hn:∀c last,stp lM c=0->sLe (key c) last=false->stp last c=0):∀(l:List α) (last:ByteArray),(∀c∈l,stp lM c=0)->(l.map key).Pairwise lt->(∀c∈l,sLe (key c) last=false)->chk key stp last l=0
 | [],_,_,_,_=>rfl
 | c::l,last,h,hp,hl=>by
  have h0:=hn c last (h c (by simp)) (hl c (by simp))
  rw [List.map_cons,List.pairwise_cons]at hp
  rw [chk,h0]
  show (bif (0:Int)==0 then _ else _)=_
  rw [beq_self_eq_true,cond_true]
  refine Jr key stp hn l (key c) (λx hx=>h x (by simp [hx])) hp.2 (λx hx => ?_)
  rw [Bool.eq_false_iff]
  intro he
  exact (E9 _ _).1 he (hp.1 (key x) (List.mem_map.2 ⟨x,hx,rfl⟩))
theorem GH {c:Spot} (h:eT lM c=0):sLe c.Key lM=false:=by
 unfold eT at h
 cases h1 : !nQ c.Key with
 | true=>rw [h1]at h;cases h
 | false =>
  rw [h1,cond_false]at h
  cases h2:sLe c.Key lM with
  | true=>rw [h2]at h;cases h
  | false=>rfl
theorem Gu {c:Campaign} (h:jd lM c=0):sLe c.Key lM=false:=by
 unfold jd at h
 cases h1:(!nQ c.Key||(decide (c.Class.size≠0) && !nQ c.Class))with
 | true=>rw [h1]at h;cases h
 | false =>
  rw [h1,cond_false]at h
  cases h2:sLe c.Key lM with
  | true=>rw [h2]at h;cases h
  | false=>rfl
theorem De {xs:List Spot} (hl:xs.length<=60) (h:∀x∈xs,eT lM x=0) (hp:(xs.map Spot.Key).Pairwise lt):pU xs=0:=by
 unfold pU
 rw [decide_eq_false (by omega),cond_false]
 exact Jr Spot.Key eT (λc last=>F3) xs lM h hp (λc hc=>GH (h c hc))
theorem Jf {xs:List Campaign} (hl:xs.length<=30) (h:∀x∈xs,jd lM x=0) (hp:(xs.map Campaign.Key).Pairwise lt):xZ xs=0:=by
 unfold xZ
 rw [decide_eq_false (by omega),cond_false]
 exact Jr Campaign.Key jd (λc last=>GA) xs lM h hp (λc hc=>Gu (h c hc))
theorem GL (s:Stream) {b:Int} (hs:Ok s b) (hb:b<=800000):∃xs s',gD s=some (xs,s')/\Ok s' (b+100)/\xs.length<=5/\(∀x∈xs,GoodS x)/\(∀x∈xs,eT lM x=0)/\(xs.map Spot.Key).Pairwise lt/\∀x∈xs,0<=x.Time.From/\x.Time.From<x.Time.To/\x.Time.To<=60/\0<=x.Room/\x.Room<=5:=by
 unfold gD
 have hk1:([(⟨#[115,97]⟩:ByteArray),(⟨#[115,98]⟩:ByteArray),(⟨#[115,99]⟩:ByteArray),(⟨#[115,100]⟩:ByteArray),(⟨#[115,101]⟩:ByteArray)]:List ByteArray)=vR:=rfl
 rw [hk1]
 obtain ⟨s',h1,h2,h3,h4,h5,h6⟩:=rA (body:=λk x s=>fE k x s) (λk s=>Ok ⟨s.2.1,s.2.2⟩ (b+15*k)/\(s.1.map Spot.Key).Sublist (vR.take k)/\(∀x∈s.1,GoodS x)/\(∀x∈s.1,eT lM x=0)/\∀x∈s.1,0<=x.Time.From/\x.Time.From<x.Time.To/\x.Time.To<=60/\0<=x.Room/\x.Room<=5)
  (xs:=vR) (s:=(([]:List Spot),s.L,s.f_at)) (by decide) (λk x t hx ⟨i1,i2,i3,i4,i5⟩=>by
   have hkl:k<5:=by
    rcases Nat.lt_or_ge k 5 with g|g
    ·exact g
    ·rw [List.getElem?_eq_none (by exact g)]at hx;cases hx
   obtain ⟨n1,n2,n3⟩:=KR x (List.mem_of_getElem? hx)
   obtain ⟨g1,g2⟩:=ED hx i2
   have hlen:t.1.length<=5:=by
    have:=i2.length_le
    rw [List.length_map,List.length_take]at this
    omega
   obtain ⟨c,s1,k1,k2⟩:=Bn _ 4 i1 (by omega) (by decide) (by decide)
   simp only [fE,k1,ob_]
   cases c with
   | true=>exact⟨_,rfl,k2.mono (by omega),g1,i3,i4,i5⟩
   | false =>
    obtain ⟨p1,s2,m1,q1,n1'⟩:=uw s1 [5,10,10] k2 (by omega) (by simp) (by simp)
    obtain ⟨p2,s3,m2,q2,n2'⟩:=uw s2 [0,1,2,3,5] n1' (by omega) (by simp) (by simp)
    obtain ⟨tg,s4,k7,k8,k9,k10,k11⟩:=H7 (L:=gK) (n:=2) (by decide) (by decide) (λ_ _ _=>rfl) s3 n2' (by omega)
    simp only [List.mem_cons,List.not_mem_nil,or_false]at q1 q2
    have e1:w64 (10*(k:Int))=10*k:=iU (by omega)
    have e2:w64 (10*(k:Int)+p1)=10*k+p1:=iU (by omega)
    simp only [cond_false,m1,m2,k7,ob_,q9,e1,e2,wT t.1 _ (show t.1.length+[_].length<=_ by simp;omega)]
    refine⟨_,rfl,k11.mono (by omega),g2 _ rfl,λy hy => ?_,λy hy => ?_,λy hy => ?_⟩
    ·rcases List.mem_append.1 hy with hy|hy
     ·exact i3 y hy
     ·rw [List.mem_singleton.1 hy]
      exact⟨n2,k9,k10⟩
    ·rcases List.mem_append.1 hy with hy|hy
     ·exact i4 y hy
     ·rw [List.mem_singleton.1 hy]
      unfold eT CO out
      simp only [n1,n3,k8,Bool.not_true,cond_false]
      rw [decide_eq_false (show ¬10*(k:Int)<0 by omega),decide_eq_false (show ¬10*(k:Int)>=10*k+p1 by omega),decide_eq_false (show ¬10*(k:Int)+p1>345686400000 by omega),decide_eq_false (show ¬p2<0 by omega),decide_eq_false (show ¬p2>1000000 by omega)]
      rfl
    ·rcases List.mem_append.1 hy with hy|hy
     ·exact i5 y hy
     ·rw [List.mem_singleton.1 hy]
      show 0<=10*(k:Int)/\10*(k:Int)<10*k+p1/\10*(k:Int)+p1<=60/\0<=p2/\p2<=5
      omega) ⟨by simpa using hs,by simp,by simp,by simp,by simp⟩
 rw [h1]
 have hl:s'.1.length<=5:=by
  have:=h3.length_le
  rw [List.length_map,List.length_take]at this
  have e:vR.length=5:=rfl
  omega
 refine⟨s'.1,⟨s'.2.1,s'.2.2⟩,rfl,h2.mono (by show b+15*((5:Nat):Int)<=b+100;omega),hl,h4,h5,?_,h6⟩
 rw [show vR.take vR.length=vR from rfl]at h3
 exact Jv.sublist h3
theorem GJ (m:Nat) (hm:m=3\/m=4) (s:Stream) {b:Int} (hs:Ok s b) (hb:b<=800000):∃xs s',dH s (m:Int)=some (xs,s')/\Ok s' (b+100)/\xs.length<=m/\(∀x∈xs,H8 x)/\(∀x∈xs,jd lM x=0)/\(xs.map Campaign.Key).Sublist zb/\∀x∈xs,x.Time.To<=100/\0<=x.Goal/\x.Goal<=6/\0<=x.Most/\x.Most<=9:=by
 unfold dH
 have hk1:Jw ([(⟨#[99,97]⟩:ByteArray),(⟨#[99,98]⟩:ByteArray),(⟨#[99,99]⟩:ByteArray),(⟨#[99,100]⟩:ByteArray)]:List ByteArray) 0 (m:Int)=some (zb.take m):=by
  rcases hm with rfl|rfl <;> rfl
 have hml:(zb.take m).length=m:=by rcases hm with rfl | rfl <;> rfl
 simp only [hk1,ob_]
 obtain ⟨s',h1,h2,h3,h4,h5,h6⟩:=rA (body:=λk x s=>dM k x s) (λk s=>Ok ⟨s.2.1,s.2.2⟩ (b+20*k)/\(s.1.map Campaign.Key).Sublist ((zb.take m).take k)/\(∀x∈s.1,H8 x)/\(∀x∈s.1,jd lM x=0)/\∀x∈s.1,x.Time.To<=100/\0<=x.Goal/\x.Goal<=6/\0<=x.Most/\x.Most<=9)
  (xs:=zb.take m) (s:=(([]:List Campaign),s.L,s.f_at)) (by rw [hml];omega) (λk x t hx ⟨i1,i2,i3,i4,i5⟩=>by
   have hkl:k<m:=by
    have:=(List.getElem?_eq_some_iff.1 hx).1
    omega
   obtain ⟨n1,n2,n3⟩:=LB x (List.mem_of_mem_take (List.mem_of_getElem? hx))
   obtain ⟨g1,g2⟩:=ED hx i2
   have hlen:t.1.length<=4:=by
    have:=i2.length_le
    rw [List.length_map,List.length_take]at this
    omega
   obtain ⟨c,s1,k1,k2⟩:=Bn _ 5 i1 (by omega) (by decide) (by decide)
   simp only [dM,k1,ob_]
   cases c with
   | true=>exact⟨_,rfl,k2.mono (by omega),g1,i3,i4,i5⟩
   | false =>
    obtain ⟨cl,s2,k3,kc,k4⟩:=some_ok s1 [(⟨#[]⟩:ByteArray),(⟨#[]⟩:ByteArray),(⟨#[99,97,114,115]⟩:ByteArray),(⟨#[102,111,111,100]⟩:ByteArray)] k2 (by omega) (by simp) (by simp)
    obtain ⟨p1,s3,m1,q1,n1'⟩:=uw s2 [0,0,10,20] k4 (by omega) (by simp) (by simp)
    obtain ⟨p2,s4,m2,q2,n2'⟩:=uw s3 [30,50,60,100] n1' (by omega) (by simp) (by simp)
    obtain ⟨p3,s5,m3,q3,n3'⟩:=uw s4 [0,1,2,3,4,6] n2' (by omega) (by simp) (by simp)
    obtain ⟨p4,s6,m4,q4,n4'⟩:=uw s5 [0,1,2,3,9] n3' (by omega) (by simp) (by simp)
    obtain ⟨p5,s7,m5,q5,n5'⟩:=uw s6 [0,500,1000,1500] n4' (by omega) (by simp) (by simp)
    obtain ⟨tg,s8,k7,k8,k9,k10,k11⟩:=H7 (L:=fH) (n:=4) (by decide) (by decide) (λ_ _ _=>rfl) s7 n5' (by omega)
    simp only [List.mem_cons,List.not_mem_nil,or_false]at q1 q2 q3 q4 q5
    simp only [cond_false,k3,m1,m2,m3,m4,m5,k7,ob_,q9,wT t.1 _ (show t.1.length+[_].length<=_ by simp;omega)]
    have hcl:qc cl/\(decide (cl.size≠0) && !nQ cl)=false:=by
     simp only [List.mem_cons,List.not_mem_nil,or_false]at kc
     rcases kc with rfl|rfl|rfl|rfl <;> exact⟨qA rfl,by kernel_rfl⟩
    refine⟨_,rfl,k11.mono (by omega),g2 _ rfl,λy hy => ?_,λy hy => ?_,λy hy => ?_⟩
    ·rcases List.mem_append.1 hy with hy|hy
     ·exact i3 y hy
     ·rw [List.mem_singleton.1 hy]
      exact⟨n2,hcl.1,k9,k10⟩
    ·rcases List.mem_append.1 hy with hy|hy
     ·exact i4 y hy
     ·rw [List.mem_singleton.1 hy]
      unfold jd CO out
      simp only [n1,hcl.2,n3,k8,Bool.not_true,Bool.or_false,cond_false]
      rw [decide_eq_false (show ¬p1<0 by omega),decide_eq_false (show ¬p1>=p2 by omega),decide_eq_false (show ¬p2>345686400000 by omega),decide_eq_false (show ¬p3<0 by omega),decide_eq_false (show ¬p3>1000000 by omega),decide_eq_false (show ¬p4<0 by omega),decide_eq_false (show ¬p4>1000000 by omega),decide_eq_false (show ¬p5<0 by omega),decide_eq_false (show ¬p5>1000000000 by omega)]
      rfl
    ·rcases List.mem_append.1 hy with hy|hy
     ·exact i5 y hy
     ·rw [List.mem_singleton.1 hy]
      show p2<=100/\0<=p3/\p3<=6/\0<=p4/\p4<=9
      omega) ⟨by simpa using hs,by simp,by simp,by simp,by simp⟩
 rw [h1]
 have hl:s'.1.length<=m:=by
  have:=h3.length_le
  rw [List.length_map,List.length_take,hml]at this
  omega
 refine⟨s'.1,⟨s'.2.1,s'.2.2⟩,rfl,h2.mono (by rw [hml];omega),hl,h4,h5,?_,h6⟩
 exact (h3.trans (List.take_sublist _ _)).trans (List.take_sublist _ _)
end Go.Proofs.YtekmkepojbhafaaGreatDoor.Law

open Go Go.Eng Go.Flow
namespace Go.Proofs.YtekmkepojbhafaaGreatDoor.Law
set_option linter.unusedVariables false
set_option linter.unusedSimpArgs false
def bump (N:Net) (k:Nat) (d:Int):Net := { N with room:=λj=>if j=k then N.room j+d else N.room j }
theorem BH (N:Net) {k:Nat} (d:Int) (hk:k<N.m) (B:Nat->Bool):(bump N k d).cutV B=N.cutV B+bif B k then d else 0:=by
 have e1:(bump N k d).cutV B=S N.m (λj=>bif B j then (if j=k then N.room j+d else N.room j)else 0)+S N.q (λi=>min (N.goal i) (N.ways B i)):=rfl
 have e2:N.cutV B=S N.m (λj=>bif B j then N.room j else 0)+S N.q (λi=>min (N.goal i) (N.ways B i)):=rfl
 have e3:=Hg (f:=λj=>bif B j then N.room j else 0) (g:=λj=>bif B j then (if j=k then N.room j+d else N.room j)else 0) hk (λj hj hjk=>by
  show (bif B j then (if j=k then N.room j+d else N.room j)else 0)=bif B j then N.room j else 0
  rw [if_neg hjk])
 have e4:((λj=>bif B j then (if j=k then N.room j+d else N.room j)else 0) k:Int)-(λj=>bif B j then N.room j else 0) k=bif B k then d else 0:=by
  show (bif B k then (if k=k then N.room k+d else N.room k)else 0)-(bif B k then N.room k else 0)=_
  rw [if_pos rfl]
  cases B k
  ·rfl
  ·show N.room k+d-N.room k=d;omega
 rw [e1,e2,e3,e4];omega
theorem tight {N:Net} {k:Nat} (hk:k<N.m) {r r1 r2:Int} (h:fD N r) (h1:fD (bump N k 1) r1) (h2:fD (bump N k (-1)) r2):r<=r1/\r1<=r+1/\(r<r1->r2<r):=by
 obtain ⟨a,B,b⟩:=h
 obtain ⟨a1,B1,b1⟩:=h1
 have e1:=a1 B
 have e2:=h2.1 B
 have e3:=a B1
 rw [BH N 1 hk]at e1 b1
 rw [BH N (-1) hk]at e2
 refine⟨?_,?_,λhlt => ?_⟩
 ·cases hb:B1 k <;> rw [hb]at b1 <;> simp only [cond_true,cond_false]at b1 <;> omega
 ·cases hb:B k <;> rw [hb]at e1 <;> simp only [cond_true,cond_false]at e1 <;> omega
 ·cases hb:B k <;> rw [hb]at e1 e2 <;> simp only [cond_true,cond_false]at e1 e2 <;> omega
end Go.Proofs.YtekmkepojbhafaaGreatDoor.Law

open Go Go.Eng
namespace Go.Proofs.YtekmkepojbhafaaGreatDoor.Law
set_option linter.unusedVariables false
set_option linter.unusedSimpArgs false
def o8 {σ ρ:Type} (s:σ) (body:σ->Option (Ctl σ ρ)):Option (Ctl σ ρ):=iterN body 300 s
def Le {α:Type} (a b:Option α):Prop:=∀r,a=some r->b=some r
theorem Le.refl {α:Type} (a:Option α):Le a a:=λ_ h=>h
theorem Le.bind {α β:Type} {a b:Option α} {f g:α->Option β} (h:Le a b) (k:∀x,Le (f x) (g x)):Le (a.bind f) (b.bind g):=λr e=>by
 obtain ⟨x,h1,h2⟩:=Option.bind_eq_some_iff.1 e
 rw [h x h1];exact k x r h2
theorem Le.cond {α:Type} {a b c d:Option α} {t:Bool} (h:Le a c) (k:Le b d):Le (bif t then a else b) (bif t then c else d):=by
 cases t
 ·exact k
 ·exact h
theorem Le.thenC {σ ρ τ:Type} {o:Ctl σ ρ} {f f':σ->Option τ} {g g':ρ->Option τ} (h:∀x,Le (f x) (f' x)) (k:∀x,Le (g x) (g' x)):Le (Go.Eng.thenC o f g) (Go.Eng.thenC o f' g'):=by
 cases o
 ·exact h _
 ·exact Le.refl _
 ·exact k _
theorem Le.forR {α σ ρ:Type} {b b':Nat->α->σ->Option (Ctl σ ρ)} (h:∀k x s,Le (b k x s) (b' k x s)):∀(xs:List α) (k:Nat) (s:σ),Le (Go.Eng.forR b xs k s) (Go.Eng.forR b' xs k s)
 | [],k,s=>Le.refl _
 | x::xs,k,s=>Le.bind (h k x s) (λc=>by
   cases c with
   | go s'=>exact Le.forR h xs _ _
   | brk s'=>exact Le.refl _
   | ret r=>exact Le.refl _)
theorem Le.forL {α σ ρ:Type} {xs:List α} {s:σ} {b b':Nat->α->σ->Option (Ctl σ ρ)} (h:∀k x s,Le (b k x s) (b' k x s)):Le (Go.Eng.forL xs s b) (Go.Eng.forL xs s b'):=by
 unfold Go.Eng.forL
 split
 ·exact Le.forR h xs 0 s
 ·exact Le.refl _
theorem Le.iterN {σ ρ:Type} {b b':σ->Option (Ctl σ ρ)} (h:∀s,Le (b s) (b' s)):∀(n:Nat) (s:σ),Le (Go.Eng.iterN b n s) (Go.Eng.iterN b' n s)
 | 0,s=>Le.refl _
 | n+1,s=>Le.bind (h s) (λc=>by
   cases c with
   | go s'=>exact Le.iterN h n s'
   | brk s'=>exact Le.refl _
   | ret r=>exact Le.refl _)
theorem Le.loop {σ ρ:Type} {s:σ} {b b':σ->Option (Ctl σ ρ)} (h:∀s,Le (b s) (b' s)):Le (o8 s b) (jq s b'):=λr e=>nX (Le.iterN h _ _ r e)
end Go.Proofs.YtekmkepojbhafaaGreatDoor.Law

open Go Go.Eng
namespace Go.Proofs.YtekmkepojbhafaaGreatDoor.Law
set_option linter.unusedVariables false
set_option linter.unusedSimpArgs false
def KQ (x:Int):List Int->List Int
 | []=>[x]
 | y::l=>bif decide (x<=y)then x::y::l else y::KQ x l
def Cn:List Int->List Int
 | []=>[]
 | x::l=>KQ x (Cn l)
theorem zY (x:Int):∀l,(KQ x l).Perm (x::l)
 | [] => .refl _
 | y::l=>by
  unfold KQ
  cases decide (x<=y)with
  | true=>exact .refl _
  | false=>exact ((zY x l).cons y).trans (List.Perm.swap x y l)
theorem AC:∀l,(Cn l).Perm l
 | [] => .refl _
 | x::l=>(zY x _).trans ((AC l).cons x)
theorem AJ (x:Int):∀l:List Int,l.Pairwise (· <= ·)->(KQ x l).Pairwise (· <= ·)
 | [],_=>List.pairwise_singleton _ _
 | y::l,h=>by
  obtain ⟨h1,h2⟩:=List.pairwise_cons.1 h
  unfold KQ
  by_cases hx:x<=y
  ·rw [decide_eq_true hx,cond_true]
   exact List.pairwise_cons.2 ⟨λz hz=>by
    rcases List.mem_cons.1 hz with rfl|hz
    ·exact hx
    ·exact Int.le_trans hx (h1 z hz),h⟩
  ·rw [decide_eq_false hx,cond_false]
   exact List.pairwise_cons.2 ⟨λz hz=>by
    rcases List.mem_cons.1 ((zY x l).mem_iff.1 hz)with rfl|hz
    ·omega
    ·exact h1 z hz,AJ x l h2⟩
theorem xz:∀l,(Cn l).Pairwise (· <= ·)
 | [] => .nil
 | x::l=>AJ x _ (xz l)
theorem Lp (l:List Int):l.mergeSort (λx y=>decide (x<=y))=Cn l:=by
 refine List.Perm.eq_of_pairwise (le:=(· <= ·)) (λa b _ _ h1 h2=>Int.le_antisymm h1 h2) ?_ (xz l) ((List.mergeSort_perm l _).trans (AC l).symm)
 have:=List.pairwise_mergeSort (le:=λ(x y:Int)=>decide (x<=y)) (λa b c=>by simp;omega) (λa b=>by simp;omega) l
 exact this.imp (by simp)
def MX (l:List Int):Option (List Int):=bif Nat.ble l.length 1000 then some (Cn l)else none
theorem Ma (l:List Int):Le (MX l) (ig l):=λr h=>by
 unfold MX at h
 cases hb:Nat.ble l.length 1000 with
 | false=>rw [hb]at h;cases h
 | true =>
  rw [hb,cond_true]at h
  have:=Nat.le_of_ble_eq_true hb
  unfold ig JP
  rw [if_pos (by omega),Lp];exact h
end Go.Proofs.YtekmkepojbhafaaGreatDoor.Law

open Go Go.Eng
namespace Go.Proofs.YtekmkepojbhafaaGreatDoor.Law
set_option linter.unusedVariables false
set_option linter.unusedSimpArgs false
set_option maxRecDepth 100000
def gz (s_1:(List Int)) (s_8:Int):Option (Ctl (Int) ((List Int))) :=
 bif (decide (s_8<(s_1.length:Int)))then (inR s_8 s_1).bind λ_=>(s_1[(0+(s_8).toNat)]?).bind λe_15=>(inR (w64 (s_8-1)) s_1).bind λ_=>(s_1[(0+((w64 (s_8-1))).toNat)]?).bind λe_18=>bif (e_15==e_18)then (neL s_1).bind λ_=>(AP s_1 s_8 (s_1.length:Int)).bind λ_=>(o8 (s_1,s_8,1) (λs=>fq s_1 s_8 s)).bind λo_31=>thenC o_31 (λs_28=>(AP s_28.1 s_28.2.1 (s_28.1.length:Int)).bind λ_=>(AP (s_28.1.take ((s_28.2.1).toNat)++List.replicate (((s_28.1.length:Int)).toNat-(s_28.2.1).toNat) 0++s_28.1.drop (((s_28.2.1).toNat)+(((s_28.1.length:Int)).toNat-(s_28.2.1).toNat))) 0 s_28.2.1).bind λ_=>some (.ret (cutL (s_28.1.take ((s_28.2.1).toNat)++List.replicate (((s_28.1.length:Int)).toNat-(s_28.2.1).toNat) 0++s_28.1.drop (((s_28.2.1).toNat)+(((s_28.1.length:Int)).toNat-(s_28.2.1).toNat))) 0 ((s_28.2.1).toNat)))) (λ_=>none)else some (.go (w64 (s_8+1)))else some (.brk s_8)
theorem nR (s_1:(List Int)) (s_8:Int):Le (gz s_1 s_8) (dF s_1 s_8):=by
 unfold gz dF
 repeat' (with_reducible first | exact Le.refl _ | refine Le.loop (λ_ => ?_) | refine Le.forL (λ_ _ _ => ?_) | refine Le.thenC (λ_ => ?_) (λ_ => ?_) | refine Le.cond ?_ ?_ | refine Le.bind ?_ (λ_ => ?_))
def iT (s_1:(List Int)):Option ((List Int)) :=
 bif (decide ((s_1.length:Int)<2))then some s_1 else (o8 1 (λs=>gz s_1 s)).bind λo_11=>thenC o_11 (λs_8=>some s_1) (λr=>some r)
theorem pE (s_1:(List Int)):Le (iT s_1) (eD s_1):=by
 unfold iT eD
 repeat' (with_reducible first | exact Le.refl _ | exact nR _ _ | refine Le.loop (λ_ => ?_) | refine Le.forL (λ_ _ _ => ?_) | refine Le.thenC (λ_ => ?_) (λ_ => ?_) | refine Le.cond ?_ ?_ | refine Le.bind ?_ (λ_ => ?_))
def di (b_3:Int) (a_2:Int) (s_10:(List Run)×Int):Option (Ctl ((List Run)×Int) (Unit)) :=
 bif (decide (s_10.2<b_3))then (o8 (s_10.1,s_10.2) (λs=>bS a_2 s)).bind λo_24=>thenC o_24 (λs_21=>some (.go (s_21.1,(w64 (s_10.2+1))))) (λ_=>none)else some (.brk (s_10.1,s_10.2))
theorem jr (b_3:Int) (a_2:Int) (s_10:(List Run)×Int):Le (di b_3 a_2 s_10) (bB b_3 a_2 s_10):=by
 unfold di bB
 repeat' (with_reducible first | exact Le.refl _ | refine Le.loop (λ_ => ?_) | refine Le.forL (λ_ _ _ => ?_) | refine Le.thenC (λ_ => ?_) (λ_ => ?_) | refine Le.cond ?_ ?_ | refine Le.bind ?_ (λ_ => ?_))
def dC (data_1:(List Run)) (a_2:Int) (b_3:Int):Option ((List Run)) :=
 (o8 (data_1,(w64 (a_2+1))) (λs=>di b_3 a_2 s)).bind λo_13=>thenC o_13 (λs_10=>some s_10.1) (λ_=>none)
theorem jM (data_1:(List Run)) (a_2:Int) (b_3:Int):Le (dC data_1 a_2 b_3) (bJ data_1 a_2 b_3):=by
 unfold dC bJ
 repeat' (with_reducible first | exact Le.refl _ | exact jr _ _ _ | refine Le.loop (λ_ => ?_) | refine Le.forL (λ_ _ _ => ?_) | refine Le.thenC (λ_ => ?_) (λ_ => ?_) | refine Le.cond ?_ ?_ | refine Le.bind ?_ (λ_ => ?_))
def dP (b_3:Int) (a_2:Int) (data_1:(List Run)) (limit_4:Int) (s_11:Unit):Option (Ctl (Unit) ((List Run))) :=
 bif (decide ((w64 (b_3-a_2))<=12))then (dC data_1 a_2 b_3).bind λr_17=>(qE r_17 data_1).bind λ_=>some (.ret r_17)else bif (limit_4==0)then none else none
theorem ku (b_3:Int) (a_2:Int) (data_1:(List Run)) (limit_4:Int) (s_11:Unit):Le (dP b_3 a_2 data_1 limit_4 s_11) (bP b_3 a_2 data_1 limit_4 s_11):=by
 unfold dP bP
 repeat' (with_reducible first | exact Le.refl _ | exact jM _ _ _ | refine Le.loop (λ_ => ?_) | refine Le.forL (λ_ _ _ => ?_) | refine Le.thenC (λ_ => ?_) (λ_ => ?_) | refine Le.cond ?_ ?_ | refine Le.bind ?_ (λ_ => ?_))
def eQ (data_1:(List Run)) (a_2:Int) (b_3:Int) (limit_4:Int):Option ((List Run)) :=
 (o8 () (λs=>dP b_3 a_2 data_1 limit_4 s)).bind λo_14=>thenC o_14 (λs_11=>some data_1) (λr=>some r)
theorem kQ (data_1:(List Run)) (a_2:Int) (b_3:Int) (limit_4:Int):Le (eQ data_1 a_2 b_3 limit_4) (bW data_1 a_2 b_3 limit_4):=by
 unfold eQ bW
 repeat' (with_reducible first | exact Le.refl _ | exact ku _ _ _ _ _ | refine Le.loop (λ_ => ?_) | refine Le.forL (λ_ _ _ => ?_) | refine Le.thenC (λ_ => ?_) (λ_ => ?_) | refine Le.cond ?_ ?_ | refine Le.bind ?_ (λ_ => ?_))
def dE (x_1:(List Run)):Option ((List Run)) :=
 (oD (IntKind.u64.wrap (x_1.length:Int))).bind λr_3=>(eQ x_1 0 (x_1.length:Int) r_3).bind λr_5=>(qE r_5 x_1).bind λ_=>some r_5
theorem jT (x_1:(List Run)):Le (dE x_1) (bL x_1):=by
 unfold dE bL
 repeat' (with_reducible first | exact Le.refl _ | exact kQ _ _ _ _ | refine Le.loop (λ_ => ?_) | refine Le.forL (λ_ _ _ => ?_) | refine Le.thenC (λ_ => ?_) (λ_ => ?_) | refine Le.cond ?_ ?_ | refine Le.bind ?_ (λ_ => ?_))
def qm (l_1:(List Rect)) (y_2:Int):Option ((List Run)) :=
 (forL l_1 ([]:List Run) (λk x s=>nu y_2 k x s)).bind λo_14=>thenC o_14 (λs_8=>(dE s_8).bind λr_27=>(qE r_27 s_8).bind λ_=>(forL r_27 ([]:List Run) (λk x s=>nz k x s)).bind λo_41=>thenC o_41 (λs_35=>some s_35) (λ_=>none)) (λ_=>none)
theorem Cr (l_1:(List Rect)) (y_2:Int):Le (qm l_1 y_2) (mX l_1 y_2):=by
 unfold qm mX
 repeat' (with_reducible first | exact Le.refl _ | exact jT _ | refine Le.loop (λ_ => ?_) | refine Le.forL (λ_ _ _ => ?_) | refine Le.thenC (λ_ => ?_) (λ_ => ?_) | refine Le.cond ?_ ?_ | refine Le.bind ?_ (λ_ => ?_))
def pQ (m_2:(List Run)) (k_3:Nat) (x_5:Run) (s_8:(List Run)×Int):Option (Ctl ((List Run)×Int) (Unit)) :=
 (o8 s_8.2 (λs=>nD m_2 x_5 s)).bind λo_25=>thenC o_25 (λs_22=>(o8 (s_8.1,s_22,x_5.f_from) (λs=>nC m_2 x_5 s)).bind λo_43=>thenC o_43 (λs_38=>(bif (decide (s_38.2.2<x_5.f_to))then (kw s_38.1 ([(⟨s_38.2.2,x_5.f_to⟩:Run)]:List Run)).bind λa_68=>some a_68 else some s_38.1).bind λv_64=>some (.go (v_64,s_22))) (λ_=>none)) (λ_=>none)
theorem yX (m_2:(List Run)) (k_3:Nat) (x_5:Run) (s_8:(List Run)×Int):Le (pQ m_2 k_3 x_5 s_8) (kZ m_2 k_3 x_5 s_8):=by
 unfold pQ kZ
 repeat' (with_reducible first | exact Le.refl _ | refine Le.loop (λ_ => ?_) | refine Le.forL (λ_ _ _ => ?_) | refine Le.thenC (λ_ => ?_) (λ_ => ?_) | refine Le.cond ?_ ?_ | refine Le.bind ?_ (λ_ => ?_))
def ul (l_1:(List Run)) (m_2:(List Run)):Option ((List Run)) :=
 (forL l_1 (([]:List Run),0) (λk x s=>pQ m_2 k x s)).bind λo_14=>thenC o_14 (λs_8=>some s_8.1) (λ_=>none)
theorem CL (l_1:(List Run)) (m_2:(List Run)):Le (ul l_1 m_2) (oZ l_1 m_2):=by
 unfold ul oZ
 repeat' (with_reducible first | exact Le.refl _ | exact yX _ _ _ _ | refine Le.loop (λ_ => ?_) | refine Le.forL (λ_ _ _ => ?_) | refine Le.thenC (λ_ => ?_) (λ_ => ?_) | refine Le.cond ?_ ?_ | refine Le.bind ?_ (λ_ => ?_))
def nH (r_25:(List Int)) (l_1:(List Rect)) (m_2:(List Rect)) (k_27:Nat) (x_29:Int) (s_32:(List Rect)×(List Run)×Int):Option (Ctl ((List Rect)×(List Run)×Int) (Unit)) :=
 (bif (decide ((w64 ((k_27:Int)+1))<(r_25.length:Int)))then (qm l_1 x_29).bind λr_45=>(qm m_2 x_29).bind λr_47=>(ul r_45 r_47).bind λr_49=>some r_49 else some ([]:List Run)).bind λv_42=>(dD s_32.2.1 v_42).bind λr_51=>bif r_51 then some (.go (s_32.1,s_32.2.1,s_32.2.2))else (forL s_32.2.1 s_32.1 (λk x s=>lI s_32 x_29 k x s)).bind λo_64=>thenC o_64 (λs_59=>some (.go (s_59,v_42,x_29))) (λ_=>none)
theorem wW (r_25:(List Int)) (l_1:(List Rect)) (m_2:(List Rect)) (k_27:Nat) (x_29:Int) (s_32:(List Rect)×(List Run)×Int):Le (nH r_25 l_1 m_2 k_27 x_29 s_32) (jR r_25 l_1 m_2 k_27 x_29 s_32):=by
 unfold nH jR
 repeat' (with_reducible first | exact Le.refl _ | exact Cr _ _ | exact CL _ _ | refine Le.loop (λ_ => ?_) | refine Le.forL (λ_ _ _ => ?_) | refine Le.thenC (λ_ => ?_) (λ_ => ?_) | refine Le.cond ?_ ?_ | refine Le.bind ?_ (λ_ => ?_))
def qY (l_1:(List Rect)) (m_2:(List Rect)):Option ((List Rect)) :=
 (dQ ([l_1,m_2]:List (List Rect))).bind λr_3=>(forL r_3 ([]:List Int) (λk x s=>lN k x s)).bind λo_16=>thenC o_16 (λs_10=>(MX s_10).bind λr_22=>(qE r_22 s_10).bind λ_=>(iT r_22).bind λr_25=>(forL r_25 (([]:List Rect),([]:List Run),0) (λk x s=>nH r_25 l_1 m_2 k x s)).bind λo_38=>thenC o_38 (λs_32=>some s_32.1) (λ_=>none)) (λ_=>none)
theorem z8 (l_1:(List Rect)) (m_2:(List Rect)):Le (qY l_1 m_2) (l5 l_1 m_2):=by
 unfold qY l5
 repeat' (with_reducible first | exact Le.refl _ | exact pE _ | exact wW _ _ _ _ _ _ | exact Ma _ | refine Le.loop (λ_ => ?_) | refine Le.forL (λ_ _ _ => ?_) | refine Le.thenC (λ_ => ?_) (λ_ => ?_) | refine Le.cond ?_ ?_ | refine Le.bind ?_ (λ_ => ?_))
def uC (l_1:(List Rect)):Option (Int×Int) :=
 (kL l_1).bind λr_2=>bif (r_2 != 0)then some (0,r_2)else (qY l_1 ([]:List Rect)).bind λr_5=>(rH r_5).bind λr_7=>some (r_7,0)
theorem Cq (l_1:(List Rect)):Le (uC l_1) (o6 l_1):=by
 unfold uC o6
 repeat' (with_reducible first | exact Le.refl _ | exact z8 _ _ | refine Le.loop (λ_ => ?_) | refine Le.forL (λ_ _ _ => ?_) | refine Le.thenC (λ_ => ?_) (λ_ => ?_) | refine Le.cond ?_ ?_ | refine Le.bind ?_ (λ_ => ?_))
def fV (s_1:ByteArray):Option (Bool) :=
 (o8 0 (λs=>jh s_1 s)).bind λo_10=>thenC o_10 (λs_7=>(bif (sNe s_1 (⟨#[]⟩:ByteArray))then some (decide ((s_1.size:Int)<=40))else some false).bind λv_30=>some v_30) (λr=>some r)
theorem ji (s_1:ByteArray):Le (fV s_1) (eX s_1):=by
 unfold fV eX
 repeat' (with_reducible first | exact Le.refl _ | refine Le.loop (λ_ => ?_) | refine Le.forL (λ_ _ _ => ?_) | refine Le.thenC (λ_ => ?_) (λ_ => ?_) | refine Le.cond ?_ ?_ | refine Le.bind ?_ (λ_ => ?_))
def lV (l_1:(List ByteArray)) (k_2:Nat) (x_4:ByteArray) (s_7:Unit):Option (Ctl (Unit) (Int)) :=
 (fV x_4).bind λr_12=>bif (!r_12)then some (.ret 5)else (bif (decide ((k_2:Int)>0))then (idx l_1 (w64 ((k_2:Int)-1))).bind λy_18=>some (sLe x_4 y_18)else some false).bind λv_15=>bif v_15 then some (.ret 7)else some (.go ())
theorem vo (l_1:(List ByteArray)) (k_2:Nat) (x_4:ByteArray) (s_7:Unit):Le (lV l_1 k_2 x_4 s_7) (gm l_1 k_2 x_4 s_7):=by
 unfold lV gm
 repeat' (with_reducible first | exact Le.refl _ | exact ji _ | refine Le.loop (λ_ => ?_) | refine Le.forL (λ_ _ _ => ?_) | refine Le.thenC (λ_ => ?_) (λ_ => ?_) | refine Le.cond ?_ ?_ | refine Le.bind ?_ (λ_ => ?_))
def lH (l_1:(List ByteArray)):Option (Int) :=
 (forL l_1 () (λk x s=>lV l_1 k x s)).bind λo_10=>thenC o_10 (λs_7=>some 0) (λr=>some r)
theorem qZ (l_1:(List ByteArray)):Le (lH l_1) (gP l_1):=by
 unfold lH gP
 repeat' (with_reducible first | exact Le.refl _ | exact vo _ _ _ _ | refine Le.loop (λ_ => ?_) | refine Le.forL (λ_ _ _ => ?_) | refine Le.thenC (λ_ => ?_) (λ_ => ?_) | refine Le.cond ?_ ?_ | refine Le.bind ?_ (λ_ => ?_))
def lW (l_1:(List ByteArray)):Option (Int) :=
 bif (decide ((l_1.length:Int)>20))then some 2 else (lH l_1).bind λr_3=>some r_3
theorem vk (l_1:(List ByteArray)):Le (lW l_1) (iL l_1):=by
 unfold lW iL
 repeat' (with_reducible first | exact Le.refl _ | exact qZ _ | refine Le.loop (λ_ => ?_) | refine Le.forL (λ_ _ _ => ?_) | refine Le.thenC (λ_ => ?_) (λ_ => ?_) | refine Le.cond ?_ ?_ | refine Le.bind ?_ (λ_ => ?_))
def kT (e_1:Entry):Option (Int) :=
 ((fV e_1.Key).bind λr_5=>bif (!r_5)then some true else (fV e_1.Item).bind λr_8=>some (!r_8)).bind λv_3=>bif v_3 then some 5 else ((aQ e_1.Version 0 1000000).bind λr_13=>bif r_13 then some true else (aQ e_1.First 0 e_1.Last).bind λr_16=>bif r_16 then some true else bif (decide (e_1.Last>4000))then some true else (aQ e_1.Every 1 400).bind λr_20=>bif r_20 then some true else (aQ e_1.Days 1 127).bind λr_23=>some r_23).bind λv_11=>bif v_11 then some 1 else (jy e_1.Except).bind λr_26=>bif (r_26 != 0)then some r_26 else ((aQ e_1.From 0 1439).bind λr_31=>bif r_31 then some true else (aQ e_1.To 0 1439).bind λr_34=>bif r_34 then some true else (aQ e_1.Prio 0 9).bind λr_37=>some r_37).bind λv_29=>bif v_29 then some 1 else (lW e_1.Tags).bind λr_40=>some r_40
theorem ut (e_1:Entry):Le (kT e_1) (gW e_1):=by
 unfold kT gW
 repeat' (with_reducible first | exact Le.refl _ | exact ji _ | exact vk _ | refine Le.loop (λ_ => ?_) | refine Le.forL (λ_ _ _ => ?_) | refine Le.thenC (λ_ => ?_) (λ_ => ?_) | refine Le.cond ?_ ?_ | refine Le.bind ?_ (λ_ => ?_))
def jf (l_1:(List Entry)) (k_3:Nat) (x_5:Entry) (s_8:Unit):Option (Ctl (Unit) (Int)) :=
 (kT x_5).bind λr_14=>bif (r_14 != 0)then some (.ret r_14)else (bif (decide ((k_3:Int)>0))then (idx l_1 (w64 ((k_3:Int)-1))).bind λy_20=>some (sLe x_5.Key y_20.Key)else some false).bind λv_17=>bif v_17 then some (.ret 7)else some (.go ())
theorem qp (l_1:(List Entry)) (k_3:Nat) (x_5:Entry) (s_8:Unit):Le (jf l_1 k_3 x_5 s_8) (fo l_1 k_3 x_5 s_8):=by
 unfold jf fo
 repeat' (with_reducible first | exact Le.refl _ | exact ut _ | refine Le.loop (λ_ => ?_) | refine Le.forL (λ_ _ _ => ?_) | refine Le.thenC (λ_ => ?_) (λ_ => ?_) | refine Le.cond ?_ ?_ | refine Le.bind ?_ (λ_ => ?_))
def jZ (l_1:(List Entry)):Option (Int) :=
 bif (decide ((l_1.length:Int)>200))then some 2 else (forL l_1 () (λk x s=>jf l_1 k x s)).bind λo_11=>thenC o_11 (λs_8=>some 0) (λr=>some r)
theorem rZ (l_1:(List Entry)):Le (jZ l_1) (fT l_1):=by
 unfold jZ fT
 repeat' (with_reducible first | exact Le.refl _ | exact qp _ _ _ _ | refine Le.loop (λ_ => ?_) | refine Le.forL (λ_ _ _ => ?_) | refine Le.thenC (λ_ => ?_) (λ_ => ?_) | refine Le.cond ?_ ?_ | refine Le.bind ?_ (λ_ => ?_))
def gU (x_1:(List Int)) (target_2:Int):Option (Int×Bool) :=
 (o8 (0,(x_1.length:Int)) (λs=>dZ x_1 target_2 s)).bind λo_11=>thenC o_11 (λs_8=>(bif (decide (s_8.1<(x_1.length:Int)))then (idx x_1 s_8.1).bind λy_24=>bif (y_24==target_2)then some true else (idx x_1 s_8.1).bind λy_27=>(iB y_27).bind λr_29=>bif r_29 then (iB target_2).bind λr_32=>some r_32 else some false else some false).bind λv_21=>some (s_8.1,v_21)) (λ_=>none)
theorem nV (x_1:(List Int)) (target_2:Int):Le (gU x_1 target_2) (dK x_1 target_2):=by
 unfold gU dK
 repeat' (with_reducible first | exact Le.refl _ | refine Le.loop (λ_ => ?_) | refine Le.forL (λ_ _ _ => ?_) | refine Le.thenC (λ_ => ?_) (λ_ => ?_) | refine Le.cond ?_ ?_ | refine Le.bind ?_ (λ_ => ?_))
def pJ (e_1:Entry) (d_2:Int):Option (Bool) :=
 ((aQ d_2 e_1.First e_1.Last).bind λr_6=>bif r_6 then some true else (Hr .i64 (w64 (d_2-e_1.First)) e_1.Every).bind λq_9=>bif (q_9 != 0)then some true else (BA .i64 1 (d_2.tmod 7)).bind λq_12=>some ((uH .i64 e_1.Days q_12)==0)).bind λv_4=>bif v_4 then some false else (gU e_1.Except d_2).bind λr_15=>some (!r_15.2)
theorem yF (e_1:Entry) (d_2:Int):Le (pJ e_1 d_2) (lq e_1 d_2):=by
 unfold pJ lq
 repeat' (with_reducible first | exact Le.refl _ | exact nV _ _ | refine Le.loop (λ_ => ?_) | refine Le.forL (λ_ _ _ => ?_) | refine Le.thenC (λ_ => ?_) (λ_ => ?_) | refine Le.cond ?_ ?_ | refine Le.bind ?_ (λ_ => ?_))
def mP (wv_3:Window) (zone_2:Int) (e_1:Entry) (s_15:(List Window)×Int):Option (Ctl ((List Window)×Int) (Unit)) :=
 bif (decide (s_15.2<=(xL (w64 ((w64 ((w64 (wv_3.To+(w64 (zone_2*60000)))).tdiv 86400000))+1)) e_1.Last)))then (pJ e_1 s_15.2).bind λr_24=>bif (!r_24)then some (.go (s_15.1,(w64 (s_15.2+1))))else (mg e_1 zone_2 s_15.2).bind λr_27=>(bif (decide (r_27.From<wv_3.To))then some (decide (r_27.To>wv_3.From))else some false).bind λv_30=>(bif v_30 then (kw s_15.1 ([r_27]:List Window)).bind λa_37=>some a_37 else some s_15.1).bind λv_33=>some (.go (v_33,(w64 (s_15.2+1))))else some (.brk (s_15.1,s_15.2))
theorem vC (wv_3:Window) (zone_2:Int) (e_1:Entry) (s_15:(List Window)×Int):Le (mP wv_3 zone_2 e_1 s_15) (jk wv_3 zone_2 e_1 s_15):=by
 unfold mP jk
 repeat' (with_reducible first | exact Le.refl _ | exact yF _ _ | refine Le.loop (λ_ => ?_) | refine Le.forL (λ_ _ _ => ?_) | refine Le.thenC (λ_ => ?_) (λ_ => ?_) | refine Le.cond ?_ ?_ | refine Le.bind ?_ (λ_ => ?_))
def pO (e_1:Entry) (zone_2:Int) (wv_3:Window):Option ((List Window)) :=
 (bif e_1.Gone then some true else some (decide (wv_3.From>=wv_3.To))).bind λv_6=>bif v_6 then some ([]:(List Window))else (o8 (([]:List Window),(sZ (w64 ((w64 ((w64 (wv_3.From+(w64 (zone_2*60000)))).tdiv 86400000))-2)) e_1.First)) (λs=>mP wv_3 zone_2 e_1 s)).bind λo_21=>thenC o_21 (λs_15=>some s_15.1) (λ_=>none)
theorem y5 (e_1:Entry) (zone_2:Int) (wv_3:Window):Le (pO e_1 zone_2 wv_3) (kS e_1 zone_2 wv_3):=by
 unfold pO kS
 repeat' (with_reducible first | exact Le.refl _ | exact vC _ _ _ _ | refine Le.loop (λ_ => ?_) | refine Le.forL (λ_ _ _ => ?_) | refine Le.thenC (λ_ => ?_) (λ_ => ?_) | refine Le.cond ?_ ?_ | refine Le.bind ?_ (λ_ => ?_))
def pu (e_1:Entry) (zone_2:Int) (wv_3:Window):Option ((List Window)×Int) :=
 (jZ ([e_1]:List Entry)).bind λr_6=>bif (r_6 != 0)then some (([]:(List Window)),r_6)else (aQ zone_2 (-1440) 1440).bind λr_9=>bif r_9 then some (([]:(List Window)),1)else (jv wv_3).bind λr_12=>bif (r_12 != 0)then some (([]:(List Window)),r_12)else (pO e_1 zone_2 wv_3).bind λr_15=>(forL (List.range ((r_15.length:Int)).toNat) r_15 (λk x s=>kM wv_3 k x s)).bind λo_27=>thenC o_27 (λs_24=>some (s_24,0)) (λ_=>none)
theorem yD (e_1:Entry) (zone_2:Int) (wv_3:Window):Le (pu e_1 zone_2 wv_3) (lu e_1 zone_2 wv_3):=by
 unfold pu lu
 repeat' (with_reducible first | exact Le.refl _ | exact rZ _ | exact y5 _ _ _ | refine Le.loop (λ_ => ?_) | refine Le.forL (λ_ _ _ => ?_) | refine Le.thenC (λ_ => ?_) (λ_ => ?_) | refine Le.cond ?_ ?_ | refine Le.bind ?_ (λ_ => ?_))
def mF (l_1:(List ByteArray)):Option (Int) :=
 bif (decide ((l_1.length:Int)>20))then some 2 else (lH l_1).bind λr_3=>some r_3
theorem vK (l_1:(List ByteArray)):Le (mF l_1) (eU l_1):=by
 unfold mF eU
 repeat' (with_reducible first | exact Le.refl _ | exact qZ _ | refine Le.loop (λ_ => ?_) | refine Le.forL (λ_ _ _ => ?_) | refine Le.thenC (λ_ => ?_) (λ_ => ?_) | refine Le.cond ?_ ?_ | refine Le.bind ?_ (λ_ => ?_))
def iI (l_1:(List Campaign)) (k_3:Nat) (x_5:Campaign) (s_8:Unit):Option (Ctl (Unit) (Int)) :=
 ((fV x_5.Key).bind λr_16=>bif (!r_16)then some true else bif (sNe x_5.Class (⟨#[]⟩:ByteArray))then (fV x_5.Class).bind λr_20=>some (!r_20)else some false).bind λv_14=>bif v_14 then some (.ret 5)else (bif (decide ((k_3:Int)>0))then (idx l_1 (w64 ((k_3:Int)-1))).bind λy_26=>some (sLe x_5.Key y_26.Key)else some false).bind λv_23=>bif v_23 then some (.ret 7)else ((iQ x_5.Time).bind λr_31=>bif (!r_31)then some true else (aQ x_5.Goal 0 1000000).bind λr_34=>bif r_34 then some true else (aQ x_5.Most 0 1000000).bind λr_37=>bif r_37 then some true else (aQ x_5.Cents 0 1000000000).bind λr_40=>some r_40).bind λv_29=>bif v_29 then some (.ret 1)else (mF x_5.Tags).bind λr_43=>bif (r_43 != 0)then some (.ret r_43)else some (.go ())
theorem pz (l_1:(List Campaign)) (k_3:Nat) (x_5:Campaign) (s_8:Unit):Le (iI l_1 k_3 x_5 s_8) (dB l_1 k_3 x_5 s_8):=by
 unfold iI dB
 repeat' (with_reducible first | exact Le.refl _ | exact ji _ | exact vK _ | refine Le.loop (λ_ => ?_) | refine Le.forL (λ_ _ _ => ?_) | refine Le.thenC (λ_ => ?_) (λ_ => ?_) | refine Le.cond ?_ ?_ | refine Le.bind ?_ (λ_ => ?_))
def jH (l_1:(List Campaign)):Option (Int) :=
 bif (decide ((l_1.length:Int)>30))then some 2 else (forL l_1 () (λk x s=>iI l_1 k x s)).bind λo_11=>thenC o_11 (λs_8=>some 0) (λr=>some r)
theorem ry (l_1:(List Campaign)):Le (jH l_1) (cK l_1):=by
 unfold jH cK
 repeat' (with_reducible first | exact Le.refl _ | exact pz _ _ _ _ | refine Le.loop (λ_ => ?_) | refine Le.forL (λ_ _ _ => ?_) | refine Le.thenC (λ_ => ?_) (λ_ => ?_) | refine Le.cond ?_ ?_ | refine Le.bind ?_ (λ_ => ?_))
def uJ (c_1:Campaign) (atv_2:Int):Option (Int×Int) :=
 (jH ([c_1]:List Campaign)).bind λr_4=>bif (r_4 != 0)then some (0,r_4)else (dw atv_2).bind λr_7=>bif (!r_7)then some (0,1)else (rC c_1 atv_2).bind λr_10=>some (r_10,0)
theorem Co (c_1:Campaign) (atv_2:Int):Le (uJ c_1 atv_2) (oU c_1 atv_2):=by
 unfold uJ oU
 repeat' (with_reducible first | exact Le.refl _ | exact ry _ | refine Le.loop (λ_ => ?_) | refine Le.forL (λ_ _ _ => ?_) | refine Le.thenC (λ_ => ?_) (λ_ => ?_) | refine Le.cond ?_ ?_ | refine Le.bind ?_ (λ_ => ?_))
def kW (l_1:(List Beat)) (k_3:Nat) (x_5:Beat) (s_8:Unit):Option (Ctl (Unit) (Int)) :=
 (fV x_5.Player).bind λr_14=>bif (!r_14)then some (.ret 5)else ((dw x_5.At).bind λr_19=>bif (!r_19)then some true else (aQ x_5.Clock 0 345686399999).bind λr_22=>some r_22).bind λv_17=>bif v_17 then some (.ret 1)else (bif (decide ((k_3:Int)>0))then (idx l_1 (w64 ((k_3:Int)-1))).bind λy_28=>(jY y_28 x_5).bind λr_30=>some (decide (r_30>=0))else some false).bind λv_25=>bif v_25 then some (.ret 7)else (bif (decide ((k_3:Int)>0))then (idx l_1 (w64 ((k_3:Int)-1))).bind λy_36=>bif (sEq x_5.Player y_36.Player)then (idx l_1 (w64 ((k_3:Int)-1))).bind λy_39=>some (decide (x_5.Clock<=y_39.Clock))else some false else some false).bind λv_33=>bif v_33 then some (.ret 16)else some (.go ())
theorem uS (l_1:(List Beat)) (k_3:Nat) (x_5:Beat) (s_8:Unit):Le (kW l_1 k_3 x_5 s_8) (gY l_1 k_3 x_5 s_8):=by
 unfold kW gY
 repeat' (with_reducible first | exact Le.refl _ | exact ji _ | refine Le.loop (λ_ => ?_) | refine Le.forL (λ_ _ _ => ?_) | refine Le.thenC (λ_ => ?_) (λ_ => ?_) | refine Le.cond ?_ ?_ | refine Le.bind ?_ (λ_ => ?_))
def nN (l_1:(List Beat)):Option (Int) :=
 bif (decide ((l_1.length:Int)>500))then some 2 else (forL l_1 () (λk x s=>kW l_1 k x s)).bind λo_11=>thenC o_11 (λs_8=>some 0) (λr=>some r)
theorem xm (l_1:(List Beat)):Le (nN l_1) (jP l_1):=by
 unfold nN jP
 repeat' (with_reducible first | exact Le.refl _ | exact uS _ _ _ _ | refine Le.loop (λ_ => ?_) | refine Le.forL (λ_ _ _ => ?_) | refine Le.thenC (λ_ => ?_) (λ_ => ?_) | refine Le.cond ?_ ?_ | refine Le.bind ?_ (λ_ => ?_))
def si (l_1:(List Beat_)) (n_2:Int):Option (Int×Int) :=
 bif ((l_1.length:Int)==0)then some (0,8)else (o8 0 (λs=>mh l_1 n_2 s)).bind λo_12=>thenC o_12 (λs_9=>bif (s_9==0)then (idx l_1 0).bind λy_21=>(idx l_1 0).bind λy_23=>(dw (w64 (y_21.f_to-(w64 (y_23.f_from-n_2))))).bind λr_25=>bif (!r_25)then some (0,11)else some ((w64 (y_21.f_to-(w64 (y_23.f_from-n_2)))),0)else bif (s_9==(l_1.length:Int))then (idx l_1 (w64 (s_9-1))).bind λy_29=>(idx l_1 (w64 (s_9-1))).bind λy_31=>(dw (w64 ((w64 (y_29.f_to+n_2))-y_31.f_from))).bind λr_33=>bif (!r_33)then some (0,11)else some ((w64 ((w64 (y_29.f_to+n_2))-y_31.f_from)),0)else (idx l_1 (w64 (s_9-1))).bind λy_36=>(idx l_1 s_9).bind λy_38=>(bif (decide ((w64 (y_38.f_from-y_36.f_from))>2592000000))then some true else some (decide ((w64 (y_38.f_to-y_36.f_to))>2592000000))).bind λv_42=>bif v_42 then some (0,2)else (JH .i64 (w64 ((w64 (n_2-y_36.f_from))*(w64 (y_38.f_to-y_36.f_to)))) (w64 (y_38.f_from-y_36.f_from))).bind λq_46=>(dw (w64 (y_36.f_to+q_46))).bind λr_48=>bif (!r_48)then some (0,11)else some ((w64 (y_36.f_to+q_46)),0)) (λ_=>none)
theorem AU (l_1:(List Beat_)) (n_2:Int):Le (si l_1 n_2) (nI l_1 n_2):=by
 unfold si nI
 repeat' (with_reducible first | exact Le.refl _ | refine Le.loop (λ_ => ?_) | refine Le.forL (λ_ _ _ => ?_) | refine Le.thenC (λ_ => ?_) (λ_ => ?_) | refine Le.cond ?_ ?_ | refine Le.bind ?_ (λ_ => ?_))
def tY (l_1:(List Beat)) (player_2:ByteArray) (n_3:Int) (back_4:Bool):Option (Int×Int) :=
 (nN l_1).bind λr_5=>bif (r_5 != 0)then some (0,r_5)else (fV player_2).bind λr_8=>bif (!r_8)then some (0,5)else (dw n_3).bind λr_11=>bif (!r_11)then some (0,1)else (oC l_1 player_2 back_4).bind λr_14=>(si r_14 n_3).bind λr_16=>some (r_16.1,r_16.2)
theorem BG (l_1:(List Beat)) (player_2:ByteArray) (n_3:Int) (back_4:Bool):Le (tY l_1 player_2 n_3 back_4) (oI l_1 player_2 n_3 back_4):=by
 unfold tY oI
 repeat' (with_reducible first | exact Le.refl _ | exact ji _ | exact xm _ | exact AU _ _ | refine Le.loop (λ_ => ?_) | refine Le.forL (λ_ _ _ => ?_) | refine Le.thenC (λ_ => ?_) (λ_ => ?_) | refine Le.cond ?_ ?_ | refine Le.bind ?_ (λ_ => ?_))
def tQ (l_1:(List Beat)) (player_2:ByteArray) (clock_3:Int):Option (Int×Int) :=
 (tY l_1 player_2 clock_3 false).bind λr_4=>some (r_4.1,r_4.2)
theorem BM (l_1:(List Beat)) (player_2:ByteArray) (clock_3:Int):Le (tQ l_1 player_2 clock_3) (oP l_1 player_2 clock_3):=by
 unfold tQ oP
 repeat' (with_reducible first | exact Le.refl _ | exact BG _ _ _ _ | refine Le.loop (λ_ => ?_) | refine Le.forL (λ_ _ _ => ?_) | refine Le.thenC (λ_ => ?_) (λ_ => ?_) | refine Le.cond ?_ ?_ | refine Le.bind ?_ (λ_ => ?_))
def lU (a_1:Alert) (k_4:Nat) (x_6:ByteArray) (s_9:Unit):Option (Ctl (Unit) (Int)) :=
 (fV x_6).bind λr_14=>bif (!r_14)then some (.ret 5)else (bif (decide ((k_4:Int)>0))then (idx a_1.Refs (w64 ((k_4:Int)-1))).bind λy_20=>some (sLe x_6 y_20)else some false).bind λv_17=>bif v_17 then some (.ret 7)else bif (sEq x_6 a_1.Id)then some (.ret 14)else some (.go ())
theorem vv (a_1:Alert) (k_4:Nat) (x_6:ByteArray) (s_9:Unit):Le (lU a_1 k_4 x_6 s_9) (iK a_1 k_4 x_6 s_9):=by
 unfold lU iK
 repeat' (with_reducible first | exact Le.refl _ | exact ji _ | refine Le.loop (λ_ => ?_) | refine Le.forL (λ_ _ _ => ?_) | refine Le.thenC (λ_ => ?_) (λ_ => ?_) | refine Le.cond ?_ ?_ | refine Le.bind ?_ (λ_ => ?_))
def oo (a_1:Alert):Option (Int) :=
 bif (decide ((a_1.Refs.length:Int)>20))then some 2 else (forL a_1.Refs () (λk x s=>lU a_1 k x s)).bind λo_12=>thenC o_12 (λs_9=>bif (!((a_1.Kind==1)==((a_1.Refs.length:Int)==0)))then some 3 else some 0) (λr=>some r)
theorem yc (a_1:Alert):Le (oo a_1) (kv a_1):=by
 unfold oo kv
 repeat' (with_reducible first | exact Le.refl _ | exact vv _ _ _ _ | refine Le.loop (λ_ => ?_) | refine Le.forL (λ_ _ _ => ?_) | refine Le.thenC (λ_ => ?_) (λ_ => ?_) | refine Le.cond ?_ ?_ | refine Le.bind ?_ (λ_ => ?_))
def gN (s_7:ByteArray):Option (Ctl (ByteArray) (Unit)) :=
 bif (decide ((s_7.size:Int)>0))then (nU s_7 0).bind λb_13=>bif (decide ((b_13.toNat:Int)<128))then (sP s_7 1 s_7.size).bind λy_16=>(bif (decide ((y_16.size:Int)>8))then (bv y_16).bind λr_21=>some ((uH .u64 r_21 9259542123273814144)==0)else some false).bind λv_18=>(bif v_18 then (sP y_16 8 y_16.size).bind λy_26=>(bif (decide ((y_26.size:Int)>16))then (bv y_26).bind λr_31=>(sP y_26 8 y_26.size).bind λy_33=>(bv y_33).bind λr_35=>some ((uH .u64 (orI .u64 r_31 r_35) 9259542123273814144)==0)else some false).bind λv_28=>bif v_28 then (sP y_26 16 y_26.size).bind λy_38=>(o8 y_38 (λs=>fG s)).bind λo_48=>thenC o_48 (λs_45=>some s_45) (λ_=>none)else some y_26 else some y_16).bind λv_23=>some (.go v_23)else none else some (.brk s_7)
theorem nS (s_7:ByteArray):Le (gN s_7) (dL s_7):=by
 unfold gN dL
 repeat' (with_reducible first | exact Le.refl _ | refine Le.loop (λ_ => ?_) | refine Le.forL (λ_ _ _ => ?_) | refine Le.thenC (λ_ => ?_) (λ_ => ?_) | refine Le.cond ?_ ?_ | refine Le.bind ?_ (λ_ => ?_))
def je (s_1:ByteArray):Option (Bool) :=
 (o8 s_1 (λs=>gN s)).bind λo_10=>thenC o_10 (λs_7=>some true) (λ_=>none)
theorem qo (s_1:ByteArray):Le (je s_1) (eZ s_1):=by
 unfold je eZ
 repeat' (with_reducible first | exact Le.refl _ | exact nS _ | refine Le.loop (λ_ => ?_) | refine Le.forL (λ_ _ _ => ?_) | refine Le.thenC (λ_ => ?_) (λ_ => ?_) | refine Le.cond ?_ ?_ | refine Le.bind ?_ (λ_ => ?_))
def j3 (s_1:ByteArray) (c_2:Int):Option (ByteArray) :=
 (o8 s_1 (λs=>gq c_2 s)).bind λo_11=>thenC o_11 (λs_8=>some s_8) (λ_=>none)
theorem rU (s_1:ByteArray) (c_2:Int):Le (j3 s_1 c_2) (strings_trimRightByte s_1 c_2):=by
 unfold j3 strings_trimRightByte
 repeat' (with_reducible first | exact Le.refl _ | refine Le.loop (λ_ => ?_) | refine Le.forL (λ_ _ _ => ?_) | refine Le.thenC (λ_ => ?_) (λ_ => ?_) | refine Le.cond ?_ ?_ | refine Le.bind ?_ (λ_ => ?_))
def kG (s_1:ByteArray) (c_2:Int):Option (ByteArray) :=
 (o8 s_1 (λs=>gJ c_2 s)).bind λo_11=>thenC o_11 (λs_8=>some s_8) (λ_=>none)
theorem sO (s_1:ByteArray) (c_2:Int):Le (kG s_1 c_2) (strings_trimLeftByte s_1 c_2):=by
 unfold kG strings_trimLeftByte
 repeat' (with_reducible first | exact Le.refl _ | refine Le.loop (λ_ => ?_) | refine Le.forL (λ_ _ _ => ?_) | refine Le.thenC (λ_ => ?_) (λ_ => ?_) | refine Le.cond ?_ ?_ | refine Le.bind ?_ (λ_ => ?_))
def rY (s_1:ByteArray) (cutset_2:ByteArray):Option (ByteArray) :=
 (bif (sEq s_1 (⟨#[]⟩:ByteArray))then some true else some (sEq cutset_2 (⟨#[]⟩:ByteArray))).bind λv_3=>bif v_3 then some s_1 else (bif ((cutset_2.size:Int)==1)then (nU cutset_2 0).bind λb_10=>some (decide ((b_10.toNat:Int)<128))else some false).bind λv_7=>bif v_7 then (nU cutset_2 0).bind λb_13=>(j3 s_1 (b_13.toNat:Int)).bind λr_15=>(nU cutset_2 0).bind λb_17=>(kG r_15 (b_17.toNat:Int)).bind λr_19=>some r_19 else none
theorem Ba (s_1:ByteArray) (cutset_2:ByteArray):Le (rY s_1 cutset_2) (nK s_1 cutset_2):=by
 unfold rY nK
 repeat' (with_reducible first | exact Le.refl _ | exact rU _ _ | exact sO _ _ | refine Le.loop (λ_ => ?_) | refine Le.forL (λ_ _ _ => ?_) | refine Le.thenC (λ_ => ?_) (λ_ => ?_) | refine Le.cond ?_ ?_ | refine Le.bind ?_ (λ_ => ?_))
def uD (s_1:ByteArray):Option (Bool) :=
 (o8 0 (λs=>nE s_1 s)).bind λo_10=>thenC o_10 (λs_7=>((je s_1).bind λr_23=>bif r_23 then (rY s_1 (⟨#[32]⟩:ByteArray)).bind λr_26=>bif (sEq r_26 s_1)then (strings_Contains s_1 (⟨#[32,32]⟩:ByteArray)).bind λr_29=>some (!r_29)else some false else some false).bind λv_21=>some v_21) (λr=>some r)
theorem Db (s_1:ByteArray):Le (uD s_1) (o5 s_1):=by
 unfold uD o5
 repeat' (with_reducible first | exact Le.refl _ | exact qo _ | exact Ba _ _ | refine Le.loop (λ_ => ?_) | refine Le.forL (λ_ _ _ => ?_) | refine Le.thenC (λ_ => ?_) (λ_ => ?_) | refine Le.cond ?_ ?_ | refine Le.bind ?_ (λ_ => ?_))
def nO (a_1:Alert):Option (Int) :=
 ((fV a_1.Id).bind λr_5=>bif (!r_5)then some true else (fV a_1.Sender).bind λr_8=>some (!r_8)).bind λv_3=>bif v_3 then some 5 else (aQ a_1.Kind 1 3).bind λr_11=>bif r_11 then some 4 else (oo a_1).bind λr_14=>bif (r_14 != 0)then some r_14 else ((dw a_1.At).bind λr_19=>bif (!r_19)then some true else (aQ a_1.Until (w64 (a_1.At+1)) (w64 (a_1.At+2592000000))).bind λr_22=>bif r_22 then some true else (aQ a_1.Weight 1 9).bind λr_25=>some r_25).bind λv_17=>bif v_17 then some 1 else bif (decide ((a_1.Areas.length:Int)>20))then some 2 else (forL a_1.Areas () (λk x s=>jE k x s)).bind λo_37=>thenC o_37 (λs_34=>bif (!((a_1.Kind==3)==((a_1.Areas.length:Int)==0)))then some 3 else bif (decide ((a_1.Text.size:Int)>500))then some 2 else ((uD a_1.Text).bind λr_47=>bif (!r_47)then some true else bif (sEq a_1.Text (⟨#[]⟩:ByteArray))then some (!(a_1.Kind==3))else some false).bind λv_45=>bif v_45 then some 3 else some 0) (λr=>some r)
theorem wY (a_1:Alert):Le (nO a_1) (jN a_1):=by
 unfold nO jN
 repeat' (with_reducible first | exact Le.refl _ | exact ji _ | exact yc _ | exact Db _ | refine Le.loop (λ_ => ?_) | refine Le.forL (λ_ _ _ => ?_) | refine Le.thenC (λ_ => ?_) (λ_ => ?_) | refine Le.cond ?_ ?_ | refine Le.bind ?_ (λ_ => ?_))
def kH (l_1:(List Alert)) (k_3:Nat) (x_5:Alert) (s_8:Unit):Option (Ctl (Unit) (Int)) :=
 (nO x_5).bind λr_14=>bif (r_14 != 0)then some (.ret r_14)else (bif (decide ((k_3:Int)>0))then (idx l_1 (w64 ((k_3:Int)-1))).bind λy_20=>(oq y_20 x_5).bind λr_22=>some (decide (r_22>=0))else some false).bind λv_17=>bif v_17 then some (.ret 7)else some (.go ())
theorem tJ (l_1:(List Alert)) (k_3:Nat) (x_5:Alert) (s_8:Unit):Le (kH l_1 k_3 x_5 s_8) (gy l_1 k_3 x_5 s_8):=by
 unfold kH gy
 repeat' (with_reducible first | exact Le.refl _ | exact wY _ | refine Le.loop (λ_ => ?_) | refine Le.forL (λ_ _ _ => ?_) | refine Le.thenC (λ_ => ?_) (λ_ => ?_) | refine Le.cond ?_ ?_ | refine Le.bind ?_ (λ_ => ?_))
def mo (l_1:(List Alert)):Option (Int) :=
 bif (decide ((l_1.length:Int)>300))then some 2 else (forL l_1 () (λk x s=>kH l_1 k x s)).bind λo_11=>thenC o_11 (λs_8=>(forL l_1 ([]:List (ByteArray×Bool)) (λk x s=>jB k x s)).bind λo_34=>thenC o_34 (λs_31=>some 0) (λr=>some r)) (λr=>some r)
theorem vX (l_1:(List Alert)):Le (mo l_1) (jw l_1):=by
 unfold mo jw
 repeat' (with_reducible first | exact Le.refl _ | exact tJ _ _ _ _ | refine Le.loop (λ_ => ?_) | refine Le.forL (λ_ _ _ => ?_) | refine Le.thenC (λ_ => ?_) (λ_ => ?_) | refine Le.cond ?_ ?_ | refine Le.bind ?_ (λ_ => ?_))
def lh (l_1:(List Post)) (k_3:Nat) (x_5:Post) (s_8:Unit):Option (Ctl (Unit) (Int)) :=
 (fV x_5.Player).bind λr_14=>bif (!r_14)then some (.ret 5)else ((aQ x_5.X (-100000) 100000).bind λr_19=>bif r_19 then some true else (aQ x_5.Y (-100000) 100000).bind λr_22=>some r_22).bind λv_17=>bif v_17 then some (.ret 1)else (bif (decide ((k_3:Int)>0))then (idx l_1 (w64 ((k_3:Int)-1))).bind λy_28=>some (sLe x_5.Player y_28.Player)else some false).bind λv_25=>bif v_25 then some (.ret 7)else some (.go ())
theorem uE (l_1:(List Post)) (k_3:Nat) (x_5:Post) (s_8:Unit):Le (lh l_1 k_3 x_5 s_8) (gZ l_1 k_3 x_5 s_8):=by
 unfold lh gZ
 repeat' (with_reducible first | exact Le.refl _ | exact ji _ | refine Le.loop (λ_ => ?_) | refine Le.forL (λ_ _ _ => ?_) | refine Le.thenC (λ_ => ?_) (λ_ => ?_) | refine Le.cond ?_ ?_ | refine Le.bind ?_ (λ_ => ?_))
def nM (l_1:(List Post)):Option (Int) :=
 bif (decide ((l_1.length:Int)>500))then some 2 else (forL l_1 () (λk x s=>lh l_1 k x s)).bind λo_11=>thenC o_11 (λs_8=>some 0) (λr=>some r)
theorem wX (l_1:(List Post)):Le (nM l_1) (jQ l_1):=by
 unfold nM jQ
 repeat' (with_reducible first | exact Le.refl _ | exact uE _ _ _ _ | refine Le.loop (λ_ => ?_) | refine Le.forL (λ_ _ _ => ?_) | refine Le.thenC (λ_ => ?_) (λ_ => ?_) | refine Le.cond ?_ ?_ | refine Le.bind ?_ (λ_ => ?_))
def nT (l_1:(List Alert)) (posts_2:(List Post)):Option (Int) :=
 (mo l_1).bind λr_3=>bif (r_3 != 0)then some r_3 else (nM posts_2).bind λr_6=>some r_6
theorem xS (l_1:(List Alert)) (posts_2:(List Post)):Le (nT l_1 posts_2) (kr l_1 posts_2):=by
 unfold nT kr
 repeat' (with_reducible first | exact Le.refl _ | exact vX _ | exact wX _ | refine Le.loop (λ_ => ?_) | refine Le.forL (λ_ _ _ => ?_) | refine Le.thenC (λ_ => ?_) (λ_ => ?_) | refine Le.cond ?_ ?_ | refine Le.bind ?_ (λ_ => ?_))
def qU (a_1:Alert) (p_2:Post):Option (Bool×Int) :=
 (nT ([a_1]:List Alert) ([p_2]:List Post)).bind λr_5=>bif (r_5 != 0)then some (false,r_5)else (ou a_1 p_2).bind λr_8=>some (r_8,0)
theorem zI (a_1:Alert) (p_2:Post):Le (qU a_1 p_2) (l8 a_1 p_2):=by
 unfold qU l8
 repeat' (with_reducible first | exact Le.refl _ | exact xS _ _ | refine Le.loop (λ_ => ?_) | refine Le.forL (λ_ _ _ => ?_) | refine Le.thenC (λ_ => ?_) (λ_ => ?_) | refine Le.cond ?_ ?_ | refine Le.bind ?_ (λ_ => ?_))
def vz  : Option (Bool) :=
 (uC ([(⟨0,0,2,2⟩:Rect),(⟨1,1,2,2⟩:Rect)]:List Rect)).bind λr_1=>(pu (⟨(⟨#[97]⟩:ByteArray),(⟨#[98]⟩:ByteArray),0,0,0,1,127,([]:List Int),1,2,0,([]:List ByteArray),false⟩:Entry) 0 (⟨0,86400000⟩:Window)).bind λr_3=>(uJ (⟨(⟨#[97]⟩:ByteArray),(⟨#[]⟩:ByteArray),(⟨0,100⟩:Window),([]:List ByteArray),10,0,0⟩:Campaign) 50).bind λr_5=>(tQ ([(⟨(⟨#[112]⟩:ByteArray),0,100⟩:Beat),(⟨(⟨#[112]⟩:ByteArray),1000,1300⟩:Beat)]:List Beat) (⟨#[112]⟩:ByteArray) 700).bind λr_7=>(qU (⟨(⟨#[97]⟩:ByteArray),(⟨#[115]⟩:ByteArray),1,([]:List ByteArray),0,5,1,([(⟨0,0,2,2⟩:Rect)]:List Rect),(⟨#[120]⟩:ByteArray)⟩:Alert) (⟨(⟨#[112]⟩:ByteArray),1,1⟩:Post)).bind λr_10=>((wE ([r_1.2,r_3.2,r_5.2,r_7.2,r_10.2]:List Int)).bind λr_14=>bif (r_14==0)then bif (r_1.1==7)then bif ((r_3.1.length:Int)==1)then bif (r_5.1==5)then bif (r_7.1==500)then some r_10.1 else some false else some false else some false else some false else some false).bind λv_12=>some v_12
theorem Dx  : Le (vz) (oh):=by
 unfold vz oh
 repeat' (with_reducible first | exact Le.refl _ | exact Cq _ | exact yD _ _ _ | exact Co _ _ | exact BM _ _ _ | exact zI _ _ | refine Le.loop (λ_ => ?_) | refine Le.forL (λ_ _ _ => ?_) | refine Le.thenC (λ_ => ?_) (λ_ => ?_) | refine Le.cond ?_ ?_ | refine Le.bind ?_ (λ_ => ?_))
end Go.Proofs.YtekmkepojbhafaaGreatDoor.Law

open Go Go.Eng
namespace Go.Proofs.YtekmkepojbhafaaGreatDoor.Law
set_option linter.unusedVariables false
set_option maxRecDepth 100000
theorem ready_F:vz=some true:=by kernel_rfl
theorem Mo:oh=some true:=Dx _ ready_F
end Go.Proofs.YtekmkepojbhafaaGreatDoor.Law

open Go Go.Eng Go.Flow
namespace Go.Proofs.YtekmkepojbhafaaGreatDoor.Law
set_option linter.unusedVariables false
set_option linter.unusedSimpArgs false
set_option linter.unusedSectionVars false
theorem DV {N N':Net} (hm:N.m=N'.m) (hq:N.q=N'.q) (hr:∀k,k<N.m->N.room k=N'.room k) (hg:∀i,i<N.q->N.goal i=N'.goal i) (ho:∀i,i<N.q->N.most i=N'.most i) (hs:∀i k,i<N.q->k<N.m->N.suits i k=N'.suits i k) (B:Nat->Bool):N.cutV B=N'.cutV B:=by
 unfold Net.cutV Net.ways
 rw [<- hm,<- hq]
 congr 1
 ·exact cZ (λk hk=>by rw [hr k hk])
 ·refine cZ (λi hi => ?_)
  rw [hg i hi]
  congr 1
  exact cZ (λk hk=>by rw [hs i k hi hk,ho i hi])
theorem fD.same {N N':Net} (hm:N.m=N'.m) (hq:N.q=N'.q) (hr:∀k,k<N.m->N.room k=N'.room k) (hg:∀i,i<N.q->N.goal i=N'.goal i) (ho:∀i,i<N.q->N.most i=N'.most i) (hs:∀i k,i<N.q->k<N.m->N.suits i k=N'.suits i k) {r:Int} (h:fD N r):fD N' r:=by
 obtain ⟨h1,B,h2⟩:=h
 exact⟨λB=>by rw [<- DV hm hq hr hg ho hs];exact h1 B,B,by rw [<- DV hm hq hr hg ho hs];exact h2⟩
theorem tight1 {N:Net} {k:Nat} (hk:k<N.m) {r r1:Int} (h:fD N r) (h1:fD (bump N k 1) r1):r<=r1/\r1<=r+1:=by
 obtain ⟨a,B,b⟩:=h
 obtain ⟨a1,B1,b1⟩:=h1
 have e1:=a1 B
 have e3:=a B1
 rw [BH N 1 hk]at e1 b1
 constructor
 ·cases hb:B1 k <;> rw [hb]at b1 <;> simp only [cond_true,cond_false]at b1 <;> omega
 ·cases hb:B k <;> rw [hb]at e1 <;> simp only [cond_true,cond_false]at e1 <;> omega
section
variable {spots:List Spot} {l:List Campaign}
theorem yZ {k:Nat} {s:Spot} (hk:spots[k]? = some s) (d:Int) {r:Int} (h:fD (bR (spots.set k (⟨s.Key,s.Time,s.Room+d,s.Tags⟩:Spot)) l) r):fD (bump (bR spots l) k d) r:=by
 have hkl:k<spots.length:=(List.getElem?_eq_some_iff.1 hk).1
 have hget:∀j,(spots.set k (⟨s.Key,s.Time,s.Room+d,s.Tags⟩:Spot))[j]? = if j=k then some (⟨s.Key,s.Time,s.Room+d,s.Tags⟩:Spot)else spots[j]? := λj=>by
  rw [List.getElem?_set]
  by_cases hj:k=j
  ·subst hj;rw [if_pos rfl,if_pos rfl,if_pos hkl]
  ·rw [if_neg hj,if_neg (λe=>hj e.symm)]
 refine fD.same (N:=bR (spots.set k (⟨s.Key,s.Time,s.Room+d,s.Tags⟩:Spot)) l) (N':=bump (bR spots l) k d) (by show (spots.set k (⟨s.Key,s.Time,s.Room+d,s.Tags⟩:Spot)).length=spots.length;rw [List.length_set]) rfl (λj hj => ?_) (λi hi=>rfl) (λi hi=>rfl) (λi j hi hj => ?_) h
 ·show (match (spots.set k (⟨s.Key,s.Time,s.Room+d,s.Tags⟩:Spot))[j]? with | some s=>s.Room | none=>0)=if j=k then (match spots[j]? with | some s=>s.Room | none=>0)+d else (match spots[j]? with | some s=>s.Room | none=>0)
  rw [hget]
  by_cases hjk:j=k
  ·subst hjk;rw [if_pos rfl,if_pos rfl,hk]
  ·rw [if_neg hjk,if_neg hjk]
 ·show (match l[i]?,(spots.set k (⟨s.Key,s.Time,s.Room+d,s.Tags⟩:Spot))[j]? with | some c,some s=>yQ c s | _,_=>false)=(match l[i]?,spots[j]? with | some c,some s=>yQ c s | _,_=>false)
  rw [hget]
  by_cases hjk:j=k
  ·subst hjk;rw [if_pos rfl,hk]
   cases l[i]? <;> rfl
  ·rw [if_neg hjk]
theorem zk (h:Office spots l) {k:Nat} {s:Spot} (hk:spots[k]? = some s) {n:Int} (h0:0<=n) (h1:n<=10000000):Office (spots.set k (⟨s.Key,s.Time,n,s.Tags⟩:Spot)) l:=by
 have hm:=List.mem_of_getElem? hk
 have hr:=h.sr s hm
 refine⟨λy hy => ?_,λy hy => ?_,h.cr,by rw [List.length_set];exact h.sn,h.ln⟩
 ·rcases List.mem_or_eq_of_mem_set hy with hy|hy
  ·exact h.tg y hy
  ·rw [hy];exact h.tg s hm
 ·rcases List.mem_or_eq_of_mem_set hy with hy|hy
  ·exact h.sr y hy
  ·rw [hy];exact⟨h0,h1,hr.2.2⟩
theorem Kl (h:Office spots l):∃v,jg spots l=some v/\0<=v/\fD (bR spots l) v:=by
 obtain ⟨rows,e1,q1,n1,v,rows',e2,s2,q2,f2,v0,hv⟩:=LH h
 refine⟨v,?_,v0,hv⟩
 unfold jg
 simp only [e1,ob_,n1,wM rfl,e2,s2]
theorem Gg (l:List Spot) (hl:l.length<=1000000000):bX l=some l:=by
 simp only [bX,kw,List.length_nil,Nat.zero_add,hl,if_true,ob_,List.nil_append]
theorem tightK (h:Office spots l) (hb:dN spots l=some 0) {v:Int} (hv:jg spots l=some v):∃t,lY spots l=some (t,0)/\t.length<=spots.length /\
  ∀(j:Nat) (x:Spot),spots[j]? = some x->0<x.Room->(∀v',fD (bump (bR spots l) j (-1)) v'->v'<v)->x.Key∈t:=by
 have hsn:=h.sn
 obtain ⟨t,r1,r2,r3⟩:=rA (body:=λk x s=>jF spots l v k x s) (λk t=>t.length<=k/\∀(j:Nat) (x:Spot),j<k->spots[j]? = some x->0<x.Room->(∀v',fD (bump (bR spots l) j (-1)) v'->v'<v)->x.Key∈t) (xs:=spots) (s:=([]:List ByteArray)) (by omega) (λk x t hk ht=>by
  obtain ⟨ht,hm⟩:=ht
  have hkl:k<spots.length:=(List.getElem?_eq_some_iff.1 hk).1
  have hr:=h.sr x (List.mem_of_getElem? hk)
  have hw:w64 (x.Room-1)=x.Room-1:=iU (by have:=hr.1;have:=hr.2.1;omega)
  unfold jF
  simp only [Gg spots (by omega),ob_,mH hkl,toN,hk,hw]
  by_cases h0:x.Room=0
  ·have e1:(x.Room==0)=true:=by simp [h0]
   rw [e1]
   refine⟨t,rfl,by omega,λj y hj hy hy0 hl => ?_⟩
   by_cases hjk:j=k
   ·subst hjk;rw [hk]at hy;simp only [so_]at hy;subst hy;omega
   ·exact hm j y (by omega) hy hy0 hl
  ·have e1:(x.Room==0)=false:=by simp [h0]
   obtain ⟨v',m1',_,m3'⟩:=Kl (zk h hk (n:=x.Room-1) (by have:=hr.1;omega) (by have:=hr.2.1;omega))
   have hap:kw t [x.Key]=some (t++[x.Key]):=wT _ _ (by simp;omega)
   rw [e1]
   simp only [cond_false,m1',ob_]
   by_cases hlt:v'<v
   ·rw [decide_eq_true hlt]
    simp only [cond_true,hap,ob_]
    refine⟨_,rfl,by simp;omega,λj y hj hy hy0 hl => ?_⟩
    by_cases hjk:j=k
    ·subst hjk;rw [hk]at hy;simp only [so_]at hy;subst hy
     exact List.mem_append_right _ (by simp)
    ·exact List.mem_append_left _ (hm j y (by omega) hy hy0 hl)
   ·rw [decide_eq_false hlt]
    simp only [cond_false,ob_]
    refine⟨_,rfl,by omega,λj y hj hy hy0 hl => ?_⟩
    by_cases hjk:j=k
    ·subst hjk
     exact absurd (hl v' (yZ hk (-1) m3')) hlt
    ·exact hm j y (by omega) hy hy0 hl) ⟨Nat.le_refl _,λj x hj=>absurd hj (Nat.not_lt_zero j)⟩
 refine⟨t,?_,r2,λj x hx h0 hl=>r3 j x (List.getElem?_eq_some_iff.1 hx).1 hx h0 hl⟩
 unfold lY
 simp only [hb,ob_,bne_self_eq_false,cond_false,hv]
 rw [r1,ob_,q9]
end
theorem IP (l:List Int):ja l=some true:=by
 obtain ⟨x,s1,a1,a2,a3,a4,a5,a6,a7⟩:=GL ⟨l,0⟩ (b:=0) ⟨Int.le_refl _,Int.le_refl _⟩ (by decide)
 obtain ⟨c,s2,b1,b2,b3,b4,b5,b6,b7⟩:=GJ 3 (.inl rfl) s1 a2 (by decide)
 have hs:=De (by omega) a5 a6
 have hc:=Jf (by omega) b5 (Ja.sublist b6)
 have hof:=F6 a4 b4 (by omega) (by omega) hs hc
 have hb:=Ke x c a4 b4 (by omega) (by omega)
 rw [hs,hc]at hb
 have hb:dN x c=some 0:=hb
 obtain ⟨v,m1,m2,m3⟩:=Kl hof
 obtain ⟨t,t1,t2,t3⟩:=tightK hof hb m1
 have hmost:jl x c=some (v,0):=by
  unfold jl
  simp only [hb,ob_,bne_self_eq_false,cond_false,m1]
 have b1':dH s1 3=some (c,s2):=b1
 obtain ⟨u,r1,_⟩:=rA (body:=λk y s=>fe (x,s1) (c,s2) (v,0) (t,0) k y s) (λ_ _=>True) (xs:=x) (s:=()) (by omega) (λk y s hk _=>by
  have hkl:k<x.length:=(List.getElem?_eq_some_iff.1 hk).1
  have hy:=a7 y (List.mem_of_getElem? hk)
  have hyg:=a4 y (List.mem_of_getElem? hk)
  have hw:w64 (y.Room+1)=y.Room+1:=iU (by omega)
  have hof':=zk hof hk (n:=y.Room+1) (by omega) (by omega)
  obtain ⟨v1,n1,n2,n3⟩:=Kl hof'
  have hle:v<=10000000000:=by
   have:=(Hq (LD hof) m3).1
   have g4:=(Mi hof.cr (by omega) x).2.2
   omega
  have hgs:∀z∈x.set k (⟨y.Key,y.Time,y.Room+1,y.Tags⟩:Spot),GoodS z/\eT lM z=0:=λz hz=>by
   rcases List.mem_or_eq_of_mem_set hz with hz|hz
   ·exact⟨a4 z hz,a5 z hz⟩
   ·subst hz
    refine⟨hyg,?_⟩
    have h0:=a5 y (List.mem_of_getElem? hk)
    have e:eT lM (⟨y.Key,y.Time,y.Room+1,y.Tags⟩:Spot)=eT lM y:=by
     unfold eT out
     simp only
     rw [decide_eq_false (show ¬y.Room+1<0 by omega),decide_eq_false (show ¬y.Room+1>1000000 by omega),decide_eq_false (show ¬y.Room<0 by omega),decide_eq_false (show ¬y.Room>1000000 by omega)]
    rw [e];exact h0
  have hmap:(x.set k (⟨y.Key,y.Time,y.Room+1,y.Tags⟩:Spot)).map Spot.Key=x.map Spot.Key:=by
   rw [List.map_set]
   refine List.ext_getElem? (λj => ?_)
   rw [List.getElem?_set,List.getElem?_map,List.length_map]
   by_cases hj:k=j
   ·subst hj;rw [if_pos rfl,if_pos hkl,hk];rfl
   ·rw [if_neg hj]
  have hs':=De (xs:=x.set k (⟨y.Key,y.Time,y.Room+1,y.Tags⟩:Spot)) (by rw [List.length_set];omega) (λz hz=>(hgs z hz).2) (by rw [hmap];exact a6)
  have hb':=Ke (x.set k (⟨y.Key,y.Time,y.Room+1,y.Tags⟩:Spot)) c (λz hz=>(hgs z hz).1) b4 (by rw [List.length_set];omega) (by omega)
  rw [hs',hc]at hb'
  have hb':dN (x.set k (⟨y.Key,y.Time,y.Room+1,y.Tags⟩:Spot)) c=some 0:=hb'
  have hmost':jl (x.set k (⟨y.Key,y.Time,y.Room+1,y.Tags⟩:Spot)) c=some (v1,0):=by
   unfold jl
   simp only [hb',ob_,bne_self_eq_false,cond_false,n1]
  have hbump:=yZ hk 1 n3
  obtain ⟨p1,p2⟩:=tight1 (show k<(bR x c).m from hkl) m3 hbump
  refine⟨(),?_,trivial⟩
  unfold fe
  simp only [Gg x (by omega),ob_,mH hkl,toN,hk,hw,hmost',bne_self_eq_false,cond_false,decide_eq_false (show ¬v1<v by omega),iU (show -9223372036854775808<=v+1/\v+1<=9223372036854775807 by omega),decide_eq_false (show ¬v1>v+1 by omega)]
  by_cases hgt:v1>v
  ·rw [decide_eq_true hgt]
   by_cases hroom:y.Room>0
   ·rw [decide_eq_true hroom]
    obtain ⟨r2,_,_,hr2⟩:=Kl (zk hof hk (n:=y.Room + -1) (by omega) (by omega))
    have hmem:y.Key∈t:=t3 k y hk hroom (λv' hv'=>by
     have:v'=r2:=hv'.uniq (yZ hk (-1) hr2)
     rw [this];exact (tight (show k<(bR x c).m from hkl) m3 hbump (yZ hk (-1) hr2)).2.2 hgt)
    simp only [cond_true,G6 t y.Key (by omega),ob_,Cm.2 hmem,Bool.not_true,cond_false]
   ·rw [decide_eq_false hroom]
    simp only [cond_true,cond_false,ob_]
  ·rw [decide_eq_false hgt]
   simp only [cond_false,ob_]) trivial
 unfold ja
 simp only [a1,b1',ob_,t1,hmost,bne_self_eq_false,cond_false]
 rw [r1,ob_,q9,Mo,ob_]
end Go.Proofs.YtekmkepojbhafaaGreatDoor.Law

