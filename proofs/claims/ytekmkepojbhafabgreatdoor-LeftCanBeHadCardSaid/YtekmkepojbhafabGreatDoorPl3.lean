/-
  THE PLAIN LAW (part 3).
-/
import Derived.Test.YtekmkepojbhafabGreatDoorPl2
import Derived.Test.YtekmkepojbhafabGreatDoorDefs
open Go Go.Eng
namespace Go.Proofs.YtekmkepojbhafabGreatDoor.Law
set_option linter.unusedVariables false
set_option linter.unusedSimpArgs false
def or0 (a b:Int):Int:=bif a==0 then b else a
theorem Ga (x:List Spot) (c:List Campaign) (hx:∀s∈x,GoodS s) (hc:∀s∈c,AX s) (h1:x.length<=1000) (h2:c.length<=1000):dw x c=some (or0 (pU x) (uU c)):=by
  unfold dw or0
  rw [spotsK x hx (by omega),Nq c hc (by omega)]
  simp only [ob_]
  cases h:pU x==0 with
  | true => have : (pU x != 0) = false := by simp [bne, h]
            simp only [this,cond_false,cond_true]
  | false => have : (pU x != 0) = true := by simp [bne, h]
             simp only [this,cond_true,cond_false]
theorem Mh {last:ByteArray} {x:Spot} (h:fT last x=0):tagsF x.Tags=0:=by
  unfold fT at h
  generalize (Cy x.Time||out x.Room 1000000)=q at h
  generalize sLe x.Key last=p at h
  generalize nZ x.Key=k at h
  cases k <;> cases p <;> cases q <;> first | (cases h;done) | exact h
theorem Ep:∀(l:List Spot) (last:ByteArray),chk Spot.Key fT last l=0->∀x∈l,tagsF x.Tags=0
  | [],_,_,x,hx=>by simp at hx
  | y::l,last,h,x,hx=>by
    rw [chk]at h
    cases he:fT last y==0 with
    | false=>rw [he]at h;simp only [cond_false]at h;rw [h]at he;cases he
    | true =>
      rw [he]at h
      simp only [cond_true]at h
      rcases List.mem_cons.1 hx with rfl|hx
      · exact Mh (eq_of_beq he)
      · exact Ep l _ h x hx
theorem MG {l:List Spot} (h:pU l=0):∀x∈l,tagsF x.Tags=0:=by
  unfold pU at h
  by_cases hl:l.length>60
  · rw [decide_eq_true hl]at h;cases h
  · rw [decide_eq_false hl]at h;exact Ep l _ h
end Go.Proofs.YtekmkepojbhafabGreatDoor.Law

open Go Go.Eng Go.Flow
namespace Go.Proofs.YtekmkepojbhafabGreatDoor.Law
set_option linter.unusedVariables false
set_option linter.unusedSimpArgs false
set_option linter.unusedSectionVars false
theorem CE (l:List Campaign) (hl:l.length<=1000000000):bA l=some l:=by
 simp only [bA,jZ,List.length_nil,Nat.zero_add,hl,if_true,ob_,List.nil_append]
theorem ME (a b:Int):sN a b=min a b:=by unfold sN;split <;> omega
theorem IM {l:List Campaign} (hl:∀c∈l,CampR c) (hm:l.length<=1000) (spots:List Spot):AB (λ_ (c:Campaign)=>c.Goal) 0 l=(bE spots l).goals/\0<=(bE spots l).goals/\(bE spots l).goals<=10000000000:=by
 have hin:=Kw (λ_ (c:Campaign)=>c.Goal) 10000000 l 0 (λj x hx=>⟨(hl x hx).1,(hl x hx).2.1⟩)
 have hS:AB (λ_ (c:Campaign)=>c.Goal) 0 l=(bE spots l).goals:=by
  unfold Net.goals
  exact MP _ _ l 0 (λi x hx=>by show x.Goal=_;rw [(FT hx).1])
 rw [hS]at hin
 refine⟨hS,hin.1,?_⟩
 have:=hin.2
 have h2:(l.length:Int)<=1000:=by omega
 omega
theorem Kr {l:List Campaign} (hl:∀c∈l,CampR c) (hm:l.length<=1000) (spots:List Spot):kM l=some (bE spots l).goals:=by
 have hrun:forR (λk x s=>jK k x s) l 0 0=some (.go ((0:Int)+AB (λ_ (c:Campaign)=>c.Goal) 0 l)):=Ht (λ_ c=>c.Goal) l 0 0 (by omega) (by omega) (λj x hx=>by have:=hl x hx;unfold CampR at this;omega) (λj x s hx hj h0 h1=>by
  have:=hl x hx
  unfold CampR at this
  unfold jK
  rw [iq (by omega)])
 unfold kM
 rw [qK (by omega),hrun,ob_,rz,Int.zero_add,(IM hl hm spots).1]
theorem M6 (N:Net) (hr:N.Right):N.cutV (λ_=>false)<=N.goals:=by
 unfold Net.cutV Net.goals
 have h1:S N.m (λk=>bif (λ_=>false) k then N.room k else 0)=0:=Net.S_all0 (λk _=>rfl)
 have h2:S N.q (λi=>min (N.goal i) (N.ways (λ_=>false) i))<=S N.q N.goal:=Ob (λi _=>by omega)
 omega
theorem G5 {N:Net} (hr:N.Right) {r:Int} (h:fH N r):r<=N.goals/\(r=N.goals↔∀B,N.goals<=N.cutV B):=by
 obtain ⟨h1,B,h2⟩:=h
 have h3:=M6 N hr
 have h4:=h1 (λ_=>false)
 refine⟨by omega,λe B=>by rw [<- e];exact h1 B,λh => ?_⟩
 have:=h B
 omega
theorem Ms {n hi:Int} (h:out n hi=false):0<=n/\n<=hi:=by
 unfold out at h
 simp only [Bool.or_eq_false_iff,decide_eq_false_iff_not]at h
 omega
theorem Gj {last:ByteArray} {x:Spot} (h:fT last x=0):0<=x.Room/\x.Room<=1000000:=by
 unfold fT at h
 cases hk:nZ x.Key <;> cases hl:sLe x.Key last <;> cases ho:out x.Room 1000000 <;> cases hb:Cy x.Time <;> rw [hk,hl,ho,hb]at h <;> first | (cases h;done) | exact Ms ho
theorem Hd:∀(l:List Spot) (last:ByteArray),chk Spot.Key fT last l=0->∀x∈l,0<=x.Room/\x.Room<=1000000
 | [],_,_,x,hx=>by simp at hx
 | y::l,last,h,x,hx=>by
  rw [chk]at h
  cases he:fT last y==0 with
  | false=>rw [he]at h;simp only [cond_false]at h;rw [h]at he;cases he
  | true =>
   rw [he]at h
   simp only [cond_true]at h
   rcases List.mem_cons.1 hx with rfl|hx
   ·exact Gj (eq_of_beq he)
   ·exact Hd l _ h x hx
theorem Js {last:ByteArray} {c:Campaign} (h:gK last c=0):0<=c.Goal/\c.Goal<=1000000/\0<=c.Most/\c.Most<=1000000:=by
 unfold gK at h
 cases hk:(!nZ c.Key||(decide (c.Class.size≠0) && !nZ c.Class)) <;> rw [hk]at h <;> simp only [cond_true,cond_false]at h
 ·cases hl:sLe c.Key last <;> rw [hl]at h <;> simp only [cond_true,cond_false]at h
  ·cases ho:(Cy c.Time||(out c.Goal 1000000||(out c.Most 1000000||out c.Cents 1000000000))) <;> rw [ho]at h <;> simp only [cond_true,cond_false]at h
   ·simp only [Bool.or_eq_false_iff]at ho
    have h1:=Ms ho.2.1
    have h2:=Ms ho.2.2.1
    omega
   ·cases h
  ·cases h
 ·cases h
theorem E8:∀(l:List Campaign) (last:ByteArray),chk Campaign.Key gK last l=0->∀x∈l,0<=x.Goal/\x.Goal<=1000000/\0<=x.Most/\x.Most<=1000000
 | [],_,_,x,hx=>by simp at hx
 | y::l,last,h,x,hx=>by
  rw [chk]at h
  cases he:gK last y==0 with
  | false=>rw [he]at h;simp only [cond_false]at h;rw [h]at he;cases he
  | true =>
   rw [he]at h
   simp only [cond_true]at h
   rcases List.mem_cons.1 hx with rfl|hx
   ·exact Js (eq_of_beq he)
   ·exact E8 l _ h x hx
theorem Gy {x:List Spot} {c:List Campaign} (hx:∀s∈x,GoodS s) (hc:∀s∈c,AX s) (h1:x.length<=30) (h2:c.length<=30) (hs:pU x=0) (hcf:uU c=0):Office x c:=by
 have e1:chk Spot.Key fT mg x=0:=by
  unfold pU at hs
  rw [decide_eq_false (by omega)]at hs;exact hs
 have e2:chk Campaign.Key gK mg c=0:=by
  unfold uU at hcf
  rw [decide_eq_false (by omega)]at hcf;exact hcf
 refine⟨MG hs,λs hm => ?_,λo hm => ?_,h1,by omega⟩
 ·have:=Hd x _ e1 s hm
  exact⟨this.1,by omega,by have:=(hx s hm).2.1;omega⟩
 ·have:=E8 c _ e2 o hm
  exact⟨this.1,by omega,this.2.2.1,by omega,by have:=(hc o hm).2.2.1;omega⟩
end Go.Proofs.YtekmkepojbhafabGreatDoor.Law

open Go Go.Eng Go.Flow
namespace Go.Proofs.YtekmkepojbhafabGreatDoor.Law
set_option linter.unusedVariables false
set_option linter.unusedSimpArgs false
set_option linter.unusedSectionVars false
theorem EQ {α β:Type} {f:α->β} {ks:List β} {k:Nat} {x:β} {l:List α} (hx:ks[k]? = some x) (h:(l.map f).Sublist (ks.take k)):(l.map f).Sublist (ks.take (k+1))/\∀c,f c=x->((l++[c]).map f).Sublist (ks.take (k+1)):=by
 have e:ks.take (k+1)=ks.take k++[x]:=by
  rw [List.take_add_one,hx];rfl
 rw [e]
 refine⟨h.trans (List.sublist_append_left _ _),λc hc => ?_⟩
 rw [List.map_append]
 refine h.append ?_
 rw [List.map_cons,hc]
 exact List.Sublist.refl _
theorem ltl {a b:ByteArray} (h:sLt a b=true):lt a b:=(BV a b).1 h
theorem HV {L:Nat->ByteArray->(List ByteArray×List Int×Int)->Option (Ctl (List ByteArray×List Int×Int) Unit)} {n:Int} (hn:1<=n) (hn2:n<=1000)
  (hL:∀k x s,L k x s=(fM (⟨s.2.1,s.2.2⟩:Stream) n).bind λr=>(bif r.1 then (jZ s.1 ([x]:List ByteArray)).bind λa=>some a else some s.1).bind λv=>some (.go (v,r.2.L,r.2.f_at)))
  (s:Stream) {b:Int} (hs:Ok s b) (hb:b<=900000):∃t s',forL ([(⟨#[99,105,116,121]⟩:ByteArray),(⟨#[109,97,108,108]⟩:ByteArray)]:List ByteArray) (([]:List ByteArray),s.L,s.f_at) (λk x s=>L k x s)=some (.go (t,s'.L,s'.f_at))/\tagsF t=0/\t.length<=20/\(∀x∈t,qp x)/\Ok s' (b+2):=by
 obtain ⟨c,s1,h1,h2⟩:=BN s n hs (by omega) hn hn2
 obtain ⟨d,s2,k1,k2⟩:=BN s1 n h2 (by omega) hn hn2
 have e1:(⟨s.L,s.f_at⟩:Stream)=s:=rfl
 have e2:(⟨s1.L,s1.f_at⟩:Stream)=s1:=rfl
 rw [qK (by simp)]
 cases c <;> cases d <;> simp only [forR,hL,e1,h1,ob_,cond_true,cond_false,xz [] [(⟨#[99,105,116,121]⟩:ByteArray)] (by simp),xz [] [(⟨#[109,97,108,108]⟩:ByteArray)] (by simp),List.nil_append,e2,k1,xz [(⟨#[99,105,116,121]⟩:ByteArray)] [(⟨#[109,97,108,108]⟩:ByteArray)] (by simp)]
 ·exact⟨[],s2,rfl,by kernel_rfl,by decide,λx hx=>(by cases hx),k2.mono (by omega)⟩
 ·exact⟨[⟨#[109,97,108,108]⟩],s2,rfl,by kernel_rfl,by decide,λx hx=>(by rw [List.mem_singleton.1 hx];exact nz rfl),k2.mono (by omega)⟩
 ·exact⟨[⟨#[99,105,116,121]⟩],s2,rfl,by kernel_rfl,by decide,λx hx=>(by rw [List.mem_singleton.1 hx];exact nz rfl),k2.mono (by omega)⟩
 ·exact⟨[⟨#[99,105,116,121]⟩,⟨#[109,97,108,108]⟩],s2,rfl,by kernel_rfl,by decide,λx hx=>(by
   simp only [List.mem_cons,List.not_mem_nil,or_false]at hx
   rcases hx with rfl|rfl <;> exact nz rfl),k2.mono (by omega)⟩
def qj:List ByteArray:=[(⟨#[99,97]⟩:ByteArray),(⟨#[99,98]⟩:ByteArray),(⟨#[99,99]⟩:ByteArray),(⟨#[99,100]⟩:ByteArray)]
theorem Db:qj.Pairwise lt:=by
 unfold qj
 simp only [List.pairwise_cons,List.mem_cons,List.not_mem_nil,or_false,forall_eq_or_imp,forall_eq]
 refine⟨⟨ltl (by kernel_rfl),ltl (by kernel_rfl),ltl (by kernel_rfl)⟩,⟨ltl (by kernel_rfl),ltl (by kernel_rfl)⟩,ltl (by kernel_rfl),λa h=>(by cases h),List.Pairwise.nil⟩
theorem Ma:∀k∈qj,nZ k=true/\qp k/\sLe k mg=false:=by
 intro k hk
 simp only [qj,List.mem_cons,List.not_mem_nil,or_false]at hk
 rcases hk with rfl|rfl|rfl|rfl <;> exact⟨by kernel_rfl,nz rfl,by kernel_rfl⟩
def wX:List ByteArray:=[(⟨#[115,97]⟩:ByteArray),(⟨#[115,98]⟩:ByteArray),(⟨#[115,99]⟩:ByteArray),(⟨#[115,100]⟩:ByteArray),(⟨#[115,101]⟩:ByteArray)]
theorem Jb:wX.Pairwise lt:=by
 unfold wX
 simp only [List.pairwise_cons,List.mem_cons,List.not_mem_nil,or_false,forall_eq_or_imp,forall_eq]
 refine⟨⟨ltl (by kernel_rfl),ltl (by kernel_rfl),ltl (by kernel_rfl),ltl (by kernel_rfl)⟩,⟨ltl (by kernel_rfl),ltl (by kernel_rfl),ltl (by kernel_rfl)⟩,⟨ltl (by kernel_rfl),ltl (by kernel_rfl)⟩,ltl (by kernel_rfl),λa h=>(by cases h),List.Pairwise.nil⟩
theorem LY:∀k∈wX,nZ k=true/\qp k/\sLe k mg=false:=by
 intro k hk
 simp only [wX,List.mem_cons,List.not_mem_nil,or_false]at hk
 rcases hk with rfl|rfl|rfl|rfl|rfl <;> exact⟨by kernel_rfl,nz rfl,by kernel_rfl⟩
theorem F6 {c:Spot} {last:ByteArray} (h:fT mg c=0) (hl:sLe c.Key last=false):fT last c=0:=by
 unfold fT at *
 rw [hl]
 cases h1 : !nZ c.Key with
 | true=>rw [h1]at h;cases h
 | false =>
  rw [h1,cond_false]at h
  cases h2:sLe c.Key mg with
  | true=>rw [h2]at h;cases h
  | false=>rw [h2]at h;exact h
theorem G7 {c:Campaign} {last:ByteArray} (h:gK mg c=0) (hl:sLe c.Key last=false):gK last c=0:=by
 unfold gK at *
 rw [hl]
 cases h1:(!nZ c.Key||(decide (c.Class.size≠0) && !nZ c.Class))with
 | true=>rw [h1]at h;cases h
 | false =>
  rw [h1,cond_false]at h
  cases h2:sLe c.Key mg with
  | true=>rw [h2]at h;cases h
  | false=>rw [h2]at h;exact h
theorem IZ {α:Type} (key:α->ByteArray) (stp:ByteArray->α->Int) (hn:∀c last,stp mg c=0->sLe (key c) last=false->stp last c=0):∀(l:List α) (last:ByteArray),(∀c∈l,stp mg c=0)->(l.map key).Pairwise lt->(∀c∈l,sLe (key c) last=false)->chk key stp last l=0
 | [],_,_,_,_=>rfl
 | c::l,last,h,hp,hl=>by
  have h0:=hn c last (h c (by simp)) (hl c (by simp))
  rw [List.map_cons,List.pairwise_cons]at hp
  rw [chk,h0]
  show (bif (0:Int)==0 then _ else _)=_
  rw [beq_self_eq_true,cond_true]
  refine IZ key stp hn l (key c) (λx hx=>h x (by simp [hx])) hp.2 (λx hx => ?_)
  rw [Bool.eq_false_iff]
  intro he
  exact (Gr _ _).1 he (hp.1 (key x) (List.mem_map.2 ⟨x,hx,rfl⟩))
theorem Iy {c:Spot} (h:fT mg c=0):sLe c.Key mg=false:=by
 unfold fT at h
 cases h1 : !nZ c.Key with
 | true=>rw [h1]at h;cases h
 | false =>
  rw [h1,cond_false]at h
  cases h2:sLe c.Key mg with
  | true=>rw [h2]at h;cases h
  | false=>rfl
theorem G6 {c:Campaign} (h:gK mg c=0):sLe c.Key mg=false:=by
 unfold gK at h
 cases h1:(!nZ c.Key||(decide (c.Class.size≠0) && !nZ c.Class))with
 | true=>rw [h1]at h;cases h
 | false =>
  rw [h1,cond_false]at h
  cases h2:sLe c.Key mg with
  | true=>rw [h2]at h;cases h
  | false=>rfl
theorem J7 {xs:List Spot} (hl:xs.length<=60) (h:∀x∈xs,fT mg x=0) (hp:(xs.map Spot.Key).Pairwise lt):pU xs=0:=by
 unfold pU
 rw [decide_eq_false (by omega),cond_false]
 exact IZ Spot.Key fT (λc last=>F6) xs mg h hp (λc hc=>Iy (h c hc))
theorem ym {xs:List Campaign} (hl:xs.length<=30) (h:∀x∈xs,gK mg x=0) (hp:(xs.map Campaign.Key).Pairwise lt):uU xs=0:=by
 unfold uU
 rw [decide_eq_false (by omega),cond_false]
 exact IZ Campaign.Key gK (λc last=>G7) xs mg h hp (λc hc=>G6 (h c hc))
theorem Hu (s:Stream) {b:Int} (hs:Ok s b) (hb:b<=800000):∃xs s',gH s=some (xs,s')/\Ok s' (b+100)/\xs.length<=5/\(∀x∈xs,GoodS x)/\(∀x∈xs,fT mg x=0)/\(xs.map Spot.Key).Pairwise lt/\∀x∈xs,0<=x.Time.From/\x.Time.From<x.Time.To/\x.Time.To<=60/\0<=x.Room/\x.Room<=5:=by
 unfold gH
 have hk1:([(⟨#[115,97]⟩:ByteArray),(⟨#[115,98]⟩:ByteArray),(⟨#[115,99]⟩:ByteArray),(⟨#[115,100]⟩:ByteArray),(⟨#[115,101]⟩:ByteArray)]:List ByteArray)=wX:=rfl
 rw [hk1]
 obtain ⟨s',h1,h2,h3,h4,h5,h6⟩:=uG (body:=λk x s=>fF k x s) (λk s=>Ok ⟨s.2.1,s.2.2⟩ (b+15*k)/\(s.1.map Spot.Key).Sublist (wX.take k)/\(∀x∈s.1,GoodS x)/\(∀x∈s.1,fT mg x=0)/\∀x∈s.1,0<=x.Time.From/\x.Time.From<x.Time.To/\x.Time.To<=60/\0<=x.Room/\x.Room<=5)
  (xs:=wX) (s:=(([]:List Spot),s.L,s.f_at)) (by decide) (λk x t hx ⟨i1,i2,i3,i4,i5⟩=>by
   have hkl:k<5:=by
    rcases Nat.lt_or_ge k 5 with g|g
    ·exact g
    ·rw [List.getElem?_eq_none (by exact g)]at hx;cases hx
   obtain ⟨n1,n2,n3⟩:=LY x (List.mem_of_getElem? hx)
   obtain ⟨g1,g2⟩:=EQ hx i2
   have hlen:t.1.length<=5:=by
    have:=i2.length_le
    rw [List.length_map,List.length_take]at this
    omega
   obtain ⟨c,s1,k1,k2⟩:=BN _ 4 i1 (by omega) (by decide) (by decide)
   simp only [fF,k1,ob_]
   cases c with
   | true=>exact⟨_,rfl,k2.mono (by omega),g1,i3,i4,i5⟩
   | false =>
    obtain ⟨p1,s2,m1,q1,n1'⟩:=sj s1 [5,10,10] k2 (by omega) (by simp) (by simp)
    obtain ⟨p2,s3,m2,q2,n2'⟩:=sj s2 [0,1,2,3,5] n1' (by omega) (by simp) (by simp)
    obtain ⟨tg,s4,k7,k8,k9,k10,k11⟩:=HV (L:=gM) (n:=2) (by decide) (by decide) (λ_ _ _=>rfl) s3 n2' (by omega)
    simp only [List.mem_cons,List.not_mem_nil,or_false]at q1 q2
    have e1:w64 (10*(k:Int))=10*k:=iq (by omega)
    have e2:w64 (10*(k:Int)+p1)=10*k+p1:=iq (by omega)
    simp only [cond_false,m1,m2,k7,ob_,rz,e1,e2,xz t.1 _ (show t.1.length+[_].length<=_ by simp;omega)]
    refine⟨_,rfl,k11.mono (by omega),g2 _ rfl,λy hy => ?_,λy hy => ?_,λy hy => ?_⟩
    ·rcases List.mem_append.1 hy with hy|hy
     ·exact i3 y hy
     ·rw [List.mem_singleton.1 hy]
      exact⟨n2,k9,k10⟩
    ·rcases List.mem_append.1 hy with hy|hy
     ·exact i4 y hy
     ·rw [List.mem_singleton.1 hy]
      unfold fT Cy out
      simp only [n1,n3,k8,Bool.not_true,cond_false]
      rw [decide_eq_false (show ¬10*(k:Int)<0 by omega),decide_eq_false (show ¬10*(k:Int)>=10*k+p1 by omega),decide_eq_false (show ¬10*(k:Int)+p1>345686400000 by omega),decide_eq_false (show ¬p2<0 by omega),decide_eq_false (show ¬p2>1000000 by omega)]
      rfl
    ·rcases List.mem_append.1 hy with hy|hy
     ·exact i5 y hy
     ·rw [List.mem_singleton.1 hy]
      show 0<=10*(k:Int)/\10*(k:Int)<10*k+p1/\10*(k:Int)+p1<=60/\0<=p2/\p2<=5
      omega) ⟨by simpa using hs,by simp,by simp,by simp,by simp⟩
 rw [h1]
 have hl:s'.1.length<=5:=by
  have:=h3.length_le
  rw [List.length_map,List.length_take]at this
  have e:wX.length=5:=rfl
  omega
 refine⟨s'.1,⟨s'.2.1,s'.2.2⟩,rfl,h2.mono (by show b+15*((5:Nat):Int)<=b+100;omega),hl,h4,h5,?_,h6⟩
 rw [show wX.take wX.length=wX from rfl]at h3
 exact Jb.sublist h3
theorem IE (m:Nat) (hm:m=3\/m=4) (s:Stream) {b:Int} (hs:Ok s b) (hb:b<=800000):∃xs s',dP s (m:Int)=some (xs,s')/\Ok s' (b+100)/\xs.length<=m/\(∀x∈xs,AX x)/\(∀x∈xs,gK mg x=0)/\(xs.map Campaign.Key).Sublist qj/\∀x∈xs,x.Time.To<=100/\0<=x.Goal/\x.Goal<=6/\0<=x.Most/\x.Most<=9:=by
 unfold dP
 have hk1:JB ([(⟨#[99,97]⟩:ByteArray),(⟨#[99,98]⟩:ByteArray),(⟨#[99,99]⟩:ByteArray),(⟨#[99,100]⟩:ByteArray)]:List ByteArray) 0 (m:Int)=some (qj.take m):=by
  rcases hm with rfl|rfl <;> rfl
 have hml:(qj.take m).length=m:=by rcases hm with rfl | rfl <;> rfl
 simp only [hk1,ob_]
 obtain ⟨s',h1,h2,h3,h4,h5,h6⟩:=uG (body:=λk x s=>dS k x s) (λk s=>Ok ⟨s.2.1,s.2.2⟩ (b+20*k)/\(s.1.map Campaign.Key).Sublist ((qj.take m).take k)/\(∀x∈s.1,AX x)/\(∀x∈s.1,gK mg x=0)/\∀x∈s.1,x.Time.To<=100/\0<=x.Goal/\x.Goal<=6/\0<=x.Most/\x.Most<=9)
  (xs:=qj.take m) (s:=(([]:List Campaign),s.L,s.f_at)) (by rw [hml];omega) (λk x t hx ⟨i1,i2,i3,i4,i5⟩=>by
   have hkl:k<m:=by
    have:=(List.getElem?_eq_some_iff.1 hx).1
    omega
   obtain ⟨n1,n2,n3⟩:=Ma x (List.mem_of_mem_take (List.mem_of_getElem? hx))
   obtain ⟨g1,g2⟩:=EQ hx i2
   have hlen:t.1.length<=4:=by
    have:=i2.length_le
    rw [List.length_map,List.length_take]at this
    omega
   obtain ⟨c,s1,k1,k2⟩:=BN _ 5 i1 (by omega) (by decide) (by decide)
   simp only [dS,k1,ob_]
   cases c with
   | true=>exact⟨_,rfl,k2.mono (by omega),g1,i3,i4,i5⟩
   | false =>
    obtain ⟨cl,s2,k3,kc,k4⟩:=some_ok s1 [(⟨#[]⟩:ByteArray),(⟨#[]⟩:ByteArray),(⟨#[99,97,114,115]⟩:ByteArray),(⟨#[102,111,111,100]⟩:ByteArray)] k2 (by omega) (by simp) (by simp)
    obtain ⟨p1,s3,m1,q1,n1'⟩:=sj s2 [0,0,10,20] k4 (by omega) (by simp) (by simp)
    obtain ⟨p2,s4,m2,q2,n2'⟩:=sj s3 [30,50,60,100] n1' (by omega) (by simp) (by simp)
    obtain ⟨p3,s5,m3,q3,n3'⟩:=sj s4 [0,1,2,3,4,6] n2' (by omega) (by simp) (by simp)
    obtain ⟨p4,s6,m4,q4,n4'⟩:=sj s5 [0,1,2,3,9] n3' (by omega) (by simp) (by simp)
    obtain ⟨p5,s7,m5,q5,n5'⟩:=sj s6 [0,500,1000,1500] n4' (by omega) (by simp) (by simp)
    obtain ⟨tg,s8,k7,k8,k9,k10,k11⟩:=HV (L:=fI) (n:=4) (by decide) (by decide) (λ_ _ _=>rfl) s7 n5' (by omega)
    simp only [List.mem_cons,List.not_mem_nil,or_false]at q1 q2 q3 q4 q5
    simp only [cond_false,k3,m1,m2,m3,m4,m5,k7,ob_,rz,xz t.1 _ (show t.1.length+[_].length<=_ by simp;omega)]
    have hcl:qp cl/\(decide (cl.size≠0) && !nZ cl)=false:=by
     simp only [List.mem_cons,List.not_mem_nil,or_false]at kc
     rcases kc with rfl|rfl|rfl|rfl <;> exact⟨nz rfl,by kernel_rfl⟩
    refine⟨_,rfl,k11.mono (by omega),g2 _ rfl,λy hy => ?_,λy hy => ?_,λy hy => ?_⟩
    ·rcases List.mem_append.1 hy with hy|hy
     ·exact i3 y hy
     ·rw [List.mem_singleton.1 hy]
      exact⟨n2,hcl.1,k9,k10⟩
    ·rcases List.mem_append.1 hy with hy|hy
     ·exact i4 y hy
     ·rw [List.mem_singleton.1 hy]
      unfold gK Cy out
      simp only [n1,hcl.2,n3,k8,Bool.not_true,Bool.or_false,cond_false]
      rw [decide_eq_false (show ¬p1<0 by omega),decide_eq_false (show ¬p1>=p2 by omega),decide_eq_false (show ¬p2>345686400000 by omega),decide_eq_false (show ¬p3<0 by omega),decide_eq_false (show ¬p3>1000000 by omega),decide_eq_false (show ¬p4<0 by omega),decide_eq_false (show ¬p4>1000000 by omega),decide_eq_false (show ¬p5<0 by omega),decide_eq_false (show ¬p5>1000000000 by omega)]
      rfl
    ·rcases List.mem_append.1 hy with hy|hy
     ·exact i5 y hy
     ·rw [List.mem_singleton.1 hy]
      show p2<=100/\0<=p3/\p3<=6/\0<=p4/\p4<=9
      omega) ⟨by simpa using hs,by simp,by simp,by simp,by simp⟩
 rw [h1]
 have hl:s'.1.length<=m:=by
  have:=h3.length_le
  rw [List.length_map,List.length_take,hml]at this
  omega
 refine⟨s'.1,⟨s'.2.1,s'.2.2⟩,rfl,h2.mono (by rw [hml];omega),hl,h4,h5,?_,h6⟩
 exact (h3.trans (List.take_sublist _ _)).trans (List.take_sublist _ _)
end Go.Proofs.YtekmkepojbhafabGreatDoor.Law

open Go Go.Eng Go.Flow
namespace Go.Proofs.YtekmkepojbhafabGreatDoor.Law
set_option linter.unusedVariables false
set_option linter.unusedSimpArgs false
def more (N:Net) (g m:Int) (su:Nat->Bool):Net where
 q:=N.q+1
 m:=N.m
 goal:=λi=>if i=N.q then g else N.goal i
 most:=λi=>if i=N.q then m else N.most i
 room:=N.room
 suits:=λi k=>if i=N.q then su k else N.suits i k
theorem qQ (N:Net) (g m:Int) (su:Nat->Bool) (B:Nat->Bool):(more N g m su).cutV B=N.cutV B+min g (S N.m (λk=>bif !B k&&su k then m else 0)):=by
 have e1:(more N g m su).cutV B=S N.m (λj=>bif B j then N.room j else 0)+(S N.q (λi=>min (if i=N.q then g else N.goal i) ((more N g m su).ways B i))+min (if N.q=N.q then g else N.goal N.q) ((more N g m su).ways B N.q)):=rfl
 have e2:S N.q (λi=>min (if i=N.q then g else N.goal i) ((more N g m su).ways B i))=S N.q (λi=>min (N.goal i) (N.ways B i)):=cO (λi hi=>by
  rw [if_neg (by omega)]
  congr 1
  refine cO (λk _ => ?_)
  show (bif !B k&&(if i=N.q then su k else N.suits i k)then (if i=N.q then m else N.most i)else 0)=_
  rw [if_neg (by omega),if_neg (by omega)])
 have e3:(more N g m su).ways B N.q=S N.m (λk=>bif !B k&&su k then m else 0):=by
  refine cO (λk _ => ?_)
  show (bif !B k&&(if N.q=N.q then su k else N.suits N.q k)then (if N.q=N.q then m else N.most N.q)else 0)=_
  rw [if_pos rfl,if_pos rfl]
 have e4:N.cutV B=S N.m (λj=>bif B j then N.room j else 0)+S N.q (λi=>min (N.goal i) (N.ways B i)):=rfl
 rw [e1,e2,e3,if_pos rfl,e4];omega
theorem NK {N:Net} {g m:Int} {su:Nat->Bool} {r rg:Int} (h:fH N r) (hg:fH (more N g m su) rg) (h0:0<=rg-r) (hlt:rg-r<g) :
  fH (more N (rg-r) m su) rg/\∀r1,fH (more N (rg-r+1) m su) r1->r1<r+(rg-r+1):=by
 obtain ⟨a,B0,b⟩:=h
 obtain ⟨ag,Bg,bg⟩:=hg
 have c0:∀B,rg<=N.cutV B+min g (S N.m (λk=>bif !B k&&su k then m else 0)):=λB=>by
  have:=ag B;rw [qQ]at this;exact this
 rw [qQ]at bg
 have hb:=a Bg
 refine⟨⟨λB => ?_,Bg,?_⟩,λr1 h1 => ?_⟩
 ·rw [qQ]
  have:=c0 B
  have:=a B
  omega
 ·rw [qQ];omega
 ·have:=h1.1 Bg
  rw [qQ]at this
  omega
end Go.Proofs.YtekmkepojbhafabGreatDoor.Law

open Go Go.Eng
namespace Go.Proofs.YtekmkepojbhafabGreatDoor.Law
set_option linter.unusedVariables false
set_option linter.unusedSimpArgs false
def pI {σ ρ:Type} (s:σ) (body:σ->Option (Ctl σ ρ)):Option (Ctl σ ρ):=iterN body 300 s
def Le {α:Type} (a b:Option α):Prop:=∀r,a=some r->b=some r
theorem Le.refl {α:Type} (a:Option α):Le a a:=λ_ h=>h
theorem Le.bind {α β:Type} {a b:Option α} {f g:α->Option β} (h:Le a b) (k:∀x,Le (f x) (g x)):Le (a.bind f) (b.bind g):=λr e=>by
 obtain ⟨x,h1,h2⟩:=Option.bind_eq_some_iff.1 e
 rw [h x h1];exact k x r h2
theorem Le.cond {α:Type} {a b c d:Option α} {t:Bool} (h:Le a c) (k:Le b d):Le (bif t then a else b) (bif t then c else d):=by
 cases t
 ·exact k
 ·exact h
theorem Le.thenC {σ ρ τ:Type} {o:Ctl σ ρ} {f f':σ->Option τ} {g g':ρ->Option τ} (h:∀x,Le (f x) (f' x)) (k:∀x,Le (g x) (g' x)):Le (Go.Eng.thenC o f g) (Go.Eng.thenC o f' g'):=by
 cases o
 ·exact h _
 ·exact Le.refl _
 ·exact k _
theorem Le.forR {α σ ρ:Type} {b b':Nat->α->σ->Option (Ctl σ ρ)} (h:∀k x s,Le (b k x s) (b' k x s)):∀(xs:List α) (k:Nat) (s:σ),Le (Go.Eng.forR b xs k s) (Go.Eng.forR b' xs k s)
 | [],k,s=>Le.refl _
 | x::xs,k,s=>Le.bind (h k x s) (λc=>by
   cases c with
   | go s'=>exact Le.forR h xs _ _
   | brk s'=>exact Le.refl _
   | ret r=>exact Le.refl _)
theorem Le.forL {α σ ρ:Type} {xs:List α} {s:σ} {b b':Nat->α->σ->Option (Ctl σ ρ)} (h:∀k x s,Le (b k x s) (b' k x s)):Le (Go.Eng.forL xs s b) (Go.Eng.forL xs s b'):=by
 unfold Go.Eng.forL
 split
 ·exact Le.forR h xs 0 s
 ·exact Le.refl _
theorem Le.iterN {σ ρ:Type} {b b':σ->Option (Ctl σ ρ)} (h:∀s,Le (b s) (b' s)):∀(n:Nat) (s:σ),Le (Go.Eng.iterN b n s) (Go.Eng.iterN b' n s)
 | 0,s=>Le.refl _
 | n+1,s=>Le.bind (h s) (λc=>by
   cases c with
   | go s'=>exact Le.iterN h n s'
   | brk s'=>exact Le.refl _
   | ret r=>exact Le.refl _)
theorem Le.loop {σ ρ:Type} {s:σ} {b b':σ->Option (Ctl σ ρ)} (h:∀s,Le (b s) (b' s)):Le (pI s b) (jy s b'):=λr e=>oz (Le.iterN h _ _ r e)
end Go.Proofs.YtekmkepojbhafabGreatDoor.Law

open Go Go.Eng
namespace Go.Proofs.YtekmkepojbhafabGreatDoor.Law
set_option linter.unusedVariables false
set_option linter.unusedSimpArgs false
def Lt (x:Int):List Int->List Int
 | []=>[x]
 | y::l=>bif decide (x<=y)then x::y::l else y::Lt x l
def CJ:List Int->List Int
 | []=>[]
 | x::l=>Lt x (CJ l)
theorem AJ (x:Int):∀l,(Lt x l).Perm (x::l)
 | [] => .refl _
 | y::l=>by
  unfold Lt
  cases decide (x<=y)with
  | true=>exact .refl _
  | false=>exact ((AJ x l).cons y).trans (List.Perm.swap x y l)
theorem Bh:∀l,(CJ l).Perm l
 | [] => .refl _
 | x::l=>(AJ x _).trans ((Bh l).cons x)
theorem Ba (x:Int):∀l:List Int,l.Pairwise (· <= ·)->(Lt x l).Pairwise (· <= ·)
 | [],_=>List.pairwise_singleton _ _
 | y::l,h=>by
  obtain ⟨h1,h2⟩:=List.pairwise_cons.1 h
  unfold Lt
  by_cases hx:x<=y
  ·rw [decide_eq_true hx,cond_true]
   exact List.pairwise_cons.2 ⟨λz hz=>by
    rcases List.mem_cons.1 hz with rfl|hz
    ·exact hx
    ·exact Int.le_trans hx (h1 z hz),h⟩
  ·rw [decide_eq_false hx,cond_false]
   exact List.pairwise_cons.2 ⟨λz hz=>by
    rcases List.mem_cons.1 ((AJ x l).mem_iff.1 hz)with rfl|hz
    ·omega
    ·exact h1 z hz,Ba x l h2⟩
theorem yg:∀l,(CJ l).Pairwise (· <= ·)
 | [] => .nil
 | x::l=>Ba x _ (yg l)
theorem LB (l:List Int):l.mergeSort (λx y=>decide (x<=y))=CJ l:=by
 refine List.Perm.eq_of_pairwise (le:=(· <= ·)) (λa b _ _ h1 h2=>Int.le_antisymm h1 h2) ?_ (yg l) ((List.mergeSort_perm l _).trans (Bh l).symm)
 have:=List.pairwise_mergeSort (le:=λ(x y:Int)=>decide (x<=y)) (λa b c=>by simp;omega) (λa b=>by simp;omega) l
 exact this.imp (by simp)
def NU (l:List Int):Option (List Int):=bif Nat.ble l.length 1000 then some (CJ l)else none
theorem MI (l:List Int):Le (NU l) (iw l):=λr h=>by
 unfold NU at h
 cases hb:Nat.ble l.length 1000 with
 | false=>rw [hb]at h;cases h
 | true =>
  rw [hb,cond_true]at h
  have:=Nat.le_of_ble_eq_true hb
  unfold iw KR
  rw [if_pos (by omega),LB];exact h
end Go.Proofs.YtekmkepojbhafabGreatDoor.Law

open Go Go.Eng
namespace Go.Proofs.YtekmkepojbhafabGreatDoor.Law
set_option linter.unusedVariables false
set_option linter.unusedSimpArgs false
set_option maxRecDepth 100000
def gG (s_1:(List Int)) (s_8:Int):Option (Ctl (Int) ((List Int))) :=
 bif (decide (s_8<(s_1.length:Int)))then (inR s_8 s_1).bind λ_=>(s_1[(0+(s_8).toNat)]?).bind λe_15=>(inR (w64 (s_8-1)) s_1).bind λ_=>(s_1[(0+((w64 (s_8-1))).toNat)]?).bind λe_18=>bif (e_15==e_18)then (neL s_1).bind λ_=>(Bu s_1 s_8 (s_1.length:Int)).bind λ_=>(pI (s_1,s_8,1) (λs=>fA s_1 s_8 s)).bind λo_31=>thenC o_31 (λs_28=>(Bu s_28.1 s_28.2.1 (s_28.1.length:Int)).bind λ_=>(Bu (s_28.1.take ((s_28.2.1).toNat)++List.replicate (((s_28.1.length:Int)).toNat-(s_28.2.1).toNat) 0++s_28.1.drop (((s_28.2.1).toNat)+(((s_28.1.length:Int)).toNat-(s_28.2.1).toNat))) 0 s_28.2.1).bind λ_=>some (.ret (cutL (s_28.1.take ((s_28.2.1).toNat)++List.replicate (((s_28.1.length:Int)).toNat-(s_28.2.1).toNat) 0++s_28.1.drop (((s_28.2.1).toNat)+(((s_28.1.length:Int)).toNat-(s_28.2.1).toNat))) 0 ((s_28.2.1).toNat)))) (λ_=>none)else some (.go (w64 (s_8+1)))else some (.brk s_8)
theorem og (s_1:(List Int)) (s_8:Int):Le (gG s_1 s_8) (dM s_1 s_8):=by
 unfold gG dM
 repeat' (with_reducible first | exact Le.refl _ | refine Le.loop (λ_ => ?_) | refine Le.forL (λ_ _ _ => ?_) | refine Le.thenC (λ_ => ?_) (λ_ => ?_) | refine Le.cond ?_ ?_ | refine Le.bind ?_ (λ_ => ?_))
def iO (s_1:(List Int)):Option ((List Int)) :=
 bif (decide ((s_1.length:Int)<2))then some s_1 else (pI 1 (λs=>gG s_1 s)).bind λo_11=>thenC o_11 (λs_8=>some s_1) (λr=>some r)
theorem qh (s_1:(List Int)):Le (iO s_1) (eH s_1):=by
 unfold iO eH
 repeat' (with_reducible first | exact Le.refl _ | exact og _ _ | refine Le.loop (λ_ => ?_) | refine Le.forL (λ_ _ _ => ?_) | refine Le.thenC (λ_ => ?_) (λ_ => ?_) | refine Le.cond ?_ ?_ | refine Le.bind ?_ (λ_ => ?_))
def dB (b_3:Int) (a_2:Int) (s_10:(List Run)×Int):Option (Ctl ((List Run)×Int) (Unit)) :=
 bif (decide (s_10.2<b_3))then (pI (s_10.1,s_10.2) (λs=>bZ a_2 s)).bind λo_24=>thenC o_24 (λs_21=>some (.go (s_21.1,(w64 (s_10.2+1))))) (λ_=>none)else some (.brk (s_10.1,s_10.2))
theorem je (b_3:Int) (a_2:Int) (s_10:(List Run)×Int):Le (dB b_3 a_2 s_10) (bG b_3 a_2 s_10):=by
 unfold dB bG
 repeat' (with_reducible first | exact Le.refl _ | refine Le.loop (λ_ => ?_) | refine Le.forL (λ_ _ _ => ?_) | refine Le.thenC (λ_ => ?_) (λ_ => ?_) | refine Le.cond ?_ ?_ | refine Le.bind ?_ (λ_ => ?_))
def dG (data_1:(List Run)) (a_2:Int) (b_3:Int):Option ((List Run)) :=
 (pI (data_1,(w64 (a_2+1))) (λs=>dB b_3 a_2 s)).bind λo_13=>thenC o_13 (λs_10=>some s_10.1) (λ_=>none)
theorem jL (data_1:(List Run)) (a_2:Int) (b_3:Int):Le (dG data_1 a_2 b_3) (bO data_1 a_2 b_3):=by
 unfold dG bO
 repeat' (with_reducible first | exact Le.refl _ | exact je _ _ _ | refine Le.loop (λ_ => ?_) | refine Le.forL (λ_ _ _ => ?_) | refine Le.thenC (λ_ => ?_) (λ_ => ?_) | refine Le.cond ?_ ?_ | refine Le.bind ?_ (λ_ => ?_))
def dX (b_3:Int) (a_2:Int) (data_1:(List Run)) (limit_4:Int) (s_11:Unit):Option (Ctl (Unit) ((List Run))) :=
 bif (decide ((w64 (b_3-a_2))<=12))then (dG data_1 a_2 b_3).bind λr_17=>(q8 r_17 data_1).bind λ_=>some (.ret r_17)else bif (limit_4==0)then none else none
theorem kC (b_3:Int) (a_2:Int) (data_1:(List Run)) (limit_4:Int) (s_11:Unit):Le (dX b_3 a_2 data_1 limit_4 s_11) (bX b_3 a_2 data_1 limit_4 s_11):=by
 unfold dX bX
 repeat' (with_reducible first | exact Le.refl _ | exact jL _ _ _ | refine Le.loop (λ_ => ?_) | refine Le.forL (λ_ _ _ => ?_) | refine Le.thenC (λ_ => ?_) (λ_ => ?_) | refine Le.cond ?_ ?_ | refine Le.bind ?_ (λ_ => ?_))
def eT (data_1:(List Run)) (a_2:Int) (b_3:Int) (limit_4:Int):Option ((List Run)) :=
 (pI () (λs=>dX b_3 a_2 data_1 limit_4 s)).bind λo_14=>thenC o_14 (λs_11=>some data_1) (λr=>some r)
theorem lF (data_1:(List Run)) (a_2:Int) (b_3:Int) (limit_4:Int):Le (eT data_1 a_2 b_3 limit_4) (dh data_1 a_2 b_3 limit_4):=by
 unfold eT dh
 repeat' (with_reducible first | exact Le.refl _ | exact kC _ _ _ _ _ | refine Le.loop (λ_ => ?_) | refine Le.forL (λ_ _ _ => ?_) | refine Le.thenC (λ_ => ?_) (λ_ => ?_) | refine Le.cond ?_ ?_ | refine Le.bind ?_ (λ_ => ?_))
def dK (x_1:(List Run)):Option ((List Run)) :=
 (oW (IntKind.u64.wrap (x_1.length:Int))).bind λr_3=>(eT x_1 0 (x_1.length:Int) r_3).bind λr_5=>(q8 r_5 x_1).bind λ_=>some r_5
theorem jX (x_1:(List Run)):Le (dK x_1) (bP x_1):=by
 unfold dK bP
 repeat' (with_reducible first | exact Le.refl _ | exact lF _ _ _ _ | refine Le.loop (λ_ => ?_) | refine Le.forL (λ_ _ _ => ?_) | refine Le.thenC (λ_ => ?_) (λ_ => ?_) | refine Le.cond ?_ ?_ | refine Le.bind ?_ (λ_ => ?_))
def qE (l_1:(List Rect)) (y_2:Int):Option ((List Run)) :=
 (forL l_1 ([]:List Run) (λk x s=>nV y_2 k x s)).bind λo_14=>thenC o_14 (λs_8=>(dK s_8).bind λr_27=>(q8 r_27 s_8).bind λ_=>(forL r_27 ([]:List Run) (λk x s=>nG k x s)).bind λo_41=>thenC o_41 (λs_35=>some s_35) (λ_=>none)) (λ_=>none)
theorem Cu (l_1:(List Rect)) (y_2:Int):Le (qE l_1 y_2) (nA l_1 y_2):=by
 unfold qE nA
 repeat' (with_reducible first | exact Le.refl _ | exact jX _ | refine Le.loop (λ_ => ?_) | refine Le.forL (λ_ _ _ => ?_) | refine Le.thenC (λ_ => ?_) (λ_ => ?_) | refine Le.cond ?_ ?_ | refine Le.bind ?_ (λ_ => ?_))
def pV (m_2:(List Run)) (k_3:Nat) (x_5:Run) (s_8:(List Run)×Int):Option (Ctl ((List Run)×Int) (Unit)) :=
 (pI s_8.2 (λs=>nT m_2 x_5 s)).bind λo_25=>thenC o_25 (λs_22=>(pI (s_8.1,s_22,x_5.f_from) (λs=>nX m_2 x_5 s)).bind λo_43=>thenC o_43 (λs_38=>(bif (decide (s_38.2.2<x_5.f_to))then (jZ s_38.1 ([(⟨s_38.2.2,x_5.f_to⟩:Run)]:List Run)).bind λa_68=>some a_68 else some s_38.1).bind λv_64=>some (.go (v_64,s_22))) (λ_=>none)) (λ_=>none)
theorem zo (m_2:(List Run)) (k_3:Nat) (x_5:Run) (s_8:(List Run)×Int):Le (pV m_2 k_3 x_5 s_8) (lc m_2 k_3 x_5 s_8):=by
 unfold pV lc
 repeat' (with_reducible first | exact Le.refl _ | refine Le.loop (λ_ => ?_) | refine Le.forL (λ_ _ _ => ?_) | refine Le.thenC (λ_ => ?_) (λ_ => ?_) | refine Le.cond ?_ ?_ | refine Le.bind ?_ (λ_ => ?_))
def uH (l_1:(List Run)) (m_2:(List Run)):Option ((List Run)) :=
 (forL l_1 (([]:List Run),0) (λk x s=>pV m_2 k x s)).bind λo_14=>thenC o_14 (λs_8=>some s_8.1) (λ_=>none)
theorem DY (l_1:(List Run)) (m_2:(List Run)):Le (uH l_1 m_2) (pJ l_1 m_2):=by
 unfold uH pJ
 repeat' (with_reducible first | exact Le.refl _ | exact zo _ _ _ _ | refine Le.loop (λ_ => ?_) | refine Le.forL (λ_ _ _ => ?_) | refine Le.thenC (λ_ => ?_) (λ_ => ?_) | refine Le.cond ?_ ?_ | refine Le.bind ?_ (λ_ => ?_))
def nQ (r_25:(List Int)) (l_1:(List Rect)) (m_2:(List Rect)) (k_27:Nat) (x_29:Int) (s_32:(List Rect)×(List Run)×Int):Option (Ctl ((List Rect)×(List Run)×Int) (Unit)) :=
 (bif (decide ((w64 ((k_27:Int)+1))<(r_25.length:Int)))then (qE l_1 x_29).bind λr_45=>(qE m_2 x_29).bind λr_47=>(uH r_45 r_47).bind λr_49=>some r_49 else some ([]:List Run)).bind λv_42=>(dH s_32.2.1 v_42).bind λr_51=>bif r_51 then some (.go (s_32.1,s_32.2.1,s_32.2.2))else (forL s_32.2.1 s_32.1 (λk x s=>lW s_32 x_29 k x s)).bind λo_64=>thenC o_64 (λs_59=>some (.go (s_59,v_42,x_29))) (λ_=>none)
theorem xM (r_25:(List Int)) (l_1:(List Rect)) (m_2:(List Rect)) (k_27:Nat) (x_29:Int) (s_32:(List Rect)×(List Run)×Int):Le (nQ r_25 l_1 m_2 k_27 x_29 s_32) (jJ r_25 l_1 m_2 k_27 x_29 s_32):=by
 unfold nQ jJ
 repeat' (with_reducible first | exact Le.refl _ | exact Cu _ _ | exact DY _ _ | refine Le.loop (λ_ => ?_) | refine Le.forL (λ_ _ _ => ?_) | refine Le.thenC (λ_ => ?_) (λ_ => ?_) | refine Le.cond ?_ ?_ | refine Le.bind ?_ (λ_ => ?_))
def q9 (l_1:(List Rect)) (m_2:(List Rect)):Option ((List Rect)) :=
 (dZ ([l_1,m_2]:List (List Rect))).bind λr_3=>(forL r_3 ([]:List Int) (λk x s=>lX k x s)).bind λo_16=>thenC o_16 (λs_10=>(NU s_10).bind λr_22=>(q8 r_22 s_10).bind λ_=>(iO r_22).bind λr_25=>(forL r_25 (([]:List Rect),([]:List Run),0) (λk x s=>nQ r_25 l_1 m_2 k x s)).bind λo_38=>thenC o_38 (λs_32=>some s_32.1) (λ_=>none)) (λ_=>none)
theorem Ap (l_1:(List Rect)) (m_2:(List Rect)):Le (q9 l_1 m_2) (mo l_1 m_2):=by
 unfold q9 mo
 repeat' (with_reducible first | exact Le.refl _ | exact qh _ | exact xM _ _ _ _ _ _ | exact MI _ | refine Le.loop (λ_ => ?_) | refine Le.forL (λ_ _ _ => ?_) | refine Le.thenC (λ_ => ?_) (λ_ => ?_) | refine Le.cond ?_ ?_ | refine Le.bind ?_ (λ_ => ?_))
def uV (l_1:(List Rect)):Option (Int×Int) :=
 (kS l_1).bind λr_2=>bif (r_2 != 0)then some (0,r_2)else (q9 l_1 ([]:List Rect)).bind λr_5=>(sD r_5).bind λr_7=>some (r_7,0)
theorem CX (l_1:(List Rect)):Le (uV l_1) (o6 l_1):=by
 unfold uV o6
 repeat' (with_reducible first | exact Le.refl _ | exact Ap _ _ | refine Le.loop (λ_ => ?_) | refine Le.forL (λ_ _ _ => ?_) | refine Le.thenC (λ_ => ?_) (λ_ => ?_) | refine Le.cond ?_ ?_ | refine Le.bind ?_ (λ_ => ?_))
def gq (s_1:ByteArray):Option (Bool) :=
 (pI 0 (λs=>jm s_1 s)).bind λo_10=>thenC o_10 (λs_7=>(bif (sNe s_1 (⟨#[]⟩:ByteArray))then some (decide ((s_1.size:Int)<=40))else some false).bind λv_30=>some v_30) (λr=>some r)
theorem jv (s_1:ByteArray):Le (gq s_1) (fe s_1):=by
 unfold gq fe
 repeat' (with_reducible first | exact Le.refl _ | refine Le.loop (λ_ => ?_) | refine Le.forL (λ_ _ _ => ?_) | refine Le.thenC (λ_ => ?_) (λ_ => ?_) | refine Le.cond ?_ ?_ | refine Le.bind ?_ (λ_ => ?_))
def ma (l_1:(List ByteArray)) (k_2:Nat) (x_4:ByteArray) (s_7:Unit):Option (Ctl (Unit) (Int)) :=
 (gq x_4).bind λr_12=>bif (!r_12)then some (.ret 5)else (bif (decide ((k_2:Int)>0))then (idx l_1 (w64 ((k_2:Int)-1))).bind λy_18=>some (sLe x_4 y_18)else some false).bind λv_15=>bif v_15 then some (.ret 7)else some (.go ())
theorem vO (l_1:(List ByteArray)) (k_2:Nat) (x_4:ByteArray) (s_7:Unit):Le (ma l_1 k_2 x_4 s_7) (gp l_1 k_2 x_4 s_7):=by
 unfold ma gp
 repeat' (with_reducible first | exact Le.refl _ | exact jv _ | refine Le.loop (λ_ => ?_) | refine Le.forL (λ_ _ _ => ?_) | refine Le.thenC (λ_ => ?_) (λ_ => ?_) | refine Le.cond ?_ ?_ | refine Le.bind ?_ (λ_ => ?_))
def lZ (l_1:(List ByteArray)):Option (Int) :=
 (forL l_1 () (λk x s=>ma l_1 k x s)).bind λo_10=>thenC o_10 (λs_7=>some 0) (λr=>some r)
theorem rF (l_1:(List ByteArray)):Le (lZ l_1) (gU l_1):=by
 unfold lZ gU
 repeat' (with_reducible first | exact Le.refl _ | exact vO _ _ _ _ | refine Le.loop (λ_ => ?_) | refine Le.forL (λ_ _ _ => ?_) | refine Le.thenC (λ_ => ?_) (λ_ => ?_) | refine Le.cond ?_ ?_ | refine Le.bind ?_ (λ_ => ?_))
def mf (l_1:(List ByteArray)):Option (Int) :=
 bif (decide ((l_1.length:Int)>20))then some 2 else (lZ l_1).bind λr_3=>some r_3
theorem vQ (l_1:(List ByteArray)):Le (mf l_1) (iV l_1):=by
 unfold mf iV
 repeat' (with_reducible first | exact Le.refl _ | exact rF _ | refine Le.loop (λ_ => ?_) | refine Le.forL (λ_ _ _ => ?_) | refine Le.thenC (λ_ => ?_) (λ_ => ?_) | refine Le.cond ?_ ?_ | refine Le.bind ?_ (λ_ => ?_))
def lg (e_1:Entry):Option (Int) :=
 ((gq e_1.Key).bind λr_5=>bif (!r_5)then some true else (gq e_1.Item).bind λr_8=>some (!r_8)).bind λv_3=>bif v_3 then some 5 else ((aQ e_1.Version 0 1000000).bind λr_13=>bif r_13 then some true else (aQ e_1.First 0 e_1.Last).bind λr_16=>bif r_16 then some true else bif (decide (e_1.Last>4000))then some true else (aQ e_1.Every 1 400).bind λr_20=>bif r_20 then some true else (aQ e_1.Days 1 127).bind λr_23=>some r_23).bind λv_11=>bif v_11 then some 1 else (jA e_1.Except).bind λr_26=>bif (r_26 != 0)then some r_26 else ((aQ e_1.From 0 1439).bind λr_31=>bif r_31 then some true else (aQ e_1.To 0 1439).bind λr_34=>bif r_34 then some true else (aQ e_1.Prio 0 9).bind λr_37=>some r_37).bind λv_29=>bif v_29 then some 1 else (mf e_1.Tags).bind λr_40=>some r_40
theorem vE (e_1:Entry):Le (lg e_1) (ic e_1):=by
 unfold lg ic
 repeat' (with_reducible first | exact Le.refl _ | exact jv _ | exact vQ _ | refine Le.loop (λ_ => ?_) | refine Le.forL (λ_ _ _ => ?_) | refine Le.thenC (λ_ => ?_) (λ_ => ?_) | refine Le.cond ?_ ?_ | refine Le.bind ?_ (λ_ => ?_))
def iZ (l_1:(List Entry)) (k_3:Nat) (x_5:Entry) (s_8:Unit):Option (Ctl (Unit) (Int)) :=
 (lg x_5).bind λr_14=>bif (r_14 != 0)then some (.ret r_14)else (bif (decide ((k_3:Int)>0))then (idx l_1 (w64 ((k_3:Int)-1))).bind λy_20=>some (sLe x_5.Key y_20.Key)else some false).bind λv_17=>bif v_17 then some (.ret 7)else some (.go ())
theorem qM (l_1:(List Entry)) (k_3:Nat) (x_5:Entry) (s_8:Unit):Le (iZ l_1 k_3 x_5 s_8) (fu l_1 k_3 x_5 s_8):=by
 unfold iZ fu
 repeat' (with_reducible first | exact Le.refl _ | exact vE _ | refine Le.loop (λ_ => ?_) | refine Le.forL (λ_ _ _ => ?_) | refine Le.thenC (λ_ => ?_) (λ_ => ?_) | refine Le.cond ?_ ?_ | refine Le.bind ?_ (λ_ => ?_))
def j5 (l_1:(List Entry)):Option (Int) :=
 bif (decide ((l_1.length:Int)>200))then some 2 else (forL l_1 () (λk x s=>iZ l_1 k x s)).bind λo_11=>thenC o_11 (λs_8=>some 0) (λr=>some r)
theorem tu (l_1:(List Entry)):Le (j5 l_1) (fV l_1):=by
 unfold j5 fV
 repeat' (with_reducible first | exact Le.refl _ | exact qM _ _ _ _ | refine Le.loop (λ_ => ?_) | refine Le.forL (λ_ _ _ => ?_) | refine Le.thenC (λ_ => ?_) (λ_ => ?_) | refine Le.cond ?_ ?_ | refine Le.bind ?_ (λ_ => ?_))
def gX (x_1:(List Int)) (target_2:Int):Option (Int×Bool) :=
 (pI (0,(x_1.length:Int)) (λs=>eD x_1 target_2 s)).bind λo_11=>thenC o_11 (λs_8=>(bif (decide (s_8.1<(x_1.length:Int)))then (idx x_1 s_8.1).bind λy_24=>bif (y_24==target_2)then some true else (idx x_1 s_8.1).bind λy_27=>(iG y_27).bind λr_29=>bif r_29 then (iG target_2).bind λr_32=>some r_32 else some false else some false).bind λv_21=>some (s_8.1,v_21)) (λ_=>none)
theorem oI (x_1:(List Int)) (target_2:Int):Le (gX x_1 target_2) (dU x_1 target_2):=by
 unfold gX dU
 repeat' (with_reducible first | exact Le.refl _ | refine Le.loop (λ_ => ?_) | refine Le.forL (λ_ _ _ => ?_) | refine Le.thenC (λ_ => ?_) (λ_ => ?_) | refine Le.cond ?_ ?_ | refine Le.bind ?_ (λ_ => ?_))
def pY (e_1:Entry) (d_2:Int):Option (Bool) :=
 ((aQ d_2 e_1.First e_1.Last).bind λr_6=>bif r_6 then some true else (IP .i64 (w64 (d_2-e_1.First)) e_1.Every).bind λq_9=>bif (q_9 != 0)then some true else (D7 .i64 1 (d_2.tmod 7)).bind λq_12=>some ((vv .i64 e_1.Days q_12)==0)).bind λv_4=>bif v_4 then some false else (gX e_1.Except d_2).bind λr_15=>some (!r_15.2)
theorem zK (e_1:Entry) (d_2:Int):Le (pY e_1 d_2) (lh e_1 d_2):=by
 unfold pY lh
 repeat' (with_reducible first | exact Le.refl _ | exact oI _ _ | refine Le.loop (λ_ => ?_) | refine Le.forL (λ_ _ _ => ?_) | refine Le.thenC (λ_ => ?_) (λ_ => ?_) | refine Le.cond ?_ ?_ | refine Le.bind ?_ (λ_ => ?_))
def mM (wv_3:Window) (zone_2:Int) (e_1:Entry) (s_15:(List Window)×Int):Option (Ctl ((List Window)×Int) (Unit)) :=
 bif (decide (s_15.2<=(sN (w64 ((w64 ((w64 (wv_3.To+(w64 (zone_2*60000)))).tdiv 86400000))+1)) e_1.Last)))then (pY e_1 s_15.2).bind λr_24=>bif (!r_24)then some (.go (s_15.1,(w64 (s_15.2+1))))else (mI e_1 zone_2 s_15.2).bind λr_27=>(bif (decide (r_27.From<wv_3.To))then some (decide (r_27.To>wv_3.From))else some false).bind λv_30=>(bif v_30 then (jZ s_15.1 ([r_27]:List Window)).bind λa_37=>some a_37 else some s_15.1).bind λv_33=>some (.go (v_33,(w64 (s_15.2+1))))else some (.brk (s_15.1,s_15.2))
theorem wK (wv_3:Window) (zone_2:Int) (e_1:Entry) (s_15:(List Window)×Int):Le (mM wv_3 zone_2 e_1 s_15) (jq wv_3 zone_2 e_1 s_15):=by
 unfold mM jq
 repeat' (with_reducible first | exact Le.refl _ | exact zK _ _ | refine Le.loop (λ_ => ?_) | refine Le.forL (λ_ _ _ => ?_) | refine Le.thenC (λ_ => ?_) (λ_ => ?_) | refine Le.cond ?_ ?_ | refine Le.bind ?_ (λ_ => ?_))
def qa (e_1:Entry) (zone_2:Int) (wv_3:Window):Option ((List Window)) :=
 (bif e_1.Gone then some true else some (decide (wv_3.From>=wv_3.To))).bind λv_6=>bif v_6 then some ([]:(List Window))else (pI (([]:List Window),(uy (w64 ((w64 ((w64 (wv_3.From+(w64 (zone_2*60000)))).tdiv 86400000))-2)) e_1.First)) (λs=>mM wv_3 zone_2 e_1 s)).bind λo_21=>thenC o_21 (λs_15=>some s_15.1) (λ_=>none)
theorem y9 (e_1:Entry) (zone_2:Int) (wv_3:Window):Le (qa e_1 zone_2 wv_3) (lI e_1 zone_2 wv_3):=by
 unfold qa lI
 repeat' (with_reducible first | exact Le.refl _ | exact wK _ _ _ _ | refine Le.loop (λ_ => ?_) | refine Le.forL (λ_ _ _ => ?_) | refine Le.thenC (λ_ => ?_) (λ_ => ?_) | refine Le.cond ?_ ?_ | refine Le.bind ?_ (λ_ => ?_))
def pX (e_1:Entry) (zone_2:Int) (wv_3:Window):Option ((List Window)×Int) :=
 (j5 ([e_1]:List Entry)).bind λr_6=>bif (r_6 != 0)then some (([]:(List Window)),r_6)else (aQ zone_2 (-1440) 1440).bind λr_9=>bif r_9 then some (([]:(List Window)),1)else (jh wv_3).bind λr_12=>bif (r_12 != 0)then some (([]:(List Window)),r_12)else (qa e_1 zone_2 wv_3).bind λr_15=>(forL (List.range ((r_15.length:Int)).toNat) r_15 (λk x s=>kX wv_3 k x s)).bind λo_27=>thenC o_27 (λs_24=>some (s_24,0)) (λ_=>none)
theorem zJ (e_1:Entry) (zone_2:Int) (wv_3:Window):Le (pX e_1 zone_2 wv_3) (lK e_1 zone_2 wv_3):=by
 unfold pX lK
 repeat' (with_reducible first | exact Le.refl _ | exact tu _ | exact y9 _ _ _ | refine Le.loop (λ_ => ?_) | refine Le.forL (λ_ _ _ => ?_) | refine Le.thenC (λ_ => ?_) (λ_ => ?_) | refine Le.cond ?_ ?_ | refine Le.bind ?_ (λ_ => ?_))
def mP (l_1:(List ByteArray)):Option (Int) :=
 bif (decide ((l_1.length:Int)>20))then some 2 else (lZ l_1).bind λr_3=>some r_3
theorem wL (l_1:(List ByteArray)):Le (mP l_1) (eX l_1):=by
 unfold mP eX
 repeat' (with_reducible first | exact Le.refl _ | exact rF _ | refine Le.loop (λ_ => ?_) | refine Le.forL (λ_ _ _ => ?_) | refine Le.thenC (λ_ => ?_) (λ_ => ?_) | refine Le.cond ?_ ?_ | refine Le.bind ?_ (λ_ => ?_))
def iM (l_1:(List Campaign)) (k_3:Nat) (x_5:Campaign) (s_8:Unit):Option (Ctl (Unit) (Int)) :=
 ((gq x_5.Key).bind λr_16=>bif (!r_16)then some true else bif (sNe x_5.Class (⟨#[]⟩:ByteArray))then (gq x_5.Class).bind λr_20=>some (!r_20)else some false).bind λv_14=>bif v_14 then some (.ret 5)else (bif (decide ((k_3:Int)>0))then (idx l_1 (w64 ((k_3:Int)-1))).bind λy_26=>some (sLe x_5.Key y_26.Key)else some false).bind λv_23=>bif v_23 then some (.ret 7)else ((iT x_5.Time).bind λr_31=>bif (!r_31)then some true else (aQ x_5.Goal 0 1000000).bind λr_34=>bif r_34 then some true else (aQ x_5.Most 0 1000000).bind λr_37=>bif r_37 then some true else (aQ x_5.Cents 0 1000000000).bind λr_40=>some r_40).bind λv_29=>bif v_29 then some (.ret 1)else (mP x_5.Tags).bind λr_43=>bif (r_43 != 0)then some (.ret r_43)else some (.go ())
theorem qd (l_1:(List Campaign)) (k_3:Nat) (x_5:Campaign) (s_8:Unit):Le (iM l_1 k_3 x_5 s_8) (dF l_1 k_3 x_5 s_8):=by
 unfold iM dF
 repeat' (with_reducible first | exact Le.refl _ | exact jv _ | exact wL _ | refine Le.loop (λ_ => ?_) | refine Le.forL (λ_ _ _ => ?_) | refine Le.thenC (λ_ => ?_) (λ_ => ?_) | refine Le.cond ?_ ?_ | refine Le.bind ?_ (λ_ => ?_))
def jQ (l_1:(List Campaign)):Option (Int) :=
 bif (decide ((l_1.length:Int)>30))then some 2 else (forL l_1 () (λk x s=>iM l_1 k x s)).bind λo_11=>thenC o_11 (λs_8=>some 0) (λr=>some r)
theorem rR (l_1:(List Campaign)):Le (jQ l_1) (bU l_1):=by
 unfold jQ bU
 repeat' (with_reducible first | exact Le.refl _ | exact qd _ _ _ _ | refine Le.loop (λ_ => ?_) | refine Le.forL (λ_ _ _ => ?_) | refine Le.thenC (λ_ => ?_) (λ_ => ?_) | refine Le.cond ?_ ?_ | refine Le.bind ?_ (λ_ => ?_))
def uE (c_1:Campaign) (atv_2:Int):Option (Int×Int) :=
 (jQ ([c_1]:List Campaign)).bind λr_4=>bif (r_4 != 0)then some (0,r_4)else (dC atv_2).bind λr_7=>bif (!r_7)then some (0,1)else (rX c_1 atv_2).bind λr_10=>some (r_10,0)
theorem Co (c_1:Campaign) (atv_2:Int):Le (uE c_1 atv_2) (oZ c_1 atv_2):=by
 unfold uE oZ
 repeat' (with_reducible first | exact Le.refl _ | exact rR _ | refine Le.loop (λ_ => ?_) | refine Le.forL (λ_ _ _ => ?_) | refine Le.thenC (λ_ => ?_) (λ_ => ?_) | refine Le.cond ?_ ?_ | refine Le.bind ?_ (λ_ => ?_))
def lw (l_1:(List Beat)) (k_3:Nat) (x_5:Beat) (s_8:Unit):Option (Ctl (Unit) (Int)) :=
 (gq x_5.Player).bind λr_14=>bif (!r_14)then some (.ret 5)else ((dC x_5.At).bind λr_19=>bif (!r_19)then some true else (aQ x_5.Clock 0 345686399999).bind λr_22=>some r_22).bind λv_17=>bif v_17 then some (.ret 1)else (bif (decide ((k_3:Int)>0))then (idx l_1 (w64 ((k_3:Int)-1))).bind λy_28=>(ku y_28 x_5).bind λr_30=>some (decide (r_30>=0))else some false).bind λv_25=>bif v_25 then some (.ret 7)else (bif (decide ((k_3:Int)>0))then (idx l_1 (w64 ((k_3:Int)-1))).bind λy_36=>bif (sEq x_5.Player y_36.Player)then (idx l_1 (w64 ((k_3:Int)-1))).bind λy_39=>some (decide (x_5.Clock<=y_39.Clock))else some false else some false).bind λv_33=>bif v_33 then some (.ret 16)else some (.go ())
theorem vF (l_1:(List Beat)) (k_3:Nat) (x_5:Beat) (s_8:Unit):Le (lw l_1 k_3 x_5 s_8) (ig l_1 k_3 x_5 s_8):=by
 unfold lw ig
 repeat' (with_reducible first | exact Le.refl _ | exact jv _ | refine Le.loop (λ_ => ?_) | refine Le.forL (λ_ _ _ => ?_) | refine Le.thenC (λ_ => ?_) (λ_ => ?_) | refine Le.cond ?_ ?_ | refine Le.bind ?_ (λ_ => ?_))
def nS (l_1:(List Beat)):Option (Int) :=
 bif (decide ((l_1.length:Int)>500))then some 2 else (forL l_1 () (λk x s=>lw l_1 k x s)).bind λo_11=>thenC o_11 (λs_8=>some 0) (λr=>some r)
theorem xJ (l_1:(List Beat)):Le (nS l_1) (jM l_1):=by
 unfold nS jM
 repeat' (with_reducible first | exact Le.refl _ | exact vF _ _ _ _ | refine Le.loop (λ_ => ?_) | refine Le.forL (λ_ _ _ => ?_) | refine Le.thenC (λ_ => ?_) (λ_ => ?_) | refine Le.cond ?_ ?_ | refine Le.bind ?_ (λ_ => ?_))
def sK (l_1:(List Beat_)) (n_2:Int):Option (Int×Int) :=
 bif ((l_1.length:Int)==0)then some (0,8)else (pI 0 (λs=>mG l_1 n_2 s)).bind λo_12=>thenC o_12 (λs_9=>bif (s_9==0)then (idx l_1 0).bind λy_21=>(idx l_1 0).bind λy_23=>(dC (w64 (y_21.f_to-(w64 (y_23.f_from-n_2))))).bind λr_25=>bif (!r_25)then some (0,11)else some ((w64 (y_21.f_to-(w64 (y_23.f_from-n_2)))),0)else bif (s_9==(l_1.length:Int))then (idx l_1 (w64 (s_9-1))).bind λy_29=>(idx l_1 (w64 (s_9-1))).bind λy_31=>(dC (w64 ((w64 (y_29.f_to+n_2))-y_31.f_from))).bind λr_33=>bif (!r_33)then some (0,11)else some ((w64 ((w64 (y_29.f_to+n_2))-y_31.f_from)),0)else (idx l_1 (w64 (s_9-1))).bind λy_36=>(idx l_1 s_9).bind λy_38=>(bif (decide ((w64 (y_38.f_from-y_36.f_from))>2592000000))then some true else some (decide ((w64 (y_38.f_to-y_36.f_to))>2592000000))).bind λv_42=>bif v_42 then some (0,2)else (J2 .i64 (w64 ((w64 (n_2-y_36.f_from))*(w64 (y_38.f_to-y_36.f_to)))) (w64 (y_38.f_from-y_36.f_from))).bind λq_46=>(dC (w64 (y_36.f_to+q_46))).bind λr_48=>bif (!r_48)then some (0,11)else some ((w64 (y_36.f_to+q_46)),0)) (λ_=>none)
theorem Br (l_1:(List Beat_)) (n_2:Int):Le (sK l_1 n_2) (nP l_1 n_2):=by
 unfold sK nP
 repeat' (with_reducible first | exact Le.refl _ | refine Le.loop (λ_ => ?_) | refine Le.forL (λ_ _ _ => ?_) | refine Le.thenC (λ_ => ?_) (λ_ => ?_) | refine Le.cond ?_ ?_ | refine Le.bind ?_ (λ_ => ?_))
def uQ (l_1:(List Beat)) (player_2:ByteArray) (n_3:Int) (back_4:Bool):Option (Int×Int) :=
 (nS l_1).bind λr_5=>bif (r_5 != 0)then some (0,r_5)else (gq player_2).bind λr_8=>bif (!r_8)then some (0,5)else (dC n_3).bind λr_11=>bif (!r_11)then some (0,1)else (oL l_1 player_2 back_4).bind λr_14=>(sK r_14 n_3).bind λr_16=>some (r_16.1,r_16.2)
theorem Cq (l_1:(List Beat)) (player_2:ByteArray) (n_3:Int) (back_4:Bool):Le (uQ l_1 player_2 n_3 back_4) (pz l_1 player_2 n_3 back_4):=by
 unfold uQ pz
 repeat' (with_reducible first | exact Le.refl _ | exact jv _ | exact xJ _ | exact Br _ _ | refine Le.loop (λ_ => ?_) | refine Le.forL (λ_ _ _ => ?_) | refine Le.thenC (λ_ => ?_) (λ_ => ?_) | refine Le.cond ?_ ?_ | refine Le.bind ?_ (λ_ => ?_))
def uX (l_1:(List Beat)) (player_2:ByteArray) (clock_3:Int):Option (Int×Int) :=
 (uQ l_1 player_2 clock_3 false).bind λr_4=>some (r_4.1,r_4.2)
theorem Di (l_1:(List Beat)) (player_2:ByteArray) (clock_3:Int):Le (uX l_1 player_2 clock_3) (pu l_1 player_2 clock_3):=by
 unfold uX pu
 repeat' (with_reducible first | exact Le.refl _ | exact Cq _ _ _ _ | refine Le.loop (λ_ => ?_) | refine Le.forL (λ_ _ _ => ?_) | refine Le.thenC (λ_ => ?_) (λ_ => ?_) | refine Le.cond ?_ ?_ | refine Le.bind ?_ (λ_ => ?_))
def l8 (a_1:Alert) (k_4:Nat) (x_6:ByteArray) (s_9:Unit):Option (Ctl (Unit) (Int)) :=
 (gq x_6).bind λr_14=>bif (!r_14)then some (.ret 5)else (bif (decide ((k_4:Int)>0))then (idx a_1.Refs (w64 ((k_4:Int)-1))).bind λy_20=>some (sLe x_6 y_20)else some false).bind λv_17=>bif v_17 then some (.ret 7)else bif (sEq x_6 a_1.Id)then some (.ret 14)else some (.go ())
theorem vW (a_1:Alert) (k_4:Nat) (x_6:ByteArray) (s_9:Unit):Le (l8 a_1 k_4 x_6 s_9) (iR a_1 k_4 x_6 s_9):=by
 unfold l8 iR
 repeat' (with_reducible first | exact Le.refl _ | exact jv _ | refine Le.loop (λ_ => ?_) | refine Le.forL (λ_ _ _ => ?_) | refine Le.thenC (λ_ => ?_) (λ_ => ?_) | refine Le.cond ?_ ?_ | refine Le.bind ?_ (λ_ => ?_))
def om (a_1:Alert):Option (Int) :=
 bif (decide ((a_1.Refs.length:Int)>20))then some 2 else (forL a_1.Refs () (λk x s=>l8 a_1 k x s)).bind λo_12=>thenC o_12 (λs_9=>bif (!((a_1.Kind==1)==((a_1.Refs.length:Int)==0)))then some 3 else some 0) (λr=>some r)
theorem yB (a_1:Alert):Le (om a_1) (kI a_1):=by
 unfold om kI
 repeat' (with_reducible first | exact Le.refl _ | exact vW _ _ _ _ | refine Le.loop (λ_ => ?_) | refine Le.forL (λ_ _ _ => ?_) | refine Le.thenC (λ_ => ?_) (λ_ => ?_) | refine Le.cond ?_ ?_ | refine Le.bind ?_ (λ_ => ?_))
def gZ (s_7:ByteArray):Option (Ctl (ByteArray) (Unit)) :=
 bif (decide ((s_7.size:Int)>0))then (oo s_7 0).bind λb_13=>bif (decide ((b_13.toNat:Int)<128))then (uA s_7 1 s_7.size).bind λy_16=>(bif (decide ((y_16.size:Int)>8))then (bB y_16).bind λr_21=>some ((vv .u64 r_21 9259542123273814144)==0)else some false).bind λv_18=>(bif v_18 then (uA y_16 8 y_16.size).bind λy_26=>(bif (decide ((y_26.size:Int)>16))then (bB y_26).bind λr_31=>(uA y_26 8 y_26.size).bind λy_33=>(bB y_33).bind λr_35=>some ((vv .u64 (orI .u64 r_31 r_35) 9259542123273814144)==0)else some false).bind λv_28=>bif v_28 then (uA y_26 16 y_26.size).bind λy_38=>(pI y_38 (λs=>fJ s)).bind λo_48=>thenC o_48 (λs_45=>some s_45) (λ_=>none)else some y_26 else some y_16).bind λv_23=>some (.go v_23)else none else some (.brk s_7)
theorem oH (s_7:ByteArray):Le (gZ s_7) (dW s_7):=by
 unfold gZ dW
 repeat' (with_reducible first | exact Le.refl _ | refine Le.loop (λ_ => ?_) | refine Le.forL (λ_ _ _ => ?_) | refine Le.thenC (λ_ => ?_) (λ_ => ?_) | refine Le.cond ?_ ?_ | refine Le.bind ?_ (λ_ => ?_))
def jb (s_1:ByteArray):Option (Bool) :=
 (pI s_1 (λs=>gZ s)).bind λo_10=>thenC o_10 (λs_7=>some true) (λ_=>none)
theorem qH (s_1:ByteArray):Le (jb s_1) (fq s_1):=by
 unfold jb fq
 repeat' (with_reducible first | exact Le.refl _ | exact oH _ | refine Le.loop (λ_ => ?_) | refine Le.forL (λ_ _ _ => ?_) | refine Le.thenC (λ_ => ?_) (λ_ => ?_) | refine Le.cond ?_ ?_ | refine Le.bind ?_ (λ_ => ?_))
def ko (s_1:ByteArray) (c_2:Int):Option (ByteArray) :=
 (pI s_1 (λs=>gy c_2 s)).bind λo_11=>thenC o_11 (λs_8=>some s_8) (λ_=>none)
theorem sJ (s_1:ByteArray) (c_2:Int):Le (ko s_1 c_2) (strings_trimRightByte s_1 c_2):=by
 unfold ko strings_trimRightByte
 repeat' (with_reducible first | exact Le.refl _ | refine Le.loop (λ_ => ?_) | refine Le.forL (λ_ _ _ => ?_) | refine Le.thenC (λ_ => ?_) (λ_ => ?_) | refine Le.cond ?_ ?_ | refine Le.bind ?_ (λ_ => ?_))
def kQ (s_1:ByteArray) (c_2:Int):Option (ByteArray) :=
 (pI s_1 (λs=>gN c_2 s)).bind λo_11=>thenC o_11 (λs_8=>some s_8) (λ_=>none)
theorem uq (s_1:ByteArray) (c_2:Int):Le (kQ s_1 c_2) (strings_trimLeftByte s_1 c_2):=by
 unfold kQ strings_trimLeftByte
 repeat' (with_reducible first | exact Le.refl _ | refine Le.loop (λ_ => ?_) | refine Le.forL (λ_ _ _ => ?_) | refine Le.thenC (λ_ => ?_) (λ_ => ?_) | refine Le.cond ?_ ?_ | refine Le.bind ?_ (λ_ => ?_))
def sO (s_1:ByteArray) (cutset_2:ByteArray):Option (ByteArray) :=
 (bif (sEq s_1 (⟨#[]⟩:ByteArray))then some true else some (sEq cutset_2 (⟨#[]⟩:ByteArray))).bind λv_3=>bif v_3 then some s_1 else (bif ((cutset_2.size:Int)==1)then (oo cutset_2 0).bind λb_10=>some (decide ((b_10.toNat:Int)<128))else some false).bind λv_7=>bif v_7 then (oo cutset_2 0).bind λb_13=>(ko s_1 (b_13.toNat:Int)).bind λr_15=>(oo cutset_2 0).bind λb_17=>(kQ r_15 (b_17.toNat:Int)).bind λr_19=>some r_19 else none
theorem BA (s_1:ByteArray) (cutset_2:ByteArray):Le (sO s_1 cutset_2) (nH s_1 cutset_2):=by
 unfold sO nH
 repeat' (with_reducible first | exact Le.refl _ | exact sJ _ _ | exact uq _ _ | refine Le.loop (λ_ => ?_) | refine Le.forL (λ_ _ _ => ?_) | refine Le.thenC (λ_ => ?_) (λ_ => ?_) | refine Le.cond ?_ ?_ | refine Le.bind ?_ (λ_ => ?_))
def uO (s_1:ByteArray):Option (Bool) :=
 (pI 0 (λs=>nK s_1 s)).bind λo_10=>thenC o_10 (λs_7=>((jb s_1).bind λr_23=>bif r_23 then (sO s_1 (⟨#[32]⟩:ByteArray)).bind λr_26=>bif (sEq r_26 s_1)then (strings_Contains s_1 (⟨#[32,32]⟩:ByteArray)).bind λr_29=>some (!r_29)else some false else some false).bind λv_21=>some v_21) (λr=>some r)
theorem CG (s_1:ByteArray):Le (uO s_1) (o9 s_1):=by
 unfold uO o9
 repeat' (with_reducible first | exact Le.refl _ | exact qH _ | exact BA _ _ | refine Le.loop (λ_ => ?_) | refine Le.forL (λ_ _ _ => ?_) | refine Le.thenC (λ_ => ?_) (λ_ => ?_) | refine Le.cond ?_ ?_ | refine Le.bind ?_ (λ_ => ?_))
def nO (a_1:Alert):Option (Int) :=
 ((gq a_1.Id).bind λr_5=>bif (!r_5)then some true else (gq a_1.Sender).bind λr_8=>some (!r_8)).bind λv_3=>bif v_3 then some 5 else (aQ a_1.Kind 1 3).bind λr_11=>bif r_11 then some 4 else (om a_1).bind λr_14=>bif (r_14 != 0)then some r_14 else ((dC a_1.At).bind λr_19=>bif (!r_19)then some true else (aQ a_1.Until (w64 (a_1.At+1)) (w64 (a_1.At+2592000000))).bind λr_22=>bif r_22 then some true else (aQ a_1.Weight 1 9).bind λr_25=>some r_25).bind λv_17=>bif v_17 then some 1 else bif (decide ((a_1.Areas.length:Int)>20))then some 2 else (forL a_1.Areas () (λk x s=>jE k x s)).bind λo_37=>thenC o_37 (λs_34=>bif (!((a_1.Kind==3)==((a_1.Areas.length:Int)==0)))then some 3 else bif (decide ((a_1.Text.size:Int)>500))then some 2 else ((uO a_1.Text).bind λr_47=>bif (!r_47)then some true else bif (sEq a_1.Text (⟨#[]⟩:ByteArray))then some (!(a_1.Kind==3))else some false).bind λv_45=>bif v_45 then some 3 else some 0) (λr=>some r)
theorem xI (a_1:Alert):Le (nO a_1) (jI a_1):=by
 unfold nO jI
 repeat' (with_reducible first | exact Le.refl _ | exact jv _ | exact yB _ | exact CG _ | refine Le.loop (λ_ => ?_) | refine Le.forL (λ_ _ _ => ?_) | refine Le.thenC (λ_ => ?_) (λ_ => ?_) | refine Le.cond ?_ ?_ | refine Le.bind ?_ (λ_ => ?_))
def kP (l_1:(List Alert)) (k_3:Nat) (x_5:Alert) (s_8:Unit):Option (Ctl (Unit) (Int)) :=
 (nO x_5).bind λr_14=>bif (r_14 != 0)then some (.ret r_14)else (bif (decide ((k_3:Int)>0))then (idx l_1 (w64 ((k_3:Int)-1))).bind λy_20=>(oP y_20 x_5).bind λr_22=>some (decide (r_22>=0))else some false).bind λv_17=>bif v_17 then some (.ret 7)else some (.go ())
theorem uw (l_1:(List Alert)) (k_3:Nat) (x_5:Alert) (s_8:Unit):Le (kP l_1 k_3 x_5 s_8) (gD l_1 k_3 x_5 s_8):=by
 unfold kP gD
 repeat' (with_reducible first | exact Le.refl _ | exact xI _ | refine Le.loop (λ_ => ?_) | refine Le.forL (λ_ _ _ => ?_) | refine Le.thenC (λ_ => ?_) (λ_ => ?_) | refine Le.cond ?_ ?_ | refine Le.bind ?_ (λ_ => ?_))
def mR (l_1:(List Alert)):Option (Int) :=
 bif (decide ((l_1.length:Int)>300))then some 2 else (forL l_1 () (λk x s=>kP l_1 k x s)).bind λo_11=>thenC o_11 (λs_8=>(forL l_1 ([]:List (ByteArray×Bool)) (λk x s=>jB k x s)).bind λo_34=>thenC o_34 (λs_31=>some 0) (λr=>some r)) (λr=>some r)
theorem wE (l_1:(List Alert)):Le (mR l_1) (ji l_1):=by
 unfold mR ji
 repeat' (with_reducible first | exact Le.refl _ | exact uw _ _ _ _ | refine Le.loop (λ_ => ?_) | refine Le.forL (λ_ _ _ => ?_) | refine Le.thenC (λ_ => ?_) (λ_ => ?_) | refine Le.cond ?_ ?_ | refine Le.bind ?_ (λ_ => ?_))
def lM (l_1:(List Post)) (k_3:Nat) (x_5:Post) (s_8:Unit):Option (Ctl (Unit) (Int)) :=
 (gq x_5.Player).bind λr_14=>bif (!r_14)then some (.ret 5)else ((aQ x_5.X (-100000) 100000).bind λr_19=>bif r_19 then some true else (aQ x_5.Y (-100000) 100000).bind λr_22=>some r_22).bind λv_17=>bif v_17 then some (.ret 1)else (bif (decide ((k_3:Int)>0))then (idx l_1 (w64 ((k_3:Int)-1))).bind λy_28=>some (sLe x_5.Player y_28.Player)else some false).bind λv_25=>bif v_25 then some (.ret 7)else some (.go ())
theorem vz (l_1:(List Post)) (k_3:Nat) (x_5:Post) (s_8:Unit):Le (lM l_1 k_3 x_5 s_8) (ib l_1 k_3 x_5 s_8):=by
 unfold lM ib
 repeat' (with_reducible first | exact Le.refl _ | exact jv _ | refine Le.loop (λ_ => ?_) | refine Le.forL (λ_ _ _ => ?_) | refine Le.thenC (λ_ => ?_) (λ_ => ?_) | refine Le.cond ?_ ?_ | refine Le.bind ?_ (λ_ => ?_))
def nJ (l_1:(List Post)):Option (Int) :=
 bif (decide ((l_1.length:Int)>500))then some 2 else (forL l_1 () (λk x s=>lM l_1 k x s)).bind λo_11=>thenC o_11 (λs_8=>some 0) (λr=>some r)
theorem xL (l_1:(List Post)):Le (nJ l_1) (jH l_1):=by
 unfold nJ jH
 repeat' (with_reducible first | exact Le.refl _ | exact vz _ _ _ _ | refine Le.loop (λ_ => ?_) | refine Le.forL (λ_ _ _ => ?_) | refine Le.thenC (λ_ => ?_) (λ_ => ?_) | refine Le.cond ?_ ?_ | refine Le.bind ?_ (λ_ => ?_))
def oD (l_1:(List Alert)) (posts_2:(List Post)):Option (Int) :=
 (mR l_1).bind λr_3=>bif (r_3 != 0)then some r_3 else (nJ posts_2).bind λr_6=>some r_6
theorem yG (l_1:(List Alert)) (posts_2:(List Post)):Le (oD l_1 posts_2) (kG l_1 posts_2):=by
 unfold oD kG
 repeat' (with_reducible first | exact Le.refl _ | exact wE _ | exact xL _ | refine Le.loop (λ_ => ?_) | refine Le.forL (λ_ _ _ => ?_) | refine Le.thenC (λ_ => ?_) (λ_ => ?_) | refine Le.cond ?_ ?_ | refine Le.bind ?_ (λ_ => ?_))
def rE (a_1:Alert) (p_2:Post):Option (Bool×Int) :=
 (oD ([a_1]:List Alert) ([p_2]:List Post)).bind λr_5=>bif (r_5 != 0)then some (false,r_5)else (oN a_1 p_2).bind λr_8=>some (r_8,0)
theorem Ab (a_1:Alert) (p_2:Post):Le (rE a_1 p_2) (mq a_1 p_2):=by
 unfold rE mq
 repeat' (with_reducible first | exact Le.refl _ | exact yG _ _ | refine Le.loop (λ_ => ?_) | refine Le.forL (λ_ _ _ => ?_) | refine Le.thenC (λ_ => ?_) (λ_ => ?_) | refine Le.cond ?_ ?_ | refine Le.bind ?_ (λ_ => ?_))
def wF  : Option (Bool) :=
 (uV ([(⟨0,0,2,2⟩:Rect),(⟨1,1,2,2⟩:Rect)]:List Rect)).bind λr_1=>(pX (⟨(⟨#[97]⟩:ByteArray),(⟨#[98]⟩:ByteArray),0,0,0,1,127,([]:List Int),1,2,0,([]:List ByteArray),false⟩:Entry) 0 (⟨0,86400000⟩:Window)).bind λr_3=>(uE (⟨(⟨#[97]⟩:ByteArray),(⟨#[]⟩:ByteArray),(⟨0,100⟩:Window),([]:List ByteArray),10,0,0⟩:Campaign) 50).bind λr_5=>(uX ([(⟨(⟨#[112]⟩:ByteArray),0,100⟩:Beat),(⟨(⟨#[112]⟩:ByteArray),1000,1300⟩:Beat)]:List Beat) (⟨#[112]⟩:ByteArray) 700).bind λr_7=>(rE (⟨(⟨#[97]⟩:ByteArray),(⟨#[115]⟩:ByteArray),1,([]:List ByteArray),0,5,1,([(⟨0,0,2,2⟩:Rect)]:List Rect),(⟨#[120]⟩:ByteArray)⟩:Alert) (⟨(⟨#[112]⟩:ByteArray),1,1⟩:Post)).bind λr_10=>((oG ([r_1.2,r_3.2,r_5.2,r_7.2,r_10.2]:List Int)).bind λr_14=>bif (r_14==0)then bif (r_1.1==7)then bif ((r_3.1.length:Int)==1)then bif (r_5.1==5)then bif (r_7.1==500)then some r_10.1 else some false else some false else some false else some false else some false).bind λv_12=>some v_12
theorem Eg  : Le (wF) (mW):=by
 unfold wF mW
 repeat' (with_reducible first | exact Le.refl _ | exact CX _ | exact zJ _ _ _ | exact Co _ _ | exact Di _ _ _ | exact Ab _ _ | refine Le.loop (λ_ => ?_) | refine Le.forL (λ_ _ _ => ?_) | refine Le.thenC (λ_ => ?_) (λ_ => ?_) | refine Le.cond ?_ ?_ | refine Le.bind ?_ (λ_ => ?_))
end Go.Proofs.YtekmkepojbhafabGreatDoor.Law

open Go Go.Eng
namespace Go.Proofs.YtekmkepojbhafabGreatDoor.Law
set_option linter.unusedVariables false
set_option maxRecDepth 100000
theorem ready_F:wF=some true:=by kernel_rfl
theorem Hm:mW=some true:=Eg _ ready_F
end Go.Proofs.YtekmkepojbhafabGreatDoor.Law

open Go Go.Eng Go.Flow
namespace Go.Proofs.YtekmkepojbhafabGreatDoor.Law
set_option linter.unusedVariables false
set_option linter.unusedSimpArgs false
set_option linter.unusedSectionVars false
theorem EN {N N':Net} (hm:N.m=N'.m) (hq:N.q=N'.q) (hr:∀k,k<N.m->N.room k=N'.room k) (hg:∀i,i<N.q->N.goal i=N'.goal i) (ho:∀i,i<N.q->N.most i=N'.most i) (hs:∀i k,i<N.q->k<N.m->N.suits i k=N'.suits i k) (B:Nat->Bool):N.cutV B=N'.cutV B:=by
 unfold Net.cutV Net.ways
 rw [<- hm,<- hq]
 congr 1
 ·exact cO (λk hk=>by rw [hr k hk])
 ·refine cO (λi hi => ?_)
  rw [hg i hi]
  congr 1
  exact cO (λk hk=>by rw [hs i k hi hk,ho i hi])
theorem fH.same {N N':Net} (hm:N.m=N'.m) (hq:N.q=N'.q) (hr:∀k,k<N.m->N.room k=N'.room k) (hg:∀i,i<N.q->N.goal i=N'.goal i) (ho:∀i,i<N.q->N.most i=N'.most i) (hs:∀i k,i<N.q->k<N.m->N.suits i k=N'.suits i k) {r:Int} (h:fH N r):fH N' r:=by
 obtain ⟨h1,B,h2⟩:=h
 exact⟨λB=>by rw [<- EN hm hq hr hg ho hs];exact h1 B,B,by rw [<- EN hm hq hr hg ho hs];exact h2⟩
section
variable {spots:List Spot} {l:List Campaign}
theorem KI (h:Office spots l):∃v,jf spots l=some v/\0<=v/\fH (bE spots l) v:=by
 obtain ⟨rows,e1,q1,n1,v,rows',e2,s2,q2,f2,v0,hv⟩:=NS h
 refine⟨v,?_,v0,hv⟩
 unfold jf
 simp only [e1,ob_,n1,xh rfl,e2,s2]
end
end Go.Proofs.YtekmkepojbhafabGreatDoor.Law

