/-
  THE PLAIN LAW (part 5).
-/
import Derived.Test.YtkjlhdminmpmkacGreatDoorPl4
import Derived.Lib.ItoaLen
open Go Go.Eng
namespace Go.Proofs.YtkjlhdminmpmkacGreatDoor.Law
set_option linter.unusedVariables false
set_option linter.unusedSimpArgs false
def Nz (n:Int):Bool:=out n 345686399999
theorem Cx (n:Int):cO n=some (!Nz n):=by
 unfold cO Nz out
 have e1:decide (n>=0) = !decide (n<0):=by rw [Bool.eq_iff_iff];simp
 have e2:decide (n<345686400000) = !decide (n>345686399999):=by rw [Bool.eq_iff_iff];simp;omega
 rw [e1,e2]
 cases decide (n<0) <;> cases decide (n>345686399999) <;> rfl
def badL (n:Int):Bool:=decide (n<1)||decide (n>86400000)
theorem outL_eq (n:Int):aQ n 1 86400000=some (badL n):=by
 unfold aQ badL
 cases decide (n<1) <;> cases decide (n>86400000) <;> rfl
def Nc (p:Play):Prop:=l8 p.Player/\l8 p.Item
def J7 (p:Play):Int:=bif !nK p.Player || !nK p.Item then 5 else bif Nz p.At||badL p.Long then 1 else 0
def Ei:List Play->Int
 | []=>0
 | p::l=>or0 (J7 p) (Ei l)
theorem ED {body:Nat->Play->Unit->Option (Ctl Unit Int)}:∀(l:List Play) (k:Nat),(∀k p,p∈l->body k p ()=some (BD (J7 p)))->forR body l k ()=some (BD (Ei l))
 | [],k,_=>rfl
 | p::l,k,h=>by
  rw [forR,h k p (by simp),ob_,Ei]
  unfold BD or0
  cases hp:J7 p==0 with
  | true=>exact ED l (k+1) (λk p hp=>h k p (by simp [hp]))
  | false =>
   simp only [cond_false]
   rw [hp];rfl
theorem playK (k:Nat) (p:Play) (h:Nc p):ik k p ()=some (BD (J7 p)):=by
 obtain ⟨h1,h2⟩:=h
 unfold l8 at h1 h2
 unfold ik J7
 rw [vO _ (by omega),vO _ (by omega),Cx,outL_eq]
 cases nK p.Player <;> cases nK p.Item <;> cases Nz p.At <;> cases badL p.Long <;> rfl
def bad (b:Bool):Int:=bif b then 1 else 0
def Ih (l:List Campaign) (p:List Play) (at_:Int):Int:=or0 (wQ l) (or0 (Ei p) (bad (Nz at_)))
theorem Im (l:List Campaign) (p:List Play) (at_:Int) (hl:∀x∈l,Cy x) (hp:∀x∈p,Nc x) (h1:l.length<=1000) (h2:p.length<=1000):jP l p at_=some (Ih l p at_):=by
 unfold jP Ih
 rw [Lg l hl (by omega),ob_]
 have hd:decide ((p.length:Int)>3000)=false:=by simp;omega
 rw [hd,cond_false,oC (by omega),ED p 0 (λk q hq=>playK k q (hp q hq)),Cx]
 unfold or0 bne
 cases h:wQ l==0 with
 | false=>rfl
 | true =>
  simp only [Bool.not_true,cond_false,cond_true,ob_]
  unfold BD
  cases hq:Ei p==0 with
  | true=>cases Nz at_ <;> rfl
  | false=>rfl
def Eo (c:Campaign):Prop:=0<=c.Time.From/\c.Time.From<c.Time.To/\c.Time.To<=345686400000/\(0<=c.Goal/\c.Goal<=1000000)/\0<=c.Cents/\c.Cents<=1000000000
theorem EJ {c:Campaign} {last:ByteArray} (h:gy last c=0):Eo c:=by
 unfold gy at h
 cases h1:(!nK c.Key||(decide (c.Class.size≠0) && !nK c.Class))with
 | true=>rw [h1]at h;cases h
 | false =>
  cases h2:sLe c.Key last with
  | true=>rw [h1,h2]at h;cases h
  | false =>
   cases h3:(Cr c.Time||(out c.Goal 1000000||(out c.Most 1000000||out c.Cents 1000000000)))with
   | true=>rw [h1,h2,h3]at h;cases h
   | false =>
    simp only [Cr,out,Bool.or_eq_false_iff,decide_eq_false_iff_not]at h3
    unfold Eo
    omega
def dueF (c:Campaign) (at_:Int):Int:=if at_<c.Time.From then 0 else if at_>=c.Time.To then c.Goal else (c.Goal*(at_-c.Time.From)).tdiv (c.Time.To-c.Time.From)
theorem due_eqK (c:Campaign) (at_:Int) (hc:Eo c) (ha : -1000<=at_/\at_<=1000):mE c at_=some (dueF c at_):=by
 obtain ⟨h1,h2,h3,h4,h5⟩:=hc
 have hq:∀a b:Int,0<b -> -9223372036854775808<=a.tdiv b->a.tdiv b<=9223372036854775807->IR .i64 a b=some (a.tdiv b):=λa b hb k1 k2=>by
  unfold IR
  rw [if_neg (by omega)]
  exact congrArg some (fG (n:=a.tdiv b) ⟨k1,k2⟩)
 unfold mE dueF
 by_cases k1:at_<c.Time.From
 ·rw [decide_eq_true k1,if_pos k1];rfl
 ·rw [decide_eq_false k1,if_neg k1,cond_false]
  by_cases k2:at_>=c.Time.To
  ·rw [decide_eq_true k2,if_pos k2];rfl
  ·rw [decide_eq_false k2,if_neg k2,cond_false]
   have hm:c.Goal*(at_-c.Time.From)<=1000000*1000:=Int.le_trans (Int.mul_le_mul_of_nonneg_right h4.2 (by omega)) (Int.mul_le_mul_of_nonneg_left (by omega) (by omega))
   have hm0:0<=c.Goal*(at_-c.Time.From):=Int.mul_nonneg h4.1 (by omega)
   have e:(c.Goal*(at_-c.Time.From)).tdiv (c.Time.To-c.Time.From)=c.Goal*(at_-c.Time.From) / (c.Time.To-c.Time.From):=Int.tdiv_eq_ediv_of_nonneg hm0
   have k3:0<=c.Goal*(at_-c.Time.From) / (c.Time.To-c.Time.From):=Int.ediv_nonneg hm0 (by omega)
   have k4:=Int.ediv_le_self (c.Time.To-c.Time.From) hm0
   rw [fG (n:=at_-c.Time.From) (by omega),fG (n:=c.Goal*(at_-c.Time.From)) (by omega),fG (n:=c.Time.To-c.Time.From) (by omega),hq _ _ (by omega) (by rw [e];omega) (by rw [e];omega)]
   rfl
def IA (c:Campaign) (at_:Int) (p:Play):Bool:=sEq p.Item c.Key&&(decide (c.Time.From<=p.At)&&(decide (p.At<c.Time.To)&&decide (p.At<at_)))
def Gl (c:Campaign) (at_:Int):List Play->Int
 | []=>0
 | p::l=>(bif IA c at_ p then 1 else 0)+Gl c at_ l
theorem zK (c:Campaign) (at_:Int) {body:Nat->Play->Int->Option (Ctl Int Unit)}:∀(l:List Play) (k:Nat) (s:Int),(∀k p s,body k p s=some (.go (bif IA c at_ p then w64 (s+1)else s)))->0<=s->s+l.length<=1000000->forR body l k s=some (.go (s+Gl c at_ l))
 | [],k,s,_,_,_=>by simp [forR,Gl]
 | p::l,k,s,h,h0,hl=>by
  simp only [List.length_cons]at hl
  rw [forR,h,ob_,Gl]
  cases IA c at_ p with
  | true =>
   simp only [cond_true]
   rw [fG (n:=s+1) (by omega),zK c at_ l (k+1) (s+1) h (by omega) (by omega),Int.add_assoc]
  | false =>
   simp only [cond_false]
   rw [zK c at_ l (k+1) s h h0 (by omega),Int.zero_add]
theorem doneK (c:Campaign) (at_:Int) (p:List Play) (hl:p.length<=1000):forL p (0:Int) (λk x s=>kL c at_ k x s)=some (.go (Gl c at_ p)):=by
 rw [oC (by omega),zK c at_ p 0 0 (λk q s=>by
  unfold kL IA
  cases sEq q.Item c.Key <;> cases decide (c.Time.From<=q.At) <;> cases decide (q.At<c.Time.To) <;> cases decide (q.At<at_) <;> rfl) (Int.le_refl _) (by omega),Int.zero_add]
def paceF (at_:Int) (p:List Play) (c:Campaign):Pace:=⟨c.Key,dueF c at_,Gl c at_ p⟩
theorem Gw {α β:Type} (f:α->β) {body:Nat->α->List β->Option (Ctl (List β) Unit)}:∀(l:List α) (k:Nat) (s:List β),(∀k r s,r∈l->s.length<=1000000->body k r s=some (.go (s++[f r])))->s.length+l.length<=1000000->forR body l k s=some (.go (s++l.map f))
 | [],k,s,_,_=>by simp [forR]
 | r::l,k,s,h,hl=>by
  simp only [List.length_cons]at hl
  rw [forR,h k r s (by simp) (by omega),ob_]
  simp only
  rw [Gw f l (k+1) _ (λk q s hq=>h k q s (by simp [hq])) (by simp;omega)]
  simp
theorem pacesK (l:List Campaign) (p:List Play) (at_:Int) (hl:l.length<=1000) (hp:p.length<=1000) (hc:∀c∈l,Eo c) (ha : -1000<=at_/\at_<=1000):om l p at_=some (l.map (paceF at_ p)):=by
 unfold om
 rw [oC (by omega),Gw (paceF at_ p) l 0 [] (λk c s hcm hs=>by
  unfold nk
  rw [due_eqK c at_ (hc c hcm) ha,ob_,doneK c at_ p hp]
  simp only [ob_,thenC]
  rw [o9 _ _ (by simp;omega)];rfl) (by simp;omega)];rfl
theorem Od (s:Stream) (n:Int) (hn:0<=n/\n<=12) {b:Int} (hs:Ok s b) (hb:b<=500000):∃p s',je s n=some (p,s')/\Ok s' (b+300)/\p.length<=12/\∀x∈p,Nc x:=by
 unfold je
 have hlen:(List.range n.toNat).length=n.toNat:=List.length_range
 obtain ⟨t,h1,h2,h3,h4⟩:=Ps (body:=λk x s=>iU k x s) (s:=(([]:List Play),s.L,s.f_at)) (λk s=>Ok ⟨s.2.1,s.2.2⟩ (b+20*k)/\s.1.length<=k/\∀x∈s.1,Nc x) (xs:=List.range n.toNat) (by rw [hlen];omega) (λk x t hxm hk ⟨i1,i2,i3⟩=>by
  have hk5:k<12:=by rw [hlen]at hk;omega
  unfold iU
  obtain ⟨it,s1,a1,a0,a2⟩:=DF ⟨t.2.1,t.2.2⟩ [(⟨#[99,97]⟩:ByteArray),(⟨#[99,97]⟩:ByteArray),(⟨#[99,98]⟩:ByteArray),(⟨#[99,99]⟩:ByteArray),(⟨#[122,122]⟩:ByteArray)] i1 (by omega) (by simp) (by simp)
  obtain ⟨at1,s2,b1,b2,b3,b4⟩:=Jy s1 0 70 a2 (by omega) (by decide) (by decide) (by decide)
  obtain ⟨lo,s3,c1,_,c2⟩:=sH s2 [1,5] b4 (by omega) (by simp) (by simp)
  obtain ⟨f,s4,d1,d2⟩:=yB s3 80 c2 (by omega) (by decide) (by decide)
  simp only [a1,b1,c1,d1,ob_]
  have hit:l8 it:=by
   simp only [List.mem_cons,List.not_mem_nil,or_false]at a0
   rcases a0 with rfl|rfl|rfl|rfl|rfl <;> exact jI rfl
  cases f with
  | false =>
   simp only [cond_false,ob_,o9 t.1 _ (show t.1.length+[_].length<=_ by simp;omega)]
   refine⟨_,rfl,d2.mono (by omega),by simp;omega,λy hy => ?_⟩
   rcases List.mem_append.1 hy with hy|hy
   ·exact i3 y hy
   ·rw [List.mem_singleton.1 hy];exact⟨jI rfl,hit⟩
  | true =>
   obtain ⟨pl,s5,e1,e0,e2⟩:=DF s4 [(⟨#[112]⟩:ByteArray),(⟨#[]⟩:ByteArray)] d2 (by omega) (by simp) (by simp)
   obtain ⟨it2,s6,f1,f0,f2⟩:=DF s5 [(⟨#[99,97]⟩:ByteArray),(⟨#[65]⟩:ByteArray)] e2 (by omega) (by simp) (by simp)
   obtain ⟨at2,s7,g1,g2⟩:=P5 s6 0 70 f2 (by omega) (by decide) (by decide) (by decide)
   obtain ⟨lo2,s8,m1,m2⟩:=P5 s7 1 9 g2 (by omega) (by decide) (by decide) (by decide)
   simp only [cond_true,e1,f1,g1,m1,ob_,o9 t.1 _ (show t.1.length+[_].length<=_ by simp;omega)]
   have hpl:l8 pl:=by
    simp only [List.mem_cons,List.not_mem_nil,or_false]at e0
    rcases e0 with rfl|rfl <;> exact jI rfl
   have hi2:l8 it2:=by
    simp only [List.mem_cons,List.not_mem_nil,or_false]at f0
    rcases f0 with rfl|rfl <;> exact jI rfl
   refine⟨_,rfl,m2.mono (by omega),by simp;omega,λy hy => ?_⟩
   rcases List.mem_append.1 hy with hy|hy
   ·exact i3 y hy
   ·rw [List.mem_singleton.1 hy];exact⟨hpl,hi2⟩) ⟨by simpa using hs,by simp,by simp⟩
 rw [h1]
 rw [hlen]at h2 h3
 exact⟨t.1,⟨t.2.1,t.2.2⟩,rfl,h2.mono (by omega),by omega,h4⟩
end Go.Proofs.YtkjlhdminmpmkacGreatDoor.Law

open Go Go.Eng Go.Flow
namespace Go.Proofs.YtkjlhdminmpmkacGreatDoor.Law
set_option linter.unusedVariables false
set_option linter.unusedSimpArgs false
set_option linter.unusedSectionVars false
theorem Ml {α:Type} (z:α) {B:Nat->Nat->List α->Option (Ctl (List α) Unit)} (hB:∀k x s,B k x s=(inR (k:Int) s).bind λ_=>(s[(0+((k:Int)).toNat)]?).bind λ_=>some (.go (s.set (0+((k:Int)).toNat) z))) (l:List α) (hl:l.length<=1000000) :
  ∃l',(forL (List.range ((l.length:Int)).toNat) l B).bind (λo=>thenC o (λs=>some s) (λ_=>none))=some l'/\nV l' l=some ():=by
 have hn:((l.length:Int)).toNat=l.length:=by simp
 obtain ⟨s,r1,r2⟩:=Bu (body:=B) (λ_ s=>s.length=l.length) (n:=l.length) (s:=l) (by omega) (λk s hk hs=>by
  rw [hB]
  have hks:k<s.length:=by omega
  refine⟨s.set k z,?_,by rw [List.length_set];exact hs⟩
  simp only [lh hks,toN,List.getElem?_eq_getElem hks,ob_]) rfl
 rw [hn,r1]
 exact⟨s,rfl,AU r2⟩
theorem eqFn {α:Type} {B:Nat->α->Unit->Option (Ctl Unit Bool)} (l:List α) (hl:l.length<=1000000) (hB:∀k x,l[k]? = some x->B k x ()=some (.go ())):(bif ((l.length:Int) != (l.length:Int))then some false else (forL l () B).bind λo=>thenC o (λ_=>some true) (λr=>some r))=some true:=by
 obtain ⟨s,r1,_⟩:=ow (body:=B) (λ_ _=>True) (xs:=l) (s:=()) (by omega) (λk x s hk _=>by
  cases s
  exact⟨(),hB k x hk,trivial⟩) trivial
 have e:((l.length:Int) != (l.length:Int))=false:=by simp
 rw [e,r1];rfl
theorem jT_le (sep:List UInt8) (m:Nat):∀(r:List (List UInt8)),(∀x∈r,x.length<=m)->(Go.Lib.joinTail sep r).length<=r.length*(m+sep.length)
 | [],_=>by simp [Go.Lib.joinTail]
 | y::r,hy=>by
  have e:Go.Lib.joinTail sep (y::r)=sep++y++Go.Lib.joinTail sep r:=by simp [Go.Lib.joinTail]
  rw [e,List.length_append,List.length_append,List.length_cons,Nat.add_mul]
  have:=jT_le sep m r (λx hx=>hy x (List.mem_cons_of_mem _ hx))
  have:=hy y (by simp)
  omega
theorem j_le (sep:List UInt8) (m:Nat):∀(ls:List (List UInt8)),(∀x∈ls,x.length<=m)->(Go.Lib.join ls sep).length<=ls.length*(m+sep.length)
 | [],_=>by simp [Go.Lib.join]
 | y::r,h=>by
  rw [Go.Lib.join_cons,List.length_append,List.length_cons,Nat.add_mul]
  have:=jT_le sep m r (λx hx=>h x (List.mem_cons_of_mem _ hx))
  have:=h y (by simp)
  omega
theorem DD (s:ByteArray):s.data.toList.length=s.size:=(Go.Lib.size_eq s).symm
theorem Bg (xs:List ByteArray) (sep:ByteArray) (m:Nat) (h:∀x∈xs,x.size<=m) (hl:xs.length<=1000) (hm:m+sep.size<=1000000):∃s,strings_Join xs sep=some s/\s.size<=xs.length*(m+sep.size):=by
 have h1:=j_le sep.data.toList m (xs.map (·.data.toList)) (λx hx=>by
  obtain ⟨y,hy,rfl⟩:=List.mem_map.1 hx
  rw [DD];exact h y hy)
 rw [List.length_map,DD]at h1
 have h2:xs.length*(m+sep.size)<=1000*1000000:=Nat.mul_le_mul hl hm
 unfold strings_Join M9
 rw [if_pos ⟨by omega,by omega⟩]
 exact⟨_,rfl,by rw [<- DD];exact h1⟩
theorem Ju (l:List Int) (h:∀n∈l,-1000000000000000<=n/\n<=1000000000000000) (hl:l.length<=5):∃s,qP l=some s/\s.size<=1000:=by
 obtain ⟨u,r1,r2,r3⟩:=ow (body:=λk x s=>mX k x s) (λk s=>s.length=k/\∀x∈s,x.size<=21) (xs:=l) (s:=([]:List ByteArray)) (by omega) (λk n s hk ⟨i1,i2⟩=>by
  have hn:=h n (List.mem_of_getElem? hk)
  have hkl:k<l.length:=(List.getElem?_eq_some_iff.1 hk).1
  have e:strconv_Itoa n=some ⟨(Go.Lib.itoa n).toArray⟩:=by
   unfold strconv_Itoa M5
   rw [if_pos ⟨by omega,by omega⟩]
  unfold mX
  simp only [e,ob_,o9 s [(⟨(Go.Lib.itoa n).toArray⟩:ByteArray)] (by simp;omega)]
  refine⟨_,rfl,by simp [i1],λx hx => ?_⟩
  rcases List.mem_append.1 hx with hx|hx
  ·exact i2 x hx
  ·rw [List.mem_singleton.1 hx,<- DD]
   exact Go.Lib.itoa_length_le n (by omega) (by omega)) ⟨rfl,λx hx=>by cases hx⟩
 obtain ⟨s,s1,s2⟩:=Bg u (⟨#[32]⟩:ByteArray) 21 r3 (by omega) (by decide)
 have e1:(⟨#[32]⟩:ByteArray).size=1:=rfl
 rw [e1,r2]at s2
 have h3:l.length*(21+1)<=5*22:=Nat.mul_le_mul hl (Nat.le_refl _)
 unfold qP
 rw [r1,ob_,mh,s1]
 exact⟨s,rfl,by omega⟩
theorem L8 (l:List ByteArray) (h:∀x∈l,l8 x) (hl:l.length<=20):∃s,tH l=some s/\s.size<=100000:=by
 unfold tH
 cases hz:((l.length:Int)==0)with
 | true=>exact⟨_,rfl,by decide⟩
 | false =>
  obtain ⟨s,s1,s2⟩:=Bg l (⟨#[44]⟩:ByteArray) 1000 (λx hx=>h x hx) (by omega) (by decide)
  have e1:(⟨#[44]⟩:ByteArray).size=1:=rfl
  rw [e1]at s2
  have h3:l.length*(1000+1)<=20*1001:=Nat.mul_le_mul hl (Nat.le_refl _)
  simp only [cond_false,s1,ob_]
  exact⟨s,rfl,by omega⟩
theorem PM {c:Campaign} (hg:Cy c) (h:gy nT c=0):kQ c c=some true:=by
 obtain ⟨g1,g2,g3,g4⟩:=hg
 have hr:=EJ h
 have hi:=Eg h
 unfold Eo at hr
 obtain ⟨n,n1,n2⟩:=Ju [c.Time.From,c.Time.To,c.Goal,c.Most,c.Cents] (λx hx=>by
  simp only [List.mem_cons,List.not_mem_nil,or_false]at hx
  rcases hx with rfl|rfl|rfl|rfl|rfl <;> omega) (by simp)
 obtain ⟨t,t1,t2⟩:=L8 c.Tags g4 g3
 have hline:∃s,ja c=some s:=by
  unfold ja
  unfold l8 at g1 g2
  cases sEq c.Class (⟨#[]⟩:ByteArray)with
  | true =>
   obtain ⟨s,s1,_⟩:=Bg [c.Key,(⟨#[45]⟩:ByteArray),n,t] (⟨#[32]⟩:ByteArray) 100000 (λx hx=>by
    simp only [List.mem_cons,List.not_mem_nil,or_false]at hx
    rcases hx with rfl|rfl|rfl|rfl
    ·omega
    ·decide
    ·omega
    ·omega) (by simp) (by decide)
   simp only [cond_true,ob_,n1,t1,s1]
   exact⟨s,rfl⟩
  | false =>
   obtain ⟨s,s1,_⟩:=Bg [c.Key,c.Class,n,t] (⟨#[32]⟩:ByteArray) 100000 (λx hx=>by
    simp only [List.mem_cons,List.not_mem_nil,or_false]at hx
    rcases hx with rfl|rfl|rfl|rfl
    ·omega
    ·omega
    ·omega
    ·omega) (by simp) (by decide)
   simp only [cond_false,ob_,n1,t1,s1]
   exact⟨s,rfl⟩
 obtain ⟨s,hs⟩:=hline
 unfold kQ
 simp only [hs,ob_]
 exact congrArg some ((Dx _ _).2 rfl)
section
variable {spots:List Spot} {l:List Campaign}
theorem Oy (h:Office spots l) (hl:l.length<=10) (hb:dD spots l=some 0) (hk:(l.map Campaign.Key).Sublist uC) {m:Int} (hm:1<=m/\m<=9):∃r,nH spots l (zz 0 m)=some r:=by
 obtain ⟨v,m1,_,_⟩:=M3 h
 have hgk:=MG h.cr (by omega) spots
 have hck:bR [zz 0 m]=some 0:=by
  rw [Lg [zz 0 m] (λy hy=>by rw [List.mem_singleton]at hy;rw [hy];exact zz_good 0 m) (by simp),Fs (by simp) (λy hy=>by rw [List.mem_singleton]at hy;rw [hy];exact zz_stp ⟨by omega,by omega⟩ (by omega)) (List.pairwise_singleton _ _)]
 have hcf:bg l (λx0=>mO x0 (zz 0 m))=some false:=by
  have h1:bg l (λx0=>mO x0 (zz 0 m))=some (l.any λy=>sEq y.Key (zz 0 m).Key):=Hl l _ _ (λy _=>rfl) (by omega)
  rw [h1,zz_not hk 0 m]
 have hap:iZ l [zz 1000000 m]=some (l++[zz 1000000 m]):=o9 _ _ (by simp;omega)
 obtain ⟨w,n1,_,_⟩:=M3 (Jn h (by omega) (c:=zz 1000000 m) ⟨by show (0:Int)<=1000000;omega,by show (1000000:Int)<=10000000;omega,by show 0<=m;omega,by show m<=10000000;omega,by simp [zz]⟩)
 have hz:(⟨(zz 0 m).Key,(zz 0 m).Class,(zz 0 m).Time,(zz 0 m).Tags,1000000,(zz 0 m).Most,(zz 0 m).Cents⟩:Campaign)=zz 1000000 m:=rfl
 unfold nH
 by_cases hv:v<(netOf spots l).goals
 ·exact⟨_,by simp only [hb,ob_,bne_self_eq_false,cond_false,hck,hcf,hgk,m1,decide_eq_true hv,cond_true];rfl⟩
 ·exact⟨_,by simp only [hb,ob_,bne_self_eq_false,cond_false,hck,hcf,hgk,m1,decide_eq_false hv,Mj l (by omega),hz,hap,n1];rfl⟩
end
theorem bookingsStay (l:List Int):l6 l=some true:=by
 obtain ⟨x,s1,a1,a2,a3,a4,a5,a6,a7⟩:=Ji ⟨l,0⟩ (b:=0) ⟨Int.le_refl _,Int.le_refl _⟩ (by decide)
 obtain ⟨c,s2,b1,b2,b3,b4,b5,b6,b7⟩:=JA 4 (.inr rfl) s1 a2 (by decide)
 have b1':dE s1 4=some (c,s2):=b1
 obtain ⟨p,s3,p1,p2,p3,p4⟩:=Od s2 6 (by omega) b2 (by decide)
 have hs:=KZ (by omega) a5 a6
 have hc:=Fs (by omega) b5 (LQ.sublist b6)
 have hof:=I7 a4 b4 (by omega) (by omega) hs hc
 have hb:=both_eq x c a4 b4 (by omega) (by omega)
 rw [hs,hc]at hb
 have hb:dD x c=some 0:=hb
 obtain ⟨v,m1,m2,m3⟩:=dealK hof hb
 obtain ⟨t,t1,t2,_⟩:=tightK hof hb m1
 obtain ⟨lf,l1⟩:=Oy hof (by omega) hb b6 (m:=3) ⟨by omega,by omega⟩
 have l1':nH x c (⟨(⟨#[122,122]⟩:ByteArray),(⟨#[]⟩:ByteArray),(⟨0,100⟩:Window),([]:List ByteArray),0,3,0⟩:Campaign)=some lf:=l1
 obtain ⟨L,f,d1,d2⟩:∃L f,jL x c=some (L,f)/\L.length<=1000:=by
  rcases m3 with⟨_,y,_,e⟩|⟨_,e⟩
  ·refine⟨_,_,e,?_⟩
   have h1:=Ir (spots:=x) (l:=c) (x:=y) c.length
   have h2:c.length*x.length<=4*5:=Nat.mul_le_mul b3 a3
   omega
  ·exact⟨_,_,e,by simp⟩
 have hpf:=Im c p 30 b4 p4 (by omega) (by omega)
 obtain ⟨P,g,e1,e2⟩:∃P g,og c p 30=some (P,g)/\P.length<=1000:=by
  unfold og
  rw [hpf,ob_]
  cases hz:(Ih c p 30 != 0)with
  | true=>exact⟨[],_,rfl,by simp⟩
  | false =>
   rw [cond_false,pacesK c p 30 (by omega) (by omega) (λy hy=>EJ (b5 y hy)) (by omega)]
   exact⟨_,_,rfl,by rw [List.length_map];omega⟩
 obtain ⟨L',q1,q2⟩:=Ml (⟨(⟨#[]⟩:ByteArray),(⟨#[]⟩:ByteArray),0⟩:Share) (B:=λk x s=>gu k x s) (λk x s=>rfl) L (by omega)
 have q1:iJ L=some L':=q1
 obtain ⟨t',u1,u2⟩:=Ml (⟨#[]⟩:ByteArray) (B:=λk x s=>iG k x s) (λk x s=>rfl) t (by omega)
 have u1:jQ t=some t':=u1
 obtain ⟨P',v1,v2⟩:=Ml (⟨(⟨#[]⟩:ByteArray),0,0⟩:Pace) (B:=λk x s=>gM k x s) (λk x s=>rfl) P (by omega)
 have v1:iW P=some P':=v1
 have w1:bL x x=some true:=eqFn x (by omega) (λk y hk=>by
  have hy:=a4 y (List.mem_of_getElem? hk)
  have e:iR y y=some true:=by
   unfold iR
   rw [(Dx _ _).2 rfl,Kl y.Tags (by have:=hy.2.1;omega)]
   simp
  unfold bG
  simp only [uI,hk,e,ob_,Bool.not_true,cond_false])
 have w2:bf c c=some true:=eqFn c (by omega) (λk y hk=>by
  have hm:=List.mem_of_getElem? hk
  have e:=PM (b4 y hm) (b5 y hm)
  unfold aZ
  simp only [uI,hk,e,ob_,Bool.not_true,cond_false])
 have w3:fe p p=some true:=eqFn p (by omega) (λk y hk=>by
  unfold dY
  simp only [uI,hk,ob_]
  simp)
 unfold l6
 simp only [a1,b1',p1,d1,q1,q2,t1,u1,u2,l1',e1,v1,v2,w1,w2,w3,ob_,cond_true,PN]
end Go.Proofs.YtkjlhdminmpmkacGreatDoor.Law

