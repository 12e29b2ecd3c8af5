/-
  THE PLAIN LAW (part 2).
-/
import Derived.Test.YtljhfffghjclfaaGreatDoorPl1
import Derived.Test.YtljhfffghjclfaaGreatDoorDefs
import Derived.Laws.RangeString
open Go Go.Eng
namespace Go.Proofs.YtljhfffghjclfaaGreatDoor.Law
set_option linter.unusedVariables false
set_option linter.unusedSimpArgs false
set_option maxRecDepth 100000
def poL:List ByteArray:=[⟨#[112,97]⟩,⟨#[112,98]⟩,⟨#[112,99]⟩]
structure RPosts (l:List Post):Prop where
 right:∀p∈l,RightPo p
 sub:(l.map (·.Player)).Sublist poL
theorem RPosts.len {l:List Post} (h:RPosts l):l.length<=3:=by
 have h1:=h.sub.length_le
 rw [List.length_map]at h1
 exact h1
end Go.Proofs.YtljhfffghjclfaaGreatDoor.Law

open Go Go.Eng
namespace Go.Proofs.YtljhfffghjclfaaGreatDoor.Law
set_option linter.unusedVariables false
set_option linter.unusedSimpArgs false
theorem xI (s:Stream) {b:Int} (hs:Ok s b) (hb:b<=900000):∃r s',dA s=some (r,s')/\Ok s' (b+4):=by
 unfold dA
 obtain ⟨x,s1,a1,a2,a3,a4⟩:=gX s (-2) 8 hs (by omega) (by omega) (by omega) (by omega)
 obtain ⟨y,s2,b1,b2,b3,b4⟩:=gX s1 (-2) 8 a4 (by omega) (by omega) (by omega) (by omega)
 obtain ⟨w,s3,c1,c2,c3,c4⟩:=gX s2 1 5 b4 (by omega) (by omega) (by omega) (by omega)
 obtain ⟨h,s4,d1,d2,d3,d4⟩:=gX s3 1 5 c4 (by omega) (by omega) (by omega) (by omega)
 simp only [a1,b1,c1,d1,ob_]
 exact⟨_,_,rfl,d4.mono (by omega)⟩
theorem rect_ok (s:Stream) {b:Int} (hs:Ok s b) (hb:b<=800000):∃r s',ko s=some (r,s')/\Ok s' (b+10):=by
 unfold ko
 obtain ⟨r,s1,a1,a2⟩:=xI s hs (by omega)
 obtain ⟨c,s2,b1,b2⟩:=sZ s1 20 a2 (by omega) (by decide) (by decide)
 simp only [a1,b1,ob_]
 cases c with
 | false=>exact⟨_,_,rfl,b2.mono (by omega)⟩
 | true =>
  obtain ⟨k,s3,c1,c2,c3,c4⟩:=kR s2 3 b2 (by omega) (by decide) (by decide)
  simp only [cond_true,c1,ob_]
  cases h0:k==0 with
  | true =>
   obtain ⟨v,s4,d1,d2⟩:=Ik s3 (-100000) 99999 c4 (by omega) (by decide) (by decide) (by decide)
   simp only [cond_true,d1,ob_]
   exact⟨_,_,rfl,d2.mono (by omega)⟩
  | false =>
   cases h1:k==1 with
   | true =>
    obtain ⟨v,s4,d1,d2⟩:=Ik s3 1 200000 c4 (by omega) (by decide) (by decide) (by decide)
    obtain ⟨u,s5,e1,e2⟩:=Ik s4 1 5 d2 (by omega) (by decide) (by decide) (by decide)
    simp only [cond_true,cond_false,d1,e1,ob_]
    exact⟨_,_,rfl,e2.mono (by omega)⟩
   | false =>
    obtain ⟨v,s4,d1,_,d2⟩:=qh s3 [(-100000),99999] c4 (by omega) (by simp) (by simp)
    obtain ⟨u,s5,e1,_,e2⟩:=qh s4 [1,2,200000] d2 (by omega) (by simp) (by simp)
    simp only [cond_false,d1,e1,ob_]
    exact⟨_,_,rfl,e2.mono (by omega)⟩
end Go.Proofs.YtljhfffghjclfaaGreatDoor.Law

open Go Go.Eng
namespace Go.Proofs.YtljhfffghjclfaaGreatDoor.Law
set_option linter.unusedVariables false
set_option linter.unusedSimpArgs false
set_option maxRecDepth 100000
theorem Es (s:Stream) (lo hi:Int) {b:Int} (hs:Ok s b) (hb:b<=900000) (h:lo<=hi) (h1 : -1000000000000<=lo) (h2:hi<=1000000000000):∃r s',dL s lo hi=some (r,s')/\(-1100000000000<=r/\r<=1100000000000)/\Ok s' (b+2):=by
 unfold dL
 obtain ⟨c,s1,a1,a2⟩:=sZ s 12 hs (by omega) (by decide) (by decide)
 simp only [a1,ob_]
 cases c with
 | true =>
  obtain ⟨k,s2,b1,b2,b3⟩:=qh s1 [(w64 (lo-1)),(w64 (hi+1)),lo,hi,(-1099511627776),1099511627776] a2 (by omega) (by simp) (by simp)
  rw [eT (n:=lo-1) (by omega),eT (n:=hi+1) (by omega)]at b1 b2
  rw [cond_true,eT (n:=lo-1) (by omega),eT (n:=hi+1) (by omega),b1,ob_]
  refine⟨k,s2,rfl,?_,b3.mono (by omega)⟩
  simp only [List.mem_cons,List.not_mem_nil,or_false]at b2
  omega
 | false =>
  obtain ⟨k,s2,b1,b2,b3,b4⟩:=gX s1 lo hi a2 (by omega) h h1 h2
  rw [cond_false,b1,ob_]
  exact⟨k,s2,rfl,by omega,b4.mono (by omega)⟩
theorem Ka (s:Stream) {b:Int} (hs:Ok s b) (hb:b<=500000):∃l s',jH s 2=some (l,s')/\l.length<=2/\Ok s' (b+50):=by
 unfold jH
 obtain ⟨k,s1,a1,a2,a3,a4⟩:=gX s 0 2 hs (by omega) (by decide) (by decide) (by decide)
 rw [a1,ob_]
 have hlr:(List.range k.toNat).length=k.toNat:=by simp
 obtain ⟨t,t1,t2,t3⟩:=Bz (body:=λk x s=>iL k x s) (s:=(([]:List Rect),s1.L,s1.f_at)) (λj t=>t.1.length=j/\Ok ⟨t.2.1,t.2.2⟩ (b+1+20*j)) (xs:=List.range k.toNat) (by rw [hlr];omega) (λj x t _ hj ⟨i1,i2⟩=>by
  rw [hlr]at hj
  unfold iL
  obtain ⟨r,s2,c1,c2⟩:=xI _ i2 (by omega)
  obtain ⟨f,s3,d1,d2⟩:=sZ s2 60 c2 (by omega) (by decide) (by decide)
  simp only [c1,d1,ob_]
  cases f with
  | false =>
   simp only [cond_false,ob_]
   rw [mq _ _ (by simp;omega)]
   exact⟨_,rfl,by simp [i1],d2.mono (by omega)⟩
  | true =>
   obtain ⟨q,s4,e1,e2⟩:=rect_ok s3 d2 (by omega)
   simp only [cond_true,e1,ob_]
   rw [mq _ _ (by simp;omega)]
   exact⟨_,rfl,by simp [i1],e2.mono (by omega)⟩) ⟨rfl,a4.mono (by omega)⟩
 rw [hlr]at t2 t3
 rw [t1]
 exact⟨t.1,⟨t.2.1,t.2.2⟩,rfl,by omega,t3.mono (by omega)⟩
def ShA (s:ByteArray):Prop:=s.size<=1000
theorem jX {s:ByteArray} (h:Nat.ble s.size 1000=true):ShA s:=Nat.le_of_ble_eq_true h
def txtL:List ByteArray:=[⟨#[]⟩,overS,floodS,mallS,⟨#[32,120]⟩,⟨#[97,32,32,98]⟩,⟨#[10]⟩,⟨#[255]⟩]
structure GA (x:Alert):Prop where
 id:ShA x.Id
 sender:ShA x.Sender
 refs:∀r∈x.Refs,ShA r
 rlen:x.Refs.length<=5
 alen:x.Areas.length<=2
 at_ : -1100000000000<=x.At/\x.At<=1100000000000
 until_ : -1100000000000<=x.Until/\x.Until<=1100000000000
 text:x.Text∈txtL
theorem RightA.ga {x:Alert} (h:RightA x):GA x:=by
 have h1:=h.at_
 have h2:=h.until_
 refine⟨(Jl _ h.id).2 |> jX,?_,λr hr => ?_,h.refsLen,h.alen,by omega,by omega,?_⟩
 ·rcases h.sender with e|e <;> rw [e] <;> exact jX rfl
 ·rcases h.refs with hs|hs
  ·exact jX (Gr r (hs.subset hr)).2
  ·rw [hs]at hr;rw [List.mem_singleton.1 hr];exact jX rfl
 ·unfold txtL
  rcases h.text with e|e|⟨_,e|e⟩ <;> rw [e] <;> simp
theorem Jr {α:Type} {p:α->Prop} {xs:List α} {i:Nat} {a:α} (h:∀x∈xs,p x) (ha:p a):∀x∈xs.set i a,p x:=λx hx=>by
 rcases List.mem_or_eq_of_mem_set hx with h1|h1
 ·exact h x h1
 ·rw [h1];exact ha
theorem mH {α:Type} {xs:List α} {i:Nat} {a:α} (h:i<xs.length):(xs.set i a)[i]? = some a:=by simp [h]
def GAs (l:List Alert):Prop:=(∀x∈l,GA x)/\l.length<=6
structure GP (p:Post):Prop where
 player:ShA p.Player
end Go.Proofs.YtljhfffghjclfaaGreatDoor.Law

open Go Go.Eng
namespace Go.Proofs.YtljhfffghjclfaaGreatDoor.Law
set_option linter.unusedVariables false
set_option linter.unusedSimpArgs false
end Go.Proofs.YtljhfffghjclfaaGreatDoor.Law

open Go Go.Eng
namespace Go.Proofs.YtljhfffghjclfaaGreatDoor.Law
set_option linter.unusedVariables false
set_option linter.unusedSimpArgs false
end Go.Proofs.YtljhfffghjclfaaGreatDoor.Law

open Go Go.Eng
namespace Go.Proofs.YtljhfffghjclfaaGreatDoor.Law
set_option linter.unusedVariables false
set_option linter.unusedSimpArgs false
instance (a b:Alert):Decidable (lt a.Id b.Id):=by unfold lt;exact inferInstance
instance (a b:Alert):Decidable (befA a b):=by unfold befA;exact inferInstance
instance (v:ByteArray) (l:List ByteArray):Decidable (v∈l):=decidable_of_iff (l.any (λx=>decide (v=x))=true) (by simp)
end Go.Proofs.YtljhfffghjclfaaGreatDoor.Law

open Go Go.Eng
namespace Go.Proofs.YtljhfffghjclfaaGreatDoor.Law
set_option linter.unusedVariables false
set_option linter.unusedSimpArgs false
structure CA (l:List Alert):Prop where
 ids:(l.map (·.Id)).Nodup
 len:l.length<=12
 refs:∀x∈l,x.Refs.length<=1000
 alen:∀x∈l,x.Areas.length<=1000
 areas:∀x∈l,∀r∈x.Areas,Fine r
 at_:∀x∈l,0<=x.At/\x.At<=1000000000000
 until_:∀x∈l,0<=x.Until/\x.Until<=2000000000000
theorem FJ (a b:Alert):∃n,je a b=some n/\(n<0↔befA a b):=by
 refine⟨_,by simp only [je,A7,KC,or2_eq,ob_];rfl,?_⟩
 rw [or0_neg,MX,J3,FI];rfl
end Go.Proofs.YtljhfffghjclfaaGreatDoor.Law

open Go Go.Eng
namespace Go.Proofs.YtljhfffghjclfaaGreatDoor.Law
set_option linter.unusedVariables false
set_option linter.unusedSimpArgs false
set_option maxRecDepth 100000
def chA {α:Type} (stp:Option α->α->Int):Option α->List α->Int
 | _,[]=>0
 | p,x::l=>bif stp p x==0 then chA stp (some x) l else stp p x
def kE {α:Type} (l:List α) (k:Nat):Option α:=if k=0 then none else l[k-1]?
theorem Gf {α:Type} {stp:Option α->α->Int} {body:Nat->α->Unit->Option (Ctl Unit Int)} (l:List α):∀(xs:List α) (k:Nat),l.drop k=xs->(∀k x,l[k]? = some x->body k x ()=some (sQ (stp (kE l k) x)))->forR body xs k ()=some (sQ (chA stp (kE l k) xs))
 | [],k,_,_=>rfl
 | x::xs,k,hd,h=>by
  have hx:=Fa hd
  have hp:kE l (k+1)=some x:=by unfold kE;rw [if_neg (by omega)];exact hx
  rw [forR,h k x hx,ob_,chA]
  cases hs:stp (kE l k) x==0 with
  | true =>
   have e:sQ (stp (kE l k) x) = .go ():=by unfold sQ;rw [hs];rfl
   rw [e,cond_true,<- hp]
   exact Gf l xs (k+1) (bn hd) h
  | false =>
   have e:sQ (stp (kE l k) x) = .ret (stp (kE l k) x):=by unfold sQ;rw [hs];rfl
   rw [e,cond_false,e]
theorem ve {α:Type} {stp:Option α->α->Int} {body:Nat->α->Unit->Option (Ctl Unit Int)} {l:List α} (hl:l.length<=1000000) (h:∀k x,l[k]? = some x->body k x ()=some (sQ (stp (kE l k) x))):forL l () body=some (sQ (chA stp none l)):=by
 rw [fQ (by omega)]
 exact Gf l l 0 rfl h
theorem JJ {α:Type} {stp:Option α->α->Int}:∀{l:List α} {p:Option α},chA stp p l=0->∀(i:Nat) (x:α),l[i]? = some x->∃q,stp q x=0/\(i=0->q=p)/\(0<i->q=l[i-1]?)
 | [],p,_,i,x,hx=>by simp at hx
 | y::l,p,h,i,x,hx=>by
  rw [chA]at h
  cases hs:stp p y==0 with
  | false=>rw [hs,cond_false]at h;rw [h]at hs;exact absurd hs (by decide)
  | true =>
   rw [hs,cond_true]at h
   cases i with
   | zero =>
    rw [List.getElem?_cons_zero,so_]at hx
    exact⟨p,by rw [<- hx];exact eq_of_beq hs,λ_=>rfl,λh=>absurd h (Nat.lt_irrefl _)⟩
   | succ i =>
    rw [List.getElem?_cons_succ]at hx
    obtain ⟨q,q1,q2,q3⟩:=JJ h i x hx
    refine⟨q,q1,λh=>absurd h (by omega),λ_ => ?_⟩
    cases i with
    | zero=>rw [q2 rfl];rfl
    | succ i=>rw [q3 (by omega)];simp
theorem nu (e:Int):(e=0/\sQ e = .go ())\/(e≠0/\sQ e = .ret e):=by
 unfold sQ
 by_cases h:e=0
 ·subst h;exact .inl ⟨rfl,rfl⟩
 ·have:(e==0)=false:=by simpa using h
  rw [this];exact .inr ⟨h,rfl⟩
def zo {α:Type} (f:α->Bool):Option α->Bool
 | some y=>f y
 | none=>false
def nY (id:ByteArray) (p:Option ByteArray) (r:ByteArray):Int:=bif !keyB r then 5 else bif zo (λq=>sLe r q) p then 7 else bif sEq r id then 14 else 0
def lD (_:Option Rect) (r:Rect):Int:=bif zB r then 1 else 0
theorem CV {α β:Type} {l:List α} {k:Nat} {x:α} (h:l[k]? = some x) (hl:l.length<=1000000) (g:α->Option Bool) (f:α->Bool) (hg:∀y,g y=some (f y)):(bif (decide ((k:Int)>0))then (idx l (w64 ((k:Int)-1))).bind g else some false)=some (zo f (kE l k)):=by
 rcases Nat.eq_zero_or_pos k with h0|h0
 ·subst h0
  rw [decide_eq_false (by omega)];rfl
 ·obtain ⟨y,q1,q2⟩:=Hd h h0 (by omega)
  rw [decide_eq_true (by omega),cond_true,q1,ob_,hg]
  unfold kE
  rw [if_neg (by omega),q2];rfl
theorem Ie (x:Alert):∀k r,x.Areas[k]? = some r->eB k r ()=some (sQ (lD (kE x.Areas k) r)):=λk r hr=>by
 unfold eB lD
 rw [EA]
 cases zB r <;> rfl
theorem Iz (x:Alert):∀k r,x.Areas[k]? = some r->gM k r ()=some (sQ (lD (kE x.Areas k) r)):=λk r hr=>by
 unfold gM lD
 rw [Eo]
 cases zB r <;> rfl
def rfV (x:Alert):Int:=chA (nY x.Id) none x.Refs
def arV (x:Alert):Int:=chA lD none x.Areas
def fmV (x:Alert):Bool := !((x.Kind==1)==((x.Refs.length:Int)==0))
def agV (x:Alert):Bool := !Cn x.At||(jY x.Until (x.At+1) (x.At+2592000000)||jY x.Weight 1 9)
def cnV (x:Alert):Bool := !((x.Kind==3)==((x.Areas.length:Int)==0))
end Go.Proofs.YtljhfffghjclfaaGreatDoor.Law

open Go Go.Eng
namespace Go.Proofs.YtljhfffghjclfaaGreatDoor.Law
set_option linter.unusedVariables false
set_option linter.unusedSimpArgs false
section
variable {K T:Type} {eq:K->K->Bool}
theorem Lr (k:K):eX eq ([]:List (K×T)) k=none:=rfl
theorem rG (e:K×T) (es:List (K×T)) (k:K):eX eq (e::es) k=if eq k e.1=true then some e.2 else eX eq es k:=by
 unfold eX
 rw [tK]
 by_cases h:eq k e.1=true
 ·rw [if_pos h,if_pos h];rfl
 ·rw [if_neg h,if_neg h]
  cases tK eq k es with
  | none=>rfl
  | some j=>rfl
theorem MF (k:K) (v:T):aO eq ([]:List (K×T)) k v=[(k,v)]:=rfl
theorem DI (e:K×T) (es:List (K×T)) (k:K) (v:T):aO eq (e::es) k v=if eq k e.1=true then (k,v)::es else e::aO eq es k v:=by
 unfold aO
 rw [tK]
 by_cases h:eq k e.1=true
 ·rw [if_pos h,if_pos h];rfl
 ·rw [if_neg h,if_neg h]
  cases tK eq k es with
  | none=>rfl
  | some j=>rfl
theorem Db (he:∀a b,eq a b=true↔a=b) (k k':K) (v:T):∀es:List (K×T),eX eq (aO eq es k v) k'=if eq k' k=true then some v else eX eq es k'
 | []=>by rw [MF,rG]
 | e::es=>by
  rw [DI,rG]
  by_cases h:eq k e.1=true
  ·rw [if_pos h,rG]
   have h1:=(he _ _).1 h
   rw [<- h1]
   by_cases h2:eq k' k=true
   ·rw [if_pos h2,if_pos h2]
   ·rw [if_neg h2,if_neg h2,if_neg h2]
  ·rw [if_neg h,rG,Db he k k' v es]
   by_cases h2:eq k' e.1=true
   ·have h3:=(he _ _).1 h2
    have:¬eq k' k=true:=λq=>h (by rw [<- (he _ _).1 q];exact h2)
    rw [if_pos h2,if_neg this,if_pos h2]
   ·rw [if_neg h2,if_neg h2]
theorem BA (k:K) (v:T):∀es:List (K×T),(aO eq es k v).length=if (eX eq es k).isSome=true then es.length else es.length+1
 | []=>rfl
 | e::es=>by
  rw [DI,rG]
  by_cases h:eq k e.1=true
  ·rw [if_pos h,if_pos h];rfl
  ·rw [if_neg h,if_neg h,List.length_cons,BA k v es,List.length_cons]
   split <;> rfl
end
theorem xC (a b:ByteArray):eqS a b=true↔a=b:=⟨eqS_eq,λh=>by
 subst h
 obtain ⟨x⟩:=a
 show (x==x)=true
 exact beq_self_eq_true x⟩
def xc (s:List (ByteArray×Bool)) (sn:List ByteArray):Prop:=∀k,eX eqS s k=if k∈sn then some true else none
theorem xc.nil:xc [] []:=λk=>by rw [Lr,if_neg (by simp)]
theorem xc.set {s:List (ByteArray×Bool)} {sn:List ByteArray} (h:xc s sn) (id:ByteArray):xc (aO eqS s id true) (sn++[id]):=λk=>by
 rw [Db xC,h k]
 by_cases h1:eqS k id=true
 ·rw [if_pos h1,if_pos (by rw [(xC _ _).1 h1];simp)]
 ·rw [if_neg h1]
  have:k∈sn++[id]↔k∈sn:=by
   rw [List.mem_append,List.mem_singleton]
   exact⟨λq=>q.resolve_right (λe=>h1 ((xC _ _).2 e)),.inl⟩
  by_cases h2:k∈sn
  ·rw [if_pos h2,if_pos (this.2 h2)]
  ·rw [if_neg h2,if_neg (λq=>h2 (this.1 q))]
def Ao:List ByteArray->List ByteArray->Bool
 | _,[]=>false
 | sn,x::l=>if x∈sn then true else Ao (sn++[x]) l
theorem JQ:∀(xs:List Alert) (k:Nat) (s:List (ByteArray×Bool)) (sn:List ByteArray),xc s sn->(Ao sn (xs.map (·.Id))=false/\∃s',forR (λk x s=>bP k x s) xs k s=some (.go s'))\/(Ao sn (xs.map (·.Id))=true/\forR (λk x s=>bP k x s) xs k s=some (.ret 6))
 | [],k,s,sn,h => .inl ⟨rfl,s,rfl⟩
 | x::xs,k,s,sn,h=>by
  have hg:=h x.Id
  rw [List.map_cons]
  by_cases hm:x.Id∈sn
  ·rw [if_pos hm]at hg
   have e:bP k x s=some (.ret 6):=by unfold bP;rw [hg];rfl
   exact .inr ⟨by rw [Ao,if_pos hm],by rw [forR,e];rfl⟩
  ·rw [if_neg hm]at hg
   have e:bP k x s=some (.go (aO eqS s x.Id true)):=by unfold bP;rw [hg];rfl
   rw [Ao,if_neg hm,forR,e,ob_]
   exact JQ xs (k+1) _ _ (h.set x.Id)
theorem I8:∀(xs:List Alert) (k:Nat) (s:List (ByteArray×Bool)) (sn:List ByteArray),xc s sn->∃s',forR (λk x s=>iJ k x s) xs k s=some (.go s')/\(if Ao sn (xs.map (·.Id))=true then s'.length<s.length+xs.length else s'.length=s.length+xs.length)/\s'.length<=s.length+xs.length
 | [],k,s,sn,h=>⟨s,rfl,by rw [if_neg (by simp [Ao])];rfl,Nat.le_refl _⟩
 | x::xs,k,s,sn,h=>by
  have hg:=h x.Id
  have e:iJ k x s=some (.go (aO eqS s x.Id true)):=rfl
  obtain ⟨s',e1,e2,e3⟩:=I8 xs (k+1) _ _ (h.set x.Id)
  refine⟨s',by rw [forR,e,ob_];exact e1,?_,?_⟩
  ·rw [List.map_cons,Ao]
   have hl:=BA (eq:=eqS) x.Id true s
   by_cases hm:x.Id∈sn
   ·rw [if_pos hm]at hg
    rw [if_pos hm,if_pos rfl]
    rw [hg]at hl
    simp only [Option.isSome_some,if_true]at hl
    rw [List.length_cons];omega
   ·rw [if_neg hm]at hg
    rw [hg]at hl
    rw [if_neg hm]
    have hl2:(aO eqS s x.Id true).length=s.length+1:=by simpa using hl
    rw [hl2]at e2 e3
    rw [List.length_cons]
    by_cases hd:Ao (sn++[x.Id]) (xs.map (·.Id))=true
    ·rw [if_pos hd]at e2;rw [if_pos hd];omega
    ·rw [if_neg hd]at e2;rw [if_neg hd];omega
  ·have hl:=BA (eq:=eqS) x.Id true s
   have:(aO eqS s x.Id true).length<=s.length+1:=by rw [hl];split <;> omega
   rw [List.length_cons];omega
end Go.Proofs.YtljhfffghjclfaaGreatDoor.Law

open Go Go.Eng
namespace Go.Proofs.YtljhfffghjclfaaGreatDoor.Law
set_option linter.unusedVariables false
set_option linter.unusedSimpArgs false
end Go.Proofs.YtljhfffghjclfaaGreatDoor.Law

open Go Go.Eng
namespace Go.Proofs.YtljhfffghjclfaaGreatDoor.Law
set_option linter.unusedVariables false
set_option linter.unusedSimpArgs false
set_option maxRecDepth 100000
theorem ge_of {n:Int} {P:Prop} [Decidable P] (h:n<0↔P):decide (n>=0) = !decide P:=by
 by_cases hp:P
 ·rw [decide_eq_true hp,decide_eq_false (by have:=h.2 hp;omega)];rfl
 ·rw [decide_eq_false hp,decide_eq_true (by
   rcases Int.lt_or_le n 0 with q|q
   ·exact absurd (h.1 q) hp
   ·exact q)];rfl
theorem AL {α:Type} {l:List α} {k:Nat} {x:α} (h:l[k]? = some x) (hl:l.length<=1000000) (g:α->Option Bool) (f:α->Bool) (hg:∀y∈l,g y=some (f y)):(bif (decide ((k:Int)>0))then (idx l (w64 ((k:Int)-1))).bind g else some false)=some (zo f (kE l k)):=by
 rcases Nat.eq_zero_or_pos k with h0|h0
 ·subst h0
  rw [decide_eq_false (by omega)];rfl
 ·obtain ⟨y,q1,q2⟩:=Hd h h0 (by omega)
  rw [decide_eq_true (by omega),cond_true,q1,ob_,hg y (List.mem_of_getElem? q2)]
  unfold kE
  rw [if_neg (by omega),q2];rfl
end Go.Proofs.YtljhfffghjclfaaGreatDoor.Law

open Go Go.Eng
namespace Go.Proofs.YtljhfffghjclfaaGreatDoor.Law
set_option linter.unusedVariables false
set_option linter.unusedSimpArgs false
structure RF (x:Alert):Prop where
 id:keyB x.Id=true
 sender:keyB x.Sender=true
 kind:1<=x.Kind/\x.Kind<=3
 refs:∀r∈x.Refs,keyB r=true
 weight:1<=x.Weight/\x.Weight<=9
def vQ (k:Int):List UInt8:=if k=1 then [110,101,119]else if k=2 then [117,112,100,97,116,101]else [99,97,110,99,101,108]
def qy:List ByteArray->List UInt8
 | []=>[]
 | r::l=>[114,101,102,32]++r.data.toList++[10]++qy l
def numR (r:Rect):List Int:=[r.X,r.Y,r.W,r.H]
def mW:List Rect->List UInt8
 | []=>[]
 | r::l=>[97,114,101,97,32]++Go.Lib.join ((numR r).map Go.Lib.itoa) [32]++[10]++mW l
def CQ (t:ByteArray):List UInt8:=if t=⟨#[]⟩then []else [116,101,120,116,32]++t.data.toList++[10]
def lC (x:Alert):List UInt8:=[97,108,101,114,116,32]++x.Id.data.toList++[32]++x.Sender.data.toList++[32]++vQ x.Kind++[32]++Go.Lib.join (([x.At,x.Until,x.Weight]:List Int).map Go.Lib.itoa) [32]++[10]
def qL (x:Alert):List UInt8:=lC x++qy x.Refs++mW x.Areas++CQ x.Text
end Go.Proofs.YtljhfffghjclfaaGreatDoor.Law

open Go Go.Eng
namespace Go.Proofs.YtljhfffghjclfaaGreatDoor.Law
set_option linter.unusedVariables false
set_option linter.unusedSimpArgs false
abbrev ng:ByteArray:=⟨#[97,108,101,114,116]⟩
abbrev uT:ByteArray:=⟨#[114,101,102]⟩
abbrev oD:ByteArray:=⟨#[97,114,101,97]⟩
abbrev AU:ByteArray:=⟨#[116,101,120,116,32]⟩
def rkW (y:ByteArray):Int:=bif sEq y ng then 1 else bif sEq y uT then 2 else bif sEq y oD then 3 else 0
theorem rank_eq (y:ByteArray):(eX eqS (aO eqS (aO eqS (aO eqS ([]:List (ByteArray×Int)) ng 1) uT 2) oD 3) y).getD 0=rkW y:=by
 have e:aO eqS (aO eqS (aO eqS ([]:List (ByteArray×Int)) ng 1) uT 2) oD 3=[(ng,1),(uT,2),(oD,3)]:=by decide +kernel
 rw [e]
 unfold rkW
 have c:∀k:ByteArray,eqS k y=sEq y k/\eqS y k=sEq y k:=λk=>⟨by rw [Bool.eq_iff_iff,xC,ig];exact⟨Eq.symm,Eq.symm⟩,by rw [Bool.eq_iff_iff,xC,ig]⟩
 cases h1:sEq y ng with
 | true=>simp [eX,tK,c,h1]
 | false =>
  cases h2:sEq y uT with
  | true=>simp [eX,tK,c,h1,h2]
  | false =>
   cases h3:sEq y oD with
   | true=>simp [eX,tK,c,h1,h2,h3]
   | false=>simp [eX,tK,c,h1,h2,h3]
theorem Fx (s:ByteArray):uX s=lZ s:=rfl
theorem M6 (y:ByteArray):∃k:Int,bg [(⟨#[]⟩:ByteArray),⟨#[110,101,119]⟩,⟨#[117,112,100,97,116,101]⟩,⟨#[99,97,110,99,101,108]⟩] y=some k/\k<=3:=by
 unfold bg
 rw [fQ (by decide)]
 simp only [forR,bZ]
 cases sEq y ⟨#[]⟩with
 | true=>exact⟨0,rfl,by decide⟩
 | false =>
  cases sEq y ⟨#[110,101,119]⟩with
  | true=>exact⟨1,rfl,by decide⟩
  | false =>
   cases sEq y ⟨#[117,112,100,97,116,101]⟩with
   | true=>exact⟨2,rfl,by decide⟩
   | false =>
    cases sEq y ⟨#[99,97,110,99,101,108]⟩with
    | true=>exact⟨3,rfl,by decide⟩
    | false=>exact⟨-1,rfl,by decide⟩
theorem FQ (ws:List (List UInt8)) (h:∀w∈ws,w.length<=100000) (hl:ws.length<=100000):∃(ns ms:List Int) (ok:Bool),iw (ws.map SB)=some (ns,ok)/\iA (ws.map SB) 15=some (ms,ok)/\ms.length=ws.length/\(∀n∈ms,Med n)/\(ok=true->ns=ms):=by
 have key:∀(xs:List (List UInt8)) (k:Nat) (out out2:List Int) (all:Bool),(∀w∈xs,w.length<=100000)->out.length+xs.length<=1000000->out2.length+xs.length<=1000000 ->
   ∃(ms:List Int) (ok:Bool),forR (λk x s=>fo k x s) (xs.map SB) k out=some (bif ok then .go (out++ms)else .ret ([],false))/\forR (λk x s=>iB 15 k x s) (xs.map SB) k (out2,all)=some (.go (out2++ms,all&&ok))/\ms.length=xs.length/\∀n∈ms,Med n:=by
  intro xs
  induction xs with
  | nil=>exact λk out out2 all _ _ _=>⟨[],true,by simp [forR],by simp [forR],rfl,by simp⟩
  | cons x xs ih =>
   intro k out out2 all hw ho ho2
   simp only [List.length_cons]at ho ho2
   obtain ⟨n,n',o,a1,a2,a3,_,a5⟩:=num_two x (hw x (by simp)) 15 (by decide)
   have hr:iB 15 k (SB x) (out2,all)=some (.go (out2++[n'],all&&o)):=by
    unfold iB
    rw [a2,ob_]
    simp only []
    rw [mq _ _ (by simp only [List.length_cons,List.length_nil];omega),ob_]
    cases all <;> rfl
   obtain ⟨ms,ok,b1,b2,b3,b4⟩:=ih (k+1) (out++[n']) (out2++[n']) (all&&o) (λw hm=>hw w (by simp [hm])) (by simp only [List.length_append,List.length_cons,List.length_nil];omega) (by simp only [List.length_append,List.length_cons,List.length_nil];omega)
   refine⟨n'::ms,o&&ok,?_,?_,by simp [b3],λm hm => ?_⟩
   ·cases o with
    | false =>
     have hstep:fo k (SB x) out=some (.ret ([],false)):=by unfold fo;rw [a1];rfl
     rw [List.map_cons,forR,hstep];rfl
    | true =>
     have hstep:fo k (SB x) out=some (.go (out++[n'])):=by
      unfold fo
      rw [a1,ob_]
      simp only [Bool.not_true,cond_false]
      rw [mq _ _ (by simp only [List.length_cons,List.length_nil];omega),a3 rfl];rfl
     rw [List.map_cons,forR,hstep,ob_]
     simp only []
     rw [b1,Bool.true_and];simp
   ·rw [List.map_cons,forR,hr,ob_]
    simp only []
    rw [b2];simp [Bool.and_assoc]
   ·rcases List.mem_cons.1 hm with rfl|hm
    ·exact a5
    ·exact b4 m hm
 obtain ⟨ms,ok,b1,b2,b3,b4⟩:=key ws 0 [] [] true h (by simp only [List.length_nil];omega) (by simp only [List.length_nil];omega)
 refine⟨bif ok then ms else [],ms,ok,?_,?_,b3,b4,λh=>by rw [h];rfl⟩
 ·unfold iw
  rw [fQ (by rw [List.length_map];omega),b1]
  cases ok <;> rfl
 ·unfold iA
  rw [fQ (by rw [List.length_map];omega),b2]
  cases ok <;> rfl
theorem cutp (x:List UInt8) (hx:x.length<=1000000):∃(t:List UInt8) (b:Bool),strings_CutPrefix (SB x) AU=some (SB t,b)/\t.length<=x.length/\(∀c∈t,c∈x)/\(b=true->x=[116,101,120,116,32]++t)/\(b=false->x.take 5 ≠ [116,101,120,116,32]):=by
 unfold strings_CutPrefix eu bz
 have hz:((AU.size:Nat):Int)=((5:Nat):Int):=rfl
 rw [hz,fG]
 by_cases h5:5<=x.length
 ·have e1:=sj x 0 5 (by omega) h5
  rw [show ((0:Nat):Int)=0 from rfl]at e1
  rw [decide_eq_true (by omega),cond_true,e1,ob_,ob_,ob_]
  have e2:sEq (SB ((x.take 5).drop 0)) AU=decide (x.take 5=[116,101,120,116,32]):=by
   rw [Bool.eq_iff_iff,ig,List.drop_zero]
   simp only [decide_eq_true_eq]
   exact⟨λh=>ES (m:=[116,101,120,116,32]) h,λh=>by rw [h]⟩
  rw [e2]
  by_cases he:x.take 5=[116,101,120,116,32]
  ·rw [decide_eq_true he]
   have e3:=sj x 5 x.length h5 (Nat.le_refl _)
   rw [List.take_length]at e3
   simp only [Bool.not_true,cond_false]
   rw [e3]
   refine⟨x.drop 5,true,rfl,by simp,λc hc=>List.mem_of_mem_drop hc,λ_ => ?_,λh=>by cases h⟩
   rw [<- he,List.take_append_drop]
  ·rw [decide_eq_false he]
   exact⟨x,false,rfl,Nat.le_refl _,λc hc=>hc,(λh=>by cases h),λ_=>he⟩
 ·rw [decide_eq_false (by omega),cond_false,ob_]
  exact⟨x,false,rfl,Nat.le_refl _,λc hc=>hc,(λh=>by cases h),λ_ e=>by
   have:=congrArg List.length e
   simp only [List.length_take,List.length_cons,List.length_nil]at this;omega⟩
theorem last_at {l0:List Alert} {a:Alert} (hl:l0.length<=1000000):inR (w64 (((l0++[a]).length:Int)-1)) (l0++[a])=some ()/\iM (l0++[a]) (w64 (((l0++[a]).length:Int)-1))=some a:=by
 have hw:w64 (((l0++[a]).length:Int)-1)=(l0.length:Int):=by
  rw [List.length_append,List.length_cons,List.length_nil,eT (by omega)];omega
 rw [hw]
 constructor
 ·unfold inR;rw [if_pos (by simp)]
 ·unfold iM;rw [if_pos (by simp)];simp
def rk (l:List Alert):Int:=match l.getLast? with
 | none=>0
 | some a=>if a.Text≠⟨#[]⟩then 4 else if a.Areas ≠ []then 3 else if a.Refs ≠ []then 2 else 1
theorem Bd (l:List Alert) (a:Alert):rk (l++[a])=if a.Text≠⟨#[]⟩then 4 else if a.Areas ≠ []then 3 else if a.Refs ≠ []then 2 else 1:=by simp [rk]
structure LA (m c:Nat) (a:Alert):Prop where
 id:a.Id.size<=m
 sender:a.Sender.size<=m
 kind:1<=a.Kind/\a.Kind<=3
 refs:∀r∈a.Refs,r.size<=m
 refsN:a.Refs.length<=c
 at_:Med a.At
 until_:Med a.Until
 weight:Med a.Weight
 areas:∀r∈a.Areas,∀n∈numR r,Med n
 areasN:a.Areas.length<=c
 text:a.Text.size<=m
 asc:∀b∈a.Text.data.toList,b.toNat<128
theorem zQ {m c d:Nat} {a:Alert} (h:LA m c a) (hd:c<=d):LA m d a := { h with refsN:=Nat.le_trans h.refsN hd,areasN:=Nat.le_trans h.areasN hd }
end Go.Proofs.YtljhfffghjclfaaGreatDoor.Law

open Go Go.Eng
namespace Go.Proofs.YtljhfffghjclfaaGreatDoor.Law
set_option linter.unusedVariables false
set_option linter.unusedSimpArgs false
structure Two (l:List Alert) (x:List UInt8) (l':List Alert) (ok:Bool):Prop where
 prog:alert_readLine l (SB x)=some (l',ok)
 doc:∃r',ref_alertReader_line (⟨l,rk l⟩:AlertReader) (SB x)=some (ok,r')/\(ok=true->r'=(⟨l',rk l'⟩:AlertReader))
 len:ok=true->l'.length<=l.length+1
 good:ok=true->∀m c:Nat,x.length<=m->(∀b∈x,b.toNat<128)->(∀a∈l,LA m c a)->∀a∈l',LA m (c+1) a
theorem kY {l:List Alert} {x:List UInt8} (h1:alert_readLine l (SB x)=some (l,false)) (h2:∃r',ref_alertReader_line (⟨l,rk l⟩:AlertReader) (SB x)=some (false,r')):Two l x l false :=
 ⟨h1,h2.imp λ_ h=>⟨h,λh=>by cases h⟩,(λh=>by cases h),λh=>by cases h⟩
theorem qw (s:ByteArray):sNe s (⟨#[]⟩:ByteArray)=decide (s≠⟨#[]⟩):=by
 show (!sEq s (⟨#[]⟩:ByteArray))=_
 by_cases h:s=⟨#[]⟩
 ·rw [(ig _ _).2 h];simp [h]
 ·have:sEq s (⟨#[]⟩:ByteArray)=false:=by
   cases hs:sEq s (⟨#[]⟩:ByteArray)with
   | false=>rfl
   | true=>exact absurd ((ig _ _).1 hs) h
  rw [this];simp [h]
theorem DU {a:Alert} (l0:List Alert) (h:a.Text=⟨#[]⟩):(rk (l0++[a])==0)=false/\(rk (l0++[a])==4)=false/\decide (rk (l0++[a])>3)=false/\decide (rk (l0++[a])>2)=decide (a.Areas ≠ []):=by
 rw [Bd,if_neg (by simp [h])]
 by_cases h1:a.Areas=[]
 ·rw [if_neg (by simp [h1])]
  by_cases h2:a.Refs=[]
  ·rw [if_neg (by simp [h2])];simp [h1]
  ·rw [if_pos h2];simp [h1]
 ·rw [if_pos h1];simp [h1]
theorem zR {a:Alert} (l0:List Alert) (h:a.Text≠⟨#[]⟩):rk (l0++[a])=4:=by rw [Bd,if_pos h]
theorem Aq {l0:List Alert} {a b:Alert} {m c:Nat} (h:∀y∈l0++[a],LA m c y) (hb:LA m c a->LA m (c+1) b):∀y∈l0++[b],LA m (c+1) y:=λy hy=>by
 rcases List.mem_append.1 hy with hy|hy
 ·exact zQ (h y (List.mem_append_left _ hy)) (Nat.le_succ c)
 ·rw [List.mem_singleton]at hy;subst hy
  exact hb (h a (by simp))
theorem yc (l0:List Alert) (a:Alert):(((l0++[a]).length:Int)==0)=false:=by
 rw [beq_eq_false_iff_ne];simp;omega
theorem MK {l:List Alert} {x t:List UInt8} (hl:l.length<=1000000) (hc:strings_CutPrefix (SB x) AU=some (SB t,true)) (ht:t.length<=x.length) (hm:∀c∈t,c∈x):∃l' ok,Two l x l' ok:=by
 rcases List.eq_nil_or_concat l with rfl|⟨l0,a,rfl⟩
 ·refine⟨_,false,kY ?_ ?_⟩
  ·unfold alert_readLine;rw [hc];rfl
  ·unfold ref_alertReader_line;rw [hc]
   simp only [ob_,cond_true]
   have:(rk ([]:List Alert)==0)=true:=rfl
   simp only [this,cond_true]
   cases sEq (SB t) (⟨#[]⟩:ByteArray) <;> exact⟨_,rfl⟩
 ·rw [List.concat_eq_append]at *
  have hl0:l0.length<=1000000:=by simp at hl;omega
  obtain ⟨i1,i2⟩:=last_at (l0:=l0) (a:=a) hl0
  have hn:=yc l0 a
  have hP:alert_readLine (l0++[a]) (SB x)=(bif t.isEmpty then some true else some (decide (a.Text≠⟨#[]⟩))).bind λv=>bif v then some (l0++[a],false)else some (l0++[({ a with Text:=SB t }:Alert)],true):=by
   unfold alert_readLine
   rw [hc]
   simp only [ob_,cond_true,hn,cond_false,sS,i1,i2,qw,kH]
  have hD:ref_alertReader_line (⟨l0++[a],rk (l0++[a])⟩:AlertReader) (SB x)=(bif t.isEmpty then some true else bif (rk (l0++[a])==0)then some true else some (rk (l0++[a])==4)).bind λv=>bif v then some (false,⟨l0++[a],rk (l0++[a])⟩)else some (true,⟨l0++[({ a with Text:=SB t }:Alert)],4⟩):=by
   unfold ref_alertReader_line
   rw [hc]
   simp only [ob_,cond_true,sS,i1,i2,kH]
  cases he:t.isEmpty with
  | true =>
   rw [he]at hP hD
   exact⟨_,false,kY hP ⟨_,hD⟩⟩
  | false =>
   rw [he]at hP hD
   simp only [cond_false,ob_]at hP hD
   by_cases hT:a.Text=⟨#[]⟩
   ·obtain ⟨k1,k2,_⟩:=DU l0 hT
    rw [k1,k2]at hD
    rw [decide_eq_false (by simp [hT])]at hP
    have hne:SB t≠⟨#[]⟩:=λe=>by
     have:=sS t
     rw [he,(ig _ _).2 e]at this;cases this
    refine⟨_,true,hP,⟨_,hD,λ_ => ?_⟩,λ_=>by simp,λ_ m c hm' hb h=>Aq h λha => ?_⟩
    ·rw [zR l0 (a := { a with Text:=SB t }) hne]
    ·exact { id:=ha.id,sender:=ha.sender,kind:=ha.kind,refs:=ha.refs,refsN:=by have:=ha.refsN;show a.Refs.length<=_;omega,at_:=ha.at_,until_:=ha.until_,weight:=ha.weight,areas:=ha.areas,areasN:=by have:=ha.areasN;show a.Areas.length<=_;omega,text:=by show (SB t).size<=m;rw [fG];omega,asc:=λb hb'=>hb b (hm b hb') }
   ·have e4:=zR l0 hT
    rw [e4]at hD
    rw [decide_eq_true hT]at hP
    exact⟨_,false,kY hP (by rw [e4];exact⟨_,hD⟩)⟩
theorem lit_no:sEq ng uT=false/\sEq ng oD=false/\sEq uT ng=false/\sEq uT oD=false/\sEq oD ng=false/\sEq oD uT=false/\sEq ng ng=true/\sEq uT uT=true/\sEq oD oD=true:=by decide +kernel
noncomputable def zi (l:List Alert) (ws:List ByteArray):Option (List Alert×Bool) :=
 (bif ((l.length:Int)==0)then some true else (inR (w64 ((l.length:Int)-1)) l).bind λ_=>(iM l (w64 ((l.length:Int)-1))).bind λe_57=>some (sNe e_57.Text (⟨#[]⟩:ByteArray))).bind λv_53=>bif v_53 then some (l,false)else (inR (w64 ((l.length:Int)-1)) l).bind λ_=>((idx ws 0).bind λy_63=>bif (sEq y_63 uT)then bif ((ws.length:Int)==2)then (iM l (w64 ((l.length:Int)-1))).bind λe_67=>some (((aY Alert.Areas l).length:Int)==0)else some false else some false).bind λv_61=>bif v_61 then (iM l (w64 ((l.length:Int)-1))).bind λe_70=>(idx ws 1).bind λy_72=>(kM (aY Alert.Refs l) ([y_72]:List ByteArray)).bind λa_74=>(iM l (w64 ((l.length:Int)-1))).bind λe_77=>some ((setLast l (⟨e_77.Id,e_77.Sender,e_77.Kind,a_74,e_77.At,e_77.Until,e_77.Weight,e_77.Areas,e_77.Text⟩:Alert)),true)else ((idx ws 0).bind λy_81=>bif (sEq y_81 oD)then some ((ws.length:Int)==5)else some false).bind λv_79=>bif v_79 then (pu ws 1 ws.length).bind λy_85=>(iw y_85).bind λr_87=>bif (!r_87.2)then some (l,false)else (iM l (w64 ((l.length:Int)-1))).bind λe_90=>(idx r_87.1 0).bind λy_92=>(idx r_87.1 1).bind λy_94=>(idx r_87.1 2).bind λy_96=>(idx r_87.1 3).bind λy_98=>(kM (aY Alert.Areas l) ([(⟨y_92,y_94,y_96,y_98⟩:Rect)]:List Rect)).bind λa_100=>(iM l (w64 ((l.length:Int)-1))).bind λe_103=>some ((setLast l (⟨e_103.Id,e_103.Sender,e_103.Kind,e_103.Refs,e_103.At,e_103.Until,e_103.Weight,a_100,e_103.Text⟩:Alert)),true)else some (l,false)
noncomputable def Mi (l:List Alert) (ws:List ByteArray):Option (List Alert×Bool) :=
 (gQ).bind λr_26=>(idx ws 3).bind λy_28=>(bg r_26 y_28).bind λr_30=>(pu ws 4 ws.length).bind λy_32=>(iw y_32).bind λr_34=>(bif (!r_34.2)then some true else some (decide (r_30<1))).bind λv_36=>bif v_36 then some (l,false)else (idx ws 1).bind λy_40=>(idx ws 2).bind λy_42=>(idx r_34.1 0).bind λy_44=>(idx r_34.1 1).bind λy_46=>(idx r_34.1 2).bind λy_48=>(kM l [(⟨y_40,y_42,r_30,[],y_44,y_46,y_48,[],(⟨#[]⟩:ByteArray)⟩:Alert)]).bind λa_50=>some (a_50,true)
theorem prog_eq {l:List Alert} {x t:List UInt8} {ws:List ByteArray} {g:Bool} (hc:strings_CutPrefix (SB x) AU=some (SB t,false)) (hg:lZ (SB x)=some (ws,g)) :
  alert_readLine l (SB x)=bif (!g)then some (l,false)else ((idx ws 0).bind λy_22=>bif (sEq y_22 ng)then some ((ws.length:Int)==7)else some false).bind λv_20=>bif v_20 then Mi l ws else zi l ws:=by
 unfold alert_readLine Mi zi
 rw [hc,ob_]
 simp only [cond_false]
 rw [hg,ob_]
theorem doc_eq {l:List Alert} {x t:List UInt8} {ws:List ByteArray} {g:Bool} {y:ByteArray} (hc:strings_CutPrefix (SB x) AU=some (SB t,false)) (hg:lZ (SB x)=some (ws,g)) (h0:idx ws 0=some y) :
  ref_alertReader_line (⟨l,rk l⟩:AlertReader) (SB x)=(bif (!g)then some true else bif (rkW y==0)then some true else bif (decide (rkW y>1))then bif (rk l==0)then some true else some (decide (rk l>rkW y))else some false).bind λv_19=>bif v_19 then some (false,⟨l,rk l⟩)else (bif (rkW y==1)then some ((ws.length:Int)==7)else some false).bind λv_26=>bif v_26 then (iG).bind λr_30=>(idx ws 3).bind λy_32=>(bg r_30 y_32).bind λr_34=>(pu ws 4 ws.length).bind λy_36=>(iA y_36 15).bind λr_38=>(idx ws 1).bind λy_40=>(idx ws 2).bind λy_42=>(idx r_38.1 0).bind λy_44=>(idx r_38.1 1).bind λy_46=>(idx r_38.1 2).bind λy_48=>(kM l [(⟨y_40,y_42,r_34,[],y_44,y_46,y_48,[],(⟨#[]⟩:ByteArray)⟩:Alert)]).bind λa_50=>(bif r_38.2 then some (decide (r_34>0))else some false).bind λv_53=>some (v_53,(⟨a_50,rkW y⟩:AlertReader))else (bif (rkW y==2)then some ((ws.length:Int)==2)else some false).bind λv_56=>bif v_56 then (inR (w64 ((l.length:Int)-1)) l).bind λ_=>(iM l (w64 ((l.length:Int)-1))).bind λe_61=>(idx ws 1).bind λy_63=>(kM (aY Alert.Refs l) ([y_63]:List ByteArray)).bind λa_65=>(iM l (w64 ((l.length:Int)-1))).bind λe_68=>some (true,(⟨(setLast l (⟨e_68.Id,e_68.Sender,e_68.Kind,a_65,e_68.At,e_68.Until,e_68.Weight,e_68.Areas,e_68.Text⟩:Alert)),rkW y⟩:AlertReader))else (bif (rkW y==3)then some ((ws.length:Int)==5)else some false).bind λv_70=>bif v_70 then (pu ws 1 ws.length).bind λy_74=>(iA y_74 15).bind λr_76=>(inR (w64 ((l.length:Int)-1)) l).bind λ_=>(iM l (w64 ((l.length:Int)-1))).bind λe_79=>(idx r_76.1 0).bind λy_81=>(idx r_76.1 1).bind λy_83=>(idx r_76.1 2).bind λy_85=>(idx r_76.1 3).bind λy_87=>(kM (aY Alert.Areas l) ([(⟨y_81,y_83,y_85,y_87⟩:Rect)]:List Rect)).bind λa_89=>(iM l (w64 ((l.length:Int)-1))).bind λe_92=>some (r_76.2,(⟨(setLast l (⟨e_92.Id,e_92.Sender,e_92.Kind,e_92.Refs,e_92.At,e_92.Until,e_92.Weight,a_89,e_92.Text⟩:Alert)),rkW y⟩:AlertReader))else some (false,(⟨l,rkW y⟩:AlertReader)):=by
 unfold ref_alertReader_line
 rw [hc,ob_]
 simp only [cond_false]
 rw [Fx,hg,ob_]
 simp only []
 rw [h0,ob_]
 simp only [rank_eq]
end Go.Proofs.YtljhfffghjclfaaGreatDoor.Law

open Go Go.Eng
namespace Go.Proofs.YtljhfffghjclfaaGreatDoor.Law
set_option linter.unusedVariables false
set_option linter.unusedSimpArgs false
theorem list7 {α:Type} {l:List α} (h:l.length=7):∃a b c d e f g,l=[a,b,c,d,e,f,g]:=by
 match l,h with
 | [a,b,c,d,e,f,g],_=>exact⟨a,b,c,d,e,f,g,rfl⟩
theorem list5 {α:Type} {l:List α} (h:l.length=5):∃a b c d e,l=[a,b,c,d,e]:=by
 match l,h with
 | [a,b,c,d,e],_=>exact⟨a,b,c,d,e,rfl⟩
theorem list4 {α:Type} {l:List α} (h:l.length=4):∃a b c d,l=[a,b,c,d]:=by
 match l,h with
 | [a,b,c,d],_=>exact⟨a,b,c,d,rfl⟩
theorem list3 {α:Type} {l:List α} (h:l.length=3):∃a b c,l=[a,b,c]:=by
 match l,h with
 | [a,b,c],_=>exact⟨a,b,c,rfl⟩
theorem list2 {α:Type} {l:List α} (h:l.length=2):∃a b,l=[a,b]:=by
 match l,h with
 | [a,b],_=>exact⟨a,b,rfl⟩
theorem E5 {ws:List (List UInt8)} (n:Nat):(((ws.map SB).length:Int)==(n:Int))=decide (ws.length=n):=by
 rw [List.length_map,Bool.eq_iff_iff,beq_iff_eq,decide_eq_true_eq];omega
theorem uo {l:List Alert} {ws:List ByteArray} {y:ByteArray} (hl:l.length<=1000000) (h0:idx ws 0=some y) (h1:sEq y uT=false\/((ws.length:Int)==2)=false\/aY Alert.Areas l ≠ []) (h2:sEq y oD=false\/((ws.length:Int)==5)=false):zi l ws=some (l,false):=by
 unfold zi
 rcases List.eq_nil_or_concat l with rfl|⟨l0,a,rfl⟩
 ·rfl
 ·rw [List.concat_eq_append]at *
  have hl0:l0.length<=1000000:=by simp at hl;omega
  obtain ⟨i1,i2⟩:=last_at (l0:=l0) (a:=a) hl0
  rw [yc,cond_false]
  simp only [i1,i2,ob_,qw,h0]
  by_cases hT:a.Text=⟨#[]⟩
  ·rw [decide_eq_false (by simp [hT])]
   simp only [cond_false]
   have e1:(bif sEq y uT then bif ((ws.length:Int)==2)then some (((aY Alert.Areas (l0++[a])).length:Int)==0)else some false else some false)=some false:=by
    rcases h1 with h|h|h
    ·rw [h];rfl
    ·rw [h];cases sEq y uT <;> rfl
    ·have:(((aY Alert.Areas (l0++[a])).length:Int)==0)=false:=by
      rw [beq_eq_false_iff_ne]
      have:=List.length_pos_iff.2 h
      omega
     rw [this]
     cases sEq y uT <;> cases ((ws.length:Int)==2) <;> rfl
   have e2:(bif sEq y oD then some ((ws.length:Int)==5)else some false)=some false:=by
    rcases h2 with h|h
    ·rw [h];rfl
    ·rw [h];cases sEq y oD <;> rfl
   rw [e1]
   simp only [ob_,cond_false]
   rw [e2];rfl
  ·rw [decide_eq_true hT];rfl
theorem Kg {l:List Alert} {x t:List UInt8} (hx:x.length<=100000) (hl:l.length<=1000000) (hr:∀a∈l,a.Refs.length<=1000000/\a.Areas.length<=1000000) (hc:strings_CutPrefix (SB x) AU=some (SB t,false)):∃l' ok,Two l x l' ok:=by
 obtain ⟨g,hg⟩:=KZ x hx
 obtain ⟨wn,hw⟩:=xx 32 x
 have hne:=Ii 32 x
 generalize spl 32 x=ws at hg wn hw hne
 obtain ⟨w0,wr,rfl⟩:∃w0 wr,ws=w0::wr:=by
  cases ws with
  | nil=>exact absurd rfl hne
  | cons a b=>exact⟨a,b,rfl⟩
 have h0:idx ((w0::wr).map SB) 0=some (SB w0):=rfl
 have hP:=prog_eq (l:=l) hc hg
 have hD:=doc_eq (l:=l) hc hg h0
 rw [h0]at hP
 cases g with
 | false=>exact⟨_,false,kY hP ⟨_,hD⟩⟩
 | true =>
 simp only [Bool.not_true,cond_false,ob_]at hP hD
 have m7:=E5 (ws:=w0::wr) 7
 have m5:=E5 (ws:=w0::wr) 5
 have m2:=E5 (ws:=w0::wr) 2
 rw [show ((7:Nat):Int)=7 from rfl]at m7
 rw [show ((5:Nat):Int)=5 from rfl]at m5
 rw [show ((2:Nat):Int)=2 from rfl]at m2
 obtain ⟨q1,q2,q3,q4,q5,q6,q7,q8,q9⟩:=lit_no
 cases ha:sEq (SB w0) ng with
 | true =>
  have e0:=(ig _ _).1 ha
  have hk:rkW (SB w0)=1:=by unfold rkW;rw [ha];rfl
  rw [ha,cond_true]at hP
  rw [hk]at hD
  have f1:((1:Int)==0)=false:=rfl
  have f2:decide ((1:Int)>1)=false:=rfl
  have f3:((1:Int)==1)=true:=rfl
  have f4:((1:Int)==2)=false:=rfl
  have f5:((1:Int)==3)=false:=rfl
  simp only [f1,f2,f3,f4,f5,cond_true,cond_false,ob_]at hD
  by_cases h7:(w0::wr).length=7
  ·rw [m7,decide_eq_true h7]at hP hD
   simp only [cond_true,ob_]at hP hD
   obtain ⟨v0,w1,w2,w3,w4,w5,w6,he⟩:=list7 h7
   rw [he]at hP hD hw
   have j1:idx ([v0,w1,w2,w3,w4,w5,w6].map SB) 1=some (SB w1):=rfl
   have j2:idx ([v0,w1,w2,w3,w4,w5,w6].map SB) 2=some (SB w2):=rfl
   have j3:idx ([v0,w1,w2,w3,w4,w5,w6].map SB) 3=some (SB w3):=rfl
   have j4:pu ([v0,w1,w2,w3,w4,w5,w6].map SB) 4 (([v0,w1,w2,w3,w4,w5,w6].map SB).length:Int)=some ([w4,w5,w6].map SB):=rfl
   obtain ⟨k,k1,k2⟩:=M6 (SB w3)
   obtain ⟨ns,ms,o,a1,a2,a3,a4,a5⟩:=FQ [w4,w5,w6] (λw hm=>by
    have:=hw w (by simp only [List.mem_cons,List.not_mem_nil,or_false]at hm ⊢;rcases hm with rfl | rfl | rfl <;> simp)
    omega) (by simp)
   obtain ⟨n0,n1,n2,rfl⟩:=list3 (l:=ms) (by simpa using a3)
   have i0:idx [n0,n1,n2] 0=some n0:=rfl
   have i1:idx [n0,n1,n2] 1=some n1:=rfl
   have i2:idx [n0,n1,n2] 2=some n2:=rfl
   unfold Mi at hP
   have hkw:gQ=some [(⟨#[]⟩:ByteArray),⟨#[110,101,119]⟩,⟨#[117,112,100,97,116,101]⟩,⟨#[99,97,110,99,101,108]⟩]:=rfl
   have hrw:iG=some [(⟨#[]⟩:ByteArray),⟨#[110,101,119]⟩,⟨#[117,112,100,97,116,101]⟩,⟨#[99,97,110,99,101,108]⟩]:=rfl
   have happ:∀y:Alert,kM l [y]=some (l++[y]):=λy=>mq _ _ (by simp only [List.length_cons,List.length_nil];omega)
   simp only [hkw,j1,j2,j3,j4,k1,a1,ob_]at hP
   simp only [hrw,j1,j2,j3,j4,k1,a2,i0,i1,i2,happ,ob_]at hD
   cases o with
   | false =>
    simp only [Bool.not_false,cond_true,cond_false,ob_]at hP hD
    exact⟨_,false,kY hP ⟨_,hD⟩⟩
   | true =>
    obtain rfl:=a5 rfl
    simp only [Bool.not_true,cond_true,cond_false,ob_]at hP hD
    by_cases hk1:k<1
    ·rw [decide_eq_true hk1]at hP
     rw [decide_eq_false (by omega)]at hD
     exact⟨_,false,kY hP ⟨_,hD⟩⟩
    ·rw [decide_eq_false hk1]at hP
     rw [decide_eq_true (by omega)]at hD
     simp only [cond_false,i0,i1,i2,happ,ob_]at hP
     refine⟨_,true,hP,⟨_,hD,λ_ => ?_⟩,λ_=>by simp,λ_ m c hm hb h=>λy hy => ?_⟩
     ·rw [Bd,if_neg (by simp),if_neg (by simp),if_neg (by simp)]
     ·rcases List.mem_append.1 hy with hy|hy
      ·exact zQ (h y hy) (Nat.le_succ c)
      ·rw [List.mem_singleton]at hy;subst hy
       have z1:=hw w1 (by simp)
       have z2:=hw w2 (by simp)
       exact { id:=by show (SB w1).size<=m;rw [fG];omega,sender:=by show (SB w2).size<=m;rw [fG];omega,kind:=⟨by show 1<=k;omega,k2⟩,refs:=(λr hr=>by cases hr),refsN:=Nat.zero_le _,at_:=a4 _ (by simp),until_:=a4 _ (by simp),weight:=a4 _ (by simp),areas:=(λr hr=>by cases hr),areasN:=Nat.zero_le _,text:=Nat.zero_le _,asc:=(λb hb=>by cases hb) }
  ·rw [m7,decide_eq_false h7]at hP hD
   simp only [cond_false,ob_]at hP hD
   rw [uo hl h0 (.inl (by rw [e0];exact q1)) (.inl (by rw [e0];exact q2))]at hP
   exact⟨_,false,kY hP ⟨_,hD⟩⟩
 | false =>
 rw [ha,cond_false]at hP
 simp only [ob_,cond_false]at hP
 cases hf:sEq (SB w0) uT with
 | true =>
  have e0:=(ig _ _).1 hf
  have hk:rkW (SB w0)=2:=by unfold rkW;rw [ha,hf];rfl
  rw [hk]at hD
  have f1:((2:Int)==0)=false:=rfl
  have f2:decide ((2:Int)>1)=true:=rfl
  have f3:((2:Int)==1)=false:=rfl
  have f4:((2:Int)==2)=true:=rfl
  have f5:((2:Int)==3)=false:=rfl
  simp only [f1,f2,f3,f4,f5,cond_true,cond_false,ob_]at hD
  rcases List.eq_nil_or_concat l with rfl|⟨l0,a,rfl⟩
  ·exact⟨_,false,kY hP ⟨_,hD⟩⟩
  ·rw [List.concat_eq_append]at *
   have hl0:l0.length<=1000000:=by simp at hl;omega
   obtain ⟨i1,i2⟩:=last_at (l0:=l0) (a:=a) hl0
   have hR:aY Alert.Refs (l0++[a])=a.Refs:=fH _ _ _
   have hA:aY Alert.Areas (l0++[a])=a.Areas:=fH _ _ _
   by_cases hT:a.Text=⟨#[]⟩
   ·obtain ⟨k1,k2,k3,k4⟩:=DU l0 hT
    rw [k1,k4]at hD
    simp only [cond_false,ob_]at hD
    by_cases hAr:a.Areas=[]
    ·rw [decide_eq_false (by simp [hAr])]at hD
     simp only [cond_false,ob_]at hD
     by_cases h2:(w0::wr).length=2
     ·rw [m2,decide_eq_true h2]at hD
      simp only [cond_true,ob_]at hD
      obtain ⟨v0,w1,he⟩:=list2 h2
      rw [he]at hD hw
      have j1:idx ([v0,w1].map SB) 1=some (SB w1):=rfl
      have happ:kM a.Refs [SB w1]=some (a.Refs++[SB w1]):=mq _ _ (by have:=(hr a (by simp)).1;simp only [List.length_cons,List.length_nil];omega)
      have ez:((([]:List Rect).length:Int)==0)=true:=rfl
      unfold zi at hP
      rw [yc,cond_false]at hP
      rw [m2,decide_eq_true h2,h0,he]at hP
      simp only [i1,i2,hR,hA,hAr,ez,qw,hf,j1,happ,kH,cond_true,cond_false,ob_]at hP
      rw [decide_eq_false (by simp [hT])]at hP
      simp only [cond_true,cond_false,ob_]at hP
      simp only [i1,i2,hR,j1,happ,kH,ob_]at hD
      refine⟨_,true,hP,⟨_,hD,λ_ => ?_⟩,λ_=>by simp,λ_ m c hm hb h=>Aq h λhg => ?_⟩
      ·rw [Bd,if_neg (by simp [hT]),if_neg (by simp),if_pos (by simp)]
       simp [hAr]
      ·have z1:=hw w1 (by simp)
       exact { id := hg.id, sender := hg.sender, kind := hg.kind, refs := (fun r hr => by
            rcases List.mem_append.1 hr with hr|hr
            ·exact hg.refs r hr
            ·rw [List.mem_singleton]at hr;subst hr;rw [fG];omega),refsN:=by have:=hg.refsN;show (a.Refs++[SB w1]).length<=_;simp;omega,at_:=hg.at_,until_:=hg.until_,weight:=hg.weight,areas:=(λr hr=>by cases hr),areasN:=Nat.zero_le _,text:=hg.text,asc:=hg.asc }
     ·rw [m2,decide_eq_false h2]at hD
      simp only [cond_false,ob_]at hD
      rw [uo hl h0 (.inr (.inl (by rw [m2];exact decide_eq_false h2))) (.inl (by rw [e0];exact q4))]at hP
      exact⟨_,false,kY hP ⟨_,hD⟩⟩
    ·rw [decide_eq_true hAr]at hD
     rw [uo hl h0 (.inr (.inr (by rw [hA];exact hAr))) (.inl (by rw [e0];exact q4))]at hP
     exact⟨_,false,kY hP ⟨_,hD⟩⟩
   ·have e4:=zR l0 hT
    rw [e4]at hD
    have hP2:alert_readLine (l0++[a]) (SB x)=some (l0++[a],false):=by
     rw [hP];unfold zi
     rw [yc,cond_false]
     simp only [i1,i2,ob_,qw]
     rw [decide_eq_true hT];rfl
    exact⟨_,false,kY hP2 (by rw [e4];exact⟨_,hD⟩)⟩
 | false =>
 cases hz:sEq (SB w0) oD with
 | true =>
  have e0:=(ig _ _).1 hz
  have hk:rkW (SB w0)=3:=by unfold rkW;rw [ha,hf,hz];rfl
  rw [hk]at hD
  have f1:((3:Int)==0)=false:=rfl
  have f2:decide ((3:Int)>1)=true:=rfl
  have f3:((3:Int)==1)=false:=rfl
  have f4:((3:Int)==2)=false:=rfl
  have f5:((3:Int)==3)=true:=rfl
  simp only [f1,f2,f3,f4,f5,cond_true,cond_false,ob_]at hD
  rcases List.eq_nil_or_concat l with rfl|⟨l0,a,rfl⟩
  ·exact⟨_,false,kY hP ⟨_,hD⟩⟩
  ·rw [List.concat_eq_append]at *
   have hl0:l0.length<=1000000:=by simp at hl;omega
   obtain ⟨i1,i2⟩:=last_at (l0:=l0) (a:=a) hl0
   have hA:aY Alert.Areas (l0++[a])=a.Areas:=fH _ _ _
   by_cases hT:a.Text=⟨#[]⟩
   ·obtain ⟨k1,k2,k3,k4⟩:=DU l0 hT
    rw [k1,k3]at hD
    simp only [cond_false,ob_]at hD
    by_cases h5:(w0::wr).length=5
    ·rw [m5,decide_eq_true h5]at hD
     simp only [cond_true,ob_]at hD
     obtain ⟨v0,w1,w2,w3,w4,he⟩:=list5 h5
     rw [he]at hD hw
     have j1:pu ([v0,w1,w2,w3,w4].map SB) 1 (([v0,w1,w2,w3,w4].map SB).length:Int)=some ([w1,w2,w3,w4].map SB):=rfl
     obtain ⟨ns,ms,o,a1,a2,a3,a4,a5⟩:=FQ [w1,w2,w3,w4] (λw hm=>by
      have:=hw w (by simp only [List.mem_cons,List.not_mem_nil,or_false]at hm ⊢;rcases hm with rfl | rfl | rfl | rfl <;> simp)
      omega) (by simp)
     obtain ⟨n0,n1,n2,n3,rfl⟩:=list4 (l:=ms) (by simpa using a3)
     have z0:idx [n0,n1,n2,n3] 0=some n0:=rfl
     have z1:idx [n0,n1,n2,n3] 1=some n1:=rfl
     have z2:idx [n0,n1,n2,n3] 2=some n2:=rfl
     have z3:idx [n0,n1,n2,n3] 3=some n3:=rfl
     have happ:∀y:Rect,kM a.Areas [y]=some (a.Areas++[y]):=λy=>mq _ _ (by have:=(hr a (by simp)).2;simp only [List.length_cons,List.length_nil];omega)
     unfold zi at hP
     rw [yc,cond_false]at hP
     rw [m5,decide_eq_true h5,h0,he]at hP
     simp only [i1,i2,qw,hf,hz,j1,a1,cond_true,cond_false,ob_]at hP
     rw [decide_eq_false (by simp [hT])]at hP
     simp only [cond_true,cond_false,ob_]at hP
     simp only [j1,a2,i1,i2,z0,z1,z2,z3,hA,happ,kH,ob_]at hD
     cases o with
     | false=>exact⟨_,false,kY hP ⟨_,hD⟩⟩
     | true =>
      obtain rfl:=a5 rfl
      simp only [Bool.not_true,cond_false,z0,z1,z2,z3,hA,happ,kH,ob_]at hP
      refine⟨_,true,hP,⟨_,hD,λ_ => ?_⟩,λ_=>by simp,λ_ m c hm hb h=>Aq h λhg => ?_⟩
      ·rw [Bd,if_neg (by simp [hT]),if_pos (by simp)]
      ·exact { id := hg.id, sender := hg.sender, kind := hg.kind, refs := hg.refs, refsN := by have := hg.refsN; show a.Refs.length ≤ _; omega, at_ := hg.at_, until_ := hg.until_, weight := hg.weight, areas := (fun r hr => by
            rcases List.mem_append.1 hr with hr|hr
            ·exact hg.areas r hr
            ·rw [List.mem_singleton]at hr;subst hr;exact a4),areasN:=by have:=hg.areasN;show (a.Areas++[_]).length<=_;simp;omega,text:=hg.text,asc:=hg.asc }
    ·rw [m5,decide_eq_false h5]at hD
     simp only [cond_false,ob_]at hD
     rw [uo hl h0 (.inl hf) (.inr (by rw [m5];exact decide_eq_false h5))]at hP
     exact⟨_,false,kY hP ⟨_,hD⟩⟩
   ·have e4:=zR l0 hT
    rw [e4]at hD
    have hP2:alert_readLine (l0++[a]) (SB x)=some (l0++[a],false):=by
     rw [hP];unfold zi
     rw [yc,cond_false]
     simp only [i1,i2,ob_,qw]
     rw [decide_eq_true hT];rfl
    exact⟨_,false,kY hP2 (by rw [e4];exact⟨_,hD⟩)⟩
 | false =>
  have hk:rkW (SB w0)=0:=by unfold rkW;rw [ha,hf,hz];rfl
  rw [hk]at hD
  rw [uo hl h0 (.inl hf) (.inl hz)]at hP
  exact⟨_,false,kY hP ⟨_,hD⟩⟩
theorem Mq {l:List Alert} {x:List UInt8} (hx:x.length<=100000) (hl:l.length<=1000000) (hr:∀a∈l,a.Refs.length<=1000000/\a.Areas.length<=1000000):∃l' ok,Two l x l' ok:=by
 obtain ⟨t,b,c1,c2,c3,_,_⟩:=cutp x (by omega)
 cases b with
 | true=>exact MK hl c1 c2 c3
 | false=>exact Kg hx hl hr c1
end Go.Proofs.YtljhfffghjclfaaGreatDoor.Law

open Go Go.Eng
namespace Go.Proofs.YtljhfffghjclfaaGreatDoor.Law
set_option linter.unusedVariables false
set_option linter.unusedSimpArgs false
def xO (m c:Nat) (l:List Alert):Prop:=l.length<=c/\∀a∈l,LA m c a
def uq (m:Nat) (x:List UInt8):Prop:=x.length<=m/\∀b∈x,b.toNat<128
noncomputable def M3 (l:List Alert) (x:List UInt8):Option (List Alert):=match alert_readLine l (SB x)with
 | some (l',true)=>some l'
 | _=>none
theorem pY {m c:Nat} {l:List Alert} {x:List UInt8} (hm:m<=100000) (hc:c<=900000) (hg:xO m c l) (hx:uq m x):∃l' ok,Two l x l' ok/\M3 l x=(bif ok then some l' else none)/\(ok=true->xO m (c+1) l'):=by
 obtain ⟨l',ok,h⟩:=Mq (l:=l) (x:=x) (by have:=hx.1;omega) (by have:=hg.1;omega) (λa ha=>by have:=(hg.2 a ha).refsN;have:=(hg.2 a ha).areasN;exact⟨by omega,by omega⟩)
 refine⟨l',ok,h,?_,λho=>⟨by have:=h.len ho;have:=hg.1;omega,h.good ho m c hx.1 hx.2 hg.2⟩⟩
 unfold M3
 rw [h.prog]
 cases ok <;> rfl
noncomputable def sK:List (List UInt8)->Nat->List Alert->Sum Nat (List Alert)
 | [],_,out => .inr out
 | [x],k,out=>if x=[]then .inr out else .inl k
 | x::y::r,k,out=>match M3 out x with
  | none => .inl k
  | some l'=>sK (y::r) (k+1) l'
theorem Dl {m:Nat} (hm:m<=100000):∀(qs:List (List UInt8)) (k c:Nat) (out o:List Alert),(∀q∈qs,uq m q)->xO m c out->c+qs.length<=900000->sK qs k out = .inr o->xO m (c+qs.length) o
 | [],k,c,out,o,_,hg,_,h=>by
  simp only [sK,Sum.inr.injEq]at h
  subst h;exact hg
 | [x],k,c,out,o,_,hg,_,h=>by
  unfold sK at h
  split at h
  ·simp only [Sum.inr.injEq]at h
   subst h
   exact⟨by have:=hg.1;simp only [List.length_cons,List.length_nil];omega,λa ha=>zQ (hg.2 a ha) (by simp)⟩
  ·cases h
 | x::y::r,k,c,out,o,hq,hg,hc,h=>by
  simp only [List.length_cons]at hc
  obtain ⟨l',ok,_,a2,a3⟩:=pY hm (by omega) hg (hq x (by simp))
  unfold sK at h
  rw [a2]at h
  cases ok with
  | false=>cases h
  | true =>
   simp only [cond_true]at h
   have:=Dl hm (y::r) (k+1) (c+1) l' o (λq hm=>hq q (by simp [hm])) (a3 rfl) (by simp only [List.length_cons];omega) h
   rw [show c+(x::y::r).length=c+1+(y::r).length by simp only [List.length_cons];omega]
   exact this
theorem FW {m:Nat} (hm:m<=100000):∀(n:Nat) (l:List UInt8) (k c:Nat) (out:List Alert),l.length<=n->uq m l->k+l.length<=900000->c+l.length<=900000->xO m c out ->
  ∃j,match sK (spl 10 l) k out with
   | .inl i=>∃o,iterN fD j (out,SB l,(k:Int),rk out)=some (.ret ((i:Int),false,o))
   | .inr o=>∃t q,iterN fD j (out,SB l,(k:Int),rk out)=some (.go (o,t,q,rk o))
 | n,l,k,c,out,hn,hl,hk,hc,hg=>by
  cases hle:l with
  | nil =>
   refine⟨1,?_⟩
   simp only [spl,sK,if_true]
   refine⟨SB [],(k:Int),?_⟩
   simp only [iterN,fD]
   rw [show sNe (SB []) (⟨#[]⟩:ByteArray)=false by show (!sEq (SB []) (⟨#[]⟩:ByteArray))=false;rw [sS];rfl]
   rfl
  | cons b0 l0 =>
  have hne:l ≠ []:=by rw [hle];simp
  rw [<- hle]
  have hsn:sNe (SB l) (⟨#[]⟩:ByteArray)=true:=by show (!sEq (SB l) (⟨#[]⟩:ByteArray))=true;rw [sS,hle];rfl
  rcases M0 l with h|⟨x,y,e,hx⟩
  ·refine⟨1,?_⟩
   rw [MM h]
   simp only [sK,if_neg hne]
   refine⟨⟨out,rk out⟩,?_⟩
   simp only [iterN,fD]
   rw [hsn,cond_true,cut_no h];rfl
  ·have hlen:l.length=x.length+1+y.length:=by rw [e];simp;omega
   have hxo:uq m x:=⟨by have:=hl.1;omega,λb hb=>hl.2 b (by rw [e];simp [hb])⟩
   have hyo:uq m y:=⟨by have:=hl.1;omega,λb hb=>hl.2 b (by rw [e];simp [hb])⟩
   obtain ⟨l',ok,a1,a2,a3⟩:=pY hm (by omega) hg hxo
   obtain ⟨r',b1,b2⟩:=a1.doc
   have hspl:spl 10 l=x::spl 10 y:=by rw [e];exact JP y hx
   obtain ⟨y0,r,hy⟩:∃y0 r,spl 10 y=y0::r:=by
    cases h:spl 10 y with
    | nil=>exact absurd h (Ii 10 y)
    | cons y0 r=>exact⟨y0,r,rfl⟩
   have hstep:fD (out,SB l,(k:Int),rk out)=some (bif ok then .go (r'.f_l,SB y,((k+1:Nat):Int),r'.f_rank)else .ret ((k:Int),false,⟨r'.f_l,r'.f_rank⟩)):=by
    unfold fD
    simp only []
    rw [hsn,cond_true,e,cut_yes y hx (by have:=hl.1;omega),ob_]
    simp only [Bool.not_true,cond_false,b1,ob_]
    cases ok with
    | false=>rfl
    | true =>
     simp only [Bool.not_true,cond_false,cond_true]
     rw [eT (by omega)];rfl
   rw [hspl,hy]
   unfold sK
   rw [a2]
   cases ok with
   | false =>
    refine⟨1,?_⟩
    simp only [cond_false]
    refine⟨⟨r'.f_l,r'.f_rank⟩,?_⟩
    simp only [iterN,hstep];rfl
   | true =>
    simp only [cond_true]
    obtain rfl:=b2 rfl
    match n,hn with
    | 0,hn=>omega
    | n+1,hn =>
    obtain ⟨j,hj⟩:=FW hm n y (k+1) (c+1) l' (by omega) hyo (by omega) (by omega) (a3 rfl)
    rw [hy]at hj
    refine⟨j+1,?_⟩
    have hit:iterN fD (j+1) (out,SB l,(k:Int),rk out)=iterN fD j (l',SB y,((k+1:Nat):Int),rk l'):=by
     rw [iterN,hstep];rfl
    rw [hit]
    exact hj
theorem GD {m:Nat} (hm:m<=100000) (r:(List ByteArray)×Bool) (hr:r.2=true):∀(qs:List (List UInt8)) (k c:Nat) (out:List Alert),qs ≠ []->qs.getLast? = some []->(∀q∈qs,uq m q)->c+qs.length<=900000->xO m c out ->
  forR (λk x s=>eO r k x s) (qs.dropLast.map SB) k out=some (match sK qs k out with | .inl i => .ret ([],(i:Int),9) | .inr o => .go o)
 | [],_,_,_,h,_,_,_,_=>absurd rfl h
 | [x],k,c,out,_,hx,_,_,_=>by
  simp only [List.getLast?_singleton,so_]at hx
  subst hx
  simp only [sK,if_true];rfl
 | x::y::t,k,c,out,_,hx,hq,hc,hg=>by
  simp only [List.length_cons]at hc
  obtain ⟨l',ok,a1,a2,a3⟩:=pY hm (by omega) hg (hq x (by simp))
  have hstep:eO r k (SB x) out=some (bif ok then .go l' else .ret ([],(k:Int),9)):=by
   unfold eO
   rw [a1.prog,ob_,hr]
   cases ok <;> rfl
  rw [List.dropLast_cons_cons,List.map_cons,forR,hstep,ob_]
  unfold sK
  rw [a2]
  cases ok with
  | false=>rfl
  | true =>
   simp only [cond_true]
   exact GD hm r hr (y::t) (k+1) (c+1) l' (by simp) (by rw [<- hx];simp) (λq hm=>hq q (by simp [hm])) (by simp only [List.length_cons];omega) (a3 rfl)
theorem CS {m:Nat} (hm:m<=100000) (r:(List ByteArray)×Bool) (hr:r.2=false) (hrl:r.1.length<=900000):∀(qs:List (List UInt8)) (k c:Nat) (out:List Alert),qs ≠ []->qs.getLast? ≠ some []->k+qs.length=r.1.length->(∀q∈qs,uq m q)->c+qs.length<=900000->xO m c out ->
  forR (λk x s=>eO r k x s) (qs.map SB) k out=some (match sK qs k out with | .inl i => .ret ([],(i:Int),9) | .inr o => .go o)
 | [],_,_,_,h,_,_,_,_,_=>absurd rfl h
 | [x],k,c,out,_,hx,hk,hq,hc,hg=>by
  simp only [List.getLast?_singleton,ne_eq,so_]at hx
  simp only [List.length_cons,List.length_nil]at hk hc
  obtain ⟨l',ok,a1,a2,a3⟩:=pY hm (by omega) hg (hq x (by simp))
  have hstep:eO r k (SB x) out=some (.ret ([],(k:Int),9)):=by
   unfold eO
   rw [a1.prog,ob_,hr,eT (by omega),show ((k:Int)==((r.1.length:Int)-1))=true by rw [beq_iff_eq];omega]
   cases ok <;> rfl
  rw [List.map_cons,forR,hstep]
  simp only [sK,if_neg hx];rfl
 | x::y::t,k,c,out,_,hx,hk,hq,hc,hg=>by
  simp only [List.length_cons]at hc hk
  obtain ⟨l',ok,a1,a2,a3⟩:=pY hm (by omega) hg (hq x (by simp))
  have hstep:eO r k (SB x) out=some (bif ok then .go l' else .ret ([],(k:Int),9)):=by
   unfold eO
   rw [a1.prog,ob_,hr,eT (by omega),show ((k:Int)==((r.1.length:Int)-1))=false by rw [beq_eq_false_iff_ne];omega]
   cases ok <;> rfl
  rw [List.map_cons,forR,hstep,ob_]
  unfold sK
  rw [a2]
  cases ok with
  | false=>rfl
  | true =>
   simp only [cond_true]
   exact CS hm r hr hrl (y::t) (k+1) (c+1) l' (by simp) (by simpa using hx) (by simp only [List.length_cons];omega) (λq hm=>hq q (by simp [hm])) (by simp only [List.length_cons];omega) (a3 rfl)
theorem H6 (l:List UInt8) (hl:l.length<=100000) (ha:∀b∈l,b.toNat<128) :
  (∃i:Int,kv (SB l)=some ([],i,9)/\gy (SB l)=some ([],i,9)) \/
  ∃o,xO l.length 100001 o/\kv (SB l)=((bS o).bind λr=>bif (r != 0)then some ([],0,r)else some (o,0,0))/\gy (SB l)=((gU o).bind λr=>bif (r != 0)then some ([],0,r)else some (o,0,0)):=by
 have hsz:decide (((SB l).size:Int)>200000)=false:=by rw [fG];exact decide_eq_false (by omega)
 obtain ⟨sz1,sz2⟩:=xx 10 l
 have hne:=Ii 10 l
 have hmem:∀(c:UInt8) (l:List UInt8),∀q∈spl c l,∀b∈q,b∈l:=by
  intro c l
  induction l with
  | nil=>intro q hq b hb;simp [spl]at hq;subst hq;cases hb
  | cons a l ih =>
   intro q hq b hb
   unfold spl at hq
   split at hq
   ·rcases List.mem_cons.1 hq with rfl|hq
    ·cases hb
    ·exact List.mem_cons_of_mem _ (ih q hq b hb)
   ·split at hq
    ·simp at hq;subst hq
     rw [List.mem_singleton.1 hb];exact List.mem_cons_self ..
    ·rename_i x r hr
     rw [hr]at ih
     rcases List.mem_cons.1 hq with rfl|hq
     ·rcases List.mem_cons.1 hb with rfl|hb
      ·exact List.mem_cons_self ..
      ·exact List.mem_cons_of_mem _ (ih x (by simp) b hb)
     ·exact List.mem_cons_of_mem _ (ih q (by simp [hq]) b hb)
 have hq:∀q∈spl 10 l,uq l.length q:=λq h=>⟨sz2 q h,λb hb=>ha b (hmem 10 l q h b hb)⟩
 have hg0:xO l.length 0 []:=⟨Nat.le_refl _,λa h=>by cases h⟩
 obtain ⟨j,hj⟩:=FW hl l.length l 0 0 [] (Nat.le_refl _) ⟨Nat.le_refl _,ha⟩ (by omega) (by omega) hg0
 have hsp:=FV 10 (s:=SB l) (by rw [fG];omega)
 rw [show (List.map (λl=>(⟨l.toArray⟩:ByteArray)) (spl 10 (SB l).data.toList))=(spl 10 l).map SB from rfl]at hsp
 have hpl:((spl 10 l).map SB).length=(spl 10 l).length:=List.length_map ..
 have hpos:0<(spl 10 l).length:=List.length_pos_iff.2 hne
 have hw:w64 ((((spl 10 l).map SB).length:Int)-1)=(((spl 10 l).length-1:Nat):Int):=by rw [hpl,eT (by omega)];omega
 obtain ⟨z,hz⟩:∃z,(spl 10 l).getLast? = some z:=⟨_,List.getLast?_eq_some_getLast hne⟩
 have hix:idx ((spl 10 l).map SB) (((spl 10 l).length-1:Nat):Int)=some (SB z):=by
  rw [Et,List.getElem?_map,<- List.getLast?_eq_getElem?,hz];rfl
 have hread:kv (SB l)=(match sK (spl 10 l) 0 []with
   | .inl i=>some ([],(i:Int),9)
   | .inr o=>(bS o).bind λr_29=>bif (r_29 != 0)then some ([],0,r_29)else some (o,0,0)):=by
  unfold kv uU
  rw [hsz,cond_false,hsp,ob_,hw,hix,ob_,sS]
  cases z with
  | nil =>
   have hdl:pu ((spl 10 l).map SB) 0 (((spl 10 l).length-1:Nat):Int)=some ((spl 10 l).dropLast.map SB):=by
    unfold pu
    rw [if_pos (by rw [hpl];omega),Int.toNat_natCast]
    congr 1
    rw [show Int.toNat 0=0 from rfl,List.drop_zero,<- List.map_take,<- List.dropLast_eq_take]
   simp only [List.isEmpty_nil,cond_true]
   rw [hdl]
   simp only [ob_]
   rw [fQ (by rw [List.length_map,List.length_dropLast];omega),GD hl _ rfl (spl 10 l) 0 0 [] hne hz hq (by omega) hg0]
   cases sK (spl 10 l) 0 [] <;> rfl
  | cons z0 zs =>
   simp only [List.isEmpty_cons,cond_false,ob_]
   rw [fQ (by rw [hpl];omega),CS hl _ rfl (by rw [hpl];omega) (spl 10 l) 0 0 [] hne (by rw [hz];simp) (by rw [hpl];omega) hq (by omega) hg0]
   cases sK (spl 10 l) 0 [] <;> rfl
 have e0:((0:Nat):Int)=0:=rfl
 rw [e0]at hj
 have erk:rk ([]:List Alert)=0:=rfl
 rw [erk]at hj
 cases hr:sK (spl 10 l) 0 []with
 | inl i =>
  rw [hr]at hj hread
  obtain ⟨o,ho⟩:=hj
  refine .inl ⟨(i:Int),hread,?_⟩
  unfold gy qV
  rw [hsz,cond_false,jd ho];rfl
 | inr o =>
  rw [hr]at hj hread
  obtain ⟨t,q,ho⟩:=hj
  have g:=Dl hl (spl 10 l) 0 0 [] o hq hg0 (by omega) hr
  refine .inr ⟨o,⟨by have:=g.1;omega,λa ha=>zQ (g.2 a ha) (by omega)⟩,hread,?_⟩
  unfold gy qV
  rw [hsz,cond_false,jd ho];rfl
end Go.Proofs.YtljhfffghjclfaaGreatDoor.Law

open Go Go.Eng
namespace Go.Proofs.YtljhfffghjclfaaGreatDoor.Law
set_option linter.unusedVariables false
set_option linter.unusedSimpArgs false
def tH (n:Nat):Bool:=decide ((n:Int)<32)||((n:Int)==127)
theorem plain1A (n:Nat):nN (n:Int)=some (tH n):=by
 unfold nN tH
 cases decide ((n:Int)<32) <;> rfl
theorem idx_asc (s:ByteArray) (ha:∀b∈s.data.toList,b.toNat<128):decide (0<=Lib.idxFunc tH true s)=s.data.toList.any (λb=>tH b.toNat):=by
 have hsz:s.size=s.data.toList.length:=Go.Lib.size_eq s
 have key:∀(f pos:Nat),s.size<=pos+f->decide (0<=Lib.idxFuncFrom tH true s f pos)=(s.data.toList.drop pos).any (λb=>tH b.toNat):=by
  intro f
  induction f with
  | zero =>
   intro pos h
   rw [List.drop_of_length_le (by omega)];rfl
  | succ f ih =>
   intro pos h
   by_cases hp:pos<s.size
   ·have hpl:pos<s.data.toList.length:=by omega
    have hb:(s[pos]'hp)=s.data.toList[pos]:=by
     show s.data[pos]=_
     rw [Array.getElem_toList]
    have hd:=decode_ascii s pos hp (by rw [hb];exact ha _ (List.getElem_mem _))
    rw [List.drop_eq_getElem_cons hpl,List.any_cons]
    simp only [Lib.idxFuncFrom,hp,if_true,hd,hb]
    cases hc:tH (s.data.toList[pos]).toNat with
    | true=>simp
    | false =>
     simp only [Bool.false_eq_true,if_false,Bool.false_or]
     exact ih (pos+1) (by omega)
   ·rw [Lib.idxFuncFrom_end _ _ _ _ _ hp,List.drop_of_length_le (by omega)];rfl
 exact key s.size 0 (by omega)
theorem BK (s:ByteArray) (hs:s.size<=1000000):l8 0 (λt=>eQ s t)=some (bif s.data.toList.any (λb=>tH b.toNat)then .ret false else .go (s.size:Int)):=by
 have hsz:s.size=s.data.toList.length:=Go.Lib.size_eq s
 have hit:∀(d j:Nat),j+d=s.size->∃n,iterN (λt=>eQ s t) n (j:Int)=some (bif (s.data.toList.drop j).any (λb=>tH b.toNat)then .ret false else .go (s.size:Int)):=by
  intro d
  induction d with
  | zero =>
   intro j hj
   refine⟨1,?_⟩
   simp only [iterN,eQ]
   rw [decide_eq_false (by omega),List.drop_of_length_le (by omega),show (j:Int)=(s.size:Int) by omega];rfl
  | succ d ih =>
   intro j hj
   have hjl:j<s.data.toList.length:=by omega
   have hc:tJ s (j:Int)=some s.data.toList[j]:=by
    rw [qO s j (by omega)]
    have:=wJ (s:=s) (k:=j) (by omega)
    rw [List.getElem?_eq_getElem hjl]at this
    exact this.symm
   rw [List.drop_eq_getElem_cons hjl,List.any_cons]
   have hcond:((some s.data.toList[j]).bind λb_15=>bif (decide ((b_15.toNat:Int)<32))then some true else (some s.data.toList[j]).bind λb_18=>some ((b_18.toNat:Int)==127))=some (tH (s.data.toList[j]).toNat):=by
    unfold tH
    simp only [ob_]
    cases decide (((s.data.toList[j]).toNat:Int)<32) <;> rfl
   cases hd:tH (s.data.toList[j]).toNat with
   | true =>
    refine⟨1,?_⟩
    simp only [iterN,eQ]
    rw [decide_eq_true (by omega),cond_true,hc,hcond,hd];rfl
   | false =>
    obtain ⟨n,hn⟩:=ih (j+1) (by omega)
    refine⟨n+1,?_⟩
    have hstep:eQ s (j:Int)=some (.go ((j+1:Nat):Int)):=by
     unfold eQ
     rw [decide_eq_true (by omega),cond_true,hc,hcond,hd,ob_,cond_false,eT (by omega)];rfl
    rw [iterN,hstep,ob_,Bool.false_or]
    exact hn
 obtain ⟨n,hn⟩:=hit s.size 0 (by omega)
 exact jd hn
def IW (s:ByteArray):Bool := !s.data.toList.any (λb=>tH b.toNat)&&(Lib.validD s.data.toList&&(sEq ⟨(Lib.trimS s.data.toList [32]).toArray⟩ s && !Lib.contains s.data.toList [32,32]))
theorem lW (s:ByteArray) (hs:s.size<=1000000) (ha:∀b∈s.data.toList,b.toNat<128):kit_IsPlain s=some (IW s)/\ref_Plain s=some (IW s):=by
 have hv:dK s=some (Lib.validD s.data.toList):=by
  show wR s=_
  unfold wR
  rw [if_pos (by omega)]
 have ht:mF s (⟨#[32]⟩:ByteArray)=some ⟨(Lib.trimS s.data.toList [32]).toArray⟩:=by
  show Av s _=_
  unfold Av
  rw [if_pos ⟨by omega,by decide,by decide⟩]
 have hk:strings_Contains s (⟨#[32,32]⟩:ByteArray)=some (Lib.contains s.data.toList [32,32]):=by
  show qP s _=_
  unfold qP
  rw [if_pos (by omega)]
 have hf:fP s=some (s.data.toList.any (λb=>tH b.toNat)):=by
  unfold fP
  rw [Cv (p:=tH) (λn=>plain1A n),idx_asc s ha]
 unfold IW
 constructor
 ·unfold kit_IsPlain
  rw [BK s hs,hv,ht,hk]
  cases s.data.toList.any (λb=>tH b.toNat)with
  | true=>rfl
  | false =>
   cases Lib.validD s.data.toList with
   | false=>rfl
   | true =>
    simp only [cond_false,cond_true,ob_,thenC,Bool.not_false]
    cases sEq ⟨(Lib.trimS s.data.toList [32]).toArray⟩ s <;> rfl
 ·unfold ref_Plain
  rw [hv,hf,ht,hk]
  cases s.data.toList.any (λb=>tH b.toNat)with
  | true=>cases Lib.validD s.data.toList <;> rfl
  | false =>
   cases Lib.validD s.data.toList with
   | false=>rfl
   | true =>
    simp only [cond_false,cond_true,ob_,thenC,Bool.not_false]
    cases sEq ⟨(Lib.trimS s.data.toList [32]).toArray⟩ s <;> rfl
end Go.Proofs.YtljhfffghjclfaaGreatDoor.Law

open Go Go.Eng
namespace Go.Proofs.YtljhfffghjclfaaGreatDoor.Law
set_option linter.unusedVariables false
set_option linter.unusedSimpArgs false
set_option maxRecDepth 100000
structure GB (x:Alert):Prop where
 id:x.Id.size<=100000
 sender:x.Sender.size<=100000
 refs:∀r∈x.Refs,r.size<=100000
 rlen:x.Refs.length<=900000
 alen:x.Areas.length<=900000
 at_:Med x.At
 tsize:x.Text.size<=100000
 ptwo:∃v,kit_IsPlain x.Text=some v/\ref_Plain x.Text=some v
theorem JU (s:ByteArray) (hs:s.size<=1000000) (hv:Lib.validD s.data.toList=false):kit_IsPlain s=some false/\ref_Plain s=some false:=by
 have hv:dK s=some false:=by
  show wR s=_
  unfold wR
  rw [if_pos (by omega),hv]
 constructor
 ·unfold kit_IsPlain
  rw [BK s hs,hv]
  cases s.data.toList.any (λb=>tH b.toNat) <;> rfl
 ·unfold ref_Plain
  rw [hv];rfl
theorem txt_two:∀s∈txtL,s.size<=16/\∃v,kit_IsPlain s=some v/\ref_Plain s=some v:=by
 intro s hs
 unfold txtL at hs
 simp only [List.mem_cons,List.not_mem_nil,or_false]at hs
 rcases hs with rfl|rfl|rfl|rfl|rfl|rfl|rfl|rfl
 ·exact⟨by decide,_,lW _ (by decide) (by decide)⟩
 ·exact⟨by decide,_,lW _ (by decide) (by decide)⟩
 ·exact⟨by decide,_,lW _ (by decide) (by decide)⟩
 ·exact⟨by decide,_,lW _ (by decide) (by decide)⟩
 ·exact⟨by decide,_,lW _ (by decide) (by decide)⟩
 ·exact⟨by decide,_,lW _ (by decide) (by decide)⟩
 ·exact⟨by decide,_,lW _ (by decide) (by decide)⟩
 ·exact⟨by decide,_,JU _ (by decide) (by decide +kernel)⟩
theorem gb_ga {x:Alert} (h:GA x):GB x:=by
 have h1:=h.id
 have h2:=h.sender
 have h3:=h.at_
 have h4:=h.rlen
 have h5:=h.alen
 obtain ⟨h6,h7⟩:=txt_two _ h.text
 unfold ShA at h1 h2
 exact⟨by omega,by omega,λr hr=>by have:=h.refs r hr;unfold ShA at this;omega,by omega,by omega,by unfold Med;omega,by omega,h7⟩
theorem gb_la {m c:Nat} {x:Alert} (h:LA m c x) (hm:m<=100000) (hc:c<=900000):GB x :=
 ⟨Nat.le_trans h.id hm,Nat.le_trans h.sender hm,λr hr=>Nat.le_trans (h.refs r hr) hm,Nat.le_trans h.refsN hc,Nat.le_trans h.areasN hc,h.at_,Nat.le_trans h.text hm,⟨_,lW _ (by have:=h.text;omega) h.asc⟩⟩
noncomputable def plG (s:ByteArray):Bool:=(kit_IsPlain s).getD false
theorem MO {x:Alert} (h:GB x):kit_IsPlain x.Text=some (plG x.Text)/\ref_Plain x.Text=some (plG x.Text):=by
 obtain ⟨v,h1,h2⟩:=h.ptwo
 unfold plG
 rw [h1];exact⟨rfl,h2⟩
noncomputable def txG (x:Alert):Bool := !plG x.Text||(sEq x.Text ⟨#[]⟩ && !(x.Kind==3))
def rfG (x:Alert):Int:=bif decide ((x.Refs.length:Int)>20)then 2 else bif rfV x==0 then (bif fmV x then 3 else 0)else rfV x
noncomputable def alG (x:Alert):Int:=bif !keyB x.Id || !keyB x.Sender then 5 else bif jY x.Kind 1 3 then 4 else bif rfG x==0 then (bif agV x then 1 else bif decide ((x.Areas.length:Int)>20)then 2 else bif arV x==0 then (bif cnV x then 3 else bif decide ((x.Text.size:Int)>500)then 2 else bif txG x then 3 else 0)else arV x)else rfG x
theorem Gq (x:Alert) (h:GB x):∀k r,x.Refs[k]? = some r->dS x k r ()=some (sQ (nY x.Id (kE x.Refs k) r)):=λk r hr=>by
 have hl:=h.rlen
 have hs:=h.refs r (List.mem_of_getElem? hr)
 unfold dS
 rw [BR r (by omega),CV (β:=Unit) hr (by omega) (λy_20=>some (sLe r y_20)) (λy=>sLe r y) (λ_=>rfl),ob_,ob_]
 unfold nY
 cases keyB r with
 | false=>rfl
 | true =>
  cases zo (λq=>sLe r q) (kE x.Refs k)with
  | true=>rfl
  | false=>cases sEq r x.Id <;> rfl
theorem G8 (x:Alert) (h:GB x):∀k r,x.Refs[k]? = some r->gK x k r ()=some (sQ (nY x.Id (kE x.Refs k) r)):=λk r hr=>by
 have hl:=h.rlen
 have hs:=h.refs r (List.mem_of_getElem? hr)
 unfold gK
 rw [yR r (by omega),CV (β:=Unit) hr (by omega) (λy_20=>some (sLe r y_20)) (λy=>sLe r y) (λ_=>rfl),ob_,ob_]
 unfold nY
 cases keyB r with
 | false=>rfl
 | true =>
  cases zo (λq=>sLe r q) (kE x.Refs k)with
  | true=>rfl
  | false=>cases sEq r x.Id <;> rfl
theorem alG_K {x:Alert} (h:GB x):fV x=some (alG x):=by
 have h1:=h.id
 have h2:=h.sender
 have h3:=h.at_
 have h4:=h.rlen
 have h5:=h.alen
 unfold Med at h3
 have hrf:gP x=some (rfG x):=by
  unfold gP rfG
  cases decide ((x.Refs.length:Int)>20)with
  | true=>rfl
  | false =>
  rw [cond_false,cond_false,ve (stp:=nY x.Id) (body:=λk r s=>dS x k r s) (by omega) (Gq x h)]
  unfold rfV fmV
  rcases nu (chA (nY x.Id) none x.Refs)with⟨e1,e2⟩|⟨e1,e2⟩
  ·rw [e2,e1]
   simp only [ob_,thenC]
   cases (!((x.Kind==1)==((x.Refs.length:Int)==0))) <;> rfl
  ·have:(chA (nY x.Id) none x.Refs==0)=false:=by simpa using e1
   rw [e2,this];rfl
 unfold fV alG
 rw [BR _ (by omega),BR _ (by omega),hrf,sG,E9,eT (n:=x.At+1) (by omega),eT (n:=x.At+2592000000) (by omega),sG,sG,(MO h).1]
 rw [ve (stp:=lD) (body:=λk r s=>eB k r s) (by omega) (Ie x)]
 have ek:(bif !keyB x.Id then some true else some (!keyB x.Sender))=some (!keyB x.Id || !keyB x.Sender):=by cases keyB x.Id <;> rfl
 have ea:((some (Cn x.At)).bind λr_19=>bif (!r_19)then some true else (some (jY x.Until (x.At+1) (x.At+2592000000))).bind λr_22=>bif r_22 then some true else (some (jY x.Weight 1 9)).bind λr_25=>some r_25)=some (agV x):=by
  unfold agV
  cases Cn x.At <;> cases jY x.Until (x.At+1) (x.At+2592000000) <;> rfl
 have et:((some (plG x.Text)).bind λr_47=>bif (!r_47)then some true else bif (sEq x.Text (⟨#[]⟩:ByteArray))then some (!(x.Kind==3))else some false)=some (txG x):=by
  unfold txG
  cases plG x.Text <;> cases sEq x.Text ⟨#[]⟩ <;> rfl
 have ec:(!((x.Kind==3)==((x.Areas.length:Int)==0)))=cnV x:=rfl
 rw [ea,et,ec]
 simp only [ob_]
 rw [ek]
 simp only [ob_]
 cases (!keyB x.Id || !keyB x.Sender)with
 | true=>rfl
 | false =>
 cases jY x.Kind 1 3 with
 | true=>rfl
 | false =>
 simp only [cond_false]
 cases hr:rfG x==0 with
 | false =>
  have:(rfG x != 0)=true:=by simp [bne,hr]
  simp only [cond_false,this,cond_true]
 | true =>
  have:(rfG x != 0)=false:=by simp [bne,hr]
  simp only [this,cond_true,cond_false]
  cases agV x with
  | true=>rfl
  | false =>
   simp only [cond_false]
   cases decide ((x.Areas.length:Int)>20)with
   | true=>rfl
   | false =>
   simp only [cond_false]
   unfold arV
   rcases nu (chA lD none x.Areas)with⟨e1,e2⟩|⟨e1,e2⟩
   ·rw [e2,e1]
    simp only [thenC]
    cases cnV x with
    | true=>rfl
    | false =>
     cases decide ((x.Text.size:Int)>500)with
     | true=>rfl
     | false=>cases txG x <;> rfl
   ·have:(chA lD none x.Areas==0)=false:=by simpa using e1
    rw [e2,this];rfl
theorem alG_R {x:Alert} (h:GB x):kz x=some (alG x):=by
 have h1:=h.id
 have h2:=h.sender
 have h3:=h.at_
 have h4:=h.rlen
 have h5:=h.alen
 unfold Med at h3
 have hm:oQ x.At=some (Cn x.At):=by unfold oQ Cn;rw [Gp];rfl
 unfold kz alG
 rw [yR _ (by omega),yR _ (by omega),hm,Gp,eT (n:=x.At+1) (by omega),eT (n:=x.At+2592000000) (by omega),Gp,Gp,(MO h).2]
 rw [ve (stp:=lD) (body:=λk r s=>gM k r s) (by omega) (Iz x),ve (stp:=nY x.Id) (body:=λk r s=>gK x k r s) (by omega) (G8 x h)]
 have ek:(bif !keyB x.Id then some true else some (!keyB x.Sender))=some (!keyB x.Id || !keyB x.Sender):=by cases keyB x.Id <;> rfl
 have ea:((some (Cn x.At)).bind λr_38=>bif (!r_38)then some true else (some (!jY x.Until (x.At+1) (x.At+2592000000))).bind λr_41=>bif (!r_41)then some true else (some (!jY x.Weight 1 9)).bind λr_44=>some (!r_44))=some (agV x):=by
  unfold agV
  cases Cn x.At <;> cases jY x.Until (x.At+1) (x.At+2592000000) <;> cases jY x.Weight 1 9 <;> rfl
 have et:((some (plG x.Text)).bind λr_66=>bif (!r_66)then some true else bif (sEq x.Text (⟨#[]⟩:ByteArray))then some (x.Kind != 3)else some false)=some (txG x):=by
  unfold txG
  cases plG x.Text <;> cases sEq x.Text ⟨#[]⟩ <;> rfl
 have ec:(!((x.Kind==3)==((x.Areas.length:Int)==0)))=cnV x:=rfl
 have ef:(!((x.Kind==1)==((x.Refs.length:Int)==0)))=fmV x:=rfl
 rw [ea,et,ec,ef]
 simp only [ob_]
 rw [ek]
 simp only [ob_]
 cases (!keyB x.Id || !keyB x.Sender)with
 | true=>rfl
 | false =>
 cases jY x.Kind 1 3 with
 | true=>rfl
 | false =>
 simp only [cond_false,Bool.not_false]
 unfold rfG
 cases decide ((x.Refs.length:Int)>20)with
 | true=>rfl
 | false =>
 simp only [cond_false]
 unfold rfV arV
 rcases nu (chA (nY x.Id) none x.Refs)with⟨e1,e2⟩|⟨e1,e2⟩
 ·rw [e2,e1]
  simp only [thenC]
  cases fmV x with
  | true=>rfl
  | false =>
   cases agV x with
   | true=>rfl
   | false =>
    simp only [cond_false]
    cases decide ((x.Areas.length:Int)>20)with
    | true=>rfl
    | false =>
    simp only [cond_false]
    rcases nu (chA lD none x.Areas)with⟨k1,k2⟩|⟨k1,k2⟩
    ·rw [k2,k1]
     simp only [thenC]
     cases cnV x with
     | true=>rfl
     | false =>
      cases decide ((x.Text.size:Int)>500)with
      | true=>rfl
      | false=>cases txG x <;> rfl
    ·have:(chA lD none x.Areas==0)=false:=by simpa using k1
     rw [k2,this];rfl
 ·have:(chA (nY x.Id) none x.Refs==0)=false:=by simpa using e1
  rw [e2,this]
  simp only [cond_false,this]
  rfl
end Go.Proofs.YtljhfffghjclfaaGreatDoor.Law

open Go Go.Eng
namespace Go.Proofs.YtljhfffghjclfaaGreatDoor.Law
set_option linter.unusedVariables false
set_option linter.unusedSimpArgs false
set_option maxRecDepth 100000
def GBs (l:List Alert):Prop:=(∀x∈l,GB x)/\l.length<=900000
noncomputable def xn (p:Option Alert) (x:Alert):Int:=bif alG x==0 then (bif zo (λy => !decide (befA y x)) p then 7 else 0)else alG x
noncomputable def vG (l:List Alert):Int:=bif decide ((l.length:Int)>300)then 2 else bif chA xn none l==0 then (bif Ao [] (l.map (·.Id))then 6 else 0)else chA xn none l
theorem J9 {a b:Alert} (ha:GB a) (hb:GB b):∃n,jr a b=some n/\(n<0↔befA a b):=by
 have h1:=ha.at_
 have h2:=hb.at_
 unfold Med at h1 h2
 unfold jr befA
 by_cases h:a.At=b.At
 ·have:(a.At != b.At)=false:=by simpa using h
  rw [this,cond_false,A7]
  refine⟨_,rfl,?_⟩
  rw [FI]
  exact⟨λq => .inr ⟨h,q⟩,λq=>by
   rcases q with q|q
   ·omega
   ·exact q.2⟩
 ·have:(a.At != b.At)=true:=by simpa using h
  rw [this,cond_true,eT (n:=a.At-b.At) (by omega)]
  unfold xe
  by_cases hn:a.At-b.At<0
  ·rw [decide_eq_true hn]
   exact⟨-1,rfl,⟨λ_ => .inl (by omega),λ_=>by decide⟩⟩
  ·rw [decide_eq_false hn,decide_eq_true (show a.At-b.At>0 by omega)]
   exact⟨1,rfl,⟨λq=>absurd q (by decide),λq=>by
    rcases q with q|q
    ·omega
    ·exact absurd q.1 h⟩⟩
theorem gK_body {l:List Alert} (h:GBs l):∀k x,l[k]? = some x->dH l k x ()=some (sQ (xn (kE l k) x)):=λk x hx=>by
 have hl:=h.2
 unfold dH xn
 rw [alG_K (h.1 x (List.mem_of_getElem? hx)),AL hx (by omega) (λy_20=>(je y_20 x).bind λr_22=>some (decide (r_22>=0))) (λy => !decide (befA y x)) (λy _=>by
  obtain ⟨n,n1,n2⟩:=FJ y x
  rw [n1,ob_,ge_of n2])]
 simp only [ob_]
 by_cases h0:alG x=0
 ·rw [h0]
  cases zo (λy => !decide (befA y x)) (kE l k) <;> rfl
 ·have e1:(alG x==0)=false:=by simpa using h0
  have e2:(alG x != 0)=true:=by simp [bne,e1]
  rw [e1,e2]
  unfold sQ
  rw [cond_false,e1];rfl
theorem gR_body {l:List Alert} (h:GBs l):∀k x,l[k]? = some x->fZ l k x ()=some (sQ (xn (kE l k) x)):=λk x hx=>by
 have hl:=h.2
 have hgx:=h.1 x (List.mem_of_getElem? hx)
 unfold fZ xn
 rw [alG_R hgx,AL hx (by omega) (λy_20=>(jr y_20 x).bind λr_22=>some (decide (r_22>=0))) (λy => !decide (befA y x)) (λy hy=>by
  obtain ⟨n,n1,n2⟩:=J9 (h.1 y hy) hgx
  rw [n1,ob_,ge_of n2])]
 simp only [ob_]
 by_cases h0:alG x=0
 ·rw [h0]
  cases zo (λy => !decide (befA y x)) (kE l k) <;> rfl
 ·have e1:(alG x==0)=false:=by simpa using h0
  have e2:(alG x != 0)=true:=by simp [bne,e1]
  rw [e1,e2]
  unfold sQ
  rw [cond_false,e1];rfl
theorem vG_K {l:List Alert} (h:GBs l):bS l=some (vG l):=by
 have hl:=h.2
 unfold bS vG
 cases decide ((l.length:Int)>300)with
 | true=>rfl
 | false =>
 rw [cond_false,cond_false,ve (stp:=xn) (body:=λk x s=>dH l k x s) (by omega) (gK_body h)]
 rcases nu (chA xn none l)with⟨e1,e2⟩|⟨e1,e2⟩
 ·rw [e2,e1]
  simp only [ob_,thenC]
  rw [fQ (by omega)]
  rcases JQ l 0 [] [] xc.nil with⟨d,s',f⟩|⟨d,f⟩
  ·rw [f,d];rfl
  ·rw [f,d];rfl
 ·have:(chA xn none l==0)=false:=by simpa using e1
  rw [e2,this];rfl
theorem vG_R {l:List Alert} (h:GBs l):gU l=some (vG l):=by
 have hl:=h.2
 unfold gU vG
 cases decide ((l.length:Int)>300)with
 | true=>rfl
 | false =>
 rw [cond_false,cond_false,ve (stp:=xn) (body:=λk x s=>fZ l k x s) (by omega) (gR_body h)]
 rcases nu (chA xn none l)with⟨e1,e2⟩|⟨e1,e2⟩
 ·rw [e2,e1]
  simp only [ob_,thenC]
  rw [fQ (by omega)]
  obtain ⟨s',f,g,_⟩:=I8 l 0 [] [] xc.nil
  rw [f]
  simp only [ob_,thenC]
  cases hd:Ao [] (l.map (·.Id))with
  | true =>
   rw [hd,if_pos rfl]at g
   simp only [List.length_nil,Nat.zero_add]at g
   rw [decide_eq_true (by omega)];rfl
  | false =>
   rw [hd,if_neg (by decide)]at g
   simp only [List.length_nil,Nat.zero_add]at g
   rw [decide_eq_false (by omega)];rfl
 ·have:(chA xn none l==0)=false:=by simpa using e1
  rw [e2,this];rfl
end Go.Proofs.YtljhfffghjclfaaGreatDoor.Law

open Go Go.Eng
namespace Go.Proofs.YtljhfffghjclfaaGreatDoor.Law
set_option linter.unusedVariables false
set_option linter.unusedSimpArgs false
set_option maxRecDepth 100000
theorem xE {s:ByteArray} (h:ShA s):s.data.toList.length<=1000:=by rw [<- Go.Lib.size_eq];exact h
theorem uZ:∀(l:List ByteArray),(∀r∈l,ShA r)->(qy l).length<=l.length*1005
 | [],_=>by simp [qy]
 | r::l,h=>by
  have:=xE (h r (by simp))
  have:=uZ l (λa ha=>h a (List.mem_cons_of_mem _ ha))
  simp only [qy,List.length_append,List.length_cons,List.length_nil,Nat.add_mul]
  omega
theorem Dq:∀(l:List ByteArray) (k:Nat) (out:List UInt8),(∀r∈l,ShA r)->out.length+l.length*2000<=1000000->forR (λk x s=>gL k x s) l k (SB out)=some (.go (SB (out++qy l)))
 | [],k,out,_,_=>by simp [forR,qy]
 | r::l,k,out,h,hl=>by
  have hr:=xE (h r (by simp))
  simp only [List.length_cons,Nat.add_mul]at hl
  have e0:r=SB r.data.toList:=rfl
  have hs:gL k r (SB out)=some (.go (SB (out++([114,101,102,32]++r.data.toList++[10])))):=by
   unfold gL
   have c1:eH (⟨#[114,101,102,32]⟩:ByteArray) r=some (SB ([114,101,102,32]++r.data.toList)):=iP [114,101,102,32] r.data.toList (by simp only [List.length_append,List.length_cons,List.length_nil];omega)
   have c2:eH (SB ([114,101,102,32]++r.data.toList)) (⟨#[10]⟩:ByteArray)=some (SB ([114,101,102,32]++r.data.toList++[10])):=iP _ [10] (by simp only [List.length_append,List.length_cons,List.length_nil];omega)
   have c3:=iP out ([114,101,102,32]++r.data.toList++[10]) (by simp only [List.length_append,List.length_cons,List.length_nil];omega)
   simp only [c1,c2,c3,ob_]
  simp only [forR,hs,ob_]
  rw [Dq l (k+1) _ (λa ha=>h a (List.mem_cons_of_mem _ ha)) (by simp only [List.length_append,List.length_cons,List.length_nil];omega)]
  simp [qy]
theorem medR {r:Rect} (h:Fine r):∀n∈numR r,Med n:=λn hn=>by
 obtain ⟨h1,h2,h3,h4,h5⟩:=h
 simp only [numR,List.mem_cons,List.not_mem_nil,or_false]at hn
 unfold Med
 rcases hn with rfl|rfl|rfl|rfl <;> omega
theorem rW:∀(l:List Rect),(∀r∈l,Fine r)->(mW l).length<=l.length*100
 | [],_=>by simp [mW]
 | r::l,h=>by
  have:=qX (numR r) (medR (h r (by simp)))
  have hn:(numR r).length=4:=rfl
  have:=rW l (λa ha=>h a (List.mem_cons_of_mem _ ha))
  simp only [mW,List.length_append,List.length_cons,List.length_nil,Nat.add_mul]
  omega
theorem Bn:∀(l:List Rect) (k:Nat) (out:List UInt8),(∀r∈l,Fine r)->out.length+l.length*2000<=1000000->forR (λk x s=>gJ k x s) l k (SB out)=some (.go (SB (out++mW l)))
 | [],k,out,_,_=>by simp [forR,mW]
 | r::l,k,out,h,hl=>by
  have hm:=medR (h r (by simp))
  have hr:=qX (numR r) hm
  have hn:(numR r).length=4:=rfl
  simp only [List.length_cons,Nat.add_mul]at hl
  have hnum:kG [r.X,r.Y,r.W,r.H]=some (SB (Go.Lib.join ((numR r).map Go.Lib.itoa) [32])):=Bp (numR r) hm (by omega)
  have hs:gJ k r (SB out)=some (.go (SB (out++([97,114,101,97,32]++Go.Lib.join ((numR r).map Go.Lib.itoa) [32]++[10])))):=by
   unfold gJ
   have c1:eH (⟨#[97,114,101,97,32]⟩:ByteArray) (SB (Go.Lib.join ((numR r).map Go.Lib.itoa) [32]))=some (SB ([97,114,101,97,32]++Go.Lib.join ((numR r).map Go.Lib.itoa) [32])):=iP [97,114,101,97,32] _ (by simp only [List.length_cons,List.length_nil];omega)
   have c2:eH (SB ([97,114,101,97,32]++Go.Lib.join ((numR r).map Go.Lib.itoa) [32])) (⟨#[10]⟩:ByteArray)=some (SB ([97,114,101,97,32]++Go.Lib.join ((numR r).map Go.Lib.itoa) [32]++[10])):=iP _ [10] (by simp only [List.length_append,List.length_cons,List.length_nil];omega)
   have c3:=iP out ([97,114,101,97,32]++Go.Lib.join ((numR r).map Go.Lib.itoa) [32]++[10]) (by simp only [List.length_append,List.length_cons,List.length_nil];omega)
   simp only [hnum,c1,c2,c3,ob_]
  simp only [forR,hs,ob_]
  rw [Bn l (k+1) _ (λa ha=>h a (List.mem_cons_of_mem _ ha)) (by simp only [List.length_append,List.length_cons,List.length_nil];omega)]
  simp [mW]
structure FitB (x:Alert):Prop where
 id:ShA x.Id
 sender:ShA x.Sender
 kind:1<=x.Kind/\x.Kind<=3
 refs:∀r∈x.Refs,ShA r
 rlen:x.Refs.length<=20
 areas:∀r∈x.Areas,Fine r
 alen:x.Areas.length<=20
 nums:∀n∈([x.At,x.Until,x.Weight]:List Int),Med n
 tlen:x.Text.size<=500
theorem ED {s:ByteArray} (h:keyB s=true):s.size<=40:=by
 unfold keyB at h
 simp only [Bool.and_eq_true,decide_eq_true_eq]at h
 omega
theorem JA {x:Alert} (h0:alG x=0):FitB x/\plG x.Text=true/\RF x/\(∀r∈x.Areas,zB r=false):=by
 unfold alG at h0
 cases e1:(!keyB x.Id || !keyB x.Sender)with
 | true=>rw [e1]at h0;cases h0
 | false =>
 rw [e1,cond_false]at h0
 cases e2:jY x.Kind 1 3 with
 | true=>rw [e2]at h0;cases h0
 | false =>
 rw [e2,cond_false]at h0
 cases e3:rfG x==0 with
 | false=>rw [e3,cond_false]at h0;rw [h0]at e3;exact absurd e3 (by decide)
 | true =>
 rw [e3,cond_true]at h0
 cases e5:agV x with
 | true=>rw [e5]at h0;cases h0
 | false =>
 rw [e5,cond_false]at h0
 cases e6:decide ((x.Areas.length:Int)>20)with
 | true=>rw [e6]at h0;cases h0
 | false =>
 rw [e6,cond_false]at h0
 cases e7:arV x==0 with
 | false=>rw [e7,cond_false]at h0;rw [h0]at e7;exact absurd e7 (by decide)
 | true =>
 rw [e7,cond_true]at h0
 cases e8:cnV x with
 | true=>rw [e8]at h0;cases h0
 | false =>
 rw [e8,cond_false]at h0
 cases e9:decide ((x.Text.size:Int)>500)with
 | true=>rw [e9]at h0;cases h0
 | false =>
 rw [e9,cond_false]at h0
 cases e10:txG x with
 | true=>rw [e10]at h0;cases h0
 | false =>
 unfold rfG at e3
 cases e4:decide ((x.Refs.length:Int)>20)with
 | true=>rw [e4]at e3;cases e3
 | false =>
 rw [e4,cond_false]at e3
 cases e11:rfV x==0 with
 | false=>rw [e11,cond_false]at e3;rw [e3]at e11;cases e11
 | true =>
 simp only [Bool.or_eq_false_iff,Bool.not_eq_false']at e1
 unfold agV at e5
 simp only [Bool.or_eq_false_iff,Bool.not_eq_false']at e5
 unfold txG at e10
 simp only [Bool.or_eq_false_iff,Bool.not_eq_false']at e10
 simp only [decide_eq_false_iff_not]at e4 e6 e9
 have hb:∀{n lo hi:Int},jY n lo hi=false->lo<=n/\n<=hi:=λh=>by
  simp only [jY,Bool.or_eq_false_iff,decide_eq_false_iff_not]at h;omega
 have hAt:=e5.1
 unfold Cn at hAt
 have hAt:=hb (show jY x.At 0 345686399999=false by simpa using hAt)
 have hUn:=hb e5.2.1
 have hWe:=hb e5.2.2
 have hrk:∀r∈x.Refs,keyB r=true:=λr hr=>by
  obtain ⟨i,hi,rfl⟩:=List.getElem_of_mem hr
  obtain ⟨q,q1,_⟩:=JJ (eq_of_beq e11) i _ (List.getElem?_eq_getElem hi)
  unfold nY at q1
  cases hk:keyB x.Refs[i]with
  | true=>rfl
  | false=>rw [hk]at q1;cases q1
 have har:∀r∈x.Areas,zB r=false:=λr hr=>by
  obtain ⟨i,hi,rfl⟩:=List.getElem_of_mem hr
  obtain ⟨q,q1,_⟩:=JJ (eq_of_beq e7) i _ (List.getElem?_eq_getElem hi)
  unfold lD at q1
  cases hk:zB x.Areas[i]with
  | false=>rfl
  | true=>rw [hk]at q1;cases q1
 refine⟨⟨?_,?_,hb e2,λr hr => ?_,by omega,λr hr=>KJ (har r hr),by omega,λn hn => ?_,by omega⟩,e10.1,⟨e1.1,e1.2,hb e2,hrk,hWe⟩,har⟩
 ·have:=ED e1.1;unfold ShA;omega
 ·have:=ED e1.2;unfold ShA;omega
 ·have:=ED (hrk r hr);unfold ShA;omega
 ·simp only [List.mem_cons,List.not_mem_nil,or_false]at hn
  unfold Med
  rcases hn with rfl|rfl|rfl <;> omega
theorem yl {x:Alert} (h:FitB x):(qL x).length<=30000:=by
 have l1:=xE h.id
 have l2:=xE h.sender
 have hnl:=qX [x.At,x.Until,x.Weight] h.nums
 simp only [List.length_cons,List.length_nil]at hnl
 have hk:x.Kind=1\/x.Kind=2\/x.Kind=3:=by have:=h.kind;omega
 have hwl:(vQ x.Kind).length<=6:=by
  rcases hk with e|e|e <;> rw [e] <;> decide
 have hR:=uZ x.Refs h.refs
 have hA:=rW x.Areas h.areas
 have b1:=h.rlen
 have b2:=h.alen
 have lt':x.Text.data.toList.length<=500:=by rw [<- Go.Lib.size_eq];exact h.tlen
 have ht:(CQ x.Text).length<=506:=by
  unfold CQ
  split
  ·simp
  ·simp only [List.length_append,List.length_cons,List.length_nil];omega
 unfold qL lC
 simp only [List.length_append,List.length_cons,List.length_nil];omega
theorem Ku {x:Alert} (hg:FitB x) (k:Nat) (out:List UInt8) (ho:out.length<=900000):gH k x (SB out)=some (.go (SB (out++qL x))):=by
 have f3:=hg.areas
 have l1:=xE hg.id
 have l2:=xE hg.sender
 have l3:=hg.tlen
 have hk:x.Kind=1\/x.Kind=2\/x.Kind=3:=by have:=hg.kind;omega
 have hm:=hg.nums
 have hnum:=Bp [x.At,x.Until,x.Weight] hm (by simp)
 have hnl:=qX [x.At,x.Until,x.Weight] hm
 simp only [List.length_cons,List.length_nil]at hnl
 have hw:idx ([(⟨#[]⟩:ByteArray),(⟨#[110,101,119]⟩:ByteArray),(⟨#[117,112,100,97,116,101]⟩:ByteArray),(⟨#[99,97,110,99,101,108]⟩:ByteArray)]:List ByteArray) x.Kind=some (SB (vQ x.Kind)):=by
  rcases hk with e|e|e <;> rw [e] <;> rfl
 have hwl:(vQ x.Kind).length<=6:=by
  rcases hk with e|e|e <;> rw [e] <;> decide
 have hR:=uZ x.Refs hg.refs
 have hA:=rW x.Areas f3
 have b1:=hg.rlen
 have b2:=hg.alen
 have e1:x.Id=SB x.Id.data.toList:=rfl
 have c1:eH (⟨#[97,108,101,114,116,32]⟩:ByteArray) x.Id=some (SB ([97,108,101,114,116,32]++x.Id.data.toList)):=iP [97,108,101,114,116,32] x.Id.data.toList (by simp only [List.length_cons,List.length_nil];omega)
 have c2:∀l:List UInt8,l.length<=100000->eH (SB l) (⟨#[32]⟩:ByteArray)=some (SB (l++[32])):=λl hl=>iP l [32] (by simp only [List.length_cons,List.length_nil];omega)
 have c3:∀l:List UInt8,l.length<=100000->eH (SB l) x.Sender=some (SB (l++x.Sender.data.toList)):=λl hl=>iP l x.Sender.data.toList (by omega)
 have c4:∀l:List UInt8,l.length<=100000->eH (SB l) (⟨#[10]⟩:ByteArray)=some (SB (l++[10])):=λl hl=>iP l [10] (by simp only [List.length_cons,List.length_nil];omega)
 have c5:∀l m:List UInt8,l.length<=100000->m.length<=100000->eH (SB l) (SB m)=some (SB (l++m)):=λl m hl hm=>iP l m (by omega)
 have hh:(lC x).length<=3000:=by unfold lC;simp only [List.length_append,List.length_cons,List.length_nil];omega
 have c6:eH (SB out) (SB (lC x))=some (SB (out++lC x)):=iP out (lC x) (by omega)
 have c7:∀l m:List UInt8,l.length<=1000000->m.length<=100000->eH (SB l) (SB m)=some (SB (l++m)):=λl m hl hm=>iP l m (by omega)
 unfold gH iG
 rw [c1,ob_,c2 _ (by simp only [List.length_append,List.length_cons,List.length_nil];omega),ob_,c3 _ (by simp only [List.length_append,List.length_cons,List.length_nil];omega),ob_,c2 _ (by simp only [List.length_append,List.length_cons,List.length_nil];omega),ob_,ob_,hw,ob_,
  c5 _ _ (by simp only [List.length_append,List.length_cons,List.length_nil];omega) (by omega),ob_,c2 _ (by simp only [List.length_append,List.length_cons,List.length_nil];omega),ob_,hnum,ob_,c5 _ _ (by simp only [List.length_append,List.length_cons,List.length_nil];omega) (by omega),ob_,
  c4 _ (by simp only [List.length_append,List.length_cons,List.length_nil];omega),ob_]
 have c6':=c6
 unfold lC at c6'
 rw [c6',ob_]
 have hfold:([97,108,101,114,116,32]++x.Id.data.toList++[32]++x.Sender.data.toList++[32]++vQ x.Kind++[32]++Go.Lib.join (([x.At,x.Until,x.Weight]:List Int).map Go.Lib.itoa) [32]++[10])=lC x:=rfl
 rw [hfold,fQ (by omega),Dq x.Refs 0 (out++lC x) hg.refs (by simp only [List.length_append];omega),ob_,pq,fQ (by omega),Bn x.Areas 0 _ f3 (by simp only [List.length_append];omega),ob_,pq]
 unfold qL CQ
 by_cases ht:x.Text=⟨#[]⟩
 ·have e:sNe x.Text (⟨#[]⟩:ByteArray)=false:=by rw [vw];simp [ht]
  rw [e,cond_false,if_pos ht,List.append_nil,List.append_assoc,List.append_assoc,<- List.append_assoc (lC x)];rfl
 ·have e:sNe x.Text (⟨#[]⟩:ByteArray)=true:=by rw [vw];simp [ht]
  have lt':x.Text.data.toList.length<=500:=by rw [<- Go.Lib.size_eq];exact l3
  have d1:eH (⟨#[116,101,120,116,32]⟩:ByteArray) x.Text=some (SB ([116,101,120,116,32]++x.Text.data.toList)):=iP [116,101,120,116,32] x.Text.data.toList (by simp only [List.length_cons,List.length_nil];omega)
  rw [e,cond_true,if_neg ht,d1,ob_,c4 _ (by simp only [List.length_append,List.length_cons,List.length_nil];omega),ob_,c7 _ _ (by simp only [List.length_append];omega) (by simp only [List.length_append,List.length_cons,List.length_nil];omega),ob_]
  simp only [ob_,List.append_assoc]
def kX (l:List Alert):List UInt8:=l.flatMap qL
theorem DL:∀(l:List Alert) (k:Nat) (out:List UInt8),(∀x∈l,FitB x)->out.length+l.length*30000<=900000->forR (λk x s=>gH k x s) l k (SB out)=some (.go (SB (out++kX l)))
 | [],k,out,_,_=>by simp [forR,kX]
 | x::l,k,out,h,hl=>by
  have hx:=h x (by simp)
  have:=yl hx
  simp only [List.length_cons,Nat.add_mul]at hl
  rw [forR,Ku hx k out (by omega),ob_]
  simp only []
  rw [DL l (k+1) (out++qL x) (λy hy=>h y (by simp [hy])) (by simp only [List.length_append];omega)]
  simp [kX]
theorem yI {l:List Alert} (h:∀x∈l,FitB x) (hl:l.length<=30):fF l=some (SB (kX l)):=by
 unfold fF
 have:=DL l 0 [] h (by simp only [List.length_nil];omega)
 rw [fQ (by omega),show (⟨#[]⟩:ByteArray)=SB [] from rfl,this]
 rfl
theorem MI {a:Alert} (h:FitB a):iy a a=some true:=by
 unfold iy
 rw [yI (l:=[a]) (λx hx=>by rw [List.mem_singleton.1 hx];exact h) (by simp),ob_,ob_,(ig _ _).2 rfl]
end Go.Proofs.YtljhfffghjclfaaGreatDoor.Law

