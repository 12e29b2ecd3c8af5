/-
  THE PLAIN LAW (part 4).
-/
import Derived.Test.YtpmokglbipebcaaGreatDoorPl3
import Derived.Test.YtpmokglbipebcaaGreatDoorDefs
open Go Go.Eng
namespace Go.Proofs.YtpmokglbipebcaaGreatDoor.Law
set_option linter.unusedVariables false
set_option linter.unusedSimpArgs false
instance (a b:Alert):Decidable (lt a.Id b.Id):=by unfold lt;exact inferInstance
instance (a b:Alert):Decidable (befA a b):=by unfold befA;exact inferInstance
instance (v:ByteArray) (l:List ByteArray):Decidable (v∈l):=decidable_of_iff (l.any (λx=>decide (v=x))=true) (by simp)
end Go.Proofs.YtpmokglbipebcaaGreatDoor.Law

open Go Go.Eng
namespace Go.Proofs.YtpmokglbipebcaaGreatDoor.Law
set_option linter.unusedVariables false
set_option linter.unusedSimpArgs false
structure CA (l:List Alert):Prop where
 ids:(l.map (·.Id)).Nodup
 len:l.length<=12
 refs:∀x∈l,x.Refs.length<=1000
 alen:∀x∈l,x.Areas.length<=1000
 areas:∀x∈l,∀r∈x.Areas,Fine r
 at_:∀x∈l,0<=x.At/\x.At<=1000000000000
 until_:∀x∈l,0<=x.Until/\x.Until<=2000000000000
theorem xn (a b:Alert):∃n,fK a b=some n/\(n<0↔befA a b):=by
 refine⟨_,by simp only [fK,ym,Gr,or2_eq,ob_];rfl,?_⟩
 rw [or0_neg,IM,Gp,DY];rfl
end Go.Proofs.YtpmokglbipebcaaGreatDoor.Law

open Go Go.Eng
namespace Go.Proofs.YtpmokglbipebcaaGreatDoor.Law
set_option linter.unusedVariables false
set_option linter.unusedSimpArgs false
set_option maxRecDepth 100000
def chA {α:Type} (stp:Option α->α->Int):Option α->List α->Int
 | _,[]=>0
 | p,x::l=>bif stp p x==0 then chA stp (some x) l else stp p x
def jP {α:Type} (l:List α) (k:Nat):Option α:=if k=0 then none else l[k-1]?
theorem Dz {α:Type} {stp:Option α->α->Int} {body:Nat->α->Unit->Option (Ctl Unit Int)} (l:List α):∀(xs:List α) (k:Nat),l.drop k=xs->(∀k x,l[k]? = some x->body k x ()=some (qy (stp (jP l k) x)))->forR body xs k ()=some (qy (chA stp (jP l k) xs))
 | [],k,_,_=>rfl
 | x::xs,k,hd,h=>by
  have hx:=yS hd
  have hp:jP l (k+1)=some x:=by unfold jP;rw [if_neg (by omega)];exact hx
  rw [forR,h k x hx,ob_,chA]
  cases hs:stp (jP l k) x==0 with
  | true =>
   have e:qy (stp (jP l k) x) = .go ():=by unfold qy;rw [hs];rfl
   rw [e,cond_true,<- hp]
   exact Dz l xs (k+1) (aY hd) h
  | false =>
   have e:qy (stp (jP l k) x) = .ret (stp (jP l k) x):=by unfold qy;rw [hs];rfl
   rw [e,cond_false,e]
theorem su {α:Type} {stp:Option α->α->Int} {body:Nat->α->Unit->Option (Ctl Unit Int)} {l:List α} (hl:l.length<=1000000) (h:∀k x,l[k]? = some x->body k x ()=some (qy (stp (jP l k) x))):forL l () body=some (qy (chA stp none l)):=by
 rw [fZ (by omega)]
 exact Dz l l 0 rfl h
theorem DU {α:Type} {stp:Option α->α->Int}:∀{l:List α} {p:Option α},chA stp p l=0->∀(i:Nat) (x:α),l[i]? = some x->∃q,stp q x=0/\(i=0->q=p)/\(0<i->q=l[i-1]?)
 | [],p,_,i,x,hx=>by simp at hx
 | y::l,p,h,i,x,hx=>by
  rw [chA]at h
  cases hs:stp p y==0 with
  | false=>rw [hs,cond_false]at h;rw [h]at hs;exact absurd hs (by decide)
  | true =>
   rw [hs,cond_true]at h
   cases i with
   | zero =>
    rw [List.getElem?_cons_zero,so_]at hx
    exact⟨p,by rw [<- hx];exact eq_of_beq hs,λ_=>rfl,λh=>absurd h (Nat.lt_irrefl _)⟩
   | succ i =>
    rw [List.getElem?_cons_succ]at hx
    obtain ⟨q,q1,q2,q3⟩:=DU h i x hx
    refine⟨q,q1,λh=>absurd h (by omega),λ_ => ?_⟩
    cases i with
    | zero=>rw [q2 rfl];rfl
    | succ i=>rw [q3 (by omega)];simp
theorem mf (e:Int):(e=0/\qy e = .go ())\/(e≠0/\qy e = .ret e):=by
 unfold qy
 by_cases h:e=0
 ·subst h;exact .inl ⟨rfl,rfl⟩
 ·have:(e==0)=false:=by simpa using h
  rw [this];exact .inr ⟨h,rfl⟩
theorem Gn (n:Nat):mX (n:Int)=some (decide ((n:Int)<32)||((n:Int)==127)):=by
 unfold mX
 cases decide ((n:Int)<32) <;> rfl
def runeB (n:Nat):Bool:=decide ((n:Int)<32)||((n:Int)==127)
theorem iY (s:ByteArray) {t:ByteArray} {v c k r:Bool} (h1:eO s=some v) (h2:decide (0<=Lib.idxFunc runeB true s)=c) (h3:mF s ⟨#[32]⟩=some t) (h4:strings_Contains s ⟨#[32,32]⟩=some k) (h5:(v&&(!c&&(sEq t s && !k)))=r):nV s=some r:=by
 subst h5
 unfold nV ig
 rw [h1,zZ (p:=runeB) (λn=>Gn n),h2,qQ _ _ _ h3,h4]
 cases v with
 | false=>rfl
 | true =>
  cases c with
  | true=>rfl
  | false =>
   simp only [ob_,cond_true,Bool.not_false]
   cases sEq t s <;> rfl
def kX (s:ByteArray):Bool:=decide (s=⟨#[]⟩)||(decide (s=overS)||(decide (s=floodS)||decide (s=mallS)))
theorem Ao:∀s∈txtL,jR s=some (kX s)/\nV s=some (kX s):=by
 intro s hs
 unfold txtL at hs
 simp only [List.mem_cons,List.not_mem_nil,or_false]at hs
 rcases hs with rfl|rfl|rfl|rfl|rfl|rfl|rfl|rfl
 ·exact⟨eH _ _ (show eQ ⟨#[]⟩=some (kX ⟨#[]⟩) by kernel_rfl),iY ⟨#[]⟩ (v:=true) (c:=false) (t:=⟨#[]⟩) (k:=false) (by kernel_rfl) (by kernel_rfl) (by kernel_rfl) (by kernel_rfl) (by kernel_rfl)⟩
 ·exact⟨eH _ _ (show eQ overS=some (kX overS) by kernel_rfl),iY overS (v:=true) (c:=false) (t:=overS) (k:=false) (by kernel_rfl) (by kernel_rfl) (by kernel_rfl) (by kernel_rfl) (by kernel_rfl)⟩
 ·exact⟨eH _ _ (show eQ floodS=some (kX floodS) by kernel_rfl),iY floodS (v:=true) (c:=false) (t:=floodS) (k:=false) (by kernel_rfl) (by kernel_rfl) (by kernel_rfl) (by kernel_rfl) (by kernel_rfl)⟩
 ·exact⟨eH _ _ (show eQ mallS=some (kX mallS) by kernel_rfl),iY mallS (v:=true) (c:=false) (t:=mallS) (k:=false) (by kernel_rfl) (by kernel_rfl) (by kernel_rfl) (by kernel_rfl) (by kernel_rfl)⟩
 ·exact⟨eH _ _ (show eQ ⟨#[32,120]⟩=some (kX ⟨#[32,120]⟩) by kernel_rfl),iY ⟨#[32,120]⟩ (v:=true) (c:=false) (t:=⟨#[120]⟩) (k:=false) (by kernel_rfl) (by kernel_rfl) (by kernel_rfl) (by kernel_rfl) (by kernel_rfl)⟩
 ·exact⟨eH _ _ (show eQ ⟨#[97,32,32,98]⟩=some (kX ⟨#[97,32,32,98]⟩) by kernel_rfl),iY ⟨#[97,32,32,98]⟩ (v:=true) (c:=false) (t:=⟨#[97,32,32,98]⟩) (k:=true) (by kernel_rfl) (by kernel_rfl) (by kernel_rfl) (by kernel_rfl) (by kernel_rfl)⟩
 ·exact⟨eH _ _ (show eQ ⟨#[10]⟩=some (kX ⟨#[10]⟩) by kernel_rfl),iY ⟨#[10]⟩ (v:=true) (c:=true) (t:=⟨#[10]⟩) (k:=false) (by kernel_rfl) (by kernel_rfl) (by kernel_rfl) (by kernel_rfl) (by kernel_rfl)⟩
 ·exact⟨eH _ _ (show eQ ⟨#[255]⟩=some (kX ⟨#[255]⟩) by kernel_rfl),iY ⟨#[255]⟩ (v:=false) (c:=false) (t:=⟨#[255]⟩) (k:=false) (by kernel_rfl) (by kernel_rfl) (by kernel_rfl) (by kernel_rfl) (by kernel_rfl)⟩
theorem zG:∀s∈txtL,s.size<=16:=by
 intro s hs
 unfold txtL at hs
 simp only [List.mem_cons,List.not_mem_nil,or_false]at hs
 rcases hs with rfl|rfl|rfl|rfl|rfl|rfl|rfl|rfl <;> decide
def w9 {α:Type} (f:α->Bool):Option α->Bool
 | some y=>f y
 | none=>false
def nu (id:ByteArray) (p:Option ByteArray) (r:ByteArray):Int:=bif !keyB r then 5 else bif w9 (λq=>sLe r q) p then 7 else bif sEq r id then 14 else 0
def kS (_:Option Rect) (r:Rect):Int:=bif zL r then 1 else 0
theorem Ba {α β:Type} {l:List α} {k:Nat} {x:α} (h:l[k]? = some x) (hl:l.length<=1000000) (g:α->Option Bool) (f:α->Bool) (hg:∀y,g y=some (f y)):(bif (decide ((k:Int)>0))then (idx l (w64 ((k:Int)-1))).bind g else some false)=some (w9 f (jP l k)):=by
 rcases Nat.eq_zero_or_pos k with h0|h0
 ·subst h0
  rw [decide_eq_false (by omega)];rfl
 ·obtain ⟨y,q1,q2⟩:=CG h h0 (by omega)
  rw [decide_eq_true (by omega),cond_true,q1,ob_,hg]
  unfold jP
  rw [if_neg (by omega),q2];rfl
theorem ET (x:Alert) (h:GA x):∀k r,x.Refs[k]? = some r->dP x k r ()=some (qy (nu x.Id (jP x.Refs k) r)):=λk r hr=>by
 have hl:=h.rlen
 have hs:=h.refs r (List.mem_of_getElem? hr)
 unfold ShA at hs
 unfold dP
 rw [yH r (by omega),Ba (β:=Unit) hr (by omega) (λy_20=>some (sLe r y_20)) (λy=>sLe r y) (λ_=>rfl),ob_,ob_]
 unfold nu
 cases keyB r with
 | false=>rfl
 | true =>
  cases w9 (λq=>sLe r q) (jP x.Refs k)with
  | true=>rfl
  | false=>cases sEq r x.Id <;> rfl
theorem EA (x:Alert) (h:GA x):∀k r,x.Refs[k]? = some r->gy x k r ()=some (qy (nu x.Id (jP x.Refs k) r)):=λk r hr=>by
 have hl:=h.rlen
 have hs:=h.refs r (List.mem_of_getElem? hr)
 unfold ShA at hs
 unfold gy
 rw [wo r (by omega),Ba (β:=Unit) hr (by omega) (λy_20=>some (sLe r y_20)) (λy=>sLe r y) (λ_=>rfl),ob_,ob_]
 unfold nu
 cases keyB r with
 | false=>rfl
 | true =>
  cases w9 (λq=>sLe r q) (jP x.Refs k)with
  | true=>rfl
  | false=>cases sEq r x.Id <;> rfl
theorem EW (x:Alert):∀k r,x.Areas[k]? = some r->eB k r ()=some (qy (kS (jP x.Areas k) r)):=λk r hr=>by
 unfold eB kS
 rw [Bc]
 cases zL r <;> rfl
theorem Ew (x:Alert):∀k r,x.Areas[k]? = some r->gu k r ()=some (qy (kS (jP x.Areas k) r)):=λk r hr=>by
 unfold gu kS
 rw [Cf]
 cases zL r <;> rfl
def rfV (x:Alert):Int:=chA (nu x.Id) none x.Refs
def arV (x:Alert):Int:=chA kS none x.Areas
def fmV (x:Alert):Bool := !((x.Kind==1)==((x.Refs.length:Int)==0))
def agV (x:Alert):Bool := !xM x.At||(jl x.Until (x.At+1) (x.At+2592000000)||jl x.Weight 1 9)
def txV (x:Alert):Bool := !kX x.Text||(sEq x.Text ⟨#[]⟩ && !(x.Kind==3))
def cnV (x:Alert):Bool := !((x.Kind==3)==((x.Areas.length:Int)==0))
def alF (x:Alert):Int:=bif !keyB x.Id || !keyB x.Sender then 5 else bif jl x.Kind 1 3 then 4 else bif rfV x==0 then (bif fmV x then 3 else bif agV x then 1 else bif arV x==0 then (bif cnV x then 3 else bif txV x then 3 else 0)else arV x)else rfV x
theorem alF_K {x:Alert} (h:GA x):fI x=some (alF x):=by
 have h1:=h.id
 have h2:=h.sender
 have h3:=h.at_
 have h4:=h.rlen
 have h5:=h.alen
 have h6:=zG _ h.text
 unfold ShA at h1 h2
 have hrf:gH x=some (bif rfV x==0 then (bif fmV x then 3 else 0)else rfV x):=by
  unfold gH
  rw [decide_eq_false (by omega),cond_false,su (stp:=nu x.Id) (body:=λk r s=>dP x k r s) (by omega) (ET x h)]
  unfold rfV fmV
  rcases mf (chA (nu x.Id) none x.Refs)with⟨e1,e2⟩|⟨e1,e2⟩
  ·rw [e2,e1]
   simp only [ob_,thenC]
   cases (!((x.Kind==1)==((x.Refs.length:Int)==0))) <;> rfl
  ·have:(chA (nu x.Id) none x.Refs==0)=false:=by simpa using e1
   rw [e2,this];rfl
 unfold fI alF
 rw [yH _ (by omega),yH _ (by omega),hrf,qE,Cu,fE (n:=x.At+1) (by omega),fE (n:=x.At+2592000000) (by omega),qE,qE,(Ao _ h.text).1,decide_eq_false (show ¬(x.Areas.length:Int)>20 by omega),decide_eq_false (show ¬(x.Text.size:Int)>500 by omega)]
 rw [su (stp:=kS) (body:=λk r s=>eB k r s) (by omega) (EW x)]
 have ek:(bif !keyB x.Id then some true else some (!keyB x.Sender))=some (!keyB x.Id || !keyB x.Sender):=by cases keyB x.Id <;> rfl
 have ea:((some (xM x.At)).bind λr_19=>bif (!r_19)then some true else (some (jl x.Until (x.At+1) (x.At+2592000000))).bind λr_22=>bif r_22 then some true else (some (jl x.Weight 1 9)).bind λr_25=>some r_25)=some (agV x):=by
  unfold agV
  cases xM x.At <;> cases jl x.Until (x.At+1) (x.At+2592000000) <;> rfl
 have et:((some (kX x.Text)).bind λr_47=>bif (!r_47)then some true else bif (sEq x.Text (⟨#[]⟩:ByteArray))then some (!(x.Kind==3))else some false)=some (txV x):=by
  unfold txV
  cases kX x.Text <;> cases sEq x.Text ⟨#[]⟩ <;> rfl
 have ec:(!((x.Kind==3)==((x.Areas.length:Int)==0)))=cnV x:=rfl
 rw [ea,et,ec]
 simp only [ob_]
 rw [ek]
 simp only [ob_]
 cases (!keyB x.Id || !keyB x.Sender)with
 | true=>rfl
 | false =>
 cases jl x.Kind 1 3 with
 | true=>rfl
 | false =>
 simp only [cond_false]
 cases hr:rfV x==0 with
 | false =>
  have:(rfV x != 0)=true:=by simp [bne,hr]
  simp only [cond_false,this,cond_true]
 | true =>
  simp only [cond_true]
  cases fmV x with
  | true=>rfl
  | false =>
   cases agV x with
   | true=>rfl
   | false =>
    simp only [cond_false,bne_self_eq_false]
    unfold arV
    rcases mf (chA kS none x.Areas)with⟨e1,e2⟩|⟨e1,e2⟩
    ·rw [e2,e1]
     simp only [thenC]
     cases cnV x with
     | true=>rfl
     | false=>cases txV x <;> rfl
    ·have:(chA kS none x.Areas==0)=false:=by simpa using e1
     rw [e2,this];rfl
theorem alF_R {x:Alert} (h:GA x):jV x=some (alF x):=by
 have h1:=h.id
 have h2:=h.sender
 have h3:=h.at_
 have h4:=h.rlen
 have h5:=h.alen
 have h6:=zG _ h.text
 unfold ShA at h1 h2
 have hm:oH x.At=some (xM x.At):=by unfold oH xM;rw [DF];rfl
 unfold jV alF
 rw [wo _ (by omega),wo _ (by omega),hm,DF,fE (n:=x.At+1) (by omega),fE (n:=x.At+2592000000) (by omega),DF,DF,(Ao _ h.text).2,decide_eq_false (show ¬(x.Refs.length:Int)>20 by omega),decide_eq_false (show ¬(x.Areas.length:Int)>20 by omega),decide_eq_false (show ¬(x.Text.size:Int)>500 by omega)]
 rw [su (stp:=kS) (body:=λk r s=>gu k r s) (by omega) (Ew x),su (stp:=nu x.Id) (body:=λk r s=>gy x k r s) (by omega) (EA x h)]
 have ek:(bif !keyB x.Id then some true else some (!keyB x.Sender))=some (!keyB x.Id || !keyB x.Sender):=by cases keyB x.Id <;> rfl
 have ea:((some (xM x.At)).bind λr_38=>bif (!r_38)then some true else (some (!jl x.Until (x.At+1) (x.At+2592000000))).bind λr_41=>bif (!r_41)then some true else (some (!jl x.Weight 1 9)).bind λr_44=>some (!r_44))=some (agV x):=by
  unfold agV
  cases xM x.At <;> cases jl x.Until (x.At+1) (x.At+2592000000) <;> cases jl x.Weight 1 9 <;> rfl
 have et:((some (kX x.Text)).bind λr_66=>bif (!r_66)then some true else bif (sEq x.Text (⟨#[]⟩:ByteArray))then some (x.Kind != 3)else some false)=some (txV x):=by
  unfold txV
  cases kX x.Text <;> cases sEq x.Text ⟨#[]⟩ <;> rfl
 have ec:(!((x.Kind==3)==((x.Areas.length:Int)==0)))=cnV x:=rfl
 have ef:(!((x.Kind==1)==((x.Refs.length:Int)==0)))=fmV x:=rfl
 rw [ea,et,ec,ef]
 simp only [ob_]
 rw [ek]
 simp only [ob_]
 cases (!keyB x.Id || !keyB x.Sender)with
 | true=>rfl
 | false =>
 cases jl x.Kind 1 3 with
 | true=>rfl
 | false =>
 simp only [cond_false,Bool.not_false]
 unfold rfV arV
 rcases mf (chA (nu x.Id) none x.Refs)with⟨e1,e2⟩|⟨e1,e2⟩
 ·rw [e2,e1]
  simp only [thenC]
  cases fmV x with
  | true=>rfl
  | false =>
   cases agV x with
   | true=>rfl
   | false =>
    simp only [cond_false]
    rcases mf (chA kS none x.Areas)with⟨k1,k2⟩|⟨k1,k2⟩
    ·rw [k2,k1]
     simp only [thenC]
     cases cnV x with
     | true=>rfl
     | false=>cases txV x <;> rfl
    ·have:(chA kS none x.Areas==0)=false:=by simpa using k1
     rw [k2,this];rfl
 ·have:(chA (nu x.Id) none x.Refs==0)=false:=by simpa using e1
  rw [e2,this];rfl
end Go.Proofs.YtpmokglbipebcaaGreatDoor.Law

open Go Go.Eng
namespace Go.Proofs.YtpmokglbipebcaaGreatDoor.Law
set_option linter.unusedVariables false
set_option linter.unusedSimpArgs false
section
variable {K T:Type} {eq:K->K->Bool}
theorem Jr (k:K):jr eq ([]:List (K×T)) k=none:=rfl
theorem nT (e:K×T) (es:List (K×T)) (k:K):jr eq (e::es) k=if eq k e.1=true then some e.2 else jr eq es k:=by
 unfold jr
 rw [wy]
 by_cases h:eq k e.1=true
 ·rw [if_pos h,if_pos h];rfl
 ·rw [if_neg h,if_neg h]
  cases wy eq k es with
  | none=>rfl
  | some j=>rfl
theorem Il (k:K) (v:T):pG eq ([]:List (K×T)) k v=[(k,v)]:=rfl
theorem wI (e:K×T) (es:List (K×T)) (k:K) (v:T):pG eq (e::es) k v=if eq k e.1=true then (k,v)::es else e::pG eq es k v:=by
 unfold pG
 rw [wy]
 by_cases h:eq k e.1=true
 ·rw [if_pos h,if_pos h];rfl
 ·rw [if_neg h,if_neg h]
  cases wy eq k es with
  | none=>rfl
  | some j=>rfl
theorem AR (he:∀a b,eq a b=true↔a=b) (k k':K) (v:T):∀es:List (K×T),jr eq (pG eq es k v) k'=if eq k' k=true then some v else jr eq es k'
 | []=>by rw [Il,nT]
 | e::es=>by
  rw [wI,nT]
  by_cases h:eq k e.1=true
  ·rw [if_pos h,nT]
   have h1:=(he _ _).1 h
   rw [<- h1]
   by_cases h2:eq k' k=true
   ·rw [if_pos h2,if_pos h2]
   ·rw [if_neg h2,if_neg h2,if_neg h2]
  ·rw [if_neg h,nT,AR he k k' v es]
   by_cases h2:eq k' e.1=true
   ·have h3:=(he _ _).1 h2
    have:¬eq k' k=true:=λq=>h (by rw [<- (he _ _).1 q];exact h2)
    rw [if_pos h2,if_neg this,if_pos h2]
   ·rw [if_neg h2,if_neg h2]
theorem yO (k:K) (v:T):∀es:List (K×T),(pG eq es k v).length=if (jr eq es k).isSome=true then es.length else es.length+1
 | []=>rfl
 | e::es=>by
  rw [wI,nT]
  by_cases h:eq k e.1=true
  ·rw [if_pos h,if_pos h];rfl
  ·rw [if_neg h,if_neg h,List.length_cons,yO k v es,List.length_cons]
   split <;> rfl
end
theorem sG (a b:ByteArray):eqS a b=true↔a=b:=⟨eqS_eq,λh=>by
 subst h
 obtain ⟨x⟩:=a
 show (x==x)=true
 exact beq_self_eq_true x⟩
def u7 (s:List (ByteArray×Bool)) (sn:List ByteArray):Prop:=∀k,jr eqS s k=if k∈sn then some true else none
theorem u7.nil:u7 [] []:=λk=>by rw [Jr,if_neg (by simp)]
theorem u7.set {s:List (ByteArray×Bool)} {sn:List ByteArray} (h:u7 s sn) (id:ByteArray):u7 (pG eqS s id true) (sn++[id]):=λk=>by
 rw [AR sG,h k]
 by_cases h1:eqS k id=true
 ·rw [if_pos h1,if_pos (by rw [(sG _ _).1 h1];simp)]
 ·rw [if_neg h1]
  have:k∈sn++[id]↔k∈sn:=by
   rw [List.mem_append,List.mem_singleton]
   exact⟨λq=>q.resolve_right (λe=>h1 ((sG _ _).2 e)),.inl⟩
  by_cases h2:k∈sn
  ·rw [if_pos h2,if_pos (this.2 h2)]
  ·rw [if_neg h2,if_neg (λq=>h2 (this.1 q))]
def tY:List ByteArray->List ByteArray->Bool
 | _,[]=>false
 | sn,x::l=>if x∈sn then true else tY (sn++[x]) l
theorem Gi:∀(xs:List Alert) (k:Nat) (s:List (ByteArray×Bool)) (sn:List ByteArray),u7 s sn->(tY sn (xs.map (·.Id))=false/\∃s',forR (λk x s=>bH k x s) xs k s=some (.go s'))\/(tY sn (xs.map (·.Id))=true/\forR (λk x s=>bH k x s) xs k s=some (.ret 6))
 | [],k,s,sn,h => .inl ⟨rfl,s,rfl⟩
 | x::xs,k,s,sn,h=>by
  have hg:=h x.Id
  rw [List.map_cons]
  by_cases hm:x.Id∈sn
  ·rw [if_pos hm]at hg
   have e:bH k x s=some (.ret 6):=by unfold bH;rw [hg];rfl
   exact .inr ⟨by rw [tY,if_pos hm],by rw [forR,e];rfl⟩
  ·rw [if_neg hm]at hg
   have e:bH k x s=some (.go (pG eqS s x.Id true)):=by unfold bH;rw [hg];rfl
   rw [tY,if_neg hm,forR,e,ob_]
   exact Gi xs (k+1) _ _ (h.set x.Id)
theorem Fy:∀(xs:List Alert) (k:Nat) (s:List (ByteArray×Bool)) (sn:List ByteArray),u7 s sn->∃s',forR (λk x s=>gZ k x s) xs k s=some (.go s')/\(if tY sn (xs.map (·.Id))=true then s'.length<s.length+xs.length else s'.length=s.length+xs.length)/\s'.length<=s.length+xs.length
 | [],k,s,sn,h=>⟨s,rfl,by rw [if_neg (by simp [tY])];rfl,Nat.le_refl _⟩
 | x::xs,k,s,sn,h=>by
  have hg:=h x.Id
  have e:gZ k x s=some (.go (pG eqS s x.Id true)):=rfl
  obtain ⟨s',e1,e2,e3⟩:=Fy xs (k+1) _ _ (h.set x.Id)
  refine⟨s',by rw [forR,e,ob_];exact e1,?_,?_⟩
  ·rw [List.map_cons,tY]
   have hl:=yO (eq:=eqS) x.Id true s
   by_cases hm:x.Id∈sn
   ·rw [if_pos hm]at hg
    rw [if_pos hm,if_pos rfl]
    rw [hg]at hl
    simp only [Option.isSome_some,if_true]at hl
    rw [List.length_cons];omega
   ·rw [if_neg hm]at hg
    rw [hg]at hl
    rw [if_neg hm]
    have hl2:(pG eqS s x.Id true).length=s.length+1:=by simpa using hl
    rw [hl2]at e2 e3
    rw [List.length_cons]
    by_cases hd:tY (sn++[x.Id]) (xs.map (·.Id))=true
    ·rw [if_pos hd]at e2;rw [if_pos hd];omega
    ·rw [if_neg hd]at e2;rw [if_neg hd];omega
  ·have hl:=yO (eq:=eqS) x.Id true s
   have:(pG eqS s x.Id true).length<=s.length+1:=by rw [hl];split <;> omega
   rw [List.length_cons];omega
theorem Bb:∀(l sn:List ByteArray),tY sn l=false->l.Nodup/\∀x∈l,x∉sn
 | [],sn,_=>⟨List.nodup_nil,λx hx=>by cases hx⟩
 | y::l,sn,h=>by
  rw [tY]at h
  by_cases hm:y∈sn
  ·rw [if_pos hm]at h;cases h
  ·rw [if_neg hm]at h
   obtain ⟨h1,h2⟩:=Bb l _ h
   refine⟨List.nodup_cons.2 ⟨λq=>h2 y q (by simp),h1⟩,λx hx => ?_⟩
   rcases List.mem_cons.1 hx with rfl|hx
   ·exact hm
   ·exact λq=>h2 x hx (List.mem_append_left _ q)
end Go.Proofs.YtpmokglbipebcaaGreatDoor.Law

open Go Go.Eng
namespace Go.Proofs.YtpmokglbipebcaaGreatDoor.Law
set_option linter.unusedVariables false
set_option linter.unusedSimpArgs false
end Go.Proofs.YtpmokglbipebcaaGreatDoor.Law

open Go Go.Eng
namespace Go.Proofs.YtpmokglbipebcaaGreatDoor.Law
set_option linter.unusedVariables false
set_option linter.unusedSimpArgs false
set_option maxRecDepth 100000
def nI (p:Option Alert) (x:Alert):Int:=bif alF x==0 then (bif w9 (λy => !decide (befA y x)) p then 7 else 0)else alF x
def alV (l:List Alert):Int:=bif chA nI none l==0 then (bif tY [] (l.map (·.Id))then 6 else 0)else chA nI none l
theorem A9 {a b:Alert} (ha:GA a) (hb:GA b):∃n,fU a b=some n/\(n<0↔befA a b):=by
 have h1:=ha.at_
 have h2:=hb.at_
 unfold fU befA
 by_cases h:a.At=b.At
 ·have:(a.At != b.At)=false:=by simpa using h
  rw [this,cond_false,ym]
  refine⟨_,rfl,?_⟩
  rw [DY]
  exact⟨λq => .inr ⟨h,q⟩,λq=>by
   rcases q with q|q
   ·omega
   ·exact q.2⟩
 ·have:(a.At != b.At)=true:=by simpa using h
  rw [this,cond_true,fE (n:=a.At-b.At) (by omega)]
  unfold uK
  by_cases hn:a.At-b.At<0
  ·rw [decide_eq_true hn]
   exact⟨-1,rfl,⟨λ_ => .inl (by omega),λ_=>by decide⟩⟩
  ·rw [decide_eq_false hn,decide_eq_true (show a.At-b.At>0 by omega)]
   exact⟨1,rfl,⟨λq=>absurd q (by decide),λq=>by
    rcases q with q|q
    ·omega
    ·exact absurd q.1 h⟩⟩
theorem ge_of {n:Int} {P:Prop} [Decidable P] (h:n<0↔P):decide (n>=0) = !decide P:=by
 by_cases hp:P
 ·rw [decide_eq_true hp,decide_eq_false (by have:=h.2 hp;omega)];rfl
 ·rw [decide_eq_false hp,decide_eq_true (by
   rcases Int.lt_or_le n 0 with q|q
   ·exact absurd (h.1 q) hp
   ·exact q)];rfl
theorem zC {α:Type} {l:List α} {k:Nat} {x:α} (h:l[k]? = some x) (hl:l.length<=1000000) (g:α->Option Bool) (f:α->Bool) (hg:∀y∈l,g y=some (f y)):(bif (decide ((k:Int)>0))then (idx l (w64 ((k:Int)-1))).bind g else some false)=some (w9 f (jP l k)):=by
 rcases Nat.eq_zero_or_pos k with h0|h0
 ·subst h0
  rw [decide_eq_false (by omega)];rfl
 ·obtain ⟨y,q1,q2⟩:=CG h h0 (by omega)
  rw [decide_eq_true (by omega),cond_true,q1,ob_,hg y (List.mem_of_getElem? q2)]
  unfold jP
  rw [if_neg (by omega),q2];rfl
theorem Jo {l:List Alert} (h:GAs l):∀k x,l[k]? = some x->dz l k x ()=some (qy (nI (jP l k) x)):=λk x hx=>by
 have hl:=h.2
 unfold dz nI
 rw [alF_K (h.1 x (List.mem_of_getElem? hx)),zC hx (by omega) (λy_20=>(fK y_20 x).bind λr_22=>some (decide (r_22>=0))) (λy => !decide (befA y x)) (λy _=>by
  obtain ⟨n,n1,n2⟩:=xn y x
  rw [n1,ob_,ge_of n2])]
 simp only [ob_]
 by_cases h0:alF x=0
 ·rw [h0]
  cases w9 (λy => !decide (befA y x)) (jP l k) <;> rfl
 ·have e1:(alF x==0)=false:=by simpa using h0
  have e2:(alF x != 0)=true:=by simp [bne,e1]
  rw [e1,e2]
  unfold qy
  rw [cond_false,e1];rfl
theorem Jh {l:List Alert} (h:GAs l):∀k x,l[k]? = some x->fJ l k x ()=some (qy (nI (jP l k) x)):=λk x hx=>by
 have hl:=h.2
 have hgx:=h.1 x (List.mem_of_getElem? hx)
 unfold fJ nI
 rw [alF_R hgx,zC hx (by omega) (λy_20=>(fU y_20 x).bind λr_22=>some (decide (r_22>=0))) (λy => !decide (befA y x)) (λy hy=>by
  obtain ⟨n,n1,n2⟩:=A9 (h.1 y hy) hgx
  rw [n1,ob_,ge_of n2])]
 simp only [ob_]
 by_cases h0:alF x=0
 ·rw [h0]
  cases w9 (λy => !decide (befA y x)) (jP l k) <;> rfl
 ·have e1:(alF x==0)=false:=by simpa using h0
  have e2:(alF x != 0)=true:=by simp [bne,e1]
  rw [e1,e2]
  unfold qy
  rw [cond_false,e1];rfl
theorem Ia {l:List Alert} (h:GAs l):dK l=some (alV l):=by
 have hl:=h.2
 unfold dK alV
 rw [decide_eq_false (by omega),cond_false,su (stp:=nI) (body:=λk x s=>dz l k x s) (by omega) (Jo h)]
 rcases mf (chA nI none l)with⟨e1,e2⟩|⟨e1,e2⟩
 ·rw [e2,e1]
  simp only [ob_,thenC]
  rw [fZ (by omega)]
  rcases Gi l 0 [] [] u7.nil with⟨d,s',f⟩|⟨d,f⟩
  ·rw [f,d];rfl
  ·rw [f,d];rfl
 ·have:(chA nI none l==0)=false:=by simpa using e1
  rw [e2,this];rfl
theorem alV_R {l:List Alert} (h:GAs l):iA l=some (alV l):=by
 have hl:=h.2
 unfold iA alV
 rw [decide_eq_false (by omega),cond_false,su (stp:=nI) (body:=λk x s=>fJ l k x s) (by omega) (Jh h)]
 rcases mf (chA nI none l)with⟨e1,e2⟩|⟨e1,e2⟩
 ·rw [e2,e1]
  simp only [ob_,thenC]
  rw [fZ (by omega)]
  obtain ⟨s',f,g,_⟩:=Fy l 0 [] [] u7.nil
  rw [f]
  simp only [ob_,thenC]
  cases hd:tY [] (l.map (·.Id))with
  | true =>
   rw [hd,if_pos rfl]at g
   simp only [List.length_nil,Nat.zero_add]at g
   rw [decide_eq_true (by omega)];rfl
  | false =>
   rw [hd,if_neg (by decide)]at g
   simp only [List.length_nil,Nat.zero_add]at g
   rw [decide_eq_false (by omega)];rfl
 ·have:(chA nI none l==0)=false:=by simpa using e1
  rw [e2,this];rfl
theorem Ef {x:Alert} (h:GA x) (h0:alF x=0):(0<=x.At/\x.At<=345686399999)/\(x.At+1<=x.Until/\x.Until<=x.At+2592000000)/\∀r∈x.Areas,Fine r:=by
 unfold alF at h0
 cases e1:(!keyB x.Id || !keyB x.Sender)with
 | true=>rw [e1]at h0;cases h0
 | false =>
 rw [e1,cond_false]at h0
 cases e2:jl x.Kind 1 3 with
 | true=>rw [e2]at h0;cases h0
 | false =>
 rw [e2,cond_false]at h0
 cases e3:rfV x==0 with
 | false=>rw [e3,cond_false]at h0;rw [h0]at e3;exact absurd e3 (by decide)
 | true =>
 rw [e3,cond_true]at h0
 cases e4:fmV x with
 | true=>rw [e4]at h0;cases h0
 | false =>
 rw [e4,cond_false]at h0
 cases e5:agV x with
 | true=>rw [e5]at h0;cases h0
 | false =>
 rw [e5,cond_false]at h0
 cases e6:arV x==0 with
 | false=>rw [e6,cond_false]at h0;rw [h0]at e6;exact absurd e6 (by decide)
 | true =>
 unfold agV at e5
 simp only [Bool.or_eq_false_iff]at e5
 obtain ⟨a1,a2,a3⟩:=e5
 have hm:xM x.At=true:=by cases hq:xM x.At with | true=>rfl | false=>rw [hq]at a1;cases a1
 unfold xM at hm
 have hm2:jl x.At 0 345686399999=false:=by cases hq:jl x.At 0 345686399999 with | false=>rfl | true=>rw [hq]at hm;cases hm
 have b1:=wP hm2
 have b2:=wP a2
 refine⟨b1,b2,λr hr => ?_⟩
 obtain ⟨i,hi⟩:=List.getElem?_of_mem hr
 obtain ⟨q,q1,_⟩:=DU (eq_of_beq e6) i r hi
 unfold kS at q1
 refine Hz ?_
 cases hb:zL r with
 | false=>rfl
 | true=>rw [hb]at q1;cases q1
theorem FI {p:Option Alert} {x:Alert} (h:nI p x=0):alF x=0:=by
 unfold nI at h
 cases e:alF x==0 with
 | true=>exact eq_of_beq e
 | false=>rw [e,cond_false]at h;exact h
theorem alV_ca {l:List Alert} (h:GAs l) (h0:alV l=0):CA l:=by
 have hl:=h.2
 unfold alV at h0
 cases e:chA nI none l==0 with
 | false=>rw [e,cond_false]at h0;rw [h0]at e;exact absurd e (by decide)
 | true =>
 rw [e,cond_true]at h0
 have hd:tY [] (l.map (·.Id))=false:=by
  cases hq:tY [] (l.map (·.Id))with
  | false=>rfl
  | true=>rw [hq]at h0;cases h0
 have one:∀x∈l,alF x=0:=λx hx=>by
  obtain ⟨i,hi⟩:=List.getElem?_of_mem hx
  obtain ⟨q,q1,_⟩:=DU (eq_of_beq e) i x hi
  exact FI q1
 refine⟨(Bb _ _ hd).1,by omega,λx hx => ?_,λx hx => ?_,λx hx=>(Ef (h.1 x hx) (one x hx)).2.2,λx hx => ?_,λx hx => ?_⟩
 ·have:=(h.1 x hx).rlen;omega
 ·have:=(h.1 x hx).alen;omega
 ·have:=(Ef (h.1 x hx) (one x hx)).1;omega
 ·have:=(Ef (h.1 x hx) (one x hx)).1
  have:=(Ef (h.1 x hx) (one x hx)).2.1
  omega
end Go.Proofs.YtpmokglbipebcaaGreatDoor.Law

open Go Go.Eng
namespace Go.Proofs.YtpmokglbipebcaaGreatDoor.Law
set_option linter.unusedVariables false
set_option linter.unusedSimpArgs false
def RA (x:Alert):Prop:=GA x/\alF x=0
structure RF (x:Alert):Prop where
 id:keyB x.Id=true
 sender:keyB x.Sender=true
 kind:1<=x.Kind/\x.Kind<=3
 refs:∀r∈x.Refs,keyB r=true
 weight:1<=x.Weight/\x.Weight<=9
theorem ra_f {x:Alert} (h0:alF x=0):RF x:=by
 unfold alF at h0
 cases e1:(!keyB x.Id || !keyB x.Sender)with
 | true=>rw [e1]at h0;cases h0
 | false =>
 rw [e1,cond_false]at h0
 cases e2:jl x.Kind 1 3 with
 | true=>rw [e2]at h0;cases h0
 | false =>
 rw [e2,cond_false]at h0
 cases e3:rfV x==0 with
 | false=>rw [e3,cond_false]at h0;rw [h0]at e3;exact absurd e3 (by decide)
 | true =>
 rw [e3,cond_true]at h0
 cases e4:fmV x with
 | true=>rw [e4]at h0;cases h0
 | false =>
 rw [e4,cond_false]at h0
 cases e5:agV x with
 | true=>rw [e5]at h0;cases h0
 | false =>
 simp only [Bool.or_eq_false_iff,Bool.not_eq_false']at e1
 unfold agV at e5
 simp only [Bool.or_eq_false_iff]at e5
 have hb:∀{n lo hi:Int},jl n lo hi=false->lo<=n/\n<=hi:=λh=>by
  simp only [jl,Bool.or_eq_false_iff,decide_eq_false_iff_not]at h;omega
 refine⟨e1.1,e1.2,hb e2,λr hr => ?_,hb e5.2.2⟩
 obtain ⟨i,hi,rfl⟩:=List.getElem_of_mem hr
 obtain ⟨q,q1,_⟩:=DU (eq_of_beq e3) i _ (List.getElem?_eq_getElem hi)
 unfold nu at q1
 cases hk:keyB x.Refs[i]with
 | true=>rfl
 | false=>rw [hk]at q1;cases q1
theorem yI (l2:List ByteArray):∀(xs:List ByteArray) (k:Nat),xs.length=(l2.drop k).length->∃o,forR (λk x s=>bI l2 k x s) xs k ()=some o/\thenC o (λ_=>some true) (λr=>some r)=some (decide (xs=l2.drop k))
 | [],k,h=>⟨_,rfl,by
  have:l2.drop k=[]:=List.eq_nil_of_length_eq_zero h.symm
  rw [this];rfl⟩
 | x::xs,k,h=>by
  have hk:k<l2.length:=by
   rw [List.length_drop]at h
   simp only [List.length_cons]at h
   omega
  have hd:l2.drop k=l2[k]::l2.drop (k+1):=List.drop_eq_getElem_cons hk
  rw [hd]at h ⊢
  obtain ⟨o,h1,h2⟩:=yI l2 xs (k+1) (by simp only [List.length_cons]at h;omega)
  have hstep:bI l2 k x ()=some (bif sNe x l2[k]then .ret false else .go ()):=by
   unfold bI
   rw [xR,List.getElem?_eq_getElem hk]
   simp only [ob_]
   cases (sNe x l2[k]) <;> rfl
  by_cases he:x=l2[k]
  ·have e1:(sNe x l2[k])=false:=by rw [r9];simp [he]
   refine⟨o,by simp only [forR,hstep,e1,cond_false,ob_];exact h1,?_⟩
   rw [h2]
   simp only [he,List.cons.injEq,true_and]
  ·have e1:(sNe x l2[k])=true:=by rw [r9];simp [he]
   refine⟨.ret false,by simp only [forR,hstep,e1,cond_true,ob_],?_⟩
   rw [decide_eq_false (λhh=>he (List.cons.inj hh).1)];rfl
theorem G6 (l m:List ByteArray) (hl:l.length<=1000000000):dS l m=some (decide (l=m)):=by
 unfold dS
 by_cases hn:l.length=m.length
 ·have e1:((l.length:Int) != (m.length:Int))=false:=by simp [hn]
  rw [e1,cond_false]
  obtain ⟨o,h1,h2⟩:=yI m l 0 (by simpa using hn)
  rw [fZ (by omega),h1]
  simpa using h2
 ·have e1:((l.length:Int) != (m.length:Int))=true:=by simp;omega
  have e2:l≠m:=λh=>hn (by rw [h])
  rw [e1,cond_true]
  simp [e2]
deriving instance DecidableEq for Rect
theorem rect_eq (x y:Rect):((x.X==y.X)&&((x.Y==y.Y)&&((x.W==y.W)&&((x.H==y.H)&&true))))=decide (x=y):=by
 obtain ⟨a,b,c,d⟩:=x
 obtain ⟨a',b',c',d'⟩:=y
 rw [Bool.eq_iff_iff]
 simp only [Bool.and_eq_true,beq_iff_eq,decide_eq_true_eq,Rect.mk.injEq,and_true]
theorem zz (l2:List Rect):∀(xs:List Rect) (k:Nat),xs.length=(l2.drop k).length->∃o,forR (λk x s=>bv l2 k x s) xs k ()=some o/\thenC o (λ_=>some true) (λr=>some r)=some (decide (xs=l2.drop k))
 | [],k,h=>⟨_,rfl,by
  have:l2.drop k=[]:=List.eq_nil_of_length_eq_zero h.symm
  rw [this];rfl⟩
 | x::xs,k,h=>by
  have hk:k<l2.length:=by
   rw [List.length_drop]at h
   simp only [List.length_cons]at h
   omega
  have hd:l2.drop k=l2[k]::l2.drop (k+1):=List.drop_eq_getElem_cons hk
  rw [hd]at h ⊢
  obtain ⟨o,h1,h2⟩:=zz l2 xs (k+1) (by simp only [List.length_cons]at h;omega)
  have hstep:bv l2 k x ()=some (bif !decide (x=l2[k])then .ret false else .go ()):=by
   unfold bv
   rw [xR,List.getElem?_eq_getElem hk]
   simp only [ob_,rect_eq]
   cases decide (x=l2[k]) <;> rfl
  by_cases he:x=l2[k]
  ·refine⟨o,by simp only [forR,hstep,decide_eq_true he,Bool.not_true,cond_false,ob_];exact h1,?_⟩
   rw [h2]
   simp only [he,List.cons.injEq,true_and]
  ·refine⟨.ret false,by simp only [forR,hstep,decide_eq_false he,Bool.not_false,cond_true,ob_],?_⟩
   rw [decide_eq_false (λhh=>he (List.cons.inj hh).1)];rfl
theorem Hl (l m:List Rect) (hl:l.length<=1000000000):cB l m=some (decide (l=m)):=by
 unfold cB
 by_cases hn:l.length=m.length
 ·have e1:((l.length:Int) != (m.length:Int))=false:=by simp [hn]
  rw [e1,cond_false]
  obtain ⟨o,h1,h2⟩:=zz m l 0 (by simpa using hn)
  rw [fZ (by omega),h1]
  simpa using h2
 ·have e1:((l.length:Int) != (m.length:Int))=true:=by simp;omega
  have e2:l≠m:=λh=>hn (by rw [h])
  rw [e1,cond_true]
  simp [e2]
theorem xh (c:Bool) {X:Option Bool} {p:Bool} (h:X=some p):(bif c then X else some false)=some (c&&p):=by cases c <;> simp [h]
deriving instance DecidableEq for Alert
theorem Hq {a b:Alert} (h:GA a):oz a b=some (decide (a=b)):=by
 unfold oz
 rw [G6 _ _ (by have:=h.rlen;omega),Hl _ _ (by have:=h.alen;omega)]
 simp only [ob_]
 rw [xh _ (xh _ (xh _ (xh _ (xh _ (xh _ (xh _ (xh _ rfl)))))))]
 obtain ⟨a1,a2,a3,a4,a5,a6,a7,a8,a9⟩:=a
 obtain ⟨b1,b2,b3,b4,b5,b6,b7,b8,b9⟩:=b
 simp only [ob_,xY]
 congr 1
 rw [Bool.eq_iff_iff]
 simp only [Bool.and_eq_true,decide_eq_true_eq,beq_iff_eq,Alert.mk.injEq]
def xg (k:Int):List UInt8:=if k=1 then [110,101,119]else if k=2 then [117,112,100,97,116,101]else [99,97,110,99,101,108]
def o6:List ByteArray->List UInt8
 | []=>[]
 | r::l=>[114,101,102,32]++r.data.toList++[10]++o6 l
def qo (r:Rect):List Int:=[r.X,r.Y,r.W,r.H]
def jW:List Rect->List UInt8
 | []=>[]
 | r::l=>[97,114,101,97,32]++Go.Lib.join ((qo r).map Go.Lib.itoa) [32]++[10]++jW l
def uX (t:ByteArray):List UInt8:=if t=⟨#[]⟩then []else [116,101,120,116,32]++t.data.toList++[10]
def qU (x:Alert):List UInt8:=[97,108,101,114,116,32]++x.Id.data.toList++[32]++x.Sender.data.toList++[32]++xg x.Kind++[32]++Go.Lib.join (([x.At,x.Until,x.Weight]:List Int).map Go.Lib.itoa) [32]++[10]
def Aw (x:Alert):List UInt8:=qU x++o6 x.Refs++jW x.Areas++uX x.Text
theorem CY:∀{l m:List ByteArray} {X Y:List UInt8},(∀r∈l,keyB r=true)->(∀r∈m,keyB r=true)->X.head? ≠ some 114->Y.head? ≠ some 114->o6 l++X=o6 m++Y->l=m/\X=Y
 | [],[],X,Y,_,_,_,_,h=>⟨rfl,by simpa [o6]using h⟩
 | [],r::m,X,Y,_,_,hX,_,h=>by
  simp only [o6,List.nil_append,List.cons_append]at h
  rw [h]at hX;simp at hX
 | r::l,[],X,Y,_,_,_,hY,h=>by
  simp only [o6,List.nil_append,List.cons_append]at h
  rw [<- h]at hY;simp at hY
 | r::l,q::m,X,Y,hl,hm,hX,hY,h=>by
  simp only [o6,List.append_assoc,List.cons_append,List.nil_append,List.cons.injEq,true_and]at h
  obtain ⟨h1,h2⟩:=oW (wm (hl r (by simp)) (by decide)) (wm (hm q (by simp)) (by decide)) h
  obtain ⟨h3,h4⟩:=CY (λa ha=>hl a (List.mem_cons_of_mem _ ha)) (λa ha=>hm a (List.mem_cons_of_mem _ ha)) hX hY h2
  exact⟨by rw [BG h1,h3],h4⟩
theorem Ib {r q:Rect} (h:qo r=qo q):r=q:=by
 obtain ⟨a,b,c,d⟩:=r
 obtain ⟨a',b',c',d'⟩:=q
 simp only [qo,List.cons.injEq,and_true]at h
 obtain ⟨h1,h2,h3,h4⟩:=h
 subst h1 h2 h3 h4;rfl
theorem Aj:∀{l m:List Rect} {X Y:List UInt8},X.head? ≠ some 97->Y.head? ≠ some 97->jW l++X=jW m++Y->l=m/\X=Y
 | [],[],X,Y,_,_,h=>⟨rfl,by simpa [jW]using h⟩
 | [],r::m,X,Y,hX,_,h=>by
  simp only [jW,List.nil_append,List.cons_append]at h
  rw [h]at hX;simp at hX
 | r::l,[],X,Y,_,hY,h=>by
  simp only [jW,List.nil_append,List.cons_append]at h
  rw [<- h]at hY;simp at hY
 | r::l,q::m,X,Y,hX,hY,h=>by
  simp only [jW,List.append_assoc,List.cons_append,List.nil_append,List.cons.injEq,true_and]at h
  obtain ⟨h1,h2⟩:=oW (vC (by decide) (by decide) (by decide) _) (vC (by decide) (by decide) (by decide) _) h
  obtain ⟨h3,h4⟩:=Aj hX hY h2
  exact⟨by rw [Ib (vN (l:=qo r) (m:=qo q) rfl h1),h3],h4⟩
theorem IQ {t u:ByteArray} (h:uX t=uX u):t=u:=by
 unfold uX at h
 by_cases ht:t=⟨#[]⟩ <;> by_cases hu:u=⟨#[]⟩
 ·exact ht.trans hu.symm
 ·rw [if_pos ht,if_neg hu]at h;simp at h
 ·rw [if_neg ht,if_pos hu]at h;simp at h
 ·rw [if_neg ht,if_neg hu]at h
  have h2:=List.append_cancel_right h
  have h3:=List.append_cancel_left h2
  exact BG h3
theorem wQ (t:ByteArray):(uX t).head? ≠ some 97/\(uX t).head? ≠ some 114:=by
 unfold uX
 split
 ·simp
 ·simp
theorem yN (l:List Rect) (t:ByteArray):(jW l++uX t).head? ≠ some 114:=by
 cases l with
 | nil=>simpa [jW]using (wQ t).2
 | cons r l=>simp [jW]
theorem FN {k:Int} {c:UInt8} (hc:c=32\/c=10):c∉xg k:=by
 unfold xg
 split
 ·rcases hc with rfl|rfl <;> decide
 ·split
  ·rcases hc with rfl|rfl <;> decide
  ·rcases hc with rfl|rfl <;> decide
theorem word_inj {k m:Int} (hk:1<=k/\k<=3) (hm:1<=m/\m<=3) (h:xg k=xg m):k=m:=by
 have e1:k=1\/k=2\/k=3:=by omega
 have e2:m=1\/m=2\/m=3:=by omega
 rcases e1 with rfl|rfl|rfl <;> rcases e2 with rfl|rfl|rfl <;> first|rfl|exact absurd h (by decide)
theorem Hr {a b:Alert} (ha:RF a) (hb:RF b) (h:Aw a=Aw b):a=b:=by
 unfold Aw qU at h
 simp only [List.append_assoc,List.cons_append,List.nil_append,List.cons.injEq,true_and]at h
 obtain ⟨h1,h2⟩:=oW (wm ha.id (by decide)) (wm hb.id (by decide)) h
 obtain ⟨h3,h4⟩:=oW (wm ha.sender (by decide)) (wm hb.sender (by decide)) h2
 obtain ⟨h5,h6⟩:=oW (FN (.inl rfl)) (FN (.inl rfl)) h4
 obtain ⟨h7,h8⟩:=oW (vC (by decide) (by decide) (by decide) _) (vC (by decide) (by decide) (by decide) _) h6
 obtain ⟨h9,h10⟩:=CY ha.refs hb.refs (yN _ _) (yN _ _) h8
 obtain ⟨h11,h12⟩:=Aj (wQ _).1 (wQ _).1 h10
 have e1:=BG h1
 have e2:=BG h3
 have e3:=word_inj ha.kind hb.kind h5
 have e4:=vN (l:=[a.At,a.Until,a.Weight]) (m:=[b.At,b.Until,b.Weight]) rfl h7
 have e5:=IQ h12
 obtain ⟨a1,a2,a3,a4,a5,a6,a7,a8,a9⟩:=a
 obtain ⟨b1,b2,b3,b4,b5,b6,b7,b8,b9⟩:=b
 simp only [List.cons.injEq,and_true]at e1 e2 e3 e4 e5 h9 h11
 obtain ⟨f1,f2,f3⟩:=e4
 subst e1 e2 e3 f1 f2 f3 e5 h9 h11
 rfl
end Go.Proofs.YtpmokglbipebcaaGreatDoor.Law

open Go Go.Eng
namespace Go.Proofs.YtpmokglbipebcaaGreatDoor.Law
set_option linter.unusedVariables false
set_option linter.unusedSimpArgs false
theorem vz (most:Int) (hm:0<=most/\most<=6) (s:Stream) {b:Int} (hs:Ok s b) (hb:b<=100000):∃l s',gP s most=some (l,s')/\GAs l/\Ok s' (b+400):=by
 obtain ⟨l,s1,a1,a2,a3⟩:=Cw most hm s hs (by omega)
 have hl:l.length<=6:=Nat.le_trans a2.len (by omega)
 have hg:∀x∈l,GA x:=λx hx=>(a2.right x hx).ga
 unfold gP
 rw [a1,ob_]
 simp only []
 by_cases h0:(l.length:Int)>0
 ·obtain ⟨f,s2,b1,b2⟩:=oV s1 10 a3 (by omega) (by decide) (by decide)
  rw [decide_eq_true h0,cond_true,b1,ob_,ob_]
  simp only []
  cases f with
  | false=>exact⟨l,s2,rfl,⟨hg,hl⟩,b2.mono (by omega)⟩
  | true =>
   rw [cond_true]
   obtain ⟨i,s3,c1,c2,c3,c4⟩:=nR s2 (l.length:Int) b2 (by omega) (by omega) (by omega)
   have e0:(⟨s2.L,s2.f_at⟩:Stream)=s2:=rfl
   rw [e0,c1,ob_]
   simp only []
   rw [zf (by omega) (by omega),ob_]
   obtain ⟨k,s4,d1,d2,d3,d4⟩:=nR s3 6 c4 (by omega) (by decide) (by decide)
   rw [d1,ob_]
   simp only []
   have hi:0+i.toNat<l.length:=by omega
   have hx:l[0+i.toNat]? = some l[0+i.toNat]:=List.getElem?_eq_getElem hi
   have hgx:=hg _ (List.getElem_mem hi)
   generalize l[0+i.toNat]=x at hx hgx
   have two:∀(y z:Alert) (s:Stream) {c:Int},GA z->Ok s c->c<=b+400->∃l' s',some ((l.set (0+i.toNat) y).set (0+i.toNat) z,(⟨s.L,s.f_at⟩:Stream))=some (l',s')/\GAs l'/\Ok s' (b+400):=λy z s c hz hs hc=>by
    refine⟨_,_,rfl,?_,hs.mono hc⟩
    rw [List.set_set]
    exact⟨BV hg hz,by rw [List.length_set];exact hl⟩
   have one:∀(z:Alert) (s:Stream) {c:Int},GA z->Ok s c->c<=b+400->∃l' s',some (l.set (0+i.toNat) z,(⟨s.L,s.f_at⟩:Stream))=some (l',s')/\GAs l'/\Ok s' (b+400):=λz s c hz hs hc =>
    ⟨_,_,rfl,⟨BV hg hz,by rw [List.length_set];exact hl⟩,hs.mono hc⟩
   cases k0:k==0 with
   | true =>
    rw [cond_true,hx,ob_]
    obtain ⟨u,s5,e1,e2,e3⟩:=rY s4 [x.Id,(⟨#[]⟩:ByteArray),(⟨#[97,97]⟩:ByteArray)] d4 (by omega) (by simp) (by simp)
    obtain ⟨v,s6,f1,f2,f3⟩:=rY s5 [(⟨#[119,120]⟩:ByteArray),(⟨#[65]⟩:ByteArray)] e3 (by omega) (by simp) (by simp)
    rw [e1,ob_]
    simp only []
    rw [f1]
    simp only [ob_]
    rw [lS hi]
    simp only [ob_]
    refine two _ _ s6 ⟨?_,?_,hgx.refs,hgx.rlen,hgx.alen,hgx.at_,hgx.until_,hgx.text⟩ f3 (by omega)
    ·simp only [List.mem_cons,List.not_mem_nil,or_false]at e2
     rcases e2 with rfl|rfl|rfl
     ·exact hgx.id
     ·exact mI rfl
     ·exact mI rfl
    ·simp only [List.mem_cons,List.not_mem_nil,or_false]at f2
     rcases f2 with rfl|rfl <;> exact mI rfl
   | false =>
   rw [cond_false]
   cases k1:k==1 with
   | true =>
    obtain ⟨u,s5,e1,e2,e3⟩:=Bt s4 1 3 d4 (by omega) (by decide) (by decide) (by decide)
    rw [cond_true,e1,hx]
    simp only [ob_]
    exact one _ s5 ⟨hgx.id,hgx.sender,hgx.refs,hgx.rlen,hgx.alen,hgx.at_,hgx.until_,hgx.text⟩ e3 (by omega)
   | false =>
   rw [cond_false]
   cases k2:k==2 with
   | true =>
    rw [cond_true,hx,ob_]
    obtain ⟨u,s5,e1,e2,e3,e4⟩:=nR s4 5 d4 (by omega) (by decide) (by decide)
    rw [e1,ob_]
    simp only []
    obtain ⟨y,y1,y2⟩:=BF (l:=([([]:List ByteArray),([(⟨#[97,98]⟩:ByteArray),(⟨#[97,97]⟩:ByteArray)]:List ByteArray),([x.Id]:List ByteArray),([(⟨#[65]⟩:ByteArray)]:List ByteArray),([(⟨#[97,97]⟩:ByteArray),(⟨#[122,122]⟩:ByteArray)]:List ByteArray)]:List (List ByteArray))) (r:=u) e2 (by simp;omega)
    rw [y1]
    simp only [ob_]
    have hy:(∀r∈y,ShA r)/\y.length<=5:=by
     simp only [List.mem_cons,List.not_mem_nil,or_false]at y2
     rcases y2 with rfl|rfl|rfl|rfl|rfl
     ·exact⟨λr hr=>(by cases hr),by simp⟩
     ·refine⟨λr hr => ?_,by simp⟩
      simp only [List.mem_cons,List.not_mem_nil,or_false]at hr
      rcases hr with rfl|rfl <;> exact mI rfl
     ·refine⟨λr hr => ?_,by simp⟩
      rw [List.mem_singleton.1 hr];exact hgx.id
     ·refine⟨λr hr => ?_,by simp⟩
      rw [List.mem_singleton.1 hr];exact mI rfl
     ·refine⟨λr hr => ?_,by simp⟩
      simp only [List.mem_cons,List.not_mem_nil,or_false]at hr
      rcases hr with rfl|rfl <;> exact mI rfl
    exact one _ s5 ⟨hgx.id,hgx.sender,hy.1,hy.2,hgx.alen,hgx.at_,hgx.until_,hgx.text⟩ e4 (by omega)
   | false =>
   rw [cond_false]
   cases k3:k==3 with
   | true =>
    obtain ⟨u,s5,e1,e2,e3⟩:=Bt s4 0 30 d4 (by omega) (by decide) (by decide) (by decide)
    obtain ⟨v,s6,f1,f2,f3⟩:=Bt s5 0 60 e3 (by omega) (by decide) (by decide) (by decide)
    rw [cond_true,e1,ob_]
    simp only []
    rw [f1,hx]
    simp only [ob_]
    rw [lS hi]
    simp only [ob_]
    exact two _ _ s6 ⟨hgx.id,hgx.sender,hgx.refs,hgx.rlen,hgx.alen,e2,f2,hgx.text⟩ f3 (by omega)
   | false =>
   rw [cond_false]
   cases k4:k==4 with
   | true =>
    obtain ⟨u,s5,e1,e2,e3⟩:=G9 s4 d4 (by omega)
    obtain ⟨v,s6,f1,f2,f3⟩:=Bt s5 1 9 e3 (by omega) (by decide) (by decide) (by decide)
    rw [cond_true,e1,ob_]
    simp only []
    rw [f1,hx]
    simp only [ob_]
    rw [lS hi]
    simp only [ob_]
    exact two _ _ s6 ⟨hgx.id,hgx.sender,hgx.refs,hgx.rlen,e2,hgx.at_,hgx.until_,hgx.text⟩ f3 (by omega)
   | false =>
    obtain ⟨u,s5,e1,e2,e3⟩:=rY s4 [(⟨#[]⟩:ByteArray),(⟨#[32,120]⟩:ByteArray),(⟨#[97,32,32,98]⟩:ByteArray),(⟨#[10]⟩:ByteArray),(⟨#[255]⟩:ByteArray)] d4 (by omega) (by simp) (by simp)
    rw [cond_false,e1,hx]
    simp only [ob_]
    refine one _ s5 ⟨hgx.id,hgx.sender,hgx.refs,hgx.rlen,hgx.alen,hgx.at_,hgx.until_,?_⟩ e3 (by omega)
    simp only [List.mem_cons,List.not_mem_nil,or_false]at e2
    unfold txtL
    rcases e2 with rfl|rfl|rfl|rfl|rfl <;> simp
 ·rw [decide_eq_false h0,cond_false,ob_]
  exact⟨l,s1,rfl,⟨hg,hl⟩,a3.mono (by omega)⟩
end Go.Proofs.YtpmokglbipebcaaGreatDoor.Law

open Go Go.Eng
namespace Go.Proofs.YtpmokglbipebcaaGreatDoor.Law
set_option linter.unusedVariables false
set_option linter.unusedSimpArgs false
theorem F6 {s:ByteArray} (h:ShA s):s.data.toList.length<=1000:=by rw [<- Go.Lib.size_eq];exact h
theorem Af:∀(l:List ByteArray),(∀r∈l,ShA r)->(o6 l).length<=l.length*1005
 | [],_=>by simp [o6]
 | r::l,h=>by
  have:=F6 (h r (by simp))
  have:=Af l (λa ha=>h a (List.mem_cons_of_mem _ ha))
  simp only [o6,List.length_append,List.length_cons,List.length_nil,Nat.add_mul]
  omega
theorem Ak:∀(l:List ByteArray) (k:Nat) (out:List UInt8),(∀r∈l,ShA r)->out.length+l.length*2000<=1000000->forR (λk x s=>gp k x s) l k (SB out)=some (.go (SB (out++o6 l)))
 | [],k,out,_,_=>by simp [forR,o6]
 | r::l,k,out,h,hl=>by
  have hr:=F6 (h r (by simp))
  simp only [List.length_cons,Nat.add_mul]at hl
  have e0:r=SB r.data.toList:=rfl
  have hs:gp k r (SB out)=some (.go (SB (out++([114,101,102,32]++r.data.toList++[10])))):=by
   unfold gp
   have c1:kG (⟨#[114,101,102,32]⟩:ByteArray) r=some (SB ([114,101,102,32]++r.data.toList)):=qj [114,101,102,32] r.data.toList (by simp only [List.length_append,List.length_cons,List.length_nil];omega)
   have c2:kG (SB ([114,101,102,32]++r.data.toList)) (⟨#[10]⟩:ByteArray)=some (SB ([114,101,102,32]++r.data.toList++[10])):=qj _ [10] (by simp only [List.length_append,List.length_cons,List.length_nil];omega)
   have c3:=qj out ([114,101,102,32]++r.data.toList++[10]) (by simp only [List.length_append,List.length_cons,List.length_nil];omega)
   simp only [c1,c2,c3,ob_]
  simp only [forR,hs,ob_]
  rw [Ak l (k+1) _ (λa ha=>h a (List.mem_cons_of_mem _ ha)) (by simp only [List.length_append,List.length_cons,List.length_nil];omega)]
  simp [o6]
theorem medR {r:Rect} (h:Fine r):∀n∈qo r,Med n:=λn hn=>by
 obtain ⟨h1,h2,h3,h4,h5⟩:=h
 simp only [qo,List.mem_cons,List.not_mem_nil,or_false]at hn
 unfold Med
 rcases hn with rfl|rfl|rfl|rfl <;> omega
theorem yL:∀(l:List Rect),(∀r∈l,Fine r)->(jW l).length<=l.length*100
 | [],_=>by simp [jW]
 | r::l,h=>by
  have:=zy (qo r) (medR (h r (by simp)))
  have hn:(qo r).length=4:=rfl
  have:=yL l (λa ha=>h a (List.mem_cons_of_mem _ ha))
  simp only [jW,List.length_append,List.length_cons,List.length_nil,Nat.add_mul]
  omega
theorem zb:∀(l:List Rect) (k:Nat) (out:List UInt8),(∀r∈l,Fine r)->out.length+l.length*2000<=1000000->forR (λk x s=>gz k x s) l k (SB out)=some (.go (SB (out++jW l)))
 | [],k,out,_,_=>by simp [forR,jW]
 | r::l,k,out,h,hl=>by
  have hm:=medR (h r (by simp))
  have hr:=zy (qo r) hm
  have hn:(qo r).length=4:=rfl
  simp only [List.length_cons,Nat.add_mul]at hl
  have hnum:jT [r.X,r.Y,r.W,r.H]=some (SB (Go.Lib.join ((qo r).map Go.Lib.itoa) [32])):=yh (qo r) hm (by omega)
  have hs:gz k r (SB out)=some (.go (SB (out++([97,114,101,97,32]++Go.Lib.join ((qo r).map Go.Lib.itoa) [32]++[10])))):=by
   unfold gz
   have c1:kG (⟨#[97,114,101,97,32]⟩:ByteArray) (SB (Go.Lib.join ((qo r).map Go.Lib.itoa) [32]))=some (SB ([97,114,101,97,32]++Go.Lib.join ((qo r).map Go.Lib.itoa) [32])):=qj [97,114,101,97,32] _ (by simp only [List.length_cons,List.length_nil];omega)
   have c2:kG (SB ([97,114,101,97,32]++Go.Lib.join ((qo r).map Go.Lib.itoa) [32])) (⟨#[10]⟩:ByteArray)=some (SB ([97,114,101,97,32]++Go.Lib.join ((qo r).map Go.Lib.itoa) [32]++[10])):=qj _ [10] (by simp only [List.length_append,List.length_cons,List.length_nil];omega)
   have c3:=qj out ([97,114,101,97,32]++Go.Lib.join ((qo r).map Go.Lib.itoa) [32]++[10]) (by simp only [List.length_append,List.length_cons,List.length_nil];omega)
   simp only [hnum,c1,c2,c3,ob_]
  simp only [forR,hs,ob_]
  rw [zb l (k+1) _ (λa ha=>h a (List.mem_cons_of_mem _ ha)) (by simp only [List.length_append,List.length_cons,List.length_nil];omega)]
  simp [jW]
theorem Dn {x:Alert} (h:RA x):iR [x]=some (SB (Aw x)):=by
 obtain ⟨hg,h0⟩:=h
 have hf:=ra_f h0
 obtain ⟨f1,f2,f3⟩:=Ef hg h0
 have l1:=F6 hg.id
 have l2:=F6 hg.sender
 have l3:=zG x.Text hg.text
 have hk:x.Kind=1\/x.Kind=2\/x.Kind=3:=by have:=hf.kind;omega
 have hm:∀n∈([x.At,x.Until,x.Weight]:List Int),Med n:=λn hn=>by
  have:=hf.weight
  simp only [List.mem_cons,List.not_mem_nil,or_false]at hn
  unfold Med
  rcases hn with rfl|rfl|rfl <;> omega
 have hnum:=yh [x.At,x.Until,x.Weight] hm (by simp)
 have hnl:=zy [x.At,x.Until,x.Weight] hm
 simp only [List.length_cons,List.length_nil]at hnl
 have hw:idx ([(⟨#[]⟩:ByteArray),(⟨#[110,101,119]⟩:ByteArray),(⟨#[117,112,100,97,116,101]⟩:ByteArray),(⟨#[99,97,110,99,101,108]⟩:ByteArray)]:List ByteArray) x.Kind=some (SB (xg x.Kind)):=by
  rcases hk with e|e|e <;> rw [e] <;> rfl
 have hwl:(xg x.Kind).length<=6:=by
  rcases hk with e|e|e <;> rw [e] <;> decide
 have hR:=Af x.Refs hg.refs
 have hA:=yL x.Areas f3
 have b1:=hg.rlen
 have b2:=hg.alen
 have e1:x.Id=SB x.Id.data.toList:=rfl
 have c1:kG (⟨#[97,108,101,114,116,32]⟩:ByteArray) x.Id=some (SB ([97,108,101,114,116,32]++x.Id.data.toList)):=qj [97,108,101,114,116,32] x.Id.data.toList (by simp only [List.length_cons,List.length_nil];omega)
 have c2:∀l:List UInt8,l.length<=100000->kG (SB l) (⟨#[32]⟩:ByteArray)=some (SB (l++[32])):=λl hl=>qj l [32] (by simp only [List.length_cons,List.length_nil];omega)
 have c3:∀l:List UInt8,l.length<=100000->kG (SB l) x.Sender=some (SB (l++x.Sender.data.toList)):=λl hl=>qj l x.Sender.data.toList (by omega)
 have c4:∀l:List UInt8,l.length<=100000->kG (SB l) (⟨#[10]⟩:ByteArray)=some (SB (l++[10])):=λl hl=>qj l [10] (by simp only [List.length_cons,List.length_nil];omega)
 have c5:∀l m:List UInt8,l.length<=100000->m.length<=100000->kG (SB l) (SB m)=some (SB (l++m)):=λl m hl hm=>qj l m (by omega)
 have c6:kG (⟨#[]⟩:ByteArray) (SB (qU x))=some (SB (qU x)):=by
  have hh:(qU x).length<=100000:=by unfold qU;simp only [List.length_append,List.length_cons,List.length_nil];omega
  have:=qj [] (qU x) (by simp only [List.length_nil];omega)
  simpa using this
 have hh:(qU x).length<=3000:=by unfold qU;simp only [List.length_append,List.length_cons,List.length_nil];omega
 have hstep:iE 0 x (⟨#[]⟩:ByteArray)=some (.go (SB (Aw x))):=by
  unfold iE lT
  rw [c1,ob_,c2 _ (by simp only [List.length_append,List.length_cons,List.length_nil];omega),ob_,c3 _ (by simp only [List.length_append,List.length_cons,List.length_nil];omega),ob_,c2 _ (by simp only [List.length_append,List.length_cons,List.length_nil];omega),ob_,ob_,hw,ob_,
   c5 _ _ (by simp only [List.length_append,List.length_cons,List.length_nil];omega) (by omega),ob_,c2 _ (by simp only [List.length_append,List.length_cons,List.length_nil];omega),ob_,hnum,ob_,c5 _ _ (by simp only [List.length_append,List.length_cons,List.length_nil];omega) (by omega),ob_,
   c4 _ (by simp only [List.length_append,List.length_cons,List.length_nil];omega),ob_]
  have c6':=c6
  unfold qU at c6'
  rw [c6',ob_]
  have hfold:([97,108,101,114,116,32]++x.Id.data.toList++[32]++x.Sender.data.toList++[32]++xg x.Kind++[32]++Go.Lib.join (([x.At,x.Until,x.Weight]:List Int).map Go.Lib.itoa) [32]++[10])=qU x:=rfl
  rw [hfold,fZ (by omega),Ak x.Refs 0 (qU x) hg.refs (by omega),ob_,lL,fZ (by omega),zb x.Areas 0 _ f3 (by simp only [List.length_append];omega),ob_,lL]
  unfold Aw uX
  by_cases ht:x.Text=⟨#[]⟩
  ·have e:sNe x.Text (⟨#[]⟩:ByteArray)=false:=by rw [r9];simp [ht]
   rw [e,cond_false,if_pos ht,List.append_nil];rfl
  ·have e:sNe x.Text (⟨#[]⟩:ByteArray)=true:=by rw [r9];simp [ht]
   have lt':x.Text.data.toList.length<=16:=by rw [<- Go.Lib.size_eq];exact l3
   have d1:kG (⟨#[116,101,120,116,32]⟩:ByteArray) x.Text=some (SB ([116,101,120,116,32]++x.Text.data.toList)):=qj [116,101,120,116,32] x.Text.data.toList (by simp only [List.length_cons,List.length_nil];omega)
   rw [e,cond_true,if_neg ht,d1,ob_,c4 _ (by simp only [List.length_append,List.length_cons,List.length_nil];omega),ob_,c5 _ _ (by simp only [List.length_append];omega) (by simp only [List.length_append,List.length_cons,List.length_nil];omega),ob_]
   rfl
 unfold iR
 rw [fZ (by simp)]
 simp only [forR,hstep,ob_,lL]
theorem Ih {a b:Alert} (ha:RA a) (hb:RA b):jB a b=some (decide (a=b)):=by
 unfold jB
 rw [Dn ha,Dn hb,ob_,ob_,xY]
 congr 1
 rw [Bool.eq_iff_iff,decide_eq_true_eq,decide_eq_true_eq]
 constructor
 ·exact λh=>Hr (ra_f ha.2) (ra_f hb.2) (sb_inj h)
 ·rintro rfl;rfl
end Go.Proofs.YtpmokglbipebcaaGreatDoor.Law

open Go Go.Eng
namespace Go.Proofs.YtpmokglbipebcaaGreatDoor.Law
set_option linter.unusedVariables false
set_option linter.unusedSimpArgs false
set_option maxRecDepth 100000
def l5 (s_1:ByteArray):Option (Bool) :=
 (CS 0 (λs=>iC s_1 s)).bind λo_10=>thenC o_10 (λs_7=>(bif (sNe s_1 (⟨#[]⟩:ByteArray))then some (decide ((s_1.size:Int)<=40))else some false).bind λv_30=>some v_30) (λr=>some r)
theorem qP (s_1:ByteArray):Le (l5 s_1) (kit_IsKey s_1):=by
 unfold l5 kit_IsKey
 repeat' (with_reducible first | exact Le.refl _ | refine Le.loop (λ_ => ?_) | refine Le.forL (λ_ _ _ => ?_) | refine Le.thenC (λ_ => ?_) (λ_ => ?_) | refine Le.cond ?_ ?_ | refine Le.bind ?_ (λ_ => ?_))
def kH (a_1:Alert) (k_4:Nat) (x_6:ByteArray) (s_9:Unit):Option (Ctl (Unit) (Int)) :=
 (l5 x_6).bind λr_14=>bif (!r_14)then some (.ret 5)else (bif (decide ((k_4:Int)>0))then (idx a_1.Refs (w64 ((k_4:Int)-1))).bind λy_20=>some (sLe x_6 y_20)else some false).bind λv_17=>bif v_17 then some (.ret 7)else bif (sEq x_6 a_1.Id)then some (.ret 14)else some (.go ())
theorem qY (a_1:Alert) (k_4:Nat) (x_6:ByteArray) (s_9:Unit):Le (kH a_1 k_4 x_6 s_9) (dP a_1 k_4 x_6 s_9):=by
 unfold kH dP
 repeat' (with_reducible first | exact Le.refl _ | exact qP _ | refine Le.loop (λ_ => ?_) | refine Le.forL (λ_ _ _ => ?_) | refine Le.thenC (λ_ => ?_) (λ_ => ?_) | refine Le.cond ?_ ?_ | refine Le.bind ?_ (λ_ => ?_))
def mo (a_1:Alert):Option (Int) :=
 bif (decide ((a_1.Refs.length:Int)>20))then some 2 else (forL a_1.Refs () (λk x s=>kH a_1 k x s)).bind λo_12=>thenC o_12 (λs_9=>bif (!((a_1.Kind==1)==((a_1.Refs.length:Int)==0)))then some 3 else some 0) (λr=>some r)
theorem uH (a_1:Alert):Le (mo a_1) (gH a_1):=by
 unfold mo gH
 repeat' (with_reducible first | exact Le.refl _ | exact qY _ _ _ _ | refine Le.loop (λ_ => ?_) | refine Le.forL (λ_ _ _ => ?_) | refine Le.thenC (λ_ => ?_) (λ_ => ?_) | refine Le.cond ?_ ?_ | refine Le.bind ?_ (λ_ => ?_))
def lM (a_1:Alert):Option (Int) :=
 ((l5 a_1.Id).bind λr_5=>bif (!r_5)then some true else (l5 a_1.Sender).bind λr_8=>some (!r_8)).bind λv_3=>bif v_3 then some 5 else (bX a_1.Kind 1 3).bind λr_11=>bif r_11 then some 4 else (mo a_1).bind λr_14=>bif (r_14 != 0)then some r_14 else ((kg a_1.At).bind λr_19=>bif (!r_19)then some true else (bX a_1.Until (w64 (a_1.At+1)) (w64 (a_1.At+2592000000))).bind λr_22=>bif r_22 then some true else (bX a_1.Weight 1 9).bind λr_25=>some r_25).bind λv_17=>bif v_17 then some 1 else bif (decide ((a_1.Areas.length:Int)>20))then some 2 else (forL a_1.Areas () (λk x s=>eB k x s)).bind λo_37=>thenC o_37 (λs_34=>bif (!((a_1.Kind==3)==((a_1.Areas.length:Int)==0)))then some 3 else bif (decide ((a_1.Text.size:Int)>500))then some 2 else ((eQ a_1.Text).bind λr_47=>bif (!r_47)then some true else bif (sEq a_1.Text (⟨#[]⟩:ByteArray))then some (!(a_1.Kind==3))else some false).bind λv_45=>bif v_45 then some 3 else some 0) (λr=>some r)
theorem sU (a_1:Alert):Le (lM a_1) (fI a_1):=by
 unfold lM fI
 repeat' (with_reducible first | exact Le.refl _ | exact qP _ | exact uH _ | exact eH _ | exact xG _ | refine Le.loop (λ_ => ?_) | refine Le.forL (λ_ _ _ => ?_) | refine Le.thenC (λ_ => ?_) (λ_ => ?_) | refine Le.cond ?_ ?_ | refine Le.bind ?_ (λ_ => ?_))
def jE (l_1:(List Alert)) (k_3:Nat) (x_5:Alert) (s_8:Unit):Option (Ctl (Unit) (Int)) :=
 (lM x_5).bind λr_14=>bif (r_14 != 0)then some (.ret r_14)else (bif (decide ((k_3:Int)>0))then (idx l_1 (w64 ((k_3:Int)-1))).bind λy_20=>(fK y_20 x_5).bind λr_22=>some (decide (r_22>=0))else some false).bind λv_17=>bif v_17 then some (.ret 7)else some (.go ())
theorem p8 (l_1:(List Alert)) (k_3:Nat) (x_5:Alert) (s_8:Unit):Le (jE l_1 k_3 x_5 s_8) (dz l_1 k_3 x_5 s_8):=by
 unfold jE dz
 repeat' (with_reducible first | exact Le.refl _ | exact sU _ | refine Le.loop (λ_ => ?_) | refine Le.forL (λ_ _ _ => ?_) | refine Le.thenC (λ_ => ?_) (λ_ => ?_) | refine Le.cond ?_ ?_ | refine Le.bind ?_ (λ_ => ?_))
def kU (l_1:(List Alert)):Option (Int) :=
 bif (decide ((l_1.length:Int)>300))then some 2 else (forL l_1 () (λk x s=>jE l_1 k x s)).bind λo_11=>thenC o_11 (λs_8=>(forL l_1 ([]:List (ByteArray×Bool)) (λk x s=>bH k x s)).bind λo_34=>thenC o_34 (λs_31=>some 0) (λr=>some r)) (λr=>some r)
theorem rG (l_1:(List Alert)):Le (kU l_1) (dK l_1):=by
 unfold kU dK
 repeat' (with_reducible first | exact Le.refl _ | exact p8 _ _ _ _ | refine Le.loop (λ_ => ?_) | refine Le.forL (λ_ _ _ => ?_) | refine Le.thenC (λ_ => ?_) (λ_ => ?_) | refine Le.cond ?_ ?_ | refine Le.bind ?_ (λ_ => ?_))
def jS (l_1:(List Post)) (k_3:Nat) (x_5:Post) (s_8:Unit):Option (Ctl (Unit) (Int)) :=
 (l5 x_5.Player).bind λr_14=>bif (!r_14)then some (.ret 5)else ((bX x_5.X (-100000) 100000).bind λr_19=>bif r_19 then some true else (bX x_5.Y (-100000) 100000).bind λr_22=>some r_22).bind λv_17=>bif v_17 then some (.ret 1)else (bif (decide ((k_3:Int)>0))then (idx l_1 (w64 ((k_3:Int)-1))).bind λy_28=>some (sLe x_5.Player y_28.Player)else some false).bind λv_25=>bif v_25 then some (.ret 7)else some (.go ())
theorem qK (l_1:(List Post)) (k_3:Nat) (x_5:Post) (s_8:Unit):Le (jS l_1 k_3 x_5 s_8) (gL l_1 k_3 x_5 s_8):=by
 unfold jS gL
 repeat' (with_reducible first | exact Le.refl _ | exact qP _ | refine Le.loop (λ_ => ?_) | refine Le.forL (λ_ _ _ => ?_) | refine Le.thenC (λ_ => ?_) (λ_ => ?_) | refine Le.cond ?_ ?_ | refine Le.bind ?_ (λ_ => ?_))
def lU (l_1:(List Post)):Option (Int) :=
 bif (decide ((l_1.length:Int)>500))then some 2 else (forL l_1 () (λk x s=>jS l_1 k x s)).bind λo_11=>thenC o_11 (λs_8=>some 0) (λr=>some r)
theorem sO (l_1:(List Post)):Le (lU l_1) (iO l_1):=by
 unfold lU iO
 repeat' (with_reducible first | exact Le.refl _ | exact qK _ _ _ _ | refine Le.loop (λ_ => ?_) | refine Le.forL (λ_ _ _ => ?_) | refine Le.thenC (λ_ => ?_) (λ_ => ?_) | refine Le.cond ?_ ?_ | refine Le.bind ?_ (λ_ => ?_))
def mr (l_1:(List Alert)) (posts_2:(List Post)):Option (Int) :=
 (kU l_1).bind λr_3=>bif (r_3 != 0)then some r_3 else (lU posts_2).bind λr_6=>some r_6
theorem tZ (l_1:(List Alert)) (posts_2:(List Post)):Le (mr l_1 posts_2) (jo l_1 posts_2):=by
 unfold mr jo
 repeat' (with_reducible first | exact Le.refl _ | exact rG _ | exact sO _ | refine Le.loop (λ_ => ?_) | refine Le.forL (λ_ _ _ => ?_) | refine Le.thenC (λ_ => ?_) (λ_ => ?_) | refine Le.cond ?_ ?_ | refine Le.bind ?_ (λ_ => ?_))
def oF (a_1:Alert) (p_2:Post):Option (Bool×Int) :=
 (mr ([a_1]:List Alert) ([p_2]:List Post)).bind λr_5=>bif (r_5 != 0)then some (false,r_5)else (mH a_1 p_2).bind λr_8=>some (r_8,0)
theorem vY (a_1:Alert) (p_2:Post):Le (oF a_1 p_2) (kQ a_1 p_2):=by
 unfold oF kQ
 repeat' (with_reducible first | exact Le.refl _ | exact tZ _ _ | refine Le.loop (λ_ => ?_) | refine Le.forL (λ_ _ _ => ?_) | refine Le.thenC (λ_ => ?_) (λ_ => ?_) | refine Le.cond ?_ ?_ | refine Le.bind ?_ (λ_ => ?_))
def rO  : Option (Bool) :=
 (oF (⟨(⟨#[97]⟩:ByteArray),(⟨#[115]⟩:ByteArray),1,([]:List ByteArray),0,5,1,([(⟨0,0,2,2⟩:Rect)]:List Rect),(⟨#[120]⟩:ByteArray)⟩:Alert) (⟨(⟨#[112]⟩:ByteArray),1,1⟩:Post)).bind λr_2=>(bif (r_2.2==0)then some r_2.1 else some false).bind λv_4=>some v_4
theorem zY  : Le (rO) (mq):=by
 unfold rO mq
 repeat' (with_reducible first | exact Le.refl _ | exact vY _ _ | refine Le.loop (λ_ => ?_) | refine Le.forL (λ_ _ _ => ?_) | refine Le.thenC (λ_ => ?_) (λ_ => ?_) | refine Le.cond ?_ ?_ | refine Le.bind ?_ (λ_ => ?_))
end Go.Proofs.YtpmokglbipebcaaGreatDoor.Law

open Go Go.Eng
namespace Go.Proofs.YtpmokglbipebcaaGreatDoor.Law
set_option linter.unusedVariables false
set_option maxRecDepth 100000
theorem Iz:rO=some true:=by kernel_rfl
theorem Ae:mq=some true:=zY _ Iz
end Go.Proofs.YtpmokglbipebcaaGreatDoor.Law

