/-
  THE PLAIN LAW (part 4).
-/
import Derived.Test.YtpmokglbipebcaaGreatDoorPl3
import Derived.Test.YtpmokglbipebcaaGreatDoorDefs
open Go Go.Eng
namespace Go.Proofs.YtpmokglbipebcaaGreatDoor.Law
set_option linter.unusedVariables false
set_option linter.unusedSimpArgs false
structure CA (l:List Alert):Prop where
 ids:(l.map (·.Id)).Nodup
 len:l.length<=12
 refs:∀x∈l,x.Refs.length<=1000
 alen:∀x∈l,x.Areas.length<=1000
 areas:∀x∈l,∀r∈x.Areas,Fine r
 at_:∀x∈l,0<=x.At/\x.At<=1000000000000
 until_:∀x∈l,0<=x.Until/\x.Until<=2000000000000
theorem xq (a b:Alert):∃n,fO a b=some n/\(n<0↔befA a b):=by
 refine⟨_,by simp only [fO,yZ,He,or2_eq,ob_];rfl,?_⟩
 rw [or0_neg,IY,Gy,Dt];rfl
end Go.Proofs.YtpmokglbipebcaaGreatDoor.Law

open Go Go.Eng
namespace Go.Proofs.YtpmokglbipebcaaGreatDoor.Law
set_option linter.unusedVariables false
set_option linter.unusedSimpArgs false
set_option maxRecDepth 100000
def chA {α:Type} (stp:Option α->α->Int):Option α->List α->Int
 | _,[]=>0
 | p,x::l=>bif stp p x==0 then chA stp (some x) l else stp p x
def jY {α:Type} (l:List α) (k:Nat):Option α:=if k=0 then none else l[k-1]?
theorem Ee {α:Type} {stp:Option α->α->Int} {body:Nat->α->Unit->Option (Ctl Unit Int)} (l:List α):∀(xs:List α) (k:Nat),l.drop k=xs->(∀k x,l[k]? = some x->body k x ()=some (qp (stp (jY l k) x)))->forR body xs k ()=some (qp (chA stp (jY l k) xs))
 | [],k,_,_=>rfl
 | x::xs,k,hd,h=>by
  have hx:=zb hd
  have hp:jY l (k+1)=some x:=by unfold jY;rw [if_neg (by omega)];exact hx
  rw [forR,h k x hx,ob_,chA]
  cases hs:stp (jY l k) x==0 with
  | true =>
   have e:qp (stp (jY l k) x) = .go ():=by unfold qp;rw [hs];rfl
   rw [e,cond_true,<- hp]
   exact Ee l xs (k+1) (aY hd) h
  | false =>
   have e:qp (stp (jY l k) x) = .ret (stp (jY l k) x):=by unfold qp;rw [hs];rfl
   rw [e,cond_false,e]
theorem rY {α:Type} {stp:Option α->α->Int} {body:Nat->α->Unit->Option (Ctl Unit Int)} {l:List α} (hl:l.length<=1000000) (h:∀k x,l[k]? = some x->body k x ()=some (qp (stp (jY l k) x))):forL l () body=some (qp (chA stp none l)):=by
 rw [fZ (by omega)]
 exact Ee l l 0 rfl h
theorem CZ {α:Type} {stp:Option α->α->Int}:∀{l:List α} {p:Option α},chA stp p l=0->∀(i:Nat) (x:α),l[i]? = some x->∃q,stp q x=0/\(i=0->q=p)/\(0<i->q=l[i-1]?)
 | [],p,_,i,x,hx=>by simp at hx
 | y::l,p,h,i,x,hx=>by
  rw [chA]at h
  cases hs:stp p y==0 with
  | false=>rw [hs,cond_false]at h;rw [h]at hs;exact absurd hs (by decide)
  | true =>
   rw [hs,cond_true]at h
   cases i with
   | zero =>
    rw [List.getElem?_cons_zero,so_]at hx
    exact⟨p,by rw [<- hx];exact eq_of_beq hs,λ_=>rfl,λh=>absurd h (Nat.lt_irrefl _)⟩
   | succ i =>
    rw [List.getElem?_cons_succ]at hx
    obtain ⟨q,q1,q2,q3⟩:=CZ h i x hx
    refine⟨q,q1,λh=>absurd h (by omega),λ_ => ?_⟩
    cases i with
    | zero=>rw [q2 rfl];rfl
    | succ i=>rw [q3 (by omega)];simp
theorem ma (e:Int):(e=0/\qp e = .go ())\/(e≠0/\qp e = .ret e):=by
 unfold qp
 by_cases h:e=0
 ·subst h;exact .inl ⟨rfl,rfl⟩
 ·have:(e==0)=false:=by simpa using h
  rw [this];exact .inr ⟨h,rfl⟩
theorem Hw (n:Nat):mY (n:Int)=some (decide ((n:Int)<32)||((n:Int)==127)):=by
 unfold mY
 cases decide ((n:Int)<32) <;> rfl
def runeB (n:Nat):Bool:=decide ((n:Int)<32)||((n:Int)==127)
theorem iY (s:ByteArray) {t:ByteArray} {v c k r:Bool} (h1:eP s=some v) (h2:decide (0<=Lib.idxFunc runeB true s)=c) (h3:mG s ⟨#[32]⟩=some t) (h4:strings_Contains s ⟨#[32,32]⟩=some k) (h5:(v&&(!c&&(sEq t s && !k)))=r):nT s=some r:=by
 subst h5
 unfold nT gZ
 rw [h1,zO (p:=runeB) (λn=>Hw n),h2,qW _ _ _ h3,h4]
 cases v with
 | false=>rfl
 | true =>
  cases c with
  | true=>rfl
  | false =>
   simp only [ob_,cond_true,Bool.not_false]
   cases sEq t s <;> rfl
def kW (s:ByteArray):Bool:=decide (s=⟨#[]⟩)||(decide (s=overS)||(decide (s=floodS)||decide (s=mallS)))
theorem AB:∀s∈txtL,jZ s=some (kW s)/\nT s=some (kW s):=by
 intro s hs
 unfold txtL at hs
 simp only [List.mem_cons,List.not_mem_nil,or_false]at hs
 rcases hs with rfl|rfl|rfl|rfl|rfl|rfl|rfl|rfl
 ·exact⟨eO _ _ (show eQ ⟨#[]⟩=some (kW ⟨#[]⟩) by kernel_rfl),iY ⟨#[]⟩ (v:=true) (c:=false) (t:=⟨#[]⟩) (k:=false) (by kernel_rfl) (by kernel_rfl) (by kernel_rfl) (by kernel_rfl) (by kernel_rfl)⟩
 ·exact⟨eO _ _ (show eQ overS=some (kW overS) by kernel_rfl),iY overS (v:=true) (c:=false) (t:=overS) (k:=false) (by kernel_rfl) (by kernel_rfl) (by kernel_rfl) (by kernel_rfl) (by kernel_rfl)⟩
 ·exact⟨eO _ _ (show eQ floodS=some (kW floodS) by kernel_rfl),iY floodS (v:=true) (c:=false) (t:=floodS) (k:=false) (by kernel_rfl) (by kernel_rfl) (by kernel_rfl) (by kernel_rfl) (by kernel_rfl)⟩
 ·exact⟨eO _ _ (show eQ mallS=some (kW mallS) by kernel_rfl),iY mallS (v:=true) (c:=false) (t:=mallS) (k:=false) (by kernel_rfl) (by kernel_rfl) (by kernel_rfl) (by kernel_rfl) (by kernel_rfl)⟩
 ·exact⟨eO _ _ (show eQ ⟨#[32,120]⟩=some (kW ⟨#[32,120]⟩) by kernel_rfl),iY ⟨#[32,120]⟩ (v:=true) (c:=false) (t:=⟨#[120]⟩) (k:=false) (by kernel_rfl) (by kernel_rfl) (by kernel_rfl) (by kernel_rfl) (by kernel_rfl)⟩
 ·exact⟨eO _ _ (show eQ ⟨#[97,32,32,98]⟩=some (kW ⟨#[97,32,32,98]⟩) by kernel_rfl),iY ⟨#[97,32,32,98]⟩ (v:=true) (c:=false) (t:=⟨#[97,32,32,98]⟩) (k:=true) (by kernel_rfl) (by kernel_rfl) (by kernel_rfl) (by kernel_rfl) (by kernel_rfl)⟩
 ·exact⟨eO _ _ (show eQ ⟨#[10]⟩=some (kW ⟨#[10]⟩) by kernel_rfl),iY ⟨#[10]⟩ (v:=true) (c:=true) (t:=⟨#[10]⟩) (k:=false) (by kernel_rfl) (by kernel_rfl) (by kernel_rfl) (by kernel_rfl) (by kernel_rfl)⟩
 ·exact⟨eO _ _ (show eQ ⟨#[255]⟩=some (kW ⟨#[255]⟩) by kernel_rfl),iY ⟨#[255]⟩ (v:=false) (c:=false) (t:=⟨#[255]⟩) (k:=false) (by kernel_rfl) (by kernel_rfl) (by kernel_rfl) (by kernel_rfl) (by kernel_rfl)⟩
theorem zi:∀s∈txtL,s.size<=16:=by
 intro s hs
 unfold txtL at hs
 simp only [List.mem_cons,List.not_mem_nil,or_false]at hs
 rcases hs with rfl|rfl|rfl|rfl|rfl|rfl|rfl|rfl <;> decide
def xc {α:Type} (f:α->Bool):Option α->Bool
 | some y=>f y
 | none=>false
def nA (id:ByteArray) (p:Option ByteArray) (r:ByteArray):Int:=bif !keyB r then 5 else bif xc (λq=>sLe r q) p then 7 else bif sEq r id then 14 else 0
def kR (_:Option Rect) (r:Rect):Int:=bif zY r then 1 else 0
theorem A7 {α β:Type} {l:List α} {k:Nat} {x:α} (h:l[k]? = some x) (hl:l.length<=1000000) (g:α->Option Bool) (f:α->Bool) (hg:∀y,g y=some (f y)):(bif (decide ((k:Int)>0))then (idx l (w64 ((k:Int)-1))).bind g else some false)=some (xc f (jY l k)):=by
 rcases Nat.eq_zero_or_pos k with h0|h0
 ·subst h0
  rw [decide_eq_false (by omega)];rfl
 ·obtain ⟨y,q1,q2⟩:=CU h h0 (by omega)
  rw [decide_eq_true (by omega),cond_true,q1,ob_,hg]
  unfold jY
  rw [if_neg (by omega),q2];rfl
theorem Fg (x:Alert) (h:GA x):∀k r,x.Refs[k]? = some r->dP x k r ()=some (qp (nA x.Id (jY x.Refs k) r)):=λk r hr=>by
 have hl:=h.rlen
 have hs:=h.refs r (List.mem_of_getElem? hr)
 unfold ShA at hs
 unfold dP
 rw [yz r (by omega),A7 (β:=Unit) hr (by omega) (λy_20=>some (sLe r y_20)) (λy=>sLe r y) (λ_=>rfl),ob_,ob_]
 unfold nA
 cases keyB r with
 | false=>rfl
 | true =>
  cases xc (λq=>sLe r q) (jY x.Refs k)with
  | true=>rfl
  | false=>cases sEq r x.Id <;> rfl
theorem EN (x:Alert) (h:GA x):∀k r,x.Refs[k]? = some r->gy x k r ()=some (qp (nA x.Id (jY x.Refs k) r)):=λk r hr=>by
 have hl:=h.rlen
 have hs:=h.refs r (List.mem_of_getElem? hr)
 unfold ShA at hs
 unfold gy
 rw [vX r (by omega),A7 (β:=Unit) hr (by omega) (λy_20=>some (sLe r y_20)) (λy=>sLe r y) (λ_=>rfl),ob_,ob_]
 unfold nA
 cases keyB r with
 | false=>rfl
 | true =>
  cases xc (λq=>sLe r q) (jY x.Refs k)with
  | true=>rfl
  | false=>cases sEq r x.Id <;> rfl
theorem EK (x:Alert):∀k r,x.Areas[k]? = some r->eB k r ()=some (qp (kR (jY x.Areas k) r)):=λk r hr=>by
 unfold eB kR
 rw [Bf]
 cases zY r <;> rfl
theorem EA (x:Alert):∀k r,x.Areas[k]? = some r->gq k r ()=some (qp (kR (jY x.Areas k) r)):=λk r hr=>by
 unfold gq kR
 rw [Bi]
 cases zY r <;> rfl
def rfV (x:Alert):Int:=chA (nA x.Id) none x.Refs
def arV (x:Alert):Int:=chA kR none x.Areas
def fmV (x:Alert):Bool := !((x.Kind==1)==((x.Refs.length:Int)==0))
def agV (x:Alert):Bool := !xN x.At||(jr x.Until (x.At+1) (x.At+2592000000)||jr x.Weight 1 9)
def txV (x:Alert):Bool := !kW x.Text||(sEq x.Text ⟨#[]⟩ && !(x.Kind==3))
def cnV (x:Alert):Bool := !((x.Kind==3)==((x.Areas.length:Int)==0))
def alF (x:Alert):Int:=bif !keyB x.Id || !keyB x.Sender then 5 else bif jr x.Kind 1 3 then 4 else bif rfV x==0 then (bif fmV x then 3 else bif agV x then 1 else bif arV x==0 then (bif cnV x then 3 else bif txV x then 3 else 0)else arV x)else rfV x
theorem alF_K {x:Alert} (h:GA x):fD x=some (alF x):=by
 have h1:=h.id
 have h2:=h.sender
 have h3:=h.at_
 have h4:=h.rlen
 have h5:=h.alen
 have h6:=zi _ h.text
 unfold ShA at h1 h2
 have hrf:gG x=some (bif rfV x==0 then (bif fmV x then 3 else 0)else rfV x):=by
  unfold gG
  rw [decide_eq_false (by omega),cond_false,rY (stp:=nA x.Id) (body:=λk r s=>dP x k r s) (by omega) (Fg x h)]
  unfold rfV fmV
  rcases ma (chA (nA x.Id) none x.Refs)with⟨e1,e2⟩|⟨e1,e2⟩
  ·rw [e2,e1]
   simp only [ob_,thenC]
   cases (!((x.Kind==1)==((x.Refs.length:Int)==0))) <;> rfl
  ·have:(chA (nA x.Id) none x.Refs==0)=false:=by simpa using e1
   rw [e2,this];rfl
 unfold fD alF
 rw [yz _ (by omega),yz _ (by omega),hrf,qG,Dr,fF (n:=x.At+1) (by omega),fF (n:=x.At+2592000000) (by omega),qG,qG,(AB _ h.text).1,decide_eq_false (show ¬(x.Areas.length:Int)>20 by omega),decide_eq_false (show ¬(x.Text.size:Int)>500 by omega)]
 rw [rY (stp:=kR) (body:=λk r s=>eB k r s) (by omega) (EK x)]
 have ek:(bif !keyB x.Id then some true else some (!keyB x.Sender))=some (!keyB x.Id || !keyB x.Sender):=by cases keyB x.Id <;> rfl
 have ea:((some (xN x.At)).bind λr_19=>bif (!r_19)then some true else (some (jr x.Until (x.At+1) (x.At+2592000000))).bind λr_22=>bif r_22 then some true else (some (jr x.Weight 1 9)).bind λr_25=>some r_25)=some (agV x):=by
  unfold agV
  cases xN x.At <;> cases jr x.Until (x.At+1) (x.At+2592000000) <;> rfl
 have et:((some (kW x.Text)).bind λr_47=>bif (!r_47)then some true else bif (sEq x.Text (⟨#[]⟩:ByteArray))then some (!(x.Kind==3))else some false)=some (txV x):=by
  unfold txV
  cases kW x.Text <;> cases sEq x.Text ⟨#[]⟩ <;> rfl
 have ec:(!((x.Kind==3)==((x.Areas.length:Int)==0)))=cnV x:=rfl
 rw [ea,et,ec]
 simp only [ob_]
 rw [ek]
 simp only [ob_]
 cases (!keyB x.Id || !keyB x.Sender)with
 | true=>rfl
 | false =>
 cases jr x.Kind 1 3 with
 | true=>rfl
 | false =>
 simp only [cond_false]
 cases hr:rfV x==0 with
 | false =>
  have:(rfV x != 0)=true:=by simp [bne,hr]
  simp only [cond_false,this,cond_true]
 | true =>
  simp only [cond_true]
  cases fmV x with
  | true=>rfl
  | false =>
   cases agV x with
   | true=>rfl
   | false =>
    simp only [cond_false,bne_self_eq_false]
    unfold arV
    rcases ma (chA kR none x.Areas)with⟨e1,e2⟩|⟨e1,e2⟩
    ·rw [e2,e1]
     simp only [thenC]
     cases cnV x with
     | true=>rfl
     | false=>cases txV x <;> rfl
    ·have:(chA kR none x.Areas==0)=false:=by simpa using e1
     rw [e2,this];rfl
theorem alF_R {x:Alert} (h:GA x):jT x=some (alF x):=by
 have h1:=h.id
 have h2:=h.sender
 have h3:=h.at_
 have h4:=h.rlen
 have h5:=h.alen
 have h6:=zi _ h.text
 unfold ShA at h1 h2
 have hm:nV x.At=some (xN x.At):=by unfold nV xN;rw [CW];rfl
 unfold jT alF
 rw [vX _ (by omega),vX _ (by omega),hm,CW,fF (n:=x.At+1) (by omega),fF (n:=x.At+2592000000) (by omega),CW,CW,(AB _ h.text).2,decide_eq_false (show ¬(x.Refs.length:Int)>20 by omega),decide_eq_false (show ¬(x.Areas.length:Int)>20 by omega),decide_eq_false (show ¬(x.Text.size:Int)>500 by omega)]
 rw [rY (stp:=kR) (body:=λk r s=>gq k r s) (by omega) (EA x),rY (stp:=nA x.Id) (body:=λk r s=>gy x k r s) (by omega) (EN x h)]
 have ek:(bif !keyB x.Id then some true else some (!keyB x.Sender))=some (!keyB x.Id || !keyB x.Sender):=by cases keyB x.Id <;> rfl
 have ea:((some (xN x.At)).bind λr_38=>bif (!r_38)then some true else (some (!jr x.Until (x.At+1) (x.At+2592000000))).bind λr_41=>bif (!r_41)then some true else (some (!jr x.Weight 1 9)).bind λr_44=>some (!r_44))=some (agV x):=by
  unfold agV
  cases xN x.At <;> cases jr x.Until (x.At+1) (x.At+2592000000) <;> cases jr x.Weight 1 9 <;> rfl
 have et:((some (kW x.Text)).bind λr_66=>bif (!r_66)then some true else bif (sEq x.Text (⟨#[]⟩:ByteArray))then some (x.Kind != 3)else some false)=some (txV x):=by
  unfold txV
  cases kW x.Text <;> cases sEq x.Text ⟨#[]⟩ <;> rfl
 have ec:(!((x.Kind==3)==((x.Areas.length:Int)==0)))=cnV x:=rfl
 have ef:(!((x.Kind==1)==((x.Refs.length:Int)==0)))=fmV x:=rfl
 rw [ea,et,ec,ef]
 simp only [ob_]
 rw [ek]
 simp only [ob_]
 cases (!keyB x.Id || !keyB x.Sender)with
 | true=>rfl
 | false =>
 cases jr x.Kind 1 3 with
 | true=>rfl
 | false =>
 simp only [cond_false,Bool.not_false]
 unfold rfV arV
 rcases ma (chA (nA x.Id) none x.Refs)with⟨e1,e2⟩|⟨e1,e2⟩
 ·rw [e2,e1]
  simp only [thenC]
  cases fmV x with
  | true=>rfl
  | false =>
   cases agV x with
   | true=>rfl
   | false =>
    simp only [cond_false]
    rcases ma (chA kR none x.Areas)with⟨k1,k2⟩|⟨k1,k2⟩
    ·rw [k2,k1]
     simp only [thenC]
     cases cnV x with
     | true=>rfl
     | false=>cases txV x <;> rfl
    ·have:(chA kR none x.Areas==0)=false:=by simpa using k1
     rw [k2,this];rfl
 ·have:(chA (nA x.Id) none x.Refs==0)=false:=by simpa using e1
  rw [e2,this];rfl
end Go.Proofs.YtpmokglbipebcaaGreatDoor.Law

open Go Go.Eng
namespace Go.Proofs.YtpmokglbipebcaaGreatDoor.Law
set_option linter.unusedVariables false
set_option linter.unusedSimpArgs false
section
variable {K T:Type} {eq:K->K->Bool}
theorem IQ (k:K):jo eq ([]:List (K×T)) k=none:=rfl
theorem nU (e:K×T) (es:List (K×T)) (k:K):jo eq (e::es) k=if eq k e.1=true then some e.2 else jo eq es k:=by
 unfold jo
 rw [vR]
 by_cases h:eq k e.1=true
 ·rw [if_pos h,if_pos h];rfl
 ·rw [if_neg h,if_neg h]
  cases vR eq k es with
  | none=>rfl
  | some j=>rfl
theorem Jm (k:K) (v:T):pg eq ([]:List (K×T)) k v=[(k,v)]:=rfl
theorem wJ (e:K×T) (es:List (K×T)) (k:K) (v:T):pg eq (e::es) k v=if eq k e.1=true then (k,v)::es else e::pg eq es k v:=by
 unfold pg
 rw [vR]
 by_cases h:eq k e.1=true
 ·rw [if_pos h,if_pos h];rfl
 ·rw [if_neg h,if_neg h]
  cases vR eq k es with
  | none=>rfl
  | some j=>rfl
theorem Ak (he:∀a b,eq a b=true↔a=b) (k k':K) (v:T):∀es:List (K×T),jo eq (pg eq es k v) k'=if eq k' k=true then some v else jo eq es k'
 | []=>by rw [Jm,nU]
 | e::es=>by
  rw [wJ,nU]
  by_cases h:eq k e.1=true
  ·rw [if_pos h,nU]
   have h1:=(he _ _).1 h
   rw [<- h1]
   by_cases h2:eq k' k=true
   ·rw [if_pos h2,if_pos h2]
   ·rw [if_neg h2,if_neg h2,if_neg h2]
  ·rw [if_neg h,nU,Ak he k k' v es]
   by_cases h2:eq k' e.1=true
   ·have h3:=(he _ _).1 h2
    have:¬eq k' k=true:=λq=>h (by rw [<- (he _ _).1 q];exact h2)
    rw [if_pos h2,if_neg this,if_pos h2]
   ·rw [if_neg h2,if_neg h2]
theorem yl (k:K) (v:T):∀es:List (K×T),(pg eq es k v).length=if (jo eq es k).isSome=true then es.length else es.length+1
 | []=>rfl
 | e::es=>by
  rw [wJ,nU]
  by_cases h:eq k e.1=true
  ·rw [if_pos h,if_pos h];rfl
  ·rw [if_neg h,if_neg h,List.length_cons,yl k v es,List.length_cons]
   split <;> rfl
end
theorem sJ (a b:ByteArray):eqS a b=true↔a=b:=⟨eqS_eq,λh=>by
 subst h
 obtain ⟨x⟩:=a
 show (x==x)=true
 exact beq_self_eq_true x⟩
def uX (s:List (ByteArray×Bool)) (sn:List ByteArray):Prop:=∀k,jo eqS s k=if k∈sn then some true else none
theorem uX.nil:uX [] []:=λk=>by rw [IQ,if_neg (by simp)]
theorem uX.set {s:List (ByteArray×Bool)} {sn:List ByteArray} (h:uX s sn) (id:ByteArray):uX (pg eqS s id true) (sn++[id]):=λk=>by
 rw [Ak sJ,h k]
 by_cases h1:eqS k id=true
 ·rw [if_pos h1,if_pos (by rw [(sJ _ _).1 h1];simp)]
 ·rw [if_neg h1]
  have:k∈sn++[id]↔k∈sn:=by
   rw [List.mem_append,List.mem_singleton]
   exact⟨λq=>q.resolve_right (λe=>h1 ((sJ _ _).2 e)),.inl⟩
  by_cases h2:k∈sn
  ·rw [if_pos h2,if_pos (this.2 h2)]
  ·rw [if_neg h2,if_neg (λq=>h2 (this.1 q))]
def uC:List ByteArray->List ByteArray->Bool
 | _,[]=>false
 | sn,x::l=>if x∈sn then true else uC (sn++[x]) l
theorem FH:∀(xs:List Alert) (k:Nat) (s:List (ByteArray×Bool)) (sn:List ByteArray),uX s sn->(uC sn (xs.map (·.Id))=false/\∃s',forR (λk x s=>bH k x s) xs k s=some (.go s'))\/(uC sn (xs.map (·.Id))=true/\forR (λk x s=>bH k x s) xs k s=some (.ret 6))
 | [],k,s,sn,h => .inl ⟨rfl,s,rfl⟩
 | x::xs,k,s,sn,h=>by
  have hg:=h x.Id
  rw [List.map_cons]
  by_cases hm:x.Id∈sn
  ·rw [if_pos hm]at hg
   have e:bH k x s=some (.ret 6):=by unfold bH;rw [hg];rfl
   exact .inr ⟨by rw [uC,if_pos hm],by rw [forR,e];rfl⟩
  ·rw [if_neg hm]at hg
   have e:bH k x s=some (.go (pg eqS s x.Id true)):=by unfold bH;rw [hg];rfl
   rw [uC,if_neg hm,forR,e,ob_]
   exact FH xs (k+1) _ _ (h.set x.Id)
theorem FX:∀(xs:List Alert) (k:Nat) (s:List (ByteArray×Bool)) (sn:List ByteArray),uX s sn->∃s',forR (λk x s=>gX k x s) xs k s=some (.go s')/\(if uC sn (xs.map (·.Id))=true then s'.length<s.length+xs.length else s'.length=s.length+xs.length)/\s'.length<=s.length+xs.length
 | [],k,s,sn,h=>⟨s,rfl,by rw [if_neg (by simp [uC])];rfl,Nat.le_refl _⟩
 | x::xs,k,s,sn,h=>by
  have hg:=h x.Id
  have e:gX k x s=some (.go (pg eqS s x.Id true)):=rfl
  obtain ⟨s',e1,e2,e3⟩:=FX xs (k+1) _ _ (h.set x.Id)
  refine⟨s',by rw [forR,e,ob_];exact e1,?_,?_⟩
  ·rw [List.map_cons,uC]
   have hl:=yl (eq:=eqS) x.Id true s
   by_cases hm:x.Id∈sn
   ·rw [if_pos hm]at hg
    rw [if_pos hm,if_pos rfl]
    rw [hg]at hl
    simp only [Option.isSome_some,if_true]at hl
    rw [List.length_cons];omega
   ·rw [if_neg hm]at hg
    rw [hg]at hl
    rw [if_neg hm]
    have hl2:(pg eqS s x.Id true).length=s.length+1:=by simpa using hl
    rw [hl2]at e2 e3
    rw [List.length_cons]
    by_cases hd:uC (sn++[x.Id]) (xs.map (·.Id))=true
    ·rw [if_pos hd]at e2;rw [if_pos hd];omega
    ·rw [if_neg hd]at e2;rw [if_neg hd];omega
  ·have hl:=yl (eq:=eqS) x.Id true s
   have:(pg eqS s x.Id true).length<=s.length+1:=by rw [hl];split <;> omega
   rw [List.length_cons];omega
theorem Ap:∀(l sn:List ByteArray),uC sn l=false->l.Nodup/\∀x∈l,x∉sn
 | [],sn,_=>⟨List.nodup_nil,λx hx=>by cases hx⟩
 | y::l,sn,h=>by
  rw [uC]at h
  by_cases hm:y∈sn
  ·rw [if_pos hm]at h;cases h
  ·rw [if_neg hm]at h
   obtain ⟨h1,h2⟩:=Ap l _ h
   refine⟨List.nodup_cons.2 ⟨λq=>h2 y q (by simp),h1⟩,λx hx => ?_⟩
   rcases List.mem_cons.1 hx with rfl|hx
   ·exact hm
   ·exact λq=>h2 x hx (List.mem_append_left _ q)
end Go.Proofs.YtpmokglbipebcaaGreatDoor.Law

open Go Go.Eng
namespace Go.Proofs.YtpmokglbipebcaaGreatDoor.Law
set_option linter.unusedVariables false
set_option linter.unusedSimpArgs false
end Go.Proofs.YtpmokglbipebcaaGreatDoor.Law

open Go Go.Eng
namespace Go.Proofs.YtpmokglbipebcaaGreatDoor.Law
set_option linter.unusedVariables false
set_option linter.unusedSimpArgs false
set_option maxRecDepth 100000
def nJ (p:Option Alert) (x:Alert):Int:=bif alF x==0 then (bif xc (λy => !decide (befA y x)) p then 7 else 0)else alF x
def alV (l:List Alert):Int:=bif chA nJ none l==0 then (bif uC [] (l.map (·.Id))then 6 else 0)else chA nJ none l
theorem Aw {a b:Alert} (ha:GA a) (hb:GA b):∃n,fT a b=some n/\(n<0↔befA a b):=by
 have h1:=ha.at_
 have h2:=hb.at_
 unfold fT befA
 by_cases h:a.At=b.At
 ·have:(a.At != b.At)=false:=by simpa using h
  rw [this,cond_false,yZ]
  refine⟨_,rfl,?_⟩
  rw [Dt]
  exact⟨λq => .inr ⟨h,q⟩,λq=>by
   rcases q with q|q
   ·omega
   ·exact q.2⟩
 ·have:(a.At != b.At)=true:=by simpa using h
  rw [this,cond_true,fF (n:=a.At-b.At) (by omega)]
  unfold ve
  by_cases hn:a.At-b.At<0
  ·rw [decide_eq_true hn]
   exact⟨-1,rfl,⟨λ_ => .inl (by omega),λ_=>by decide⟩⟩
  ·rw [decide_eq_false hn,decide_eq_true (show a.At-b.At>0 by omega)]
   exact⟨1,rfl,⟨λq=>absurd q (by decide),λq=>by
    rcases q with q|q
    ·omega
    ·exact absurd q.1 h⟩⟩
theorem ge_of {n:Int} {P:Prop} [Decidable P] (h:n<0↔P):decide (n>=0) = !decide P:=by
 by_cases hp:P
 ·rw [decide_eq_true hp,decide_eq_false (by have:=h.2 hp;omega)];rfl
 ·rw [decide_eq_false hp,decide_eq_true (by
   rcases Int.lt_or_le n 0 with q|q
   ·exact absurd (h.1 q) hp
   ·exact q)];rfl
theorem yL {α:Type} {l:List α} {k:Nat} {x:α} (h:l[k]? = some x) (hl:l.length<=1000000) (g:α->Option Bool) (f:α->Bool) (hg:∀y∈l,g y=some (f y)):(bif (decide ((k:Int)>0))then (idx l (w64 ((k:Int)-1))).bind g else some false)=some (xc f (jY l k)):=by
 rcases Nat.eq_zero_or_pos k with h0|h0
 ·subst h0
  rw [decide_eq_false (by omega)];rfl
 ·obtain ⟨y,q1,q2⟩:=CU h h0 (by omega)
  rw [decide_eq_true (by omega),cond_true,q1,ob_,hg y (List.mem_of_getElem? q2)]
  unfold jY
  rw [if_neg (by omega),q2];rfl
theorem IZ {l:List Alert} (h:GAs l):∀k x,l[k]? = some x->dz l k x ()=some (qp (nJ (jY l k) x)):=λk x hx=>by
 have hl:=h.2
 unfold dz nJ
 rw [alF_K (h.1 x (List.mem_of_getElem? hx)),yL hx (by omega) (λy_20=>(fO y_20 x).bind λr_22=>some (decide (r_22>=0))) (λy => !decide (befA y x)) (λy _=>by
  obtain ⟨n,n1,n2⟩:=xq y x
  rw [n1,ob_,ge_of n2])]
 simp only [ob_]
 by_cases h0:alF x=0
 ·rw [h0]
  cases xc (λy => !decide (befA y x)) (jY l k) <;> rfl
 ·have e1:(alF x==0)=false:=by simpa using h0
  have e2:(alF x != 0)=true:=by simp [bne,e1]
  rw [e1,e2]
  unfold qp
  rw [cond_false,e1];rfl
theorem Ih {l:List Alert} (h:GAs l):∀k x,l[k]? = some x->fH l k x ()=some (qp (nJ (jY l k) x)):=λk x hx=>by
 have hl:=h.2
 have hgx:=h.1 x (List.mem_of_getElem? hx)
 unfold fH nJ
 rw [alF_R hgx,yL hx (by omega) (λy_20=>(fT y_20 x).bind λr_22=>some (decide (r_22>=0))) (λy => !decide (befA y x)) (λy hy=>by
  obtain ⟨n,n1,n2⟩:=Aw (h.1 y hy) hgx
  rw [n1,ob_,ge_of n2])]
 simp only [ob_]
 by_cases h0:alF x=0
 ·rw [h0]
  cases xc (λy => !decide (befA y x)) (jY l k) <;> rfl
 ·have e1:(alF x==0)=false:=by simpa using h0
  have e2:(alF x != 0)=true:=by simp [bne,e1]
  rw [e1,e2]
  unfold qp
  rw [cond_false,e1];rfl
theorem I7 {l:List Alert} (h:GAs l):dJ l=some (alV l):=by
 have hl:=h.2
 unfold dJ alV
 rw [decide_eq_false (by omega),cond_false,rY (stp:=nJ) (body:=λk x s=>dz l k x s) (by omega) (IZ h)]
 rcases ma (chA nJ none l)with⟨e1,e2⟩|⟨e1,e2⟩
 ·rw [e2,e1]
  simp only [ob_,thenC]
  rw [fZ (by omega)]
  rcases FH l 0 [] [] uX.nil with⟨d,s',f⟩|⟨d,f⟩
  ·rw [f,d];rfl
  ·rw [f,d];rfl
 ·have:(chA nJ none l==0)=false:=by simpa using e1
  rw [e2,this];rfl
theorem alV_R {l:List Alert} (h:GAs l):iA l=some (alV l):=by
 have hl:=h.2
 unfold iA alV
 rw [decide_eq_false (by omega),cond_false,rY (stp:=nJ) (body:=λk x s=>fH l k x s) (by omega) (Ih h)]
 rcases ma (chA nJ none l)with⟨e1,e2⟩|⟨e1,e2⟩
 ·rw [e2,e1]
  simp only [ob_,thenC]
  rw [fZ (by omega)]
  obtain ⟨s',f,g,_⟩:=FX l 0 [] [] uX.nil
  rw [f]
  simp only [ob_,thenC]
  cases hd:uC [] (l.map (·.Id))with
  | true =>
   rw [hd,if_pos rfl]at g
   simp only [List.length_nil,Nat.zero_add]at g
   rw [decide_eq_true (by omega)];rfl
  | false =>
   rw [hd,if_neg (by decide)]at g
   simp only [List.length_nil,Nat.zero_add]at g
   rw [decide_eq_false (by omega)];rfl
 ·have:(chA nJ none l==0)=false:=by simpa using e1
  rw [e2,this];rfl
theorem Dc {x:Alert} (h:GA x) (h0:alF x=0):(0<=x.At/\x.At<=345686399999)/\(x.At+1<=x.Until/\x.Until<=x.At+2592000000)/\∀r∈x.Areas,Fine r:=by
 unfold alF at h0
 cases e1:(!keyB x.Id || !keyB x.Sender)with
 | true=>rw [e1]at h0;cases h0
 | false =>
 rw [e1,cond_false]at h0
 cases e2:jr x.Kind 1 3 with
 | true=>rw [e2]at h0;cases h0
 | false =>
 rw [e2,cond_false]at h0
 cases e3:rfV x==0 with
 | false=>rw [e3,cond_false]at h0;rw [h0]at e3;exact absurd e3 (by decide)
 | true =>
 rw [e3,cond_true]at h0
 cases e4:fmV x with
 | true=>rw [e4]at h0;cases h0
 | false =>
 rw [e4,cond_false]at h0
 cases e5:agV x with
 | true=>rw [e5]at h0;cases h0
 | false =>
 rw [e5,cond_false]at h0
 cases e6:arV x==0 with
 | false=>rw [e6,cond_false]at h0;rw [h0]at e6;exact absurd e6 (by decide)
 | true =>
 unfold agV at e5
 simp only [Bool.or_eq_false_iff]at e5
 obtain ⟨a1,a2,a3⟩:=e5
 have hm:xN x.At=true:=by cases hq:xN x.At with | true=>rfl | false=>rw [hq]at a1;cases a1
 unfold xN at hm
 have hm2:jr x.At 0 345686399999=false:=by cases hq:jr x.At 0 345686399999 with | false=>rfl | true=>rw [hq]at hm;cases hm
 have b1:=wI hm2
 have b2:=wI a2
 refine⟨b1,b2,λr hr => ?_⟩
 obtain ⟨i,hi⟩:=List.getElem?_of_mem hr
 obtain ⟨q,q1,_⟩:=CZ (eq_of_beq e6) i r hi
 unfold kR at q1
 refine GY ?_
 cases hb:zY r with
 | false=>rfl
 | true=>rw [hb]at q1;cases q1
theorem Gl {p:Option Alert} {x:Alert} (h:nJ p x=0):alF x=0:=by
 unfold nJ at h
 cases e:alF x==0 with
 | true=>exact eq_of_beq e
 | false=>rw [e,cond_false]at h;exact h
theorem alV_ca {l:List Alert} (h:GAs l) (h0:alV l=0):CA l:=by
 have hl:=h.2
 unfold alV at h0
 cases e:chA nJ none l==0 with
 | false=>rw [e,cond_false]at h0;rw [h0]at e;exact absurd e (by decide)
 | true =>
 rw [e,cond_true]at h0
 have hd:uC [] (l.map (·.Id))=false:=by
  cases hq:uC [] (l.map (·.Id))with
  | false=>rfl
  | true=>rw [hq]at h0;cases h0
 have one:∀x∈l,alF x=0:=λx hx=>by
  obtain ⟨i,hi⟩:=List.getElem?_of_mem hx
  obtain ⟨q,q1,_⟩:=CZ (eq_of_beq e) i x hi
  exact Gl q1
 refine⟨(Ap _ _ hd).1,by omega,λx hx => ?_,λx hx => ?_,λx hx=>(Dc (h.1 x hx) (one x hx)).2.2,λx hx => ?_,λx hx => ?_⟩
 ·have:=(h.1 x hx).rlen;omega
 ·have:=(h.1 x hx).alen;omega
 ·have:=(Dc (h.1 x hx) (one x hx)).1;omega
 ·have:=(Dc (h.1 x hx) (one x hx)).1
  have:=(Dc (h.1 x hx) (one x hx)).2.1
  omega
end Go.Proofs.YtpmokglbipebcaaGreatDoor.Law

open Go Go.Eng
namespace Go.Proofs.YtpmokglbipebcaaGreatDoor.Law
set_option linter.unusedVariables false
set_option linter.unusedSimpArgs false
def RA (x:Alert):Prop:=GA x/\alF x=0
structure RF (x:Alert):Prop where
 id:keyB x.Id=true
 sender:keyB x.Sender=true
 kind:1<=x.Kind/\x.Kind<=3
 refs:∀r∈x.Refs,keyB r=true
 weight:1<=x.Weight/\x.Weight<=9
theorem ra_f {x:Alert} (h0:alF x=0):RF x:=by
 unfold alF at h0
 cases e1:(!keyB x.Id || !keyB x.Sender)with
 | true=>rw [e1]at h0;cases h0
 | false =>
 rw [e1,cond_false]at h0
 cases e2:jr x.Kind 1 3 with
 | true=>rw [e2]at h0;cases h0
 | false =>
 rw [e2,cond_false]at h0
 cases e3:rfV x==0 with
 | false=>rw [e3,cond_false]at h0;rw [h0]at e3;exact absurd e3 (by decide)
 | true =>
 rw [e3,cond_true]at h0
 cases e4:fmV x with
 | true=>rw [e4]at h0;cases h0
 | false =>
 rw [e4,cond_false]at h0
 cases e5:agV x with
 | true=>rw [e5]at h0;cases h0
 | false =>
 simp only [Bool.or_eq_false_iff,Bool.not_eq_false']at e1
 unfold agV at e5
 simp only [Bool.or_eq_false_iff]at e5
 have hb:∀{n lo hi:Int},jr n lo hi=false->lo<=n/\n<=hi:=λh=>by
  simp only [jr,Bool.or_eq_false_iff,decide_eq_false_iff_not]at h;omega
 refine⟨e1.1,e1.2,hb e2,λr hr => ?_,hb e5.2.2⟩
 obtain ⟨i,hi,rfl⟩:=List.getElem_of_mem hr
 obtain ⟨q,q1,_⟩:=CZ (eq_of_beq e3) i _ (List.getElem?_eq_getElem hi)
 unfold nA at q1
 cases hk:keyB x.Refs[i]with
 | true=>rfl
 | false=>rw [hk]at q1;cases q1
theorem yA (l2:List ByteArray):∀(xs:List ByteArray) (k:Nat),xs.length=(l2.drop k).length->∃o,forR (λk x s=>bI l2 k x s) xs k ()=some o/\thenC o (λ_=>some true) (λr=>some r)=some (decide (xs=l2.drop k))
 | [],k,h=>⟨_,rfl,by
  have:l2.drop k=[]:=List.eq_nil_of_length_eq_zero h.symm
  rw [this];rfl⟩
 | x::xs,k,h=>by
  have hk:k<l2.length:=by
   rw [List.length_drop]at h
   simp only [List.length_cons]at h
   omega
  have hd:l2.drop k=l2[k]::l2.drop (k+1):=List.drop_eq_getElem_cons hk
  rw [hd]at h ⊢
  obtain ⟨o,h1,h2⟩:=yA l2 xs (k+1) (by simp only [List.length_cons]at h;omega)
  have hstep:bI l2 k x ()=some (bif sNe x l2[k]then .ret false else .go ()):=by
   unfold bI
   rw [xW,List.getElem?_eq_getElem hk]
   simp only [ob_]
   cases (sNe x l2[k]) <;> rfl
  by_cases he:x=l2[k]
  ·have e1:(sNe x l2[k])=false:=by rw [sj];simp [he]
   refine⟨o,by simp only [forR,hstep,e1,cond_false,ob_];exact h1,?_⟩
   rw [h2]
   simp only [he,List.cons.injEq,true_and]
  ·have e1:(sNe x l2[k])=true:=by rw [sj];simp [he]
   refine⟨.ret false,by simp only [forR,hstep,e1,cond_true,ob_],?_⟩
   rw [decide_eq_false (λhh=>he (List.cons.inj hh).1)];rfl
theorem Gp (l m:List ByteArray) (hl:l.length<=1000000000):dQ l m=some (decide (l=m)):=by
 unfold dQ
 by_cases hn:l.length=m.length
 ·have e1:((l.length:Int) != (m.length:Int))=false:=by simp [hn]
  rw [e1,cond_false]
  obtain ⟨o,h1,h2⟩:=yA m l 0 (by simpa using hn)
  rw [fZ (by omega),h1]
  simpa using h2
 ·have e1:((l.length:Int) != (m.length:Int))=true:=by simp;omega
  have e2:l≠m:=λh=>hn (by rw [h])
  rw [e1,cond_true]
  simp [e2]
deriving instance DecidableEq for Rect
theorem rect_eq (x y:Rect):((x.X==y.X)&&((x.Y==y.Y)&&((x.W==y.W)&&((x.H==y.H)&&true))))=decide (x=y):=by
 obtain ⟨a,b,c,d⟩:=x
 obtain ⟨a',b',c',d'⟩:=y
 rw [Bool.eq_iff_iff]
 simp only [Bool.and_eq_true,beq_iff_eq,decide_eq_true_eq,Rect.mk.injEq,and_true]
theorem zh (l2:List Rect):∀(xs:List Rect) (k:Nat),xs.length=(l2.drop k).length->∃o,forR (λk x s=>bu l2 k x s) xs k ()=some o/\thenC o (λ_=>some true) (λr=>some r)=some (decide (xs=l2.drop k))
 | [],k,h=>⟨_,rfl,by
  have:l2.drop k=[]:=List.eq_nil_of_length_eq_zero h.symm
  rw [this];rfl⟩
 | x::xs,k,h=>by
  have hk:k<l2.length:=by
   rw [List.length_drop]at h
   simp only [List.length_cons]at h
   omega
  have hd:l2.drop k=l2[k]::l2.drop (k+1):=List.drop_eq_getElem_cons hk
  rw [hd]at h ⊢
  obtain ⟨o,h1,h2⟩:=zh l2 xs (k+1) (by simp only [List.length_cons]at h;omega)
  have hstep:bu l2 k x ()=some (bif !decide (x=l2[k])then .ret false else .go ()):=by
   unfold bu
   rw [xW,List.getElem?_eq_getElem hk]
   simp only [ob_,rect_eq]
   cases decide (x=l2[k]) <;> rfl
  by_cases he:x=l2[k]
  ·refine⟨o,by simp only [forR,hstep,decide_eq_true he,Bool.not_true,cond_false,ob_];exact h1,?_⟩
   rw [h2]
   simp only [he,List.cons.injEq,true_and]
  ·refine⟨.ret false,by simp only [forR,hstep,decide_eq_false he,Bool.not_false,cond_true,ob_],?_⟩
   rw [decide_eq_false (λhh=>he (List.cons.inj hh).1)];rfl
theorem GV (l m:List Rect) (hl:l.length<=1000000000):cB l m=some (decide (l=m)):=by
 unfold cB
 by_cases hn:l.length=m.length
 ·have e1:((l.length:Int) != (m.length:Int))=false:=by simp [hn]
  rw [e1,cond_false]
  obtain ⟨o,h1,h2⟩:=zh m l 0 (by simpa using hn)
  rw [fZ (by omega),h1]
  simpa using h2
 ·have e1:((l.length:Int) != (m.length:Int))=true:=by simp;omega
  have e2:l≠m:=λh=>hn (by rw [h])
  rw [e1,cond_true]
  simp [e2]
theorem w9 (c:Bool) {X:Option Bool} {p:Bool} (h:X=some p):(bif c then X else some false)=some (c&&p):=by cases c <;> simp [h]
deriving instance DecidableEq for Alert
theorem Gr {a b:Alert} (h:GA a):ow a b=some (decide (a=b)):=by
 unfold ow
 rw [Gp _ _ (by have:=h.rlen;omega),GV _ _ (by have:=h.alen;omega)]
 simp only [ob_]
 rw [w9 _ (w9 _ (w9 _ (w9 _ (w9 _ (w9 _ (w9 _ (w9 _ rfl)))))))]
 obtain ⟨a1,a2,a3,a4,a5,a6,a7,a8,a9⟩:=a
 obtain ⟨b1,b2,b3,b4,b5,b6,b7,b8,b9⟩:=b
 simp only [ob_,xU]
 congr 1
 rw [Bool.eq_iff_iff]
 simp only [Bool.and_eq_true,decide_eq_true_eq,beq_iff_eq,Alert.mk.injEq]
def xu (k:Int):List UInt8:=if k=1 then [110,101,119]else if k=2 then [117,112,100,97,116,101]else [99,97,110,99,101,108]
def oV:List ByteArray->List UInt8
 | []=>[]
 | r::l=>[114,101,102,32]++r.data.toList++[10]++oV l
def pJ (r:Rect):List Int:=[r.X,r.Y,r.W,r.H]
def jM:List Rect->List UInt8
 | []=>[]
 | r::l=>[97,114,101,97,32]++Go.Lib.join ((pJ r).map Go.Lib.itoa) [32]++[10]++jM l
def uP (t:ByteArray):List UInt8:=if t=⟨#[]⟩then []else [116,101,120,116,32]++t.data.toList++[10]
def qX (x:Alert):List UInt8:=[97,108,101,114,116,32]++x.Id.data.toList++[32]++x.Sender.data.toList++[32]++xu x.Kind++[32]++Go.Lib.join (([x.At,x.Until,x.Weight]:List Int).map Go.Lib.itoa) [32]++[10]
def Ah (x:Alert):List UInt8:=qX x++oV x.Refs++jM x.Areas++uP x.Text
theorem Cv:∀{l m:List ByteArray} {X Y:List UInt8},(∀r∈l,keyB r=true)->(∀r∈m,keyB r=true)->X.head? ≠ some 114->Y.head? ≠ some 114->oV l++X=oV m++Y->l=m/\X=Y
 | [],[],X,Y,_,_,_,_,h=>⟨rfl,by simpa [oV]using h⟩
 | [],r::m,X,Y,_,_,hX,_,h=>by
  simp only [oV,List.nil_append,List.cons_append]at h
  rw [h]at hX;simp at hX
 | r::l,[],X,Y,_,_,_,hY,h=>by
  simp only [oV,List.nil_append,List.cons_append]at h
  rw [<- h]at hY;simp at hY
 | r::l,q::m,X,Y,hl,hm,hX,hY,h=>by
  simp only [oV,List.append_assoc,List.cons_append,List.nil_append,List.cons.injEq,true_and]at h
  obtain ⟨h1,h2⟩:=o5 (vN (hl r (by simp)) (by decide)) (vN (hm q (by simp)) (by decide)) h
  obtain ⟨h3,h4⟩:=Cv (λa ha=>hl a (List.mem_cons_of_mem _ ha)) (λa ha=>hm a (List.mem_cons_of_mem _ ha)) hX hY h2
  exact⟨by rw [Bd h1,h3],h4⟩
theorem IU {r q:Rect} (h:pJ r=pJ q):r=q:=by
 obtain ⟨a,b,c,d⟩:=r
 obtain ⟨a',b',c',d'⟩:=q
 simp only [pJ,List.cons.injEq,and_true]at h
 obtain ⟨h1,h2,h3,h4⟩:=h
 subst h1 h2 h3 h4;rfl
theorem AL:∀{l m:List Rect} {X Y:List UInt8},X.head? ≠ some 97->Y.head? ≠ some 97->jM l++X=jM m++Y->l=m/\X=Y
 | [],[],X,Y,_,_,h=>⟨rfl,by simpa [jM]using h⟩
 | [],r::m,X,Y,hX,_,h=>by
  simp only [jM,List.nil_append,List.cons_append]at h
  rw [h]at hX;simp at hX
 | r::l,[],X,Y,_,hY,h=>by
  simp only [jM,List.nil_append,List.cons_append]at h
  rw [<- h]at hY;simp at hY
 | r::l,q::m,X,Y,hX,hY,h=>by
  simp only [jM,List.append_assoc,List.cons_append,List.nil_append,List.cons.injEq,true_and]at h
  obtain ⟨h1,h2⟩:=o5 (vo (by decide) (by decide) (by decide) _) (vo (by decide) (by decide) (by decide) _) h
  obtain ⟨h3,h4⟩:=AL hX hY h2
  exact⟨by rw [IU (wD (l:=pJ r) (m:=pJ q) rfl h1),h3],h4⟩
theorem Je {t u:ByteArray} (h:uP t=uP u):t=u:=by
 unfold uP at h
 by_cases ht:t=⟨#[]⟩ <;> by_cases hu:u=⟨#[]⟩
 ·exact ht.trans hu.symm
 ·rw [if_pos ht,if_neg hu]at h;simp at h
 ·rw [if_neg ht,if_pos hu]at h;simp at h
 ·rw [if_neg ht,if_neg hu]at h
  have h2:=List.append_cancel_right h
  have h3:=List.append_cancel_left h2
  exact Bd h3
theorem wT (t:ByteArray):(uP t).head? ≠ some 97/\(uP t).head? ≠ some 114:=by
 unfold uP
 split
 ·simp
 ·simp
theorem yJ (l:List Rect) (t:ByteArray):(jM l++uP t).head? ≠ some 114:=by
 cases l with
 | nil=>simpa [jM]using (wT t).2
 | cons r l=>simp [jM]
theorem F5 {k:Int} {c:UInt8} (hc:c=32\/c=10):c∉xu k:=by
 unfold xu
 split
 ·rcases hc with rfl|rfl <;> decide
 ·split
  ·rcases hc with rfl|rfl <;> decide
  ·rcases hc with rfl|rfl <;> decide
theorem word_inj {k m:Int} (hk:1<=k/\k<=3) (hm:1<=m/\m<=3) (h:xu k=xu m):k=m:=by
 have e1:k=1\/k=2\/k=3:=by omega
 have e2:m=1\/m=2\/m=3:=by omega
 rcases e1 with rfl|rfl|rfl <;> rcases e2 with rfl|rfl|rfl <;> first|rfl|exact absurd h (by decide)
theorem HV {a b:Alert} (ha:RF a) (hb:RF b) (h:Ah a=Ah b):a=b:=by
 unfold Ah qX at h
 simp only [List.append_assoc,List.cons_append,List.nil_append,List.cons.injEq,true_and]at h
 obtain ⟨h1,h2⟩:=o5 (vN ha.id (by decide)) (vN hb.id (by decide)) h
 obtain ⟨h3,h4⟩:=o5 (vN ha.sender (by decide)) (vN hb.sender (by decide)) h2
 obtain ⟨h5,h6⟩:=o5 (F5 (.inl rfl)) (F5 (.inl rfl)) h4
 obtain ⟨h7,h8⟩:=o5 (vo (by decide) (by decide) (by decide) _) (vo (by decide) (by decide) (by decide) _) h6
 obtain ⟨h9,h10⟩:=Cv ha.refs hb.refs (yJ _ _) (yJ _ _) h8
 obtain ⟨h11,h12⟩:=AL (wT _).1 (wT _).1 h10
 have e1:=Bd h1
 have e2:=Bd h3
 have e3:=word_inj ha.kind hb.kind h5
 have e4:=wD (l:=[a.At,a.Until,a.Weight]) (m:=[b.At,b.Until,b.Weight]) rfl h7
 have e5:=Je h12
 obtain ⟨a1,a2,a3,a4,a5,a6,a7,a8,a9⟩:=a
 obtain ⟨b1,b2,b3,b4,b5,b6,b7,b8,b9⟩:=b
 simp only [List.cons.injEq,and_true]at e1 e2 e3 e4 e5 h9 h11
 obtain ⟨f1,f2,f3⟩:=e4
 subst e1 e2 e3 f1 f2 f3 e5 h9 h11
 rfl
end Go.Proofs.YtpmokglbipebcaaGreatDoor.Law

open Go Go.Eng
namespace Go.Proofs.YtpmokglbipebcaaGreatDoor.Law
set_option linter.unusedVariables false
set_option linter.unusedSimpArgs false
theorem u7 (most:Int) (hm:0<=most/\most<=6) (s:Stream) {b:Int} (hs:Ok s b) (hb:b<=100000):∃l s',gQ s most=some (l,s')/\GAs l/\Ok s' (b+400):=by
 obtain ⟨l,s1,a1,a2,a3⟩:=DD most hm s hs (by omega)
 have hl:l.length<=6:=Nat.le_trans a2.len (by omega)
 have hg:∀x∈l,GA x:=λx hx=>(a2.right x hx).ga
 unfold gQ
 rw [a1,ob_]
 simp only []
 by_cases h0:(l.length:Int)>0
 ·obtain ⟨f,s2,b1,b2⟩:=o6 s1 10 a3 (by omega) (by decide) (by decide)
  rw [decide_eq_true h0,cond_true,b1,ob_,ob_]
  simp only []
  cases f with
  | false=>exact⟨l,s2,rfl,⟨hg,hl⟩,b2.mono (by omega)⟩
  | true =>
   rw [cond_true]
   obtain ⟨i,s3,c1,c2,c3,c4⟩:=nO s2 (l.length:Int) b2 (by omega) (by omega) (by omega)
   have e0:(⟨s2.L,s2.f_at⟩:Stream)=s2:=rfl
   rw [e0,c1,ob_]
   simp only []
   rw [BD (by omega) (by omega),ob_]
   obtain ⟨k,s4,d1,d2,d3,d4⟩:=nO s3 6 c4 (by omega) (by decide) (by decide)
   rw [d1,ob_]
   simp only []
   have hi:0+i.toNat<l.length:=by omega
   have hx:l[0+i.toNat]? = some l[0+i.toNat]:=List.getElem?_eq_getElem hi
   have hgx:=hg _ (List.getElem_mem hi)
   generalize l[0+i.toNat]=x at hx hgx
   have two:∀(y z:Alert) (s:Stream) {c:Int},GA z->Ok s c->c<=b+400->∃l' s',some ((l.set (0+i.toNat) y).set (0+i.toNat) z,(⟨s.L,s.f_at⟩:Stream))=some (l',s')/\GAs l'/\Ok s' (b+400):=λy z s c hz hs hc=>by
    refine⟨_,_,rfl,?_,hs.mono hc⟩
    rw [List.set_set]
    exact⟨BO hg hz,by rw [List.length_set];exact hl⟩
   have one:∀(z:Alert) (s:Stream) {c:Int},GA z->Ok s c->c<=b+400->∃l' s',some (l.set (0+i.toNat) z,(⟨s.L,s.f_at⟩:Stream))=some (l',s')/\GAs l'/\Ok s' (b+400):=λz s c hz hs hc =>
    ⟨_,_,rfl,⟨BO hg hz,by rw [List.length_set];exact hl⟩,hs.mono hc⟩
   cases k0:k==0 with
   | true =>
    rw [cond_true,hx,ob_]
    obtain ⟨u,s5,e1,e2,e3⟩:=sI s4 [x.Id,(⟨#[]⟩:ByteArray),(⟨#[97,97]⟩:ByteArray)] d4 (by omega) (by simp) (by simp)
    obtain ⟨v,s6,f1,f2,f3⟩:=sI s5 [(⟨#[119,120]⟩:ByteArray),(⟨#[65]⟩:ByteArray)] e3 (by omega) (by simp) (by simp)
    rw [e1,ob_]
    simp only []
    rw [f1]
    simp only [ob_]
    rw [lU hi]
    simp only [ob_]
    refine two _ _ s6 ⟨?_,?_,hgx.refs,hgx.rlen,hgx.alen,hgx.at_,hgx.until_,hgx.text⟩ f3 (by omega)
    ·simp only [List.mem_cons,List.not_mem_nil,or_false]at e2
     rcases e2 with rfl|rfl|rfl
     ·exact hgx.id
     ·exact mI rfl
     ·exact mI rfl
    ·simp only [List.mem_cons,List.not_mem_nil,or_false]at f2
     rcases f2 with rfl|rfl <;> exact mI rfl
   | false =>
   rw [cond_false]
   cases k1:k==1 with
   | true =>
    obtain ⟨u,s5,e1,e2,e3⟩:=Bg s4 1 3 d4 (by omega) (by decide) (by decide) (by decide)
    rw [cond_true,e1,hx]
    simp only [ob_]
    exact one _ s5 ⟨hgx.id,hgx.sender,hgx.refs,hgx.rlen,hgx.alen,hgx.at_,hgx.until_,hgx.text⟩ e3 (by omega)
   | false =>
   rw [cond_false]
   cases k2:k==2 with
   | true =>
    rw [cond_true,hx,ob_]
    obtain ⟨u,s5,e1,e2,e3,e4⟩:=nO s4 5 d4 (by omega) (by decide) (by decide)
    rw [e1,ob_]
    simp only []
    obtain ⟨y,y1,y2⟩:=BC (l:=([([]:List ByteArray),([(⟨#[97,98]⟩:ByteArray),(⟨#[97,97]⟩:ByteArray)]:List ByteArray),([x.Id]:List ByteArray),([(⟨#[65]⟩:ByteArray)]:List ByteArray),([(⟨#[97,97]⟩:ByteArray),(⟨#[122,122]⟩:ByteArray)]:List ByteArray)]:List (List ByteArray))) (r:=u) e2 (by simp;omega)
    rw [y1]
    simp only [ob_]
    have hy:(∀r∈y,ShA r)/\y.length<=5:=by
     simp only [List.mem_cons,List.not_mem_nil,or_false]at y2
     rcases y2 with rfl|rfl|rfl|rfl|rfl
     ·exact⟨λr hr=>(by cases hr),by simp⟩
     ·refine⟨λr hr => ?_,by simp⟩
      simp only [List.mem_cons,List.not_mem_nil,or_false]at hr
      rcases hr with rfl|rfl <;> exact mI rfl
     ·refine⟨λr hr => ?_,by simp⟩
      rw [List.mem_singleton.1 hr];exact hgx.id
     ·refine⟨λr hr => ?_,by simp⟩
      rw [List.mem_singleton.1 hr];exact mI rfl
     ·refine⟨λr hr => ?_,by simp⟩
      simp only [List.mem_cons,List.not_mem_nil,or_false]at hr
      rcases hr with rfl|rfl <;> exact mI rfl
    exact one _ s5 ⟨hgx.id,hgx.sender,hy.1,hy.2,hgx.alen,hgx.at_,hgx.until_,hgx.text⟩ e4 (by omega)
   | false =>
   rw [cond_false]
   cases k3:k==3 with
   | true =>
    obtain ⟨u,s5,e1,e2,e3⟩:=Bg s4 0 30 d4 (by omega) (by decide) (by decide) (by decide)
    obtain ⟨v,s6,f1,f2,f3⟩:=Bg s5 0 60 e3 (by omega) (by decide) (by decide) (by decide)
    rw [cond_true,e1,ob_]
    simp only []
    rw [f1,hx]
    simp only [ob_]
    rw [lU hi]
    simp only [ob_]
    exact two _ _ s6 ⟨hgx.id,hgx.sender,hgx.refs,hgx.rlen,hgx.alen,e2,f2,hgx.text⟩ f3 (by omega)
   | false =>
   rw [cond_false]
   cases k4:k==4 with
   | true =>
    obtain ⟨u,s5,e1,e2,e3⟩:=G6 s4 d4 (by omega)
    obtain ⟨v,s6,f1,f2,f3⟩:=Bg s5 1 9 e3 (by omega) (by decide) (by decide) (by decide)
    rw [cond_true,e1,ob_]
    simp only []
    rw [f1,hx]
    simp only [ob_]
    rw [lU hi]
    simp only [ob_]
    exact two _ _ s6 ⟨hgx.id,hgx.sender,hgx.refs,hgx.rlen,e2,hgx.at_,hgx.until_,hgx.text⟩ f3 (by omega)
   | false =>
    obtain ⟨u,s5,e1,e2,e3⟩:=sI s4 [(⟨#[]⟩:ByteArray),(⟨#[32,120]⟩:ByteArray),(⟨#[97,32,32,98]⟩:ByteArray),(⟨#[10]⟩:ByteArray),(⟨#[255]⟩:ByteArray)] d4 (by omega) (by simp) (by simp)
    rw [cond_false,e1,hx]
    simp only [ob_]
    refine one _ s5 ⟨hgx.id,hgx.sender,hgx.refs,hgx.rlen,hgx.alen,hgx.at_,hgx.until_,?_⟩ e3 (by omega)
    simp only [List.mem_cons,List.not_mem_nil,or_false]at e2
    unfold txtL
    rcases e2 with rfl|rfl|rfl|rfl|rfl <;> simp
 ·rw [decide_eq_false h0,cond_false,ob_]
  exact⟨l,s1,rfl,⟨hg,hl⟩,a3.mono (by omega)⟩
end Go.Proofs.YtpmokglbipebcaaGreatDoor.Law

open Go Go.Eng
namespace Go.Proofs.YtpmokglbipebcaaGreatDoor.Law
set_option linter.unusedVariables false
set_option linter.unusedSimpArgs false
theorem FO {s:ByteArray} (h:ShA s):s.data.toList.length<=1000:=by rw [<- Go.Lib.size_eq];exact h
theorem A9:∀(l:List ByteArray),(∀r∈l,ShA r)->(oV l).length<=l.length*1005
 | [],_=>by simp [oV]
 | r::l,h=>by
  have:=FO (h r (by simp))
  have:=A9 l (λa ha=>h a (List.mem_cons_of_mem _ ha))
  simp only [oV,List.length_append,List.length_cons,List.length_nil,Nat.add_mul]
  omega
theorem AQ:∀(l:List ByteArray) (k:Nat) (out:List UInt8),(∀r∈l,ShA r)->out.length+l.length*2000<=1000000->forR (λk x s=>gD k x s) l k (SB out)=some (.go (SB (out++oV l)))
 | [],k,out,_,_=>by simp [forR,oV]
 | r::l,k,out,h,hl=>by
  have hr:=FO (h r (by simp))
  simp only [List.length_cons,Nat.add_mul]at hl
  have e0:r=SB r.data.toList:=rfl
  have hs:gD k r (SB out)=some (.go (SB (out++([114,101,102,32]++r.data.toList++[10])))):=by
   unfold gD
   have c1:kE (⟨#[114,101,102,32]⟩:ByteArray) r=some (SB ([114,101,102,32]++r.data.toList)):=qi [114,101,102,32] r.data.toList (by simp only [List.length_append,List.length_cons,List.length_nil];omega)
   have c2:kE (SB ([114,101,102,32]++r.data.toList)) (⟨#[10]⟩:ByteArray)=some (SB ([114,101,102,32]++r.data.toList++[10])):=qi _ [10] (by simp only [List.length_append,List.length_cons,List.length_nil];omega)
   have c3:=qi out ([114,101,102,32]++r.data.toList++[10]) (by simp only [List.length_append,List.length_cons,List.length_nil];omega)
   simp only [c1,c2,c3,ob_]
  simp only [forR,hs,ob_]
  rw [AQ l (k+1) _ (λa ha=>h a (List.mem_cons_of_mem _ ha)) (by simp only [List.length_append,List.length_cons,List.length_nil];omega)]
  simp [oV]
theorem medR {r:Rect} (h:Fine r):∀n∈pJ r,Med n:=λn hn=>by
 obtain ⟨h1,h2,h3,h4,h5⟩:=h
 simp only [pJ,List.mem_cons,List.not_mem_nil,or_false]at hn
 unfold Med
 rcases hn with rfl|rfl|rfl|rfl <;> omega
theorem yR:∀(l:List Rect),(∀r∈l,Fine r)->(jM l).length<=l.length*100
 | [],_=>by simp [jM]
 | r::l,h=>by
  have:=zI (pJ r) (medR (h r (by simp)))
  have hn:(pJ r).length=4:=rfl
  have:=yR l (λa ha=>h a (List.mem_cons_of_mem _ ha))
  simp only [jM,List.length_append,List.length_cons,List.length_nil,Nat.add_mul]
  omega
theorem yC:∀(l:List Rect) (k:Nat) (out:List UInt8),(∀r∈l,Fine r)->out.length+l.length*2000<=1000000->forR (λk x s=>gz k x s) l k (SB out)=some (.go (SB (out++jM l)))
 | [],k,out,_,_=>by simp [forR,jM]
 | r::l,k,out,h,hl=>by
  have hm:=medR (h r (by simp))
  have hr:=zI (pJ r) hm
  have hn:(pJ r).length=4:=rfl
  simp only [List.length_cons,Nat.add_mul]at hl
  have hnum:jO [r.X,r.Y,r.W,r.H]=some (SB (Go.Lib.join ((pJ r).map Go.Lib.itoa) [32])):=yP (pJ r) hm (by omega)
  have hs:gz k r (SB out)=some (.go (SB (out++([97,114,101,97,32]++Go.Lib.join ((pJ r).map Go.Lib.itoa) [32]++[10])))):=by
   unfold gz
   have c1:kE (⟨#[97,114,101,97,32]⟩:ByteArray) (SB (Go.Lib.join ((pJ r).map Go.Lib.itoa) [32]))=some (SB ([97,114,101,97,32]++Go.Lib.join ((pJ r).map Go.Lib.itoa) [32])):=qi [97,114,101,97,32] _ (by simp only [List.length_cons,List.length_nil];omega)
   have c2:kE (SB ([97,114,101,97,32]++Go.Lib.join ((pJ r).map Go.Lib.itoa) [32])) (⟨#[10]⟩:ByteArray)=some (SB ([97,114,101,97,32]++Go.Lib.join ((pJ r).map Go.Lib.itoa) [32]++[10])):=qi _ [10] (by simp only [List.length_append,List.length_cons,List.length_nil];omega)
   have c3:=qi out ([97,114,101,97,32]++Go.Lib.join ((pJ r).map Go.Lib.itoa) [32]++[10]) (by simp only [List.length_append,List.length_cons,List.length_nil];omega)
   simp only [hnum,c1,c2,c3,ob_]
  simp only [forR,hs,ob_]
  rw [yC l (k+1) _ (λa ha=>h a (List.mem_cons_of_mem _ ha)) (by simp only [List.length_append,List.length_cons,List.length_nil];omega)]
  simp [jM]
theorem D5 {x:Alert} (h:RA x):iL [x]=some (SB (Ah x)):=by
 obtain ⟨hg,h0⟩:=h
 have hf:=ra_f h0
 obtain ⟨f1,f2,f3⟩:=Dc hg h0
 have l1:=FO hg.id
 have l2:=FO hg.sender
 have l3:=zi x.Text hg.text
 have hk:x.Kind=1\/x.Kind=2\/x.Kind=3:=by have:=hf.kind;omega
 have hm:∀n∈([x.At,x.Until,x.Weight]:List Int),Med n:=λn hn=>by
  have:=hf.weight
  simp only [List.mem_cons,List.not_mem_nil,or_false]at hn
  unfold Med
  rcases hn with rfl|rfl|rfl <;> omega
 have hnum:=yP [x.At,x.Until,x.Weight] hm (by simp)
 have hnl:=zI [x.At,x.Until,x.Weight] hm
 simp only [List.length_cons,List.length_nil]at hnl
 have hw:idx ([(⟨#[]⟩:ByteArray),(⟨#[110,101,119]⟩:ByteArray),(⟨#[117,112,100,97,116,101]⟩:ByteArray),(⟨#[99,97,110,99,101,108]⟩:ByteArray)]:List ByteArray) x.Kind=some (SB (xu x.Kind)):=by
  rcases hk with e|e|e <;> rw [e] <;> rfl
 have hwl:(xu x.Kind).length<=6:=by
  rcases hk with e|e|e <;> rw [e] <;> decide
 have hR:=A9 x.Refs hg.refs
 have hA:=yR x.Areas f3
 have b1:=hg.rlen
 have b2:=hg.alen
 have e1:x.Id=SB x.Id.data.toList:=rfl
 have c1:kE (⟨#[97,108,101,114,116,32]⟩:ByteArray) x.Id=some (SB ([97,108,101,114,116,32]++x.Id.data.toList)):=qi [97,108,101,114,116,32] x.Id.data.toList (by simp only [List.length_cons,List.length_nil];omega)
 have c2:∀l:List UInt8,l.length<=100000->kE (SB l) (⟨#[32]⟩:ByteArray)=some (SB (l++[32])):=λl hl=>qi l [32] (by simp only [List.length_cons,List.length_nil];omega)
 have c3:∀l:List UInt8,l.length<=100000->kE (SB l) x.Sender=some (SB (l++x.Sender.data.toList)):=λl hl=>qi l x.Sender.data.toList (by omega)
 have c4:∀l:List UInt8,l.length<=100000->kE (SB l) (⟨#[10]⟩:ByteArray)=some (SB (l++[10])):=λl hl=>qi l [10] (by simp only [List.length_cons,List.length_nil];omega)
 have c5:∀l m:List UInt8,l.length<=100000->m.length<=100000->kE (SB l) (SB m)=some (SB (l++m)):=λl m hl hm=>qi l m (by omega)
 have c6:kE (⟨#[]⟩:ByteArray) (SB (qX x))=some (SB (qX x)):=by
  have hh:(qX x).length<=100000:=by unfold qX;simp only [List.length_append,List.length_cons,List.length_nil];omega
  have:=qi [] (qX x) (by simp only [List.length_nil];omega)
  simpa using this
 have hh:(qX x).length<=3000:=by unfold qX;simp only [List.length_append,List.length_cons,List.length_nil];omega
 have hstep:iB 0 x (⟨#[]⟩:ByteArray)=some (.go (SB (Ah x))):=by
  unfold iB lM
  rw [c1,ob_,c2 _ (by simp only [List.length_append,List.length_cons,List.length_nil];omega),ob_,c3 _ (by simp only [List.length_append,List.length_cons,List.length_nil];omega),ob_,c2 _ (by simp only [List.length_append,List.length_cons,List.length_nil];omega),ob_,ob_,hw,ob_,
   c5 _ _ (by simp only [List.length_append,List.length_cons,List.length_nil];omega) (by omega),ob_,c2 _ (by simp only [List.length_append,List.length_cons,List.length_nil];omega),ob_,hnum,ob_,c5 _ _ (by simp only [List.length_append,List.length_cons,List.length_nil];omega) (by omega),ob_,
   c4 _ (by simp only [List.length_append,List.length_cons,List.length_nil];omega),ob_]
  have c6':=c6
  unfold qX at c6'
  rw [c6',ob_]
  have hfold:([97,108,101,114,116,32]++x.Id.data.toList++[32]++x.Sender.data.toList++[32]++xu x.Kind++[32]++Go.Lib.join (([x.At,x.Until,x.Weight]:List Int).map Go.Lib.itoa) [32]++[10])=qX x:=rfl
  rw [hfold,fZ (by omega),AQ x.Refs 0 (qX x) hg.refs (by omega),ob_,lS,fZ (by omega),yC x.Areas 0 _ f3 (by simp only [List.length_append];omega),ob_,lS]
  unfold Ah uP
  by_cases ht:x.Text=⟨#[]⟩
  ·have e:sNe x.Text (⟨#[]⟩:ByteArray)=false:=by rw [sj];simp [ht]
   rw [e,cond_false,if_pos ht,List.append_nil];rfl
  ·have e:sNe x.Text (⟨#[]⟩:ByteArray)=true:=by rw [sj];simp [ht]
   have lt':x.Text.data.toList.length<=16:=by rw [<- Go.Lib.size_eq];exact l3
   have d1:kE (⟨#[116,101,120,116,32]⟩:ByteArray) x.Text=some (SB ([116,101,120,116,32]++x.Text.data.toList)):=qi [116,101,120,116,32] x.Text.data.toList (by simp only [List.length_cons,List.length_nil];omega)
   rw [e,cond_true,if_neg ht,d1,ob_,c4 _ (by simp only [List.length_append,List.length_cons,List.length_nil];omega),ob_,c5 _ _ (by simp only [List.length_append];omega) (by simp only [List.length_append,List.length_cons,List.length_nil];omega),ob_]
   rfl
 unfold iL
 rw [fZ (by simp)]
 simp only [forR,hstep,ob_,lS]
theorem Ii {a b:Alert} (ha:RA a) (hb:RA b):jA a b=some (decide (a=b)):=by
 unfold jA
 rw [D5 ha,D5 hb,ob_,ob_,xU]
 congr 1
 rw [Bool.eq_iff_iff,decide_eq_true_eq,decide_eq_true_eq]
 constructor
 ·exact λh=>HV (ra_f ha.2) (ra_f hb.2) (sb_inj h)
 ·rintro rfl;rfl
end Go.Proofs.YtpmokglbipebcaaGreatDoor.Law

open Go Go.Eng
namespace Go.Proofs.YtpmokglbipebcaaGreatDoor.Law
set_option linter.unusedVariables false
set_option linter.unusedSimpArgs false
set_option maxRecDepth 100000
def mq (s_1:ByteArray):Option (Bool) :=
 (DU 0 (λs=>iE s_1 s)).bind λo_10=>thenC o_10 (λs_7=>(bif (sNe s_1 (⟨#[]⟩:ByteArray))then some (decide ((s_1.size:Int)<=40))else some false).bind λv_30=>some v_30) (λr=>some r)
theorem qA (s_1:ByteArray):Le (mq s_1) (kit_IsKey s_1):=by
 unfold mq kit_IsKey
 repeat' (with_reducible first | exact Le.refl _ | refine Le.loop (λ_ => ?_) | refine Le.forL (λ_ _ _ => ?_) | refine Le.thenC (λ_ => ?_) (λ_ => ?_) | refine Le.cond ?_ ?_ | refine Le.bind ?_ (λ_ => ?_))
def kK (a_1:Alert) (k_4:Nat) (x_6:ByteArray) (s_9:Unit):Option (Ctl (Unit) (Int)) :=
 (mq x_6).bind λr_14=>bif (!r_14)then some (.ret 5)else (bif (decide ((k_4:Int)>0))then (idx a_1.Refs (w64 ((k_4:Int)-1))).bind λy_20=>some (sLe x_6 y_20)else some false).bind λv_17=>bif v_17 then some (.ret 7)else bif (sEq x_6 a_1.Id)then some (.ret 14)else some (.go ())
theorem qY (a_1:Alert) (k_4:Nat) (x_6:ByteArray) (s_9:Unit):Le (kK a_1 k_4 x_6 s_9) (dP a_1 k_4 x_6 s_9):=by
 unfold kK dP
 repeat' (with_reducible first | exact Le.refl _ | exact qA _ | refine Le.loop (λ_ => ?_) | refine Le.forL (λ_ _ _ => ?_) | refine Le.thenC (λ_ => ?_) (λ_ => ?_) | refine Le.cond ?_ ?_ | refine Le.bind ?_ (λ_ => ?_))
def l6 (a_1:Alert):Option (Int) :=
 bif (decide ((a_1.Refs.length:Int)>20))then some 2 else (forL a_1.Refs () (λk x s=>kK a_1 k x s)).bind λo_12=>thenC o_12 (λs_9=>bif (!((a_1.Kind==1)==((a_1.Refs.length:Int)==0)))then some 3 else some 0) (λr=>some r)
theorem uw (a_1:Alert):Le (l6 a_1) (gG a_1):=by
 unfold l6 gG
 repeat' (with_reducible first | exact Le.refl _ | exact qY _ _ _ _ | refine Le.loop (λ_ => ?_) | refine Le.forL (λ_ _ _ => ?_) | refine Le.thenC (λ_ => ?_) (λ_ => ?_) | refine Le.cond ?_ ?_ | refine Le.bind ?_ (λ_ => ?_))
def lL (a_1:Alert):Option (Int) :=
 ((mq a_1.Id).bind λr_5=>bif (!r_5)then some true else (mq a_1.Sender).bind λr_8=>some (!r_8)).bind λv_3=>bif v_3 then some 5 else (bW a_1.Kind 1 3).bind λr_11=>bif r_11 then some 4 else (l6 a_1).bind λr_14=>bif (r_14 != 0)then some r_14 else ((kg a_1.At).bind λr_19=>bif (!r_19)then some true else (bW a_1.Until (w64 (a_1.At+1)) (w64 (a_1.At+2592000000))).bind λr_22=>bif r_22 then some true else (bW a_1.Weight 1 9).bind λr_25=>some r_25).bind λv_17=>bif v_17 then some 1 else bif (decide ((a_1.Areas.length:Int)>20))then some 2 else (forL a_1.Areas () (λk x s=>eB k x s)).bind λo_37=>thenC o_37 (λs_34=>bif (!((a_1.Kind==3)==((a_1.Areas.length:Int)==0)))then some 3 else bif (decide ((a_1.Text.size:Int)>500))then some 2 else ((eQ a_1.Text).bind λr_47=>bif (!r_47)then some true else bif (sEq a_1.Text (⟨#[]⟩:ByteArray))then some (!(a_1.Kind==3))else some false).bind λv_45=>bif v_45 then some 3 else some 0) (λr=>some r)
theorem sN (a_1:Alert):Le (lL a_1) (fD a_1):=by
 unfold lL fD
 repeat' (with_reducible first | exact Le.refl _ | exact qA _ | exact uw _ | exact eO _ | exact xK _ | refine Le.loop (λ_ => ?_) | refine Le.forL (λ_ _ _ => ?_) | refine Le.thenC (λ_ => ?_) (λ_ => ?_) | refine Le.cond ?_ ?_ | refine Le.bind ?_ (λ_ => ?_))
def jC (l_1:(List Alert)) (k_3:Nat) (x_5:Alert) (s_8:Unit):Option (Ctl (Unit) (Int)) :=
 (lL x_5).bind λr_14=>bif (r_14 != 0)then some (.ret r_14)else (bif (decide ((k_3:Int)>0))then (idx l_1 (w64 ((k_3:Int)-1))).bind λy_20=>(fO y_20 x_5).bind λr_22=>some (decide (r_22>=0))else some false).bind λv_17=>bif v_17 then some (.ret 7)else some (.go ())
theorem qm (l_1:(List Alert)) (k_3:Nat) (x_5:Alert) (s_8:Unit):Le (jC l_1 k_3 x_5 s_8) (dz l_1 k_3 x_5 s_8):=by
 unfold jC dz
 repeat' (with_reducible first | exact Le.refl _ | exact sN _ | refine Le.loop (λ_ => ?_) | refine Le.forL (λ_ _ _ => ?_) | refine Le.thenC (λ_ => ?_) (λ_ => ?_) | refine Le.cond ?_ ?_ | refine Le.bind ?_ (λ_ => ?_))
def kU (l_1:(List Alert)):Option (Int) :=
 bif (decide ((l_1.length:Int)>300))then some 2 else (forL l_1 () (λk x s=>jC l_1 k x s)).bind λo_11=>thenC o_11 (λs_8=>(forL l_1 ([]:List (ByteArray×Bool)) (λk x s=>bH k x s)).bind λo_34=>thenC o_34 (λs_31=>some 0) (λr=>some r)) (λr=>some r)
theorem rF (l_1:(List Alert)):Le (kU l_1) (dJ l_1):=by
 unfold kU dJ
 repeat' (with_reducible first | exact Le.refl _ | exact qm _ _ _ _ | refine Le.loop (λ_ => ?_) | refine Le.forL (λ_ _ _ => ?_) | refine Le.thenC (λ_ => ?_) (λ_ => ?_) | refine Le.cond ?_ ?_ | refine Le.bind ?_ (λ_ => ?_))
def jX (l_1:(List Post)) (k_3:Nat) (x_5:Post) (s_8:Unit):Option (Ctl (Unit) (Int)) :=
 (mq x_5.Player).bind λr_14=>bif (!r_14)then some (.ret 5)else ((bW x_5.X (-100000) 100000).bind λr_19=>bif r_19 then some true else (bW x_5.Y (-100000) 100000).bind λr_22=>some r_22).bind λv_17=>bif v_17 then some (.ret 1)else (bif (decide ((k_3:Int)>0))then (idx l_1 (w64 ((k_3:Int)-1))).bind λy_28=>some (sLe x_5.Player y_28.Player)else some false).bind λv_25=>bif v_25 then some (.ret 7)else some (.go ())
theorem qz (l_1:(List Post)) (k_3:Nat) (x_5:Post) (s_8:Unit):Le (jX l_1 k_3 x_5 s_8) (gM l_1 k_3 x_5 s_8):=by
 unfold jX gM
 repeat' (with_reducible first | exact Le.refl _ | exact qA _ | refine Le.loop (λ_ => ?_) | refine Le.forL (λ_ _ _ => ?_) | refine Le.thenC (λ_ => ?_) (λ_ => ?_) | refine Le.cond ?_ ?_ | refine Le.bind ?_ (λ_ => ?_))
def lI (l_1:(List Post)):Option (Int) :=
 bif (decide ((l_1.length:Int)>500))then some 2 else (forL l_1 () (λk x s=>jX l_1 k x s)).bind λo_11=>thenC o_11 (λs_8=>some 0) (λr=>some r)
theorem sU (l_1:(List Post)):Le (lI l_1) (iQ l_1):=by
 unfold lI iQ
 repeat' (with_reducible first | exact Le.refl _ | exact qz _ _ _ _ | refine Le.loop (λ_ => ?_) | refine Le.forL (λ_ _ _ => ?_) | refine Le.thenC (λ_ => ?_) (λ_ => ?_) | refine Le.cond ?_ ?_ | refine Le.bind ?_ (λ_ => ?_))
def l9 (l_1:(List Alert)) (posts_2:(List Post)):Option (Int) :=
 (kU l_1).bind λr_3=>bif (r_3 != 0)then some r_3 else (lI posts_2).bind λr_6=>some r_6
theorem tO (l_1:(List Alert)) (posts_2:(List Post)):Le (l9 l_1 posts_2) (ji l_1 posts_2):=by
 unfold l9 ji
 repeat' (with_reducible first | exact Le.refl _ | exact rF _ | exact sU _ | refine Le.loop (λ_ => ?_) | refine Le.forL (λ_ _ _ => ?_) | refine Le.thenC (λ_ => ?_) (λ_ => ?_) | refine Le.cond ?_ ?_ | refine Le.bind ?_ (λ_ => ?_))
def oh (a_1:Alert) (p_2:Post):Option (Bool×Int) :=
 (l9 ([a_1]:List Alert) ([p_2]:List Post)).bind λr_5=>bif (r_5 != 0)then some (false,r_5)else (mF a_1 p_2).bind λr_8=>some (r_8,0)
theorem vY (a_1:Alert) (p_2:Post):Le (oh a_1 p_2) (kP a_1 p_2):=by
 unfold oh kP
 repeat' (with_reducible first | exact Le.refl _ | exact tO _ _ | refine Le.loop (λ_ => ?_) | refine Le.forL (λ_ _ _ => ?_) | refine Le.thenC (λ_ => ?_) (λ_ => ?_) | refine Le.cond ?_ ?_ | refine Le.bind ?_ (λ_ => ?_))
def rD  : Option (Bool) :=
 (oh (⟨(⟨#[97]⟩:ByteArray),(⟨#[115]⟩:ByteArray),1,([]:List ByteArray),0,5,1,([(⟨0,0,2,2⟩:Rect)]:List Rect),(⟨#[120]⟩:ByteArray)⟩:Alert) (⟨(⟨#[112]⟩:ByteArray),1,1⟩:Post)).bind λr_2=>(bif (r_2.2==0)then some r_2.1 else some false).bind λv_4=>some v_4
theorem zU  : Le (rD) (mh):=by
 unfold rD mh
 repeat' (with_reducible first | exact Le.refl _ | exact vY _ _ | refine Le.loop (λ_ => ?_) | refine Le.forL (λ_ _ _ => ?_) | refine Le.thenC (λ_ => ?_) (λ_ => ?_) | refine Le.cond ?_ ?_ | refine Le.bind ?_ (λ_ => ?_))
end Go.Proofs.YtpmokglbipebcaaGreatDoor.Law

open Go Go.Eng
namespace Go.Proofs.YtpmokglbipebcaaGreatDoor.Law
set_option linter.unusedVariables false
set_option maxRecDepth 100000
theorem Jn:rD=some true:=by kernel_rfl
theorem Ba:mh=some true:=zU _ Jn
end Go.Proofs.YtpmokglbipebcaaGreatDoor.Law

