/-
  THE PLAIN LAW (part 4).
-/
import Derived.Test.YtjhcehhmdmbleaaGreatDoorPl3
import Derived.Test.YtjhcehhmdmbleaaGreatDoorDefs
open Go Go.Eng
namespace Go.Proofs.YtjhcehhmdmbleaaGreatDoor.Law
set_option linter.unusedVariables false
set_option linter.unusedSimpArgs false
set_option maxRecDepth 100000
def chA {α:Type} (stp:Option α→α→Int):Option α→List α→Int
 | _,[]=>0
 | p,x::l=>bif stp p x == 0 then chA stp (some x) l else stp p x
def jJ {α:Type} (l:List α) (k:Nat):Option α:=if k=0 then none else l[k - 1]?
theorem Dy {α:Type} {stp:Option α→α→Int} {body:Nat→α→Unit→Option (Ctl Unit Int)} (l:List α):∀ (xs:List α) (k:Nat),l.drop k=xs→(∀ k x,l[k]? = some x→body k x ()=some (pF (stp (jJ l k) x)))→forR body xs k ()=some (pF (chA stp (jJ l k) xs))
 | [],k,_,_=>rfl
 | x::xs,k,hd,h=>by
  have hx:=y5 hd
  have hp:jJ l (k + 1)=some x:=by unfold jJ; rw [if_neg (by omega)]; exact hx
  rw [forR,h k x hx,Option.bind_some,chA]
  cases hs:stp (jJ l k) x == 0 with
  | true =>
   have e:pF (stp (jJ l k) x) = .go ():=by unfold pF; rw [hs]; rfl
   rw [e,cond_true,← hp]
   exact Dy l xs (k + 1) (aR hd) h
  | false =>
   have e:pF (stp (jJ l k) x) = .ret (stp (jJ l k) x):=by unfold pF; rw [hs]; rfl
   rw [e,cond_false,e]
theorem q9 {α:Type} {stp:Option α→α→Int} {body:Nat→α→Unit→Option (Ctl Unit Int)} {l:List α} (hl:l.length≤1000000) (h:∀ k x,l[k]? = some x→body k x ()=some (pF (stp (jJ l k) x))):forL l () body=some (pF (chA stp none l)):=by
 rw [iJ (by omega)]
 exact Dy l l 0 rfl h
theorem KT {α:Type} {stp:Option α→α→Int}:∀ {l:List α} {p:Option α},chA stp p l=0 → ∀ (i:Nat) (x:α),l[i]? = some x → ∃ q,stp q x=0∧(i=0→q=p)∧(0 < i→q=l[i - 1]?)
 | [],p,_,i,x,hx=>by simp at hx
 | y::l,p,h,i,x,hx=>by
  rw [chA]at h
  cases hs:stp p y == 0 with
  | false=>rw [hs,cond_false]at h; rw [h]at hs; exact absurd hs (by decide)
  | true =>
   rw [hs,cond_true]at h
   cases i with
   | zero =>
    rw [List.getElem?_cons_zero,Option.some.injEq]at hx
    exact⟨p,by rw [← hx]; exact eq_of_beq hs,fun _=>rfl,fun h=>absurd h (Nat.lt_irrefl _)⟩
   | succ i =>
    rw [List.getElem?_cons_succ]at hx
    obtain ⟨q,q1,q2,q3⟩:=KT h i x hx
    refine⟨q,q1,fun h=>absurd h (by omega),fun _ => ?_⟩
    cases i with
    | zero=>rw [q2 rfl]; rfl
    | succ i=>rw [q3 (by omega)]; simp
theorem mV (e:Int):(e=0∧pF e = .go ())∨(e≠0∧pF e = .ret e):=by
 unfold pF
 by_cases h:e=0
 ·subst h; exact .inl ⟨rfl,rfl⟩
 ·have:(e == 0)=false:=by simpa using h
  rw [this]; exact .inr ⟨h,rfl⟩
theorem Iz (n:Nat):nG (n:Int)=some (decide ((n:Int) < 32) || ((n:Int) == 127)):=by
 unfold nG
 cases decide ((n:Int) < 32) <;> rfl
def runeB (n:Nat):Bool:=decide ((n:Int) < 32) || ((n:Int) == 127)
theorem jy (s:ByteArray) {t:ByteArray} {v c k r:Bool} (h1:fq s=some v) (h2:decide (0≤Lib.idxFunc runeB true s)=c) (h3:nD s ⟨#[32]⟩=some t) (h4:strings_Contains s ⟨#[32,32]⟩=some k) (h5:(v && (!c && (sEq t s && !k)))=r):oC s=some r:=by
 subst h5
 unfold oC iH
 rw [h1,AV (p:=runeB) (fun n=>Iz n),h2,rT _ _ _ h3,h4]
 cases v with
 | false=>rfl
 | true =>
  cases c with
  | true=>rfl
  | false =>
   simp only [Option.bind_some,cond_true,Bool.not_false]
   cases sEq t s <;> rfl
def lZ (s:ByteArray):Bool:=decide (s=⟨#[]⟩) || (decide (s=overS) || (decide (s=floodS) || decide (s=mallS)))
theorem Bq:∀ s∈txtL,kG s=some (lZ s)∧oC s=some (lZ s):=by
 intro s hs
 unfold txtL at hs
 simp only [List.mem_cons,List.not_mem_nil,or_false]at hs
 rcases hs with rfl | rfl | rfl | rfl | rfl | rfl | rfl | rfl
 ·exact⟨fo _ _ (show fu ⟨#[]⟩=some (lZ ⟨#[]⟩) by kernel_rfl),jy ⟨#[]⟩ (v:=true) (c:=false) (t:=⟨#[]⟩) (k:=false) (by kernel_rfl) (by kernel_rfl) (by kernel_rfl) (by kernel_rfl) (by kernel_rfl)⟩
 ·exact⟨fo _ _ (show fu overS=some (lZ overS) by kernel_rfl),jy overS (v:=true) (c:=false) (t:=overS) (k:=false) (by kernel_rfl) (by kernel_rfl) (by kernel_rfl) (by kernel_rfl) (by kernel_rfl)⟩
 ·exact⟨fo _ _ (show fu floodS=some (lZ floodS) by kernel_rfl),jy floodS (v:=true) (c:=false) (t:=floodS) (k:=false) (by kernel_rfl) (by kernel_rfl) (by kernel_rfl) (by kernel_rfl) (by kernel_rfl)⟩
 ·exact⟨fo _ _ (show fu mallS=some (lZ mallS) by kernel_rfl),jy mallS (v:=true) (c:=false) (t:=mallS) (k:=false) (by kernel_rfl) (by kernel_rfl) (by kernel_rfl) (by kernel_rfl) (by kernel_rfl)⟩
 ·exact⟨fo _ _ (show fu ⟨#[32,120]⟩=some (lZ ⟨#[32,120]⟩) by kernel_rfl),jy ⟨#[32,120]⟩ (v:=true) (c:=false) (t:=⟨#[120]⟩) (k:=false) (by kernel_rfl) (by kernel_rfl) (by kernel_rfl) (by kernel_rfl) (by kernel_rfl)⟩
 ·exact⟨fo _ _ (show fu ⟨#[97,32,32,98]⟩=some (lZ ⟨#[97,32,32,98]⟩) by kernel_rfl),jy ⟨#[97,32,32,98]⟩ (v:=true) (c:=false) (t:=⟨#[97,32,32,98]⟩) (k:=true) (by kernel_rfl) (by kernel_rfl) (by kernel_rfl) (by kernel_rfl) (by kernel_rfl)⟩
 ·exact⟨fo _ _ (show fu ⟨#[10]⟩=some (lZ ⟨#[10]⟩) by kernel_rfl),jy ⟨#[10]⟩ (v:=true) (c:=true) (t:=⟨#[10]⟩) (k:=false) (by kernel_rfl) (by kernel_rfl) (by kernel_rfl) (by kernel_rfl) (by kernel_rfl)⟩
 ·exact⟨fo _ _ (show fu ⟨#[255]⟩=some (lZ ⟨#[255]⟩) by kernel_rfl),jy ⟨#[255]⟩ (v:=false) (c:=false) (t:=⟨#[255]⟩) (k:=false) (by kernel_rfl) (by kernel_rfl) (by kernel_rfl) (by kernel_rfl) (by kernel_rfl)⟩
theorem EL:∀ s∈txtL,s.size≤16:=by
 intro s hs
 unfold txtL at hs
 simp only [List.mem_cons,List.not_mem_nil,or_false]at hs
 rcases hs with rfl | rfl | rfl | rfl | rfl | rfl | rfl | rfl <;> decide
def rM {α:Type} (f:α→Bool):Option α→Bool
 | some y=>f y
 | none=>false
def oK (id:ByteArray) (p:Option ByteArray) (r:ByteArray):Int:=bif !kJ r then 5 else bif rM (fun q=>sLe r q) p then 7 else bif sEq r id then 14 else 0
def lN (_:Option Rect) (r:Rect):Int:=bif AU r then 1 else 0
theorem Bj {α β:Type} {l:List α} {k:Nat} {x:α} (h:l[k]? = some x) (hl:l.length≤1000000) (g:α→Option Bool) (f:α→Bool) (hg:∀ y,g y=some (f y)):(bif (decide ((k:Int) > 0))then (idx l (w64 ((k:Int) - 1))).bind g else some false)=some (rM f (jJ l k)):=by
 rcases Nat.eq_zero_or_pos k with h0 | h0
 ·subst h0
  rw [decide_eq_false (by omega)]; rfl
 ·obtain ⟨y,q1,q2⟩:=Fb h h0 (by omega)
  rw [decide_eq_true (by omega),cond_true,q1,Option.bind_some,hg]
  unfold jJ
  rw [if_neg (by omega),q2]; rfl
theorem F4 (x:Alert) (h:GA x):∀ k r,x.Refs[k]? = some r→d9 x k r ()=some (pF (oK x.Id (jJ x.Refs k) r)):=fun k r hr=>by
 have hl:=h.rlen
 have hs:=h.refs r (List.mem_of_getElem? hr)
 unfold ShA at hs
 unfold d9
 rw [sH r (by omega),Bj (β:=Unit) hr (by omega) (fun y_20=>some (sLe r y_20)) (fun y=>sLe r y) (fun _=>rfl),Option.bind_some,Option.bind_some]
 unfold oK
 cases kJ r with
 | false=>rfl
 | true =>
  cases rM (fun q=>sLe r q) (jJ x.Refs k)with
  | true=>rfl
  | false=>cases sEq r x.Id <;> rfl
theorem Gi (x:Alert) (h:GA x):∀ k r,x.Refs[k]? = some r→gY x k r ()=some (pF (oK x.Id (jJ x.Refs k) r)):=fun k r hr=>by
 have hl:=h.rlen
 have hs:=h.refs r (List.mem_of_getElem? hr)
 unfold ShA at hs
 unfold gY
 rw [uf r (by omega),Bj (β:=Unit) hr (by omega) (fun y_20=>some (sLe r y_20)) (fun y=>sLe r y) (fun _=>rfl),Option.bind_some,Option.bind_some]
 unfold oK
 cases kJ r with
 | false=>rfl
 | true =>
  cases rM (fun q=>sLe r q) (jJ x.Refs k)with
  | true=>rfl
  | false=>cases sEq r x.Id <;> rfl
theorem F8 (x:Alert):∀ k r,x.Areas[k]? = some r→eQ k r ()=some (pF (lN (jJ x.Areas k) r)):=fun k r hr=>by
 unfold eQ lN
 rw [CX]
 cases AU r <;> rfl
theorem FV (x:Alert):∀ k r,x.Areas[k]? = some r→gZ k r ()=some (pF (lN (jJ x.Areas k) r)):=fun k r hr=>by
 unfold gZ lN
 rw [CZ]
 cases AU r <;> rfl
def rfV (x:Alert):Int:=chA (oK x.Id) none x.Refs
def arV (x:Alert):Int:=chA lN none x.Areas
def fmV (x:Alert):Bool := !((x.Kind == 1) == ((x.Refs.length:Int) == 0))
def agV (x:Alert):Bool := !yA x.At || (iK x.Until (x.At + 1) (x.At + 2592000000) || iK x.Weight 1 9)
def txV (x:Alert):Bool := !lZ x.Text || (sEq x.Text ⟨#[]⟩ && !(x.Kind == 3))
def cnV (x:Alert):Bool := !((x.Kind == 3) == ((x.Areas.length:Int) == 0))
def alF (x:Alert):Int:=bif !kJ x.Id || !kJ x.Sender then 5 else bif iK x.Kind 1 3 then 4 else bif rfV x == 0 then (bif fmV x then 3 else bif agV x then 1 else bif arV x == 0 then (bif cnV x then 3 else bif txV x then 3 else 0)else arV x)else rfV x
theorem alF_K {x:Alert} (h:GA x):gJ x=some (alF x):=by
 have h1:=h.id
 have h2:=h.sender
 have h3:=h.at_
 have h4:=h.rlen
 have h5:=h.alen
 have h6:=EL _ h.text
 unfold ShA at h1 h2
 have hrf:ib x=some (bif rfV x == 0 then (bif fmV x then 3 else 0)else rfV x):=by
  unfold ib
  rw [decide_eq_false (by omega),cond_false,q9 (stp:=oK x.Id) (body:=fun k r s=>d9 x k r s) (by omega) (F4 x h)]
  unfold rfV fmV
  rcases mV (chA (oK x.Id) none x.Refs)with⟨e1,e2⟩ | ⟨e1,e2⟩
  ·rw [e2,e1]
   simp only [Option.bind_some,thenC]
   cases (!((x.Kind == 1) == ((x.Refs.length:Int) == 0))) <;> rfl
  ·have:(chA (oK x.Id) none x.Refs == 0)=false:=by simpa using e1
   rw [e2,this]; rfl
 unfold gJ alF
 rw [sH _ (by omega),sH _ (by omega),hrf,lV,E5,dw (n:=x.At + 1) (by omega),dw (n:=x.At + 2592000000) (by omega),lV,lV,(Bq _ h.text).1,decide_eq_false (show ¬ (x.Areas.length:Int) > 20 by omega),decide_eq_false (show ¬ (x.Text.size:Int) > 500 by omega)]
 rw [q9 (stp:=lN) (body:=fun k r s=>eQ k r s) (by omega) (F8 x)]
 have ek:(bif !kJ x.Id then some true else some (!kJ x.Sender))=some (!kJ x.Id || !kJ x.Sender):=by cases kJ x.Id <;> rfl
 have ea:((some (yA x.At)).bind fun r_19=>bif (!r_19)then some true else (some (iK x.Until (x.At + 1) (x.At + 2592000000))).bind fun r_22=>bif r_22 then some true else (some (iK x.Weight 1 9)).bind fun r_25=>some r_25)=some (agV x):=by
  unfold agV
  cases yA x.At <;> cases iK x.Until (x.At + 1) (x.At + 2592000000) <;> rfl
 have et:((some (lZ x.Text)).bind fun r_47=>bif (!r_47)then some true else bif (sEq x.Text (⟨#[]⟩:ByteArray))then some (!(x.Kind == 3))else some false)=some (txV x):=by
  unfold txV
  cases lZ x.Text <;> cases sEq x.Text ⟨#[]⟩ <;> rfl
 have ec:(!((x.Kind == 3) == ((x.Areas.length:Int) == 0)))=cnV x:=rfl
 rw [ea,et,ec]
 simp only [Option.bind_some]
 rw [ek]
 simp only [Option.bind_some]
 cases (!kJ x.Id || !kJ x.Sender)with
 | true=>rfl
 | false =>
 cases iK x.Kind 1 3 with
 | true=>rfl
 | false =>
 simp only [cond_false]
 cases hr:rfV x == 0 with
 | false =>
  have:(rfV x != 0)=true:=by simp [bne,hr]
  simp only [cond_false,this,cond_true]
 | true =>
  simp only [cond_true]
  cases fmV x with
  | true=>rfl
  | false =>
   cases agV x with
   | true=>rfl
   | false =>
    simp only [cond_false,bne_self_eq_false]
    unfold arV
    rcases mV (chA lN none x.Areas)with⟨e1,e2⟩ | ⟨e1,e2⟩
    ·rw [e2,e1]
     simp only [thenC]
     cases cnV x with
     | true=>rfl
     | false=>cases txV x <;> rfl
    ·have:(chA lN none x.Areas == 0)=false:=by simpa using e1
     rw [e2,this]; rfl
theorem alF_R {x:Alert} (h:GA x):kH x=some (alF x):=by
 have h1:=h.id
 have h2:=h.sender
 have h3:=h.at_
 have h4:=h.rlen
 have h5:=h.alen
 have h6:=EL _ h.text
 unfold ShA at h1 h2
 have hm:o9 x.At=some (yA x.At):=by unfold o9 yA; rw [x8]; rfl
 unfold kH alF
 rw [uf _ (by omega),uf _ (by omega),hm,x8,dw (n:=x.At + 1) (by omega),dw (n:=x.At + 2592000000) (by omega),x8,x8,(Bq _ h.text).2,decide_eq_false (show ¬ (x.Refs.length:Int) > 20 by omega),decide_eq_false (show ¬ (x.Areas.length:Int) > 20 by omega),decide_eq_false (show ¬ (x.Text.size:Int) > 500 by omega)]
 rw [q9 (stp:=lN) (body:=fun k r s=>gZ k r s) (by omega) (FV x),q9 (stp:=oK x.Id) (body:=fun k r s=>gY x k r s) (by omega) (Gi x h)]
 have ek:(bif !kJ x.Id then some true else some (!kJ x.Sender))=some (!kJ x.Id || !kJ x.Sender):=by cases kJ x.Id <;> rfl
 have ea:((some (yA x.At)).bind fun r_38=>bif (!r_38)then some true else (some (!iK x.Until (x.At + 1) (x.At + 2592000000))).bind fun r_41=>bif (!r_41)then some true else (some (!iK x.Weight 1 9)).bind fun r_44=>some (!r_44))=some (agV x):=by
  unfold agV
  cases yA x.At <;> cases iK x.Until (x.At + 1) (x.At + 2592000000) <;> cases iK x.Weight 1 9 <;> rfl
 have et:((some (lZ x.Text)).bind fun r_66=>bif (!r_66)then some true else bif (sEq x.Text (⟨#[]⟩:ByteArray))then some (x.Kind != 3)else some false)=some (txV x):=by
  unfold txV
  cases lZ x.Text <;> cases sEq x.Text ⟨#[]⟩ <;> rfl
 have ec:(!((x.Kind == 3) == ((x.Areas.length:Int) == 0)))=cnV x:=rfl
 have ef:(!((x.Kind == 1) == ((x.Refs.length:Int) == 0)))=fmV x:=rfl
 rw [ea,et,ec,ef]
 simp only [Option.bind_some]
 rw [ek]
 simp only [Option.bind_some]
 cases (!kJ x.Id || !kJ x.Sender)with
 | true=>rfl
 | false =>
 cases iK x.Kind 1 3 with
 | true=>rfl
 | false =>
 simp only [cond_false,Bool.not_false]
 unfold rfV arV
 rcases mV (chA (oK x.Id) none x.Refs)with⟨e1,e2⟩ | ⟨e1,e2⟩
 ·rw [e2,e1]
  simp only [thenC]
  cases fmV x with
  | true=>rfl
  | false =>
   cases agV x with
   | true=>rfl
   | false =>
    simp only [cond_false]
    rcases mV (chA lN none x.Areas)with⟨k1,k2⟩ | ⟨k1,k2⟩
    ·rw [k2,k1]
     simp only [thenC]
     cases cnV x with
     | true=>rfl
     | false=>cases txV x <;> rfl
    ·have:(chA lN none x.Areas == 0)=false:=by simpa using k1
     rw [k2,this]; rfl
 ·have:(chA (oK x.Id) none x.Refs == 0)=false:=by simpa using e1
  rw [e2,this]; rfl
end Go.Proofs.YtjhcehhmdmbleaaGreatDoor.Law

open Go Go.Eng
namespace Go.Proofs.YtjhcehhmdmbleaaGreatDoor.Law
set_option linter.unusedVariables false
set_option linter.unusedSimpArgs false
section
variable {K T:Type} {eq:K→K→Bool}
theorem K4 (k:K):ve eq ([]:List (K×T)) k=none:=rfl
theorem qi (e:K×T) (es:List (K×T)) (k:K):ve eq (e::es) k=if eq k e.1=true then some e.2 else ve eq es k:=by
 unfold ve
 rw [xQ]
 by_cases h:eq k e.1=true
 ·rw [if_pos h,if_pos h]; rfl
 ·rw [if_neg h,if_neg h]
  cases xQ eq k es with
  | none=>rfl
  | some j=>rfl
theorem JA (k:K) (v:T):rW eq ([]:List (K×T)) k v = [(k,v)]:=rfl
theorem BL (e:K×T) (es:List (K×T)) (k:K) (v:T):rW eq (e::es) k v=if eq k e.1=true then (k,v)::es else e::rW eq es k v:=by
 unfold rW
 rw [xQ]
 by_cases h:eq k e.1=true
 ·rw [if_pos h,if_pos h]; rfl
 ·rw [if_neg h,if_neg h]
  cases xQ eq k es with
  | none=>rfl
  | some j=>rfl
theorem BQ (he:∀ a b,eq a b=true↔a=b) (k k':K) (v:T):∀ es:List (K×T),ve eq (rW eq es k v) k'=if eq k' k=true then some v else ve eq es k'
 | []=>by rw [JA,qi]
 | e::es=>by
  rw [BL,qi]
  by_cases h:eq k e.1=true
  ·rw [if_pos h,qi]
   have h1:=(he _ _).1 h
   rw [← h1]
   by_cases h2:eq k' k=true
   ·rw [if_pos h2,if_pos h2]
   ·rw [if_neg h2,if_neg h2,if_neg h2]
  ·rw [if_neg h,qi,BQ he k k' v es]
   by_cases h2:eq k' e.1=true
   ·have h3:=(he _ _).1 h2
    have:¬ eq k' k=true:=fun q=>h (by rw [← (he _ _).1 q]; exact h2)
    rw [if_pos h2,if_neg this,if_pos h2]
   ·rw [if_neg h2,if_neg h2]
theorem zS (k:K) (v:T):∀ es:List (K×T),(rW eq es k v).length=if (ve eq es k).isSome=true then es.length else es.length + 1
 | []=>rfl
 | e::es=>by
  rw [BL,qi]
  by_cases h:eq k e.1=true
  ·rw [if_pos h,if_pos h]; rfl
  ·rw [if_neg h,if_neg h,List.length_cons,zS k v es,List.length_cons]
   split <;> rfl
end
theorem Ci (a b:ByteArray):eqS a b=true↔a=b:=⟨eqS_eq,fun h=>by
 subst h
 obtain ⟨x⟩:=a
 show (x == x)=true
 exact beq_self_eq_true x⟩
def wS (s:List (ByteArray×Bool)) (sn:List ByteArray):Prop := ∀ k,ve eqS s k=if k∈sn then some true else none
theorem wS.nil:wS [] []:=fun k=>by rw [K4,if_neg (by simp)]
theorem wS.set {s:List (ByteArray×Bool)} {sn:List ByteArray} (h:wS s sn) (id:ByteArray):wS (rW eqS s id true) (sn ++ [id]):=fun k=>by
 rw [BQ Ci,h k]
 by_cases h1:eqS k id=true
 ·rw [if_pos h1,if_pos (by rw [(Ci _ _).1 h1]; simp)]
 ·rw [if_neg h1]
  have:k∈sn ++ [id]↔k∈sn:=by
   rw [List.mem_append,List.mem_singleton]
   exact⟨fun q=>q.resolve_right (fun e=>h1 ((Ci _ _).2 e)),.inl⟩
  by_cases h2:k∈sn
  ·rw [if_pos h2,if_pos (this.2 h2)]
  ·rw [if_neg h2,if_neg (fun q=>h2 (this.1 q))]
def vC:List ByteArray→List ByteArray→Bool
 | _,[]=>false
 | sn,x::l=>if x∈sn then true else vC (sn ++ [x]) l
theorem GU:∀ (xs:List Alert) (k:Nat) (s:List (ByteArray×Bool)) (sn:List ByteArray),wS s sn→(vC sn (xs.map (·.Id))=false ∧ ∃ s',forR (fun k x s=>bK k x s) xs k s=some (.go s'))∨(vC sn (xs.map (·.Id))=true∧forR (fun k x s=>bK k x s) xs k s=some (.ret 6))
 | [],k,s,sn,h => .inl ⟨rfl,s,rfl⟩
 | x::xs,k,s,sn,h=>by
  have hg:=h x.Id
  rw [List.map_cons]
  by_cases hm:x.Id∈sn
  ·rw [if_pos hm]at hg
   have e:bK k x s=some (.ret 6):=by unfold bK; rw [hg]; rfl
   exact .inr ⟨by rw [vC,if_pos hm],by rw [forR,e]; rfl⟩
  ·rw [if_neg hm]at hg
   have e:bK k x s=some (.go (rW eqS s x.Id true)):=by unfold bK; rw [hg]; rfl
   rw [vC,if_neg hm,forR,e,Option.bind_some]
   exact GU xs (k + 1) _ _ (h.set x.Id)
theorem Ha:∀ (xs:List Alert) (k:Nat) (s:List (ByteArray×Bool)) (sn:List ByteArray),wS s sn → ∃ s',forR (fun k x s=>iB k x s) xs k s=some (.go s')∧(if vC sn (xs.map (·.Id))=true then s'.length < s.length + xs.length else s'.length=s.length + xs.length)∧s'.length≤s.length + xs.length
 | [],k,s,sn,h=>⟨s,rfl,by rw [if_neg (by simp [vC])]; rfl,Nat.le_refl _⟩
 | x::xs,k,s,sn,h=>by
  have hg:=h x.Id
  have e:iB k x s=some (.go (rW eqS s x.Id true)):=rfl
  obtain ⟨s',e1,e2,e3⟩:=Ha xs (k + 1) _ _ (h.set x.Id)
  refine⟨s',by rw [forR,e,Option.bind_some]; exact e1,?_,?_⟩
  ·rw [List.map_cons,vC]
   have hl:=zS (eq:=eqS) x.Id true s
   by_cases hm:x.Id∈sn
   ·rw [if_pos hm]at hg
    rw [if_pos hm,if_pos rfl]
    rw [hg]at hl
    simp only [Option.isSome_some,if_true]at hl
    rw [List.length_cons]; omega
   ·rw [if_neg hm]at hg
    rw [hg]at hl
    rw [if_neg hm]
    have hl2:(rW eqS s x.Id true).length=s.length + 1:=by simpa using hl
    rw [hl2]at e2 e3
    rw [List.length_cons]
    by_cases hd:vC (sn ++ [x.Id]) (xs.map (·.Id))=true
    ·rw [if_pos hd]at e2; rw [if_pos hd]; omega
    ·rw [if_neg hd]at e2; rw [if_neg hd]; omega
  ·have hl:=zS (eq:=eqS) x.Id true s
   have:(rW eqS s x.Id true).length≤s.length + 1:=by rw [hl]; split <;> omega
   rw [List.length_cons]; omega
theorem BU:∀ (l sn:List ByteArray),vC sn l=false→l.Nodup ∧ ∀ x∈l,x∉sn
 | [],sn,_=>⟨List.nodup_nil,fun x hx=>by cases hx⟩
 | y::l,sn,h=>by
  rw [vC]at h
  by_cases hm:y∈sn
  ·rw [if_pos hm]at h; cases h
  ·rw [if_neg hm]at h
   obtain ⟨h1,h2⟩:=BU l _ h
   refine⟨List.nodup_cons.2 ⟨fun q=>h2 y q (by simp),h1⟩,fun x hx => ?_⟩
   rcases List.mem_cons.1 hx with rfl | hx
   ·exact hm
   ·exact fun q=>h2 x hx (List.mem_append_left _ q)
end Go.Proofs.YtjhcehhmdmbleaaGreatDoor.Law

open Go Go.Eng
namespace Go.Proofs.YtjhcehhmdmbleaaGreatDoor.Law
set_option linter.unusedVariables false
set_option linter.unusedSimpArgs false
theorem IV (l:List Alert) (px py t:Int):(nK l px py t).Perm (mP l px py t):=ug _ _
theorem JI (l:List Alert) (px py t:Int):(nK l px py t).length≤l.length:=by
 rw [(IV l px py t).length_eq]; exact List.length_filter_le _ _
theorem y9 {l:List Alert} {px py F T:Int} {E:List Int} (hE:E.Pairwise (· < ·)) (hin:∀ x∈E,F≤x∧x≤T) (h1:∀ z∈l,F < z.At→z.At < T→z.At∈E) (h2:∀ z∈l,F < endV l z→endV l z < T→endV l z∈E) {i:Nat} {a b:Int} (ha:E[i]? = some a) (hb:E[i + 1]? = some b) {t:Int} (hat:a≤t) (htb:t < b):mZ l px py t=mZ l px py a:=by
 have a1:=hin a (List.mem_of_getElem? ha)
 have b1:=hin b (List.mem_of_getElem? hb)
 have key:∀ v:Int,(F < v→v < T→v∈E)→v≤a∨t < v:=fun v hv=>by
  by_cases q1:F < v
  ·by_cases q2:v < T
   ·rcases JC hE ha hb (hv q1 q2)with h | h
    ·exact .inl h
    ·exact .inr (by omega)
   ·exact .inr (by omega)
  ·exact .inl (by omega)
 exact IP (fun z hz=>⟨key _ (h1 z hz),key _ (h2 z hz)⟩) hat
def qc (l m:List Alert) (px py t:Int):List Alert:=m.filter fun z=>onB l t z && hasB z.Areas px py
def cR (a b:Alert):Int:=or0 (lI b.Weight a.Weight) (or0 (lI b.At a.At) (xX a.Id b.Id))
theorem IJ (a b:Alert):kY a b=some (cR a b):=by
 simp only [kY,qL,uj,or3_eq,Option.bind_some]; rfl
theorem vJ {a b:Alert}:cR a b < 0↔qo a b=true:=by
 unfold cR
 rw [uA,uA,zZ,xn,zZ,xn,zo,tF]
 constructor
 ·rintro (h | ⟨h,k | ⟨k,q⟩⟩)
  ·exact .inl h
  ·exact .inr ⟨h.symm,.inl k⟩
  ·exact .inr ⟨h.symm,.inr ⟨k.symm,q⟩⟩
 ·rintro (h | ⟨h,k | ⟨k,q⟩⟩)
  ·exact .inl h
  ·exact .inr ⟨h.symm,.inl k⟩
  ·exact .inr ⟨h.symm,.inr ⟨k.symm,q⟩⟩
theorem Dt {a b c:Alert} (h:¬ qo a b=true) (k:¬ qo b c=true):¬ qo a c=true:=by
 rw [tF]at *
 simp only [not_or,not_and]at h k
 rintro (q | ⟨q,q2 | ⟨q2,q3⟩⟩)
 ·omega
 ·have h2:=h.2
  have k2:=k.2
  by_cases e:a.Weight=b.Weight
  ·have:=(h2 e).1
   have:=(k2 (by omega)).1
   omega
  ·omega
 ·have h2:=h.2
  have k2:=k.2
  by_cases e:a.Weight=b.Weight
  ·have a1:=h2 e
   have a2:=k2 (by omega)
   by_cases e2:a.At=b.At
   ·exact lt_ntr (a1.2 e2) (a2.2 (by omega)) q3
   ·have:=a1.1
    have:=a2.1
    omega
  ·omega
theorem Di {x:Alert} (h:∀ r∈x.Areas,Fine r) (hl:x.Areas.length≤1000) (p:Post):iR x p=some (hasB x.Areas p.X p.Y):=by
 unfold iR
 rw [JH (fun x0=>jU x0 p) (tC p.X p.Y) (fun r hr=>by
  have hs:=h r hr
  unfold Fine at hs
  unfold jU tC
  rw [dw (n:=r.X + r.W) (by omega),dw (n:=r.Y + r.H) (by omega)]
  cases decide (r.X≤p.X) <;> cases decide (p.X < r.X + r.W) <;> cases decide (r.Y≤p.Y) <;> rfl) (by omega)]
 rfl
theorem Hf {α β:Type} {l:List α} {f:α→β} {k:Nat} {x:α} (hx:l[k]? = some x):idx (l.map f) (k:Int)=some (f x):=by
 rw [qQ,List.getElem?_map,hx]; rfl
theorem take_len {α:Type} (l:List α) (k:Nat):(l.take k).length≤l.length:=by rw [List.length_take]; exact Nat.min_le_right _ _
theorem Ih {l:List Alert} (h:CA l) (p:Post) (t:Int):mF l (l.map (endV l)) p t=some (nK l p.X p.Y t):=by
 have hl:=h.len
 unfold mF
 obtain ⟨u,u1,u2⟩:=kV (body:=fun k x s=>jM (l.map (endV l)) t p k x s) (fun k s=>s=qc l (l.take k) p.X p.Y t) (xs:=l) (s:=([]:List Alert)) (by omega) (fun k x s hx hs=>by
  have et:l.take (k + 1)=l.take k ++ [x]:=by rw [List.take_add_one,hx]; rfl
  have hm:=List.mem_of_getElem? hx
  have hf:qc l (l.take (k + 1)) p.X p.Y t=qc l (l.take k) p.X p.Y t++(bif onB l t x && hasB x.Areas p.X p.Y then [x]else []):=by
   unfold qc
   rw [et,List.filter_append]
   congr 1
  have hsl:s.length≤1000:=by
   rw [hs]
   refine Nat.le_trans (List.length_filter_le _ _) ?_
   have:=take_len l k
   omega
  unfold jM
  rw [Hf hx,Option.bind_some,isOn_eq,Option.bind_some,Di (h.areas x hm) (h.alen x hm)]
  rw [hf,← hs]
  cases onB l t x with
  | false=>exact⟨_,rfl,by simp⟩
  | true =>
   cases hasB x.Areas p.X p.Y with
   | false=>exact⟨_,rfl,by simp⟩
   | true =>
    simp only [Option.bind_some,cond_true,Bool.and_true]
    rw [lM _ _ (by simp only [List.length_cons,List.length_nil]; omega)]
    exact⟨_,rfl,rfl⟩) rfl
 rw [u1,u2,List.take_length]
 simp only [Option.bind_some,thenC]
 have e0:qc l l p.X p.Y t=mP l p.X p.Y t:=rfl
 rw [e0]
 have hrl:(mP l p.X p.Y t).length≤12:=by
  have:(mP l p.X p.Y t).length≤l.length:=List.length_filter_le _ _
  omega
 obtain ⟨r,r1,r2,r3⟩:=FN (cmp:=kY) (S:=bG) cR (fun _=>rfl) (xs:=mP l p.X p.Y t) hrl (fun a _ b _=>IJ a b)
  (fun a b q1 q2=>by have:=vP _ _ _ (vJ.1 q1) (vJ.1 q2); rw [zQ]at this; cases this)
  (fun a b c q1 q2 q3=>Dt (fun e=>q1 (vJ.2 e)) (fun e=>q2 (vJ.2 e)) (vJ.1 q3))
 have e2:bG (mP l p.X p.Y t)=some r:=r1
 have e3:iP r (mP l p.X p.Y t)=some ():=by unfold iP; rw [if_pos r2.length_eq]
 rw [e2,Option.bind_some,e3,Option.bind_some,G5 h.ids p.X p.Y t r2 (r3.imp (fun {a b} q=>by
  cases hb:qo b a with
  | false=>rfl
  | true=>exact absurd (vJ.2 hb) q))]
end Go.Proofs.YtjhcehhmdmbleaaGreatDoor.Law

open Go Go.Eng
namespace Go.Proofs.YtjhcehhmdmbleaaGreatDoor.Law
set_option linter.unusedVariables false
set_option linter.unusedSimpArgs false
set_option maxRecDepth 100000
def o8 (p:Option Alert) (x:Alert):Int:=bif alF x == 0 then (bif rM (fun y => !decide (befA y x)) p then 7 else 0)else alF x
def alV (l:List Alert):Int:=bif chA o8 none l == 0 then (bif vC [] (l.map (·.Id))then 6 else 0)else chA o8 none l
theorem BV {a b:Alert} (ha:GA a) (hb:GA b):∃ n,iE a b=some n∧(n < 0↔befA a b):=by
 have h1:=ha.at_
 have h2:=hb.at_
 unfold iE befA
 by_cases h:a.At=b.At
 ·have:(a.At != b.At)=false:=by simpa using h
  rw [this,cond_false,qL]
  refine⟨_,rfl,?_⟩
  rw [zo]
  exact⟨fun q => .inr ⟨h,q⟩,fun q=>by
   rcases q with q | q
   ·omega
   ·exact q.2⟩
 ·have:(a.At != b.At)=true:=by simpa using h
  rw [this,cond_true,dw (n:=a.At - b.At) (by omega)]
  unfold wm
  by_cases hn:a.At - b.At < 0
  ·rw [decide_eq_true hn]
   exact⟨-1,rfl,⟨fun _ => .inl (by omega),fun _=>by decide⟩⟩
  ·rw [decide_eq_false hn,decide_eq_true (show a.At - b.At > 0 by omega)]
   exact⟨1,rfl,⟨fun q=>absurd q (by decide),fun q=>by
    rcases q with q | q
    ·omega
    ·exact absurd q.1 h⟩⟩
theorem ge_of {n:Int} {P:Prop} [Decidable P] (h:n < 0↔P):decide (n≥0) = !decide P:=by
 by_cases hp:P
 ·rw [decide_eq_true hp,decide_eq_false (by have:=h.2 hp; omega)]; rfl
 ·rw [decide_eq_false hp,decide_eq_true (by
   rcases Int.lt_or_le n 0 with q | q
   ·exact absurd (h.1 q) hp
   ·exact q)]; rfl
theorem vz {α:Type} {l:List α} {k:Nat} {x:α} (h:l[k]? = some x) (hl:l.length≤1000000) (g:α→Option Bool) (f:α→Bool) (hg:∀ y∈l,g y=some (f y)):(bif (decide ((k:Int) > 0))then (idx l (w64 ((k:Int) - 1))).bind g else some false)=some (rM f (jJ l k)):=by
 rcases Nat.eq_zero_or_pos k with h0 | h0
 ·subst h0
  rw [decide_eq_false (by omega)]; rfl
 ·obtain ⟨y,q1,q2⟩:=Fb h h0 (by omega)
  rw [decide_eq_true (by omega),cond_true,q1,Option.bind_some,hg y (List.mem_of_getElem? q2)]
  unfold jJ
  rw [if_neg (by omega),q2]; rfl
theorem Km {l:List Alert} (h:GAs l):∀ k x,l[k]? = some x→dE l k x ()=some (pF (o8 (jJ l k) x)):=fun k x hx=>by
 have hl:=h.2
 unfold dE o8
 rw [alF_K (h.1 x (List.mem_of_getElem? hx)),vz hx (by omega) (fun y_20=>(iq y_20 x).bind fun r_22=>some (decide (r_22≥0))) (fun y => !decide (befA y x)) (fun y _=>by
  obtain ⟨n,n1,n2⟩:=yc y x
  rw [n1,Option.bind_some,ge_of n2])]
 simp only [Option.bind_some]
 by_cases h0:alF x=0
 ·rw [h0]
  cases rM (fun y => !decide (befA y x)) (jJ l k) <;> rfl
 ·have e1:(alF x == 0)=false:=by simpa using h0
  have e2:(alF x != 0)=true:=by simp [bne,e1]
  rw [e1,e2]
  unfold pF
  rw [cond_false,e1]; rfl
theorem JL {l:List Alert} (h:GAs l):∀ k x,l[k]? = some x→gH l k x ()=some (pF (o8 (jJ l k) x)):=fun k x hx=>by
 have hl:=h.2
 have hgx:=h.1 x (List.mem_of_getElem? hx)
 unfold gH o8
 rw [alF_R hgx,vz hx (by omega) (fun y_20=>(iE y_20 x).bind fun r_22=>some (decide (r_22≥0))) (fun y => !decide (befA y x)) (fun y hy=>by
  obtain ⟨n,n1,n2⟩:=BV (h.1 y hy) hgx
  rw [n1,Option.bind_some,ge_of n2])]
 simp only [Option.bind_some]
 by_cases h0:alF x=0
 ·rw [h0]
  cases rM (fun y => !decide (befA y x)) (jJ l k) <;> rfl
 ·have e1:(alF x == 0)=false:=by simpa using h0
  have e2:(alF x != 0)=true:=by simp [bne,e1]
  rw [e1,e2]
  unfold pF
  rw [cond_false,e1]; rfl
theorem alV_K {l:List Alert} (h:GAs l):fI l=some (alV l):=by
 have hl:=h.2
 unfold fI alV
 rw [decide_eq_false (by omega),cond_false,q9 (stp:=o8) (body:=fun k x s=>dE l k x s) (by omega) (Km h)]
 rcases mV (chA o8 none l)with⟨e1,e2⟩ | ⟨e1,e2⟩
 ·rw [e2,e1]
  simp only [Option.bind_some,thenC]
  rw [iJ (by omega)]
  rcases GU l 0 [] [] wS.nil with⟨d,s',f⟩ | ⟨d,f⟩
  ·rw [f,d]; rfl
  ·rw [f,d]; rfl
 ·have:(chA o8 none l == 0)=false:=by simpa using e1
  rw [e2,this]; rfl
theorem alV_R {l:List Alert} (h:GAs l):jQ l=some (alV l):=by
 have hl:=h.2
 unfold jQ alV
 rw [decide_eq_false (by omega),cond_false,q9 (stp:=o8) (body:=fun k x s=>gH l k x s) (by omega) (JL h)]
 rcases mV (chA o8 none l)with⟨e1,e2⟩ | ⟨e1,e2⟩
 ·rw [e2,e1]
  simp only [Option.bind_some,thenC]
  rw [iJ (by omega)]
  obtain ⟨s',f,g,_⟩:=Ha l 0 [] [] wS.nil
  rw [f]
  simp only [Option.bind_some,thenC]
  cases hd:vC [] (l.map (·.Id))with
  | true =>
   rw [hd,if_pos rfl]at g
   simp only [List.length_nil,Nat.zero_add]at g
   rw [decide_eq_true (by omega)]; rfl
  | false =>
   rw [hd,if_neg (by decide)]at g
   simp only [List.length_nil,Nat.zero_add]at g
   rw [decide_eq_false (by omega)]; rfl
 ·have:(chA o8 none l == 0)=false:=by simpa using e1
  rw [e2,this]; rfl
theorem GL {x:Alert} (h:GA x) (h0:alF x=0):(0≤x.At∧x.At≤345686399999)∧(x.At + 1≤x.Until∧x.Until≤x.At + 2592000000) ∧ ∀ r∈x.Areas,Fine r:=by
 unfold alF at h0
 cases e1:(!kJ x.Id || !kJ x.Sender)with
 | true=>rw [e1]at h0; cases h0
 | false =>
 rw [e1,cond_false]at h0
 cases e2:iK x.Kind 1 3 with
 | true=>rw [e2]at h0; cases h0
 | false =>
 rw [e2,cond_false]at h0
 cases e3:rfV x == 0 with
 | false=>rw [e3,cond_false]at h0; rw [h0]at e3; exact absurd e3 (by decide)
 | true =>
 rw [e3,cond_true]at h0
 cases e4:fmV x with
 | true=>rw [e4]at h0; cases h0
 | false =>
 rw [e4,cond_false]at h0
 cases e5:agV x with
 | true=>rw [e5]at h0; cases h0
 | false =>
 rw [e5,cond_false]at h0
 cases e6:arV x == 0 with
 | false=>rw [e6,cond_false]at h0; rw [h0]at e6; exact absurd e6 (by decide)
 | true =>
 unfold agV at e5
 simp only [Bool.or_eq_false_iff]at e5
 obtain ⟨a1,a2,a3⟩:=e5
 have hm:yA x.At=true:=by cases hq:yA x.At with | true=>rfl | false=>rw [hq]at a1; cases a1
 unfold yA at hm
 have hm2:iK x.At 0 345686399999=false:=by cases hq:iK x.At 0 345686399999 with | false=>rfl | true=>rw [hq]at hm; cases hm
 have b1:=vO hm2
 have b2:=vO a2
 refine⟨b1,b2,fun r hr => ?_⟩
 obtain ⟨i,hi⟩:=List.getElem?_of_mem hr
 obtain ⟨q,q1,_⟩:=KT (eq_of_beq e6) i r hi
 unfold lN at q1
 refine IK ?_
 cases hb:AU r with
 | false=>rfl
 | true=>rw [hb]at q1; cases q1
theorem alStp_0 {p:Option Alert} {x:Alert} (h:o8 p x=0):alF x=0:=by
 unfold o8 at h
 cases e:alF x == 0 with
 | true=>exact eq_of_beq e
 | false=>rw [e,cond_false]at h; exact h
theorem alV_ca {l:List Alert} (h:GAs l) (h0:alV l=0):CA l:=by
 have hl:=h.2
 unfold alV at h0
 cases e:chA o8 none l == 0 with
 | false=>rw [e,cond_false]at h0; rw [h0]at e; exact absurd e (by decide)
 | true =>
 rw [e,cond_true]at h0
 have hd:vC [] (l.map (·.Id))=false:=by
  cases hq:vC [] (l.map (·.Id))with
  | false=>rfl
  | true=>rw [hq]at h0; cases h0
 have one:∀ x∈l,alF x=0:=fun x hx=>by
  obtain ⟨i,hi⟩:=List.getElem?_of_mem hx
  obtain ⟨q,q1,_⟩:=KT (eq_of_beq e) i x hi
  exact alStp_0 q1
 refine⟨(BU _ _ hd).1,by omega,fun x hx => ?_,fun x hx => ?_,fun x hx=>(GL (h.1 x hx) (one x hx)).2.2,fun x hx => ?_,fun x hx => ?_⟩
 ·have:=(h.1 x hx).rlen; omega
 ·have:=(h.1 x hx).alen; omega
 ·have:=(GL (h.1 x hx) (one x hx)).1; omega
 ·have:=(GL (h.1 x hx) (one x hx)).1
  have:=(GL (h.1 x hx) (one x hx)).2.1
  omega
def sI (p:Option Post) (x:Post):Int:=bif !kJ x.Player then 5 else bif iK x.X (-100000) 100000 || iK x.Y (-100000) 100000 then 1 else bif rM (fun y=>sLe x.Player y.Player) p then 7 else 0
def poV (l:List Post):Int:=chA sI none l
theorem Ka {l:List Post} (h:GPs l):∀ k x,l[k]? = some x→dN l k x ()=some (pF (sI (jJ l k) x)):=fun k x hx=>by
 have hl:=h.2
 have hs:=(h.1 x (List.mem_of_getElem? hx)).player
 unfold ShA at hs
 unfold dN sI
 rw [sH _ (by omega),lV,lV,vz hx (by omega) (fun y=>some (sLe x.Player y.Player)) (fun y=>sLe x.Player y.Player) (fun y _=>rfl)]
 simp only [Option.bind_some]
 cases kJ x.Player with
 | false=>rfl
 | true =>
  cases iK x.X (-100000) 100000 <;> cases iK x.Y (-100000) 100000 <;> cases rM (fun y=>sLe x.Player y.Player) (jJ l k) <;> rfl
theorem poV_K {l:List Post} (h:GPs l):gD l=some (poV l):=by
 have hl:=h.2
 unfold gD poV
 rw [decide_eq_false (by omega),cond_false,q9 (stp:=sI) (body:=fun k x s=>dN l k x s) (by omega) (Ka h),Option.bind_some]
 exact IU _
theorem GH:∀ (xs:List Post) (k:Nat) (p:Option Post) (last:ByteArray),(∀ x∈xs,GP x)→(last=match p with | some y=>y.Player | none=>⟨#[]⟩)→(chA sI p xs=0 ∧ ∃ s',forR (fun k x s=>fQ k x s) xs k last=some (.go s'))∨(chA sI p xs≠0∧forR (fun k x s=>fQ k x s) xs k last=some (.ret (chA sI p xs)))
 | [],k,p,last,_,_ => .inl ⟨rfl,last,rfl⟩
 | x::xs,k,p,last,hg,hlast=>by
  have hs:=(hg x (by simp)).player
  unfold ShA at hs
  have e:fQ k x last=some (bif sI p x == 0 then .go x.Player else .ret (sI p x)):=by
   unfold fQ sI
   rw [uf _ (by omega),x8,x8]
   simp only [Option.bind_some]
   cases hk:kJ x.Player with
   | false=>rfl
   | true =>
    have hp:sLe x.Player last=rM (fun y=>sLe x.Player y.Player) p:=by
     rw [hlast]
     cases p with
     | some y=>rfl
     | none =>
      show sLe x.Player ⟨#[]⟩=false
      rw [sLe_nil]
      exact decide_eq_false (keyB_ne hk)
    rw [hp]
    cases iK x.X (-100000) 100000 <;> cases iK x.Y (-100000) 100000 <;> cases rM (fun y=>sLe x.Player y.Player) p <;> rfl
  rw [forR,e,Option.bind_some,chA]
  cases h0:sI p x == 0 with
  | true =>
   rw [cond_true,cond_true]
   exact GH xs (k + 1) (some x) x.Player (fun y hy=>hg y (by simp [hy])) rfl
  | false =>
   rw [cond_false,cond_false]
   exact .inr ⟨by simpa using h0,rfl⟩
theorem poV_R {l:List Post} (h:GPs l):kE l=some (poV l):=by
 have hl:=h.2
 unfold kE poV
 rw [decide_eq_false (by omega),cond_false,iJ (by omega)]
 rcases GH l 0 none ⟨#[]⟩ h.1 rfl with⟨h1,s',h2⟩ | ⟨h1,h2⟩
 ·rw [h2,h1]; rfl
 ·rw [h2]; rfl
end Go.Proofs.YtjhcehhmdmbleaaGreatDoor.Law

open Go Go.Eng
namespace Go.Proofs.YtjhcehhmdmbleaaGreatDoor.Law
set_option linter.unusedVariables false
set_option linter.unusedSimpArgs false
set_option maxRecDepth 100000
theorem contS (l:List ByteArray) (v:ByteArray) (hl:l.length≤1000000):dF l v=some (decide (v∈l)):=by
 unfold dF fK
 rw [iJ (by omega)]
 rcases wD (f:=fun x=>some (sEq v x)) (p:=fun x=>sEq v x) (B:=fun k x s=>eY v k x s) (fun k x=>rfl) l 0 (fun x _=>rfl)with⟨h1,h2⟩ | ⟨j,x,h1,h2,_,h4,_⟩
 ·rw [h2]
  have:v∉l:=fun hm=>by
   have:l.any (fun x=>sEq v x)=true:=List.any_eq_true.2 ⟨v,hm,(yL v v).2 rfl⟩
   rw [h1]at this; cases this
  rw [decide_eq_false this]; rfl
 ·rw [h4]
  have:v∈l:=by rw [(yL _ _).1 h2]; exact List.mem_of_getElem? h1
  rw [decide_eq_true this]
  simp only [Option.bind_some,thenC]
  rw [decide_eq_true (by omega)]
theorem IC {a o:Alert} (ha:GA a) (ho:GA o) (r:ByteArray):kC o r a=some (om a o r):=by
 obtain ⟨n,n1,n2⟩:=BV ho ha
 unfold kC om
 rw [uo,uo,n1]
 have:decide (n < 0)=decide (befA o a):=by rw [decide_eq_decide]; exact n2
 cases decide (o.Id=r) <;> cases decide (o.Sender=a.Sender) <;> simp [this]
theorem JQ {l:List Alert} (h:GAs l) {a:Alert} (ha:GA a) (r:ByteArray):qF l a r=some (l.any fun o=>om a o r):=by
 have hl:=h.2
 unfold qF bR bg
 rw [iJ (by omega)]
 rcases wD (f:=fun x0=>kC x0 r a) (p:=fun o=>om a o r) (B:=fun k x s=>bz (fun x0=>kC x0 r a) k x s) (fun k x=>rfl) l 0 (fun x hx=>IC ha (h.1 x hx) r)with⟨h1,h2⟩ | ⟨j,x,h1,h2,_,h4,h5⟩
 ·rw [h2,h1]; rfl
 ·rw [h4,h5]
  simp only [Option.bind_some,thenC]
  rw [decide_eq_true (by omega)]
theorem J3 {l:List Alert} (hid:(l.map (·.Id)).Nodup) {z:Alert} (hz:z∈l) (a:Alert):(l.any fun o=>om a o z.Id)=om a z z.Id:=by
 rw [Bool.eq_iff_iff,List.any_eq_true]
 constructor
 ·rintro ⟨o,ho,h⟩
  obtain ⟨i,hi⟩:=List.getElem?_of_mem ho
  obtain ⟨j,hj⟩:=List.getElem?_of_mem hz
  have:=D9 hid hi hj (wW.1 h).1
  subst this
  rw [hi]at hj
  rw [← Option.some.inj hj]
  have e:=Option.some.inj hj
  rw [← e]at h
  exact h
 ·exact fun h=>⟨z,hz,h⟩
theorem Ko {l:List Alert} (h:GAs l) (hid:(l.map (·.Id)).Nodup) {z:Alert} (hz:z∈l):qI l z=some (endV l z):=by
 have hl:=h.2
 unfold qI
 obtain ⟨t,t1,t2⟩:=kV (body:=fun k x s=>mJ z l k x s) (fun k s=>s=endV (l.take k) z) (xs:=l) (s:=z.Until) (by omega) (fun k x s hx hs=>by
  have et:l.take (k + 1)=l.take k ++ [x]:=by rw [List.take_add_one,hx]; rfl
  have hgx:=h.1 x (List.mem_of_getElem? hx)
  have hrl:=hgx.rlen
  unfold mJ
  rw [contS _ _ (by omega),JQ h hgx,J3 hid hz,hs,et,BM]
  have ec:xy x z=(decide (z.Id∈x.Refs) && om x z z.Id):=by
   unfold xy om
   rw [decide_eq_true (rfl:z.Id=z.Id),Bool.true_and]
  rw [ec]
  simp only [Option.bind_some]
  cases decide (z.Id∈x.Refs)with
  | false=>exact⟨_,rfl,rfl⟩
  | true =>
   cases om x z z.Id with
   | false=>exact⟨_,rfl,rfl⟩
   | true=>exact⟨_,rfl,by rw [← Kh]; rfl⟩) rfl
 rw [t1,t2,List.take_length]; rfl
theorem Ja {l:List Alert} (h:GAs l) (hid:(l.map (·.Id)).Nodup) {z:Alert} (hz:z∈l) (t:Int):oU l z t=some (onB l t z):=by
 unfold oU onB
 rw [Ko h hid hz]
 have e:(z.Kind != 3)=decide (z.Kind≠3):=by rw [Bool.eq_iff_iff]; simp
 rw [e]
 cases decide (z.Kind≠3) <;> cases decide (z.At≤t) <;> rfl
theorem refHas {r:Rect} (h:Fine r) (x y:Int):wu r x y=some (tC x y r):=by
 unfold Fine at h
 unfold wu tC ja
 rw [dw (n:=r.X + r.W) (by omega),dw (n:=r.Y + r.H) (by omega),dw (n:=r.X + r.W - 1) (by omega),dw (n:=r.Y + r.H - 1) (by omega)]
 have e1:decide (x≤r.X + r.W - 1)=decide (x < r.X + r.W):=by rw [decide_eq_decide]; omega
 have e2:decide (y≤r.Y + r.H - 1)=decide (y < r.Y + r.H):=by rw [decide_eq_decide]; omega
 rw [e1,e2]
 cases decide (r.X≤x) <;> cases decide (x < r.X + r.W) <;> cases decide (r.Y≤y) <;> rfl
theorem Cm {x:Alert} (h:∀ r∈x.Areas,Fine r) (hl:x.Areas.length≤1000) (p:Post):lw x p=some (hasB x.Areas p.X p.Y):=by
 unfold lw wF
 rw [JH (fun x0=>oV x0 p.X p.Y) (tC p.X p.Y) (fun r hr=>by
  unfold oV
  rw [refHas (h r hr)]; rfl) (by omega)]
 rfl
def cD (a b:Alert):Int:=bif or0 (lI b.Weight a.Weight) (lI b.At a.At) != 0 then or0 (lI b.Weight a.Weight) (lI b.At a.At)else xX a.Id b.Id
theorem KP (a b c d:Int):fO [a,b] [c,d]=some (or0 (lI a c) (lI b d)):=by
 unfold fO or0
 rw [iJ (by simp)]
 have f1:bT [c,d] 0 a ()=some (bif lI a c != 0 then .ret (lI a c)else .go ()):=by
  unfold bT
  rw [decide_eq_false (by simp),cond_false]
  show ((some c).bind fun y_14=>_)=_
  rw [Option.bind_some,uj,Option.bind_some]
  cases lI a c != 0 <;> rfl
 have f2:bT [c,d] (0 + 1) b ()=some (bif lI b d != 0 then .ret (lI b d)else .go ()):=by
  unfold bT
  rw [decide_eq_false (by simp),cond_false]
  show ((some d).bind fun y_14=>_)=_
  rw [Option.bind_some,uj,Option.bind_some]
  cases lI b d != 0 <;> rfl
 simp only [forR,f1,f2,Option.bind_some]
 cases ha:lI a c == 0 with
 | false =>
  have:(lI a c != 0)=true:=by simp [bne,ha]
  rw [this]; rfl
 | true =>
  have:(lI a c != 0)=false:=by simp [bne,ha]
  rw [this]
  simp only [cond_false,cond_true]
  cases hb:lI b d == 0 with
  | false =>
   have:(lI b d != 0)=true:=by simp [bne,hb]
   rw [this]; rfl
  | true =>
   have:(lI b d != 0)=false:=by simp [bne,hb]
   rw [this,eq_of_beq hb]; rfl
theorem FD (a b:Alert):jd a b=some (cD a b):=by
 unfold jd cD
 rw [KP,Option.bind_some,qL]
 cases or0 (lI b.Weight a.Weight) (lI b.At a.At) != 0 <;> rfl
theorem xG {a b:Alert}:cD a b < 0↔qo a b=true:=by
 rw [← vJ]
 unfold cD cR
 by_cases h:or0 (lI b.Weight a.Weight) (lI b.At a.At)=0
 ·obtain ⟨h1,h2⟩:=zy.1 h
  rw [h,h1,h2]; exact Iff.rfl
 ·have:(or0 (lI b.Weight a.Weight) (lI b.At a.At) != 0)=true:=by simpa using h
  rw [this,cond_true,uA,uA,uA]
  constructor
  ·rintro (q | ⟨q,q2⟩)
   ·exact .inl q
   ·exact .inr ⟨q,.inl q2⟩
  ·rintro (q | ⟨q,q2 | ⟨q2,q3⟩⟩)
   ·exact .inl q
   ·exact .inr ⟨q,q2⟩
   ·exact absurd (zy.2 ⟨q,q2⟩) h
theorem ED {l:List Alert} (h:GAs l) (hc:CA l) (p:Post) (t:Int):mI l p t=some ((nK l p.X p.Y t).map (·.Id)):=by
 have hl:=hc.len
 unfold mI
 obtain ⟨u,u1,u2⟩:=kV (body:=fun k x s=>jW l t p k x s) (fun k s=>s=qc l (l.take k) p.X p.Y t) (xs:=l) (s:=([]:List Alert)) (by omega) (fun k x s hx hs=>by
  have et:l.take (k + 1)=l.take k ++ [x]:=by rw [List.take_add_one,hx]; rfl
  have hm:=List.mem_of_getElem? hx
  have hf:qc l (l.take (k + 1)) p.X p.Y t=qc l (l.take k) p.X p.Y t++(bif onB l t x && hasB x.Areas p.X p.Y then [x]else []):=by
   unfold qc
   rw [et,List.filter_append]
   congr 1
  have hsl:s.length≤1000:=by
   rw [hs]
   refine Nat.le_trans (List.length_filter_le _ _) ?_
   have:=take_len l k
   omega
  unfold jW
  rw [Ja h hc.ids hm,Cm (hc.areas x hm) (hc.alen x hm)]
  rw [hf,← hs]
  simp only [Option.bind_some]
  cases onB l t x with
  | false=>exact⟨_,rfl,by simp⟩
  | true =>
   cases hasB x.Areas p.X p.Y with
   | false=>exact⟨_,rfl,by simp⟩
   | true =>
    simp only [Option.bind_some,cond_true,Bool.and_true]
    rw [lM _ _ (by simp only [List.length_cons,List.length_nil]; omega)]
    exact⟨_,rfl,rfl⟩) rfl
 rw [u1,u2,List.take_length]
 simp only [Option.bind_some,thenC]
 have e0:qc l l p.X p.Y t=mP l p.X p.Y t:=rfl
 rw [e0]
 have hrl:(mP l p.X p.Y t).length≤12:=by
  have:(mP l p.X p.Y t).length≤l.length:=List.length_filter_le _ _
  omega
 obtain ⟨r,r1,r2,r3⟩:=FN (cmp:=jd) (S:=bW) cD (fun _=>rfl) (xs:=mP l p.X p.Y t) hrl (fun a _ b _=>FD a b)
  (fun a b q1 q2=>by have:=vP _ _ _ (xG.1 q1) (xG.1 q2); rw [zQ]at this; cases this)
  (fun a b c q1 q2 q3=>Dt (fun e=>q1 (xG.2 e)) (fun e=>q2 (xG.2 e)) (xG.1 q3))
 have hrr:=G5 hc.ids p.X p.Y t r2 (r3.imp (fun {a b} q=>by
  cases hb:qo b a with
  | false=>rfl
  | true=>exact absurd (xG.2 hb) q))
 have e3:iP r (mP l p.X p.Y t)=some ():=by unfold iP; rw [if_pos r2.length_eq]
 rw [r1,Option.bind_some,e3,Option.bind_some,hrr]
 have hr:=JI l p.X p.Y t
 obtain ⟨v,v1,v2⟩:=kV (body:=fun k x s=>jO k x s) (fun k s=>s=((nK l p.X p.Y t).take k).map (·.Id)) (xs:=nK l p.X p.Y t) (s:=([]:List ByteArray)) (by omega) (fun k x s hx hs=>by
  have et:(nK l p.X p.Y t).take (k + 1)=(nK l p.X p.Y t).take k ++ [x]:=by rw [List.take_add_one,hx]; rfl
  have:=take_len (nK l p.X p.Y t) k
  unfold jO
  rw [hs,lM _ _ (by simp only [List.length_map,List.length_cons,List.length_nil]; omega)]
  exact⟨_,rfl,by rw [et,List.map_append]; rfl⟩) rfl
 rw [v1,v2,List.take_length]; rfl
theorem A9 {l:List Alert} (h:GAs l) (hc:CA l) (p:Post) (t:Int):kL l p t=some (mZ l p.X p.Y t,!(nK l p.X p.Y t).isEmpty):=by
 unfold kL
 rw [ED h hc,Option.bind_some]
 unfold mZ
 cases nK l p.X p.Y t with
 | nil=>rfl
 | cons z r =>
  have:((((z::r).map (·.Id)).length:Int) == 0)=false:=by rw [beq_eq_false_iff_ne]; simp only [List.map_cons,List.length_cons]; omega
  rw [this,cond_false]; rfl
end Go.Proofs.YtjhcehhmdmbleaaGreatDoor.Law

open Go Go.Eng
namespace Go.Proofs.YtjhcehhmdmbleaaGreatDoor.Law
set_option linter.unusedVariables false
set_option linter.unusedSimpArgs false
set_option maxRecDepth 100000
def ng (s_1:ByteArray):Option (Bool) :=
 (DD 0 (fun s=>iQ s_1 s)).bind fun o_10=>thenC o_10 (fun s_7=>(bif (sNe s_1 (⟨#[]⟩:ByteArray))then some (decide ((s_1.size:Int)≤40))else some false).bind fun v_30=>some v_30) (fun r=>some r)
theorem rC (s_1:ByteArray):Le (ng s_1) (kit_IsKey s_1):=by
 unfold ng kit_IsKey
 repeat' (with_reducible first | exact Le.refl _ | refine Le.loop (fun _ => ?_) | refine Le.forL (fun _ _ _ => ?_) | refine Le.thenC (fun _ => ?_) (fun _ => ?_) | refine Le.cond ?_ ?_ | refine Le.bind ?_ (fun _ => ?_))
def lm (a_1:Alert) (k_4:Nat) (x_6:ByteArray) (s_9:Unit):Option (Ctl (Unit) (Int)) :=
 (ng x_6).bind fun r_14=>bif (!r_14)then some (.ret 5)else (bif (decide ((k_4:Int) > 0))then (idx a_1.Refs (w64 ((k_4:Int) - 1))).bind fun y_20=>some (sLe x_6 y_20)else some false).bind fun v_17=>bif v_17 then some (.ret 7)else bif (sEq x_6 a_1.Id)then some (.ret 14)else some (.go ())
theorem rY (a_1:Alert) (k_4:Nat) (x_6:ByteArray) (s_9:Unit):Le (lm a_1 k_4 x_6 s_9) (d9 a_1 k_4 x_6 s_9):=by
 unfold lm d9
 repeat' (with_reducible first | exact Le.refl _ | exact rC _ | refine Le.loop (fun _ => ?_) | refine Le.forL (fun _ _ _ => ?_) | refine Le.thenC (fun _ => ?_) (fun _ => ?_) | refine Le.cond ?_ ?_ | refine Le.bind ?_ (fun _ => ?_))
def mU (a_1:Alert):Option (Int) :=
 bif (decide ((a_1.Refs.length:Int) > 20))then some 2 else (forL a_1.Refs () (fun k x s=>lm a_1 k x s)).bind fun o_12=>thenC o_12 (fun s_9=>bif (!((a_1.Kind == 1) == ((a_1.Refs.length:Int) == 0)))then some 3 else some 0) (fun r=>some r)
theorem vg (a_1:Alert):Le (mU a_1) (ib a_1):=by
 unfold mU ib
 repeat' (with_reducible first | exact Le.refl _ | exact rY _ _ _ _ | refine Le.loop (fun _ => ?_) | refine Le.forL (fun _ _ _ => ?_) | refine Le.thenC (fun _ => ?_) (fun _ => ?_) | refine Le.cond ?_ ?_ | refine Le.bind ?_ (fun _ => ?_))
def mD (a_1:Alert):Option (Int) :=
 ((ng a_1.Id).bind fun r_5=>bif (!r_5)then some true else (ng a_1.Sender).bind fun r_8=>some (!r_8)).bind fun v_3=>bif v_3 then some 5 else (bX a_1.Kind 1 3).bind fun r_11=>bif r_11 then some 4 else (mU a_1).bind fun r_14=>bif (r_14 != 0)then some r_14 else ((kW a_1.At).bind fun r_19=>bif (!r_19)then some true else (bX a_1.Until (w64 (a_1.At + 1)) (w64 (a_1.At + 2592000000))).bind fun r_22=>bif r_22 then some true else (bX a_1.Weight 1 9).bind fun r_25=>some r_25).bind fun v_17=>bif v_17 then some 1 else bif (decide ((a_1.Areas.length:Int) > 20))then some 2 else (forL a_1.Areas () (fun k x s=>eQ k x s)).bind fun o_37=>thenC o_37 (fun s_34=>bif (!((a_1.Kind == 3) == ((a_1.Areas.length:Int) == 0)))then some 3 else bif (decide ((a_1.Text.size:Int) > 500))then some 2 else ((fu a_1.Text).bind fun r_47=>bif (!r_47)then some true else bif (sEq a_1.Text (⟨#[]⟩:ByteArray))then some (!(a_1.Kind == 3))else some false).bind fun v_45=>bif v_45 then some 3 else some 0) (fun r=>some r)
theorem uG (a_1:Alert):Le (mD a_1) (gJ a_1):=by
 unfold mD gJ
 repeat' (with_reducible first | exact Le.refl _ | exact rC _ | exact vg _ | exact fo _ | exact yF _ | refine Le.loop (fun _ => ?_) | refine Le.forL (fun _ _ _ => ?_) | refine Le.thenC (fun _ => ?_) (fun _ => ?_) | refine Le.cond ?_ ?_ | refine Le.bind ?_ (fun _ => ?_))
def ko (l_1:(List Alert)) (k_3:Nat) (x_5:Alert) (s_8:Unit):Option (Ctl (Unit) (Int)) :=
 (mD x_5).bind fun r_14=>bif (r_14 != 0)then some (.ret r_14)else (bif (decide ((k_3:Int) > 0))then (idx l_1 (w64 ((k_3:Int) - 1))).bind fun y_20=>(iq y_20 x_5).bind fun r_22=>some (decide (r_22≥0))else some false).bind fun v_17=>bif v_17 then some (.ret 7)else some (.go ())
theorem qC (l_1:(List Alert)) (k_3:Nat) (x_5:Alert) (s_8:Unit):Le (ko l_1 k_3 x_5 s_8) (dE l_1 k_3 x_5 s_8):=by
 unfold ko dE
 repeat' (with_reducible first | exact Le.refl _ | exact uG _ | refine Le.loop (fun _ => ?_) | refine Le.forL (fun _ _ _ => ?_) | refine Le.thenC (fun _ => ?_) (fun _ => ?_) | refine Le.cond ?_ ?_ | refine Le.bind ?_ (fun _ => ?_))
def lU (l_1:(List Alert)):Option (Int) :=
 bif (decide ((l_1.length:Int) > 300))then some 2 else (forL l_1 () (fun k x s=>ko l_1 k x s)).bind fun o_11=>thenC o_11 (fun s_8=>(forL l_1 ([]:List (ByteArray×Bool)) (fun k x s=>bK k x s)).bind fun o_34=>thenC o_34 (fun s_31=>some 0) (fun r=>some r)) (fun r=>some r)
theorem tQ (l_1:(List Alert)):Le (lU l_1) (fI l_1):=by
 unfold lU fI
 repeat' (with_reducible first | exact Le.refl _ | exact qC _ _ _ _ | refine Le.loop (fun _ => ?_) | refine Le.forL (fun _ _ _ => ?_) | refine Le.thenC (fun _ => ?_) (fun _ => ?_) | refine Le.cond ?_ ?_ | refine Le.bind ?_ (fun _ => ?_))
def kF (l_1:(List Post)) (k_3:Nat) (x_5:Post) (s_8:Unit):Option (Ctl (Unit) (Int)) :=
 (ng x_5.Player).bind fun r_14=>bif (!r_14)then some (.ret 5)else ((bX x_5.X (-100000) 100000).bind fun r_19=>bif r_19 then some true else (bX x_5.Y (-100000) 100000).bind fun r_22=>some r_22).bind fun v_17=>bif v_17 then some (.ret 1)else (bif (decide ((k_3:Int) > 0))then (idx l_1 (w64 ((k_3:Int) - 1))).bind fun y_28=>some (sLe x_5.Player y_28.Player)else some false).bind fun v_25=>bif v_25 then some (.ret 7)else some (.go ())
theorem qX (l_1:(List Post)) (k_3:Nat) (x_5:Post) (s_8:Unit):Le (kF l_1 k_3 x_5 s_8) (dN l_1 k_3 x_5 s_8):=by
 unfold kF dN
 repeat' (with_reducible first | exact Le.refl _ | exact rC _ | refine Le.loop (fun _ => ?_) | refine Le.forL (fun _ _ _ => ?_) | refine Le.thenC (fun _ => ?_) (fun _ => ?_) | refine Le.cond ?_ ?_ | refine Le.bind ?_ (fun _ => ?_))
def mH (l_1:(List Post)):Option (Int) :=
 bif (decide ((l_1.length:Int) > 500))then some 2 else (forL l_1 () (fun k x s=>kF l_1 k x s)).bind fun o_11=>thenC o_11 (fun s_8=>some 0) (fun r=>some r)
theorem uI (l_1:(List Post)):Le (mH l_1) (gD l_1):=by
 unfold mH gD
 repeat' (with_reducible first | exact Le.refl _ | exact qX _ _ _ _ | refine Le.loop (fun _ => ?_) | refine Le.forL (fun _ _ _ => ?_) | refine Le.thenC (fun _ => ?_) (fun _ => ?_) | refine Le.cond ?_ ?_ | refine Le.bind ?_ (fun _ => ?_))
def nu (l_1:(List Alert)) (posts_2:(List Post)):Option (Int) :=
 (lU l_1).bind fun r_3=>bif (r_3 != 0)then some r_3 else (mH posts_2).bind fun r_6=>some r_6
theorem u6 (l_1:(List Alert)) (posts_2:(List Post)):Le (nu l_1 posts_2) (gm l_1 posts_2):=by
 unfold nu gm
 repeat' (with_reducible first | exact Le.refl _ | exact tQ _ | exact uI _ | refine Le.loop (fun _ => ?_) | refine Le.forL (fun _ _ _ => ?_) | refine Le.thenC (fun _ => ?_) (fun _ => ?_) | refine Le.cond ?_ ?_ | refine Le.bind ?_ (fun _ => ?_))
def oJ (a_1:Alert) (p_2:Post):Option (Bool×Int) :=
 (nu ([a_1]:List Alert) ([p_2]:List Post)).bind fun r_5=>bif (r_5 != 0)then some (false,r_5)else (iR a_1 p_2).bind fun r_8=>some (r_8,0)
theorem xV (a_1:Alert) (p_2:Post):Le (oJ a_1 p_2) (lH a_1 p_2):=by
 unfold oJ lH
 repeat' (with_reducible first | exact Le.refl _ | exact u6 _ _ | refine Le.loop (fun _ => ?_) | refine Le.forL (fun _ _ _ => ?_) | refine Le.thenC (fun _ => ?_) (fun _ => ?_) | refine Le.cond ?_ ?_ | refine Le.bind ?_ (fun _ => ?_))
def sZ  : Option (Bool) :=
 (oJ (⟨(⟨#[97]⟩:ByteArray),(⟨#[115]⟩:ByteArray),1,([]:List ByteArray),0,5,1,([(⟨0,0,2,2⟩:Rect)]:List Rect),(⟨#[120]⟩:ByteArray)⟩:Alert) (⟨(⟨#[112]⟩:ByteArray),1,1⟩:Post)).bind fun r_2=>(bif (r_2.2 == 0)then some r_2.1 else some false).bind fun v_4=>some v_4
theorem AX  : Le (sZ) (lX):=by
 unfold sZ lX
 repeat' (with_reducible first | exact Le.refl _ | exact xV _ _ | refine Le.loop (fun _ => ?_) | refine Le.forL (fun _ _ _ => ?_) | refine Le.thenC (fun _ => ?_) (fun _ => ?_) | refine Le.cond ?_ ?_ | refine Le.bind ?_ (fun _ => ?_))
end Go.Proofs.YtjhcehhmdmbleaaGreatDoor.Law

open Go Go.Eng
namespace Go.Proofs.YtjhcehhmdmbleaaGreatDoor.Law
set_option linter.unusedVariables false
set_option maxRecDepth 100000
theorem J7:sZ=some true:=by kernel_rfl
theorem IA:lX=some true:=AX _ J7
end Go.Proofs.YtjhcehhmdmbleaaGreatDoor.Law

open Go Go.Eng
namespace Go.Proofs.YtjhcehhmdmbleaaGreatDoor.Law
set_option linter.unusedVariables false
set_option linter.unusedSimpArgs false
set_option maxRecDepth 100000
theorem Gg (a b c:Int):tZ [a,b,c]=some (or0 a (or0 b c)):=by
 unfold tZ or0
 rw [iJ (by simp)]
 simp only [forR,pR]
 cases ha:a == 0 with
 | false =>
  have:(a != 0)=true:=by simp [bne,ha]
  simp only [this,cond_true,cond_false,Option.bind_some,thenC]
 | true =>
  have:(a != 0)=false:=by simp [bne,ha]
  simp only [this,cond_true,cond_false,Option.bind_some]
  cases hb:b == 0 with
  | false =>
   have:(b != 0)=true:=by simp [bne,hb]
   simp only [this,cond_true,cond_false,Option.bind_some,thenC]
  | true =>
   have:(b != 0)=false:=by simp [bne,hb]
   simp only [this,cond_true,cond_false,Option.bind_some]
   cases hc:c == 0 with
   | false =>
    have:(c != 0)=true:=by simp [bne,hc]
    simp only [this,cond_true,cond_false,Option.bind_some,thenC]
   | true =>
    have:(c != 0)=false:=by simp [bne,hc]
    simp only [this,cond_true,cond_false,Option.bind_some,thenC]
    rw [eq_of_beq hc]
theorem both_eq {l:List Alert} (h:GAs l) {ps:List Post} (hp:GPs ps):gm l ps=some (or0 (alV l) (poV ps)):=by
 unfold gm or0
 rw [alV_K h,poV_K hp,Option.bind_some,Option.bind_some]
 by_cases h0:alV l=0
 ·rw [h0]; rfl
 ·have e1:(alV l == 0)=false:=by simpa using h0
  have e2:(alV l != 0)=true:=by simp [bne,e1]
  rw [e1,e2]; rfl
theorem Br (a b c:Int):or0 (or0 a b) c=or0 a (or0 b c):=by
 unfold or0
 by_cases h:a=0
 ·rw [h]; rfl
 ·have e1:(a == 0)=false:=by simpa using h
  simp only [e1,cond_false]
theorem oneGP {x:Post} (h:GP x):GPs [x]:=⟨fun y hy=>by rw [List.mem_singleton.1 hy]; exact h,by simp⟩
end Go.Proofs.YtjhcehhmdmbleaaGreatDoor.Law

open Go Go.Eng
namespace Go.Proofs.YtjhcehhmdmbleaaGreatDoor.Law
set_option linter.unusedVariables false
set_option linter.unusedSimpArgs false
structure EI (l m:List Alert) (F T:Int) (E:List Int):Prop where
 from_:F∈E
 to_:T∈E
 in_:∀ x∈E,F≤x∧x≤T
 at_:∀ z∈m,F < z.At→z.At < T→z.At∈E
 end_:∀ z∈m,F < endV l z→endV l z < T→endV l z∈E
 len:E.length≤2 + 2 * m.length
theorem wR (F T n:Int) (E:List Int) (hl:E.length≤100000):∃ E',(bif (decide (F < n))then some (decide (n < T))else some false).bind (fun v=>(bif v then (pz E [n]).bind fun a=>some a else some E).bind fun v=>some ((.go v):Ctl (List Int) Unit))=some (.go E')∧(∀ x∈E,x∈E')∧(∀ x∈E',x∈E∨F < x∧x < T)∧(F < n→n < T→n∈E')∧E'.length≤E.length + 1:=by
 by_cases h1:F < n
 ·by_cases h2:n < T
  ·refine⟨E ++ [n],?_,fun x hx=>List.mem_append_left _ hx,fun x hx => ?_,fun _ _=>List.mem_append_right _ (List.mem_singleton.2 rfl),by simp⟩
   ·rw [decide_eq_true h1,decide_eq_true h2]
    simp only [cond_true,Option.bind_some]
    rw [lM _ _ (by simp; omega)]; rfl
   ·rcases List.mem_append.1 hx with hx | hx
    ·exact .inl hx
    ·rw [List.mem_singleton.1 hx]; exact .inr ⟨h1,h2⟩
  ·refine⟨E,?_,fun x hx=>hx,fun x hx => .inl hx,fun _ h=>absurd h h2,by omega⟩
   rw [decide_eq_true h1,decide_eq_false h2]; rfl
 ·refine⟨E,?_,fun x hx=>hx,fun x hx => .inl hx,fun h _=>absurd h h1,by omega⟩
  rw [decide_eq_false h1]; rfl
theorem Gf {l:List Alert} (h:CA l) {w:Window} {k:Nat} {x:Alert} (hx:l[k]? = some x) {E:List Int} (hE:EI l (l.take k) w.From w.To E):∃ E',iy (l.map (endV l)) w k x E=some (.go E')∧EI l (l.take (k + 1)) w.From w.To E':=by
 have hl:=h.len
 have et:l.take (k + 1)=l.take k ++ [x]:=by rw [List.take_add_one,hx]; rfl
 have hel:=hE.len
 have htk:=take_len l k
 have hlt:(l.take k).length=k:=by
  obtain ⟨hk,_⟩:=List.getElem?_eq_some_iff.1 hx
  rw [List.length_take]; omega
 obtain ⟨E1,a1,a2,a3,a4,a5⟩:=wR w.From w.To x.At E (by omega)
 obtain ⟨E2,b1,b2,b3,b4,b5⟩:=wR w.From w.To (endV l x) E1 (by omega)
 refine⟨E2,?_,?_⟩
 ·unfold iy
  rw [Hf hx,Option.bind_some,iJ (by simp)]
  have c1:je x (endV l x) w 0 0 E=some (.go E1):=a1
  have c2:je x (endV l x) w (0 + 1) 1 E1=some (.go E2):=b1
  show (forR _ [0,1] 0 E).bind _=_
  simp only [forR,c1,c2,Option.bind_some,thenC]
 ·refine⟨b2 _ (a2 _ hE.from_),b2 _ (a2 _ hE.to_),fun y hy => ?_,fun z hz g1 g2 => ?_,fun z hz g1 g2 => ?_,by rw [et,List.length_append]; simp only [List.length_cons,List.length_nil]; omega⟩
  ·rcases b3 y hy with q | q
   ·rcases a3 y q with q | q
    ·exact hE.in_ y q
    ·omega
   ·omega
  ·rw [et]at hz
   rcases List.mem_append.1 hz with hz | hz
   ·exact b2 _ (a2 _ (hE.at_ z hz g1 g2))
   ·rw [List.mem_singleton.1 hz]at g1 g2 ⊢
    exact b2 _ (a4 g1 g2)
  ·rw [et]at hz
   rcases List.mem_append.1 hz with hz | hz
   ·exact b2 _ (a2 _ (hE.end_ z hz g1 g2))
   ·rw [List.mem_singleton.1 hz]at g1 g2 ⊢
    exact b4 g1 g2
theorem KL {α:Type} {xs:List α} {n:Nat} (h:xs.length=n + 1) (hn:n≤1000000):w64 ((xs.length:Int) - 1)=(n:Int):=by
 rw [dw (by omega)]; omega
def di (id:ByteArray) (a b:Int) (out:List Slot_):Option (List Slot_) :=
 (bif (decide ((w64 ((out.length:Int) - 1))≥0))then (inR (w64 ((out.length:Int) - 1)) out).bind fun _=>(out[(0 + ((w64 ((out.length:Int) - 1))).toNat)]?).bind fun e_81=>some (sEq e_81.Entry id)else some false).bind fun v_77 =>
 (bif v_77 then (inR (w64 ((out.length:Int) - 1)) out).bind fun _=>(out[(0 + ((w64 ((out.length:Int) - 1))).toNat)]?).bind fun e_90=>some (out.set (0 + ((w64 ((out.length:Int) - 1))).toNat) (⟨(⟨e_90.Time.From,b⟩:Window),e_90.Entry⟩:Slot_))
 else (pz out ([(⟨(⟨a,b⟩:Window),id⟩:Slot_)]:List Slot_)).bind fun a_96=>some a_96)
theorem Hg (id:ByteArray) (a b:Int) (out:List Slot_) (hl:out.length≤1000000):di id a b out=some (si id a b out):=by
 unfold di
 cases ho:out.length with
 | zero =>
  have e:=List.eq_nil_of_length_eq_zero ho
  subst e
  rw [decide_eq_false (by decide)]; rfl
 | succ n =>
  rw [← ho,KL ho (by omega),decide_eq_true (by omega),cond_true,Cg (by omega) (by omega)]
  have hn:n < out.length:=by omega
  have e1:out[(0 + ((n:Int)).toNat)]? = some out[n]:=by rw [show 0 + ((n:Int)).toNat=n by omega]; exact List.getElem?_eq_getElem hn
  rw [e1]
  simp only [Option.bind_some,uo]
  by_cases he:out[n].Entry=id
  ·rw [decide_eq_true he,cond_true,EJ id a b out n _ ho (List.getElem?_eq_getElem hn) he,show 0 + ((n:Int)).toNat=n by omega]
  ·rw [decide_eq_false he,cond_false,lM _ _ (by simp; omega),DZ id a b out (fun m x h1 h2=>by
    obtain rfl:m=n:=by omega
    rw [List.getElem?_eq_getElem hn,Option.some.injEq]at h2
    rw [← h2]; exact he)]; rfl
theorem GD {f:Int→ByteArray} {E:List Int} {F T:Int} (hE:E.Pairwise (· < ·)) (hl:E.length≤1000000) (h0:E[0]? = some F) (hT:E[E.length - 1]? = some T)
  (hf:∀ (i:Nat) (a b:Int),E[i]? = some a→E[i + 1]? = some b → ∀ t,a≤t→t < b→f t=f a)
  {body:(List Slot_×Int)→Option (Ctl (List Slot_×Int) Unit)} (hgo:∀ (i:Nat) (out:List Slot_) (a b:Int),E[i]? = some a→E[i + 1]? = some b→body (out,(i:Int))=(di (f a) a b out).bind fun v=>some (.go (v,w64 ((i:Int) + 1))))
  (hbrk:∀ (i:Nat) (out:List Slot_),i + 1=E.length→body (out,(i:Int))=some (.brk (out,(i:Int)))):∃ out i,ig (([]:List Slot_),(0:Int)) body=some (.go (out,i))∧fU f T F out∧out.length≤E.length:=by
 have hlen:0 < E.length:=(List.getElem?_eq_some_iff.1 h0).1
 obtain ⟨s,s1,s2⟩:=Bn (body:=body) (fun k s=>s.2=(k:Int)∧s.1.length≤k ∧ ∃ a,E[k]? = some a∧fU f a F s.1) (E.length - 1) (fun k s hk ⟨i1,i2,a,i3,i4⟩=>by
  obtain ⟨out,n⟩:=s
  simp only at i1 i2 i4
  subst i1
  have hb:E[k + 1]? = some E[k + 1]:=List.getElem?_eq_getElem (by omega)
  rw [hgo k out a _ i3 hb,Hg _ _ _ _ (by omega)]
  refine⟨_,rfl,by simp only []; rw [dw (by omega)]; omega,?_,_,hb,?_⟩
  ·simp only []
   have:=zU (f a) a E[k + 1] out
   omega
  ·exact fU.add (BN hE i3 hb) (fun t t1 t2=>hf k a _ i3 hb t t1 t2) out F i4) (fun s ⟨i1,i2,a,i3,i4⟩=>by
  obtain ⟨out,n⟩:=s
  simp only at i1
  subst i1
  exact hbrk _ out (by omega)) (s:=(([]:List Slot_),(0:Int))) ⟨rfl,Nat.le_refl _,F,h0,by unfold fU; rfl⟩
 obtain ⟨_,i2,a,i3,i4⟩:=s2
 rw [hT,Option.some.injEq]at i3
 exact⟨s.1,s.2,s1,by rw [i3]; exact i4,by omega⟩
theorem Gr {l:List Alert} (h:CA l) (p:Post) {w:Window} (hw:w.From≤w.To) (hb : -1000000000000000≤w.From∧w.To≤1000000000000000):∃ t,jX l p w=some t∧fU (mZ l p.X p.Y) w.To w.From t∧t.length≤10000:=by
 have hl:=h.len
 unfold jX
 rw [ends_eq h,Option.bind_some]
 obtain ⟨E,e1,e2⟩:=kV (body:=fun k x s=>iy (l.map (endV l)) w k x s) (fun k s=>EI l (l.take k) w.From w.To s) (xs:=l) (s:=([w.From,w.To]:List Int)) (by omega) (fun k x s hx hs=>Gf h hx hs)
  ⟨by simp,by simp,fun x hx=>by
   simp only [List.mem_cons,List.not_mem_nil,or_false]at hx
   rcases hx with rfl | rfl <;> omega,fun z hz=>(by cases hz),fun z hz=>(by cases hz),by simp⟩
 rw [List.take_length]at e2
 have hel:=e2.len
 rw [e1]
 simp only [Option.bind_some,thenC]
 have hne:neL E=some ():=by
  unfold neL
  have:=List.ne_nil_of_mem e2.from_
  first | rw [if_pos this] | (cases E with | nil=>exact absurd rfl this | cons a E=>rfl)
 obtain ⟨s,C,c1,c2,c3,c4,c5,c6⟩:=sortC E (by omega)
 have c2':iP s E=some ():=by unfold iP; rw [if_pos c2]
 rw [hne,Option.bind_some,c1,Option.bind_some,c2',Option.bind_some,c3,Option.bind_some]
 have hin:∀ x∈C,w.From≤x∧x≤w.To:=fun x hx=>e2.in_ x ((c5 x).1 hx)
 obtain ⟨d1,d2⟩:=Ca c4 ((c5 _).2 e2.from_) ((c5 _).2 e2.to_) hin
 obtain ⟨out,i,o1,o2,o3⟩:=GD (f:=mZ l p.X p.Y) c4 (by omega) d1 d2 (fun i a b ha hb t t1 t2=>y9 c4 hin (fun z hz g1 g2=>(c5 _).2 (e2.at_ z hz g1 g2)) (fun z hz g1 g2=>(c5 _).2 (e2.end_ z hz g1 g2)) ha hb t1 t2)
  (body:=fun s=>iw C l (l.map (endV l)) p s) (fun i out a b ha hb=>by
   have hi:i + 1 < C.length:=(List.getElem?_eq_some_iff.1 hb).1
   unfold iw
   simp only []
   have w1:w64 ((i:Int) + 1)=((i + 1:Nat):Int):=by rw [dw (by omega)]; omega
   rw [w1,decide_eq_true (by omega),cond_true,qQ,ha,Option.bind_some,Ih h,Option.bind_some,qQ,hb]
   have e3:(bif (decide (((nK l p.X p.Y a).length:Int) > 0))then (idx (nK l p.X p.Y a) 0).bind fun y_75=>some y_75.Id else some (⟨#[]⟩:ByteArray))=some (mZ l p.X p.Y a):=by
    unfold mZ
    cases nK l p.X p.Y a with
    | nil=>rfl
    | cons z r=>rw [decide_eq_true (by simp only [List.length_cons]; omega),cond_true]; rfl
   rw [e3]
   simp only [Option.bind_some]
   unfold di
   generalize (bif decide (w64 ((out.length:Int) - 1)≥0)then _ else _:Option Bool)=c
   cases c with
   | none=>rfl
   | some c=>cases c <;> rfl) (fun i out hi=>by
   unfold iw
   simp only []
   rw [dw (n:=(i:Int) + 1) (by omega),decide_eq_false (by omega),cond_false])
 rw [o1]
 exact⟨out,rfl,o2,by omega⟩
end Go.Proofs.YtjhcehhmdmbleaaGreatDoor.Law

open Go Go.Eng
namespace Go.Proofs.YtjhcehhmdmbleaaGreatDoor.Law
set_option linter.unusedVariables false
set_option linter.unusedSimpArgs false
set_option maxRecDepth 100000
theorem Fa {f:Int→ByteArray} {E:List Int} {F T:Int} (hE:E.Pairwise (· < ·)) (hl:E.length≤1000000) (h0:E[0]? = some F) (hT:E[E.length - 1]? = some T)
  (hf:∀ (i:Nat) (a b:Int),E[i]? = some a→E[i + 1]? = some b → ∀ t,a≤t→t < b→f t=f a)
  {body:(List Slot_×Int)→Option (Ctl (List Slot_×Int) Unit)} (hgo:∀ (i:Nat) (out:List Slot_) (a b:Int),E[i]? = some a→E[i + 1]? = some b→body (out,((i + 1:Nat):Int))=(di (f a) a b out).bind fun v=>some (.go (v,w64 (((i + 1:Nat):Int) + 1))))
  (hbrk:∀ (i:Nat) (out:List Slot_),i + 1=E.length→body (out,((i + 1:Nat):Int))=some (.brk (out,((i + 1:Nat):Int)))):∃ out i,ig (([]:List Slot_),(1:Int)) body=some (.go (out,i))∧fU f T F out∧out.length≤E.length:=by
 have hlen:0 < E.length:=(List.getElem?_eq_some_iff.1 h0).1
 obtain ⟨s,s1,s2⟩:=Bn (body:=body) (fun k s=>s.2=((k + 1:Nat):Int)∧s.1.length≤k ∧ ∃ a,E[k]? = some a∧fU f a F s.1) (E.length - 1) (fun k s hk ⟨i1,i2,a,i3,i4⟩=>by
  obtain ⟨out,n⟩:=s
  simp only at i1 i2 i4
  subst i1
  have hb:E[k + 1]? = some E[k + 1]:=List.getElem?_eq_getElem (by omega)
  rw [hgo k out a _ i3 hb,Hg _ _ _ _ (by omega)]
  refine⟨_,rfl,by simp only []; rw [dw (by omega)]; omega,?_,_,hb,?_⟩
  ·simp only []
   have:=zU (f a) a E[k + 1] out
   omega
  ·exact fU.add (BN hE i3 hb) (fun t t1 t2=>hf k a _ i3 hb t t1 t2) out F i4) (fun s ⟨i1,i2,a,i3,i4⟩=>by
  obtain ⟨out,n⟩:=s
  simp only at i1
  subst i1
  exact hbrk _ out (by omega)) (s:=(([]:List Slot_),(1:Int))) ⟨rfl,Nat.le_refl _,F,h0,by unfold fU; rfl⟩
 obtain ⟨_,i2,a,i3,i4⟩:=s2
 rw [hT,Option.some.injEq]at i3
 exact⟨s.1,s.2,s1,by rw [i3]; exact i4,by omega⟩
theorem EY {l:List Alert} (hl:l.length≤12) {w:Window} {k:Nat} {x:Alert} (hx:l[k]? = some x) {E:List Int} (hE:EI [] (l.take k) w.From w.To E):∃ E',fG w k x E=some (.go E')∧EI [] (l.take (k + 1)) w.From w.To E':=by
 have et:l.take (k + 1)=l.take k ++ [x]:=by rw [List.take_add_one,hx]; rfl
 have hel:=hE.len
 have htk:=take_len l k
 have hlt:(l.take k).length=k:=by
  obtain ⟨hk,_⟩:=List.getElem?_eq_some_iff.1 hx
  rw [List.length_take]; omega
 obtain ⟨E1,a1,a2,a3,a4,a5⟩:=wR w.From w.To x.At E (by omega)
 obtain ⟨E2,b1,b2,b3,b4,b5⟩:=wR w.From w.To x.Until E1 (by omega)
 refine⟨E2,?_,?_⟩
 ·unfold fG
  rw [iJ (by simp)]
  have c1:gU w 0 x.At E=some (.go E1):=a1
  have c2:gU w (0 + 1) x.Until E1=some (.go E2):=b1
  simp only [forR,c1,c2,Option.bind_some,thenC]
 ·refine⟨b2 _ (a2 _ hE.from_),b2 _ (a2 _ hE.to_),fun y hy => ?_,fun z hz g1 g2 => ?_,fun z hz g1 g2 => ?_,by rw [et,List.length_append]; simp only [List.length_cons,List.length_nil]; omega⟩
  ·rcases b3 y hy with q | q
   ·rcases a3 y q with q | q
    ·exact hE.in_ y q
    ·omega
   ·omega
  ·rw [et]at hz
   rcases List.mem_append.1 hz with hz | hz
   ·exact b2 _ (a2 _ (hE.at_ z hz g1 g2))
   ·rw [List.mem_singleton.1 hz]at g1 g2 ⊢
    exact b2 _ (a4 g1 g2)
  ·rw [et]at hz
   rcases List.mem_append.1 hz with hz | hz
   ·exact b2 _ (a2 _ (hE.end_ z hz g1 g2))
   ·rw [List.mem_singleton.1 hz]at g1 g2 ⊢
    exact b4 g1 g2
theorem DC {l:List Alert} (hg:GAs l) (h:CA l) (p:Post) {w:Window} (hw:w.From≤w.To):∃ t,iO l p w=some t∧fU (mZ l p.X p.Y) w.To w.From t∧t.length≤10000:=by
 have hl:=h.len
 unfold iO
 obtain ⟨E,e1,e2⟩:=kV (body:=fun k x s=>fG w k x s) (fun k s=>EI [] (l.take k) w.From w.To s) (xs:=l) (s:=([w.From,w.To]:List Int)) (by omega) (fun k x s hx hs=>EY hl hx hs)
  ⟨by simp,by simp,fun x hx=>by
   simp only [List.mem_cons,List.not_mem_nil,or_false]at hx
   rcases hx with rfl | rfl <;> omega,fun z hz=>(by cases hz),fun z hz=>(by cases hz),by simp⟩
 rw [List.take_length]at e2
 have hel:=e2.len
 rw [e1]
 simp only [Option.bind_some,thenC]
 have hne:neL E=some ():=by
  unfold neL
  have:=List.ne_nil_of_mem e2.from_
  first | rw [if_pos this] | (cases E with | nil=>exact absurd rfl this | cons a E=>rfl)
 obtain ⟨s,C,c1,c2,c3,c4,c5,c6⟩:=sortC E (by omega)
 have c2':iP s E=some ():=by unfold iP; rw [if_pos c2]
 rw [hne,Option.bind_some,c1,Option.bind_some,c2',Option.bind_some,c3,Option.bind_some]
 have hin:∀ x∈C,w.From≤x∧x≤w.To:=fun x hx=>e2.in_ x ((c5 x).1 hx)
 have hat:∀ z∈l,w.From < z.At→z.At < w.To→z.At∈C:=fun z hz g1 g2=>(c5 _).2 (e2.at_ z hz g1 g2)
 have hen:∀ z∈l,w.From < endV l z→endV l z < w.To→endV l z∈C:=fun z hz g1 g2=>by
  rcases Ga l z with q | ⟨a,ha,q⟩
  ·rw [q]at g1 g2 ⊢
   exact (c5 _).2 (e2.end_ z hz g1 g2)
  ·rw [q]at g1 g2 ⊢
   exact hat a ha g1 g2
 obtain ⟨d1,d2⟩:=Ca c4 ((c5 _).2 e2.from_) ((c5 _).2 e2.to_) hin
 obtain ⟨out,i,o1,o2,o3⟩:=Fa (f:=mZ l p.X p.Y) c4 (by omega) d1 d2 (fun i a b ha hb t t1 t2=>y9 c4 hin hat hen ha hb t1 t2)
  (body:=fun s=>fD C l p s) (fun i out a b ha hb=>by
   have hi:i + 1 < C.length:=(List.getElem?_eq_some_iff.1 hb).1
   unfold fD
   simp only []
   have w1:w64 (((i + 1:Nat):Int) - 1)=(i:Int):=by rw [dw (by omega)]; omega
   rw [decide_eq_true (by omega),cond_true,w1,qQ,ha,Option.bind_some,A9 hg h,Option.bind_some,qQ,hb]
   simp only [Option.bind_some]
   unfold di
   generalize (bif decide (w64 ((out.length:Int) - 1)≥0)then _ else _:Option Bool)=c
   cases c with
   | none=>rfl
   | some c =>
    cases c with
    | false =>
     simp only [Option.bind_some,cond_false]
     cases pz out [_] <;> rfl
    | true =>
     simp only [Option.bind_some,cond_true]
     cases inR (w64 ((out.length:Int) - 1)) out with
     | none=>rfl
     | some u =>
      simp only [Option.bind_some]
      cases out[(0 + ((w64 ((out.length:Int) - 1))).toNat)]? <;> rfl) (fun i out hi=>by
   unfold fD
   simp only []
   rw [decide_eq_false (by omega),cond_false])
 rw [o1]
 exact⟨out,rfl,o2,by omega⟩
def wiV (w:Window):Int:=bif iK w.From 0 w.To || decide (w.To > 345686400000)then 1 else 0
theorem wiR (w:Window):jL w=some (wiV w):=by
 unfold jL wiV
 rw [x8,Option.bind_some,Bool.not_not]
 cases iK w.From 0 w.To <;> cases decide (w.To > 345686400000) <;> rfl
theorem wi_0 {w:Window} (h:wiV w=0):0≤w.From∧w.From≤w.To∧w.To≤345686400000:=by
 unfold wiV at h
 cases e:iK w.From 0 w.To with
 | true=>rw [e]at h; cases h
 | false =>
  have:=vO e
  cases e2:decide (w.To > 345686400000)with
  | true=>rw [e,e2]at h; cases h
  | false =>
   have:=of_decide_eq_false e2
   omega
theorem JE (l:List Slot_) (hl:l.length≤1000000):cZ l l=some true:=by
 have key:∀ (xs:List Slot_) (k:Nat),l.drop k=xs→forR (fun k x s=>bD l k x s) xs k ()=some (.go ()):=by
  intro xs
  induction xs with
  | nil=>exact fun _ _=>rfl
  | cons x xs ih =>
   intro k h
   have hg:idx l (k:Int)=some x:=by rw [qQ]; exact y5 h
   rw [forR]
   have:bD l k x ()=some (.go ()):=by
    unfold bD
    rw [hg]; simp
   rw [this,Option.bind_some]
   exact ih (k + 1) (aR h)
 unfold cZ
 have:((l.length:Int) != (l.length:Int))=false:=by simp
 rw [this,cond_false,iJ (by omega),key l 0 rfl]; rfl
theorem thru_x {l:List Alert} (hl:GAs l) {x:Post} (hx:GP x) (s1:Stream) (v:(List Int)×Int×Int×Int) (k:Nat):eu (l,s1) v k x ()=some (.go ()):=by
 have hT:lD l x ⟨v.2.2.1,v.2.2.2⟩=(bif or0 (alV l) (poV [x]) == 0 then (bif wiV ⟨v.2.2.1,v.2.2.2⟩ == 0 then (jX l x ⟨v.2.2.1,v.2.2.2⟩).bind fun r=>some (r,0)else some ([],1))else some ([],or0 (alV l) (poV [x]))):=by
  unfold lD
  rw [both_eq hl (oneGP hx),Option.bind_some]
  by_cases h0:or0 (alV l) (poV [x])=0
  ·rw [h0,bne_self_eq_false,cond_false,lV]
   simp only [Option.bind_some]
   unfold wiV
   simp only []
   cases iK v.2.2.1 0 v.2.2.2 <;> cases decide (v.2.2.2 > 345686400000) <;> rfl
  ·have e1:(or0 (alV l) (poV [x]) == 0)=false:=by simpa using h0
   have e2:(or0 (alV l) (poV [x]) != 0)=true:=by simp [bne,e1]
   rw [e1,e2]; rfl
 unfold eu
 simp only []
 rw [hT,alV_R hl,poV_R (oneGP hx),wiR]
 generalize hw:(⟨v.2.2.1,v.2.2.2⟩:Window)=w
 by_cases h0:or0 (alV l) (poV [x])=0
 ·rw [h0]
  simp only [beq_self_eq_true,cond_true]
  have e3:or0 (alV l) (or0 (poV [x]) (wiV w))=wiV w:=by rw [← Br,h0]; rfl
  by_cases h1:wiV w=0
  ·have hca:=alV_ca hl (zy.1 h0).1
   obtain ⟨g1,g2,g3⟩:=wi_0 h1
   obtain ⟨t,t1,t2,t3⟩:=Gr hca x g2 (by omega)
   obtain ⟨u,u1,u2,u3⟩:=DC hl hca x g2
   have htu:=fU.uniq t2 u2
   subst htu
   rw [h1]at e3 ⊢
   rw [t1]
   simp only [beq_self_eq_true,cond_true,Option.bind_some]
   rw [Gg,e3]
   simp only [beq_self_eq_true,cond_true,Option.bind_some]
   rw [u1]
   simp only [Option.bind_some,bne_self_eq_false,cond_false]
   rw [JE _ (by omega)]; rfl
  ·have h2:wiV w=1:=by
    unfold wiV at h1 ⊢
    cases hq:(iK w.From 0 w.To || decide (w.To > 345686400000))with
    | true=>rfl
    | false=>rw [hq]at h1; exact absurd rfl h1
   rw [h2]at e3 ⊢
   have e4:((1:Int) == 0)=false:=rfl
   rw [e4,cond_false]
   simp only [Option.bind_some]
   rw [Gg,e3]
   simp only [Option.bind_some,e4,cond_false,bne_self_eq_false]
   rw [JE [] (by simp)]; rfl
 ·have e1:(or0 (alV l) (poV [x]) == 0)=false:=by simpa using h0
  have e3:or0 (alV l) (or0 (poV [x]) (wiV w))=or0 (alV l) (poV [x]):=by
   rw [← Br]
   generalize or0 (alV l) (poV [x])=q at e1
   unfold or0
   rw [e1]; rfl
  rw [e1,cond_false]
  simp only [Option.bind_some]
  rw [Gg,e3]
  simp only [Option.bind_some,e1,cond_false,bne_self_eq_false]
  rw [JE [] (by simp)]; rfl
theorem alertsThrough (l:List Int):ku l=some true:=by
 have h0:Ok (⟨l,0⟩:Stream) 0:=⟨Int.le_refl _,Int.le_refl _⟩
 obtain ⟨a,s1,a1,a2,a3⟩:=Gy _ h0 (by decide)
 obtain ⟨f,s2,b1,b2,b3⟩:=oq s1 [0,3,10,20] a3 (by decide) (by simp) (by simp)
 obtain ⟨t,s3,c1,c2,c3⟩:=oq s2 [10,30,100] b3 (by decide) (by simp) (by simp)
 obtain ⟨d,s4,d1,d2⟩:=og s3 12 c3 (by decide) (by decide) (by decide)
 have hal:=a2.2
 have fin:∀ (v:(List Int)×Int×Int×Int),Ok (⟨v.1,v.2.1⟩:Stream) (0 + 400 + 1 + 1 + 1 + 4)→((iL (⟨v.1,v.2.1⟩:Stream)).bind fun r_25=>(forL r_25.1 () (fun k x s=>eu (a,s1) v k x s)).bind fun o_36=>thenC o_36 (fun s_33=>(lX).bind fun r_62=>some r_62) (fun r=>some r))=some true:=fun v hv=>by
  obtain ⟨p,s5,p1,p2,p3⟩:=Ij _ hv (by decide)
  have hpl:=p2.2
  obtain ⟨u,u1,_⟩:=kV (body:=fun k x s=>eu (a,s1) v k x s) (fun _ _=>True) (xs:=p) (s:=()) (by omega) (fun k x s hx _=>by
   cases s
   exact⟨(),thru_x a2 (p2.1 x (List.mem_of_getElem? hx)) s1 v k,trivial⟩) trivial
  rw [p1,Option.bind_some]
  simp only []
  rw [u1]
  simp only [Option.bind_some,thenC,IA]
 unfold ku
 rw [a1,Option.bind_some]
 simp only []
 rw [b1,Option.bind_some]
 simp only []
 rw [c1,Option.bind_some]
 simp only []
 rw [d1,Option.bind_some]
 simp only []
 cases d with
 | false =>
  simp only [cond_false,Option.bind_some]
  refine fin (s4.L,s4.f_at,f,t) ⟨d2.1,Int.le_trans d2.2 (by omega)⟩
 | true =>
  obtain ⟨x,s6,x1,_,x3⟩:=vv s4 0 50 d2 (by decide) (by decide) (by decide) (by decide)
  obtain ⟨y,s7,y1,_,y3⟩:=vv s6 0 100 x3 (by decide) (by decide) (by decide) (by decide)
  simp only [cond_true]
  rw [x1,Option.bind_some]
  simp only []
  rw [y1,Option.bind_some]
  simp only [Option.bind_some]
  refine fin (s7.L,s7.f_at,x,y) ⟨y3.1,Int.le_trans y3.2 (by omega)⟩
end Go.Proofs.YtjhcehhmdmbleaaGreatDoor.Law

