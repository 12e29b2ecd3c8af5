/-
  THE PLAIN LAW (part 4).
-/
import Derived.Test.YtjhcehhmdmbleaaGreatDoorPl3
import Derived.Test.YtjhcehhmdmbleaaGreatDoorDefs
open Go Go.Eng
namespace Go.Proofs.YtjhcehhmdmbleaaGreatDoor.Law
set_option linter.unusedVariables false
set_option linter.unusedSimpArgs false
set_option maxRecDepth 100000
def chA {α:Type} (stp:Option α→α→Int):Option α→List α→Int
 | _,[]=>0
 | p,x::l=>bif stp p x == 0 then chA stp (some x) l else stp p x
def jL {α:Type} (l:List α) (k:Nat):Option α:=if k=0 then none else l[k - 1]?
theorem Ei {α:Type} {stp:Option α→α→Int} {body:Nat→α→Unit→Option (Ctl Unit Int)} (l:List α):∀ (xs:List α) (k:Nat),l.drop k=xs→(∀ k x,l[k]? = some x→body k x ()=some (pE (stp (jL l k) x)))→forR body xs k ()=some (pE (chA stp (jL l k) xs))
 | [],k,_,_=>rfl
 | x::xs,k,hd,h=>by
  have hx:=Am hd
  have hp:jL l (k + 1)=some x:=by unfold jL; rw [if_neg (by omega)]; exact hx
  rw [forR,h k x hx,Option.bind_some,chA]
  cases hs:stp (jL l k) x == 0 with
  | true =>
   have e:pE (stp (jL l k) x) = .go ():=by unfold pE; rw [hs]; rfl
   rw [e,cond_true,← hp]
   exact Ei l xs (k + 1) (aR hd) h
  | false =>
   have e:pE (stp (jL l k) x) = .ret (stp (jL l k) x):=by unfold pE; rw [hs]; rfl
   rw [e,cond_false,e]
theorem qO {α:Type} {stp:Option α→α→Int} {body:Nat→α→Unit→Option (Ctl Unit Int)} {l:List α} (hl:l.length≤1000000) (h:∀ k x,l[k]? = some x→body k x ()=some (pE (stp (jL l k) x))):forL l () body=some (pE (chA stp none l)):=by
 rw [iI (by omega)]
 exact Ei l l 0 rfl h
theorem JC {α:Type} {stp:Option α→α→Int}:∀ {l:List α} {p:Option α},chA stp p l=0 → ∀ (i:Nat) (x:α),l[i]? = some x → ∃ q,stp q x=0∧(i=0→q=p)∧(0 < i→q=l[i - 1]?)
 | [],p,_,i,x,hx=>by simp at hx
 | y::l,p,h,i,x,hx=>by
  rw [chA]at h
  cases hs:stp p y == 0 with
  | false=>rw [hs,cond_false]at h; rw [h]at hs; exact absurd hs (by decide)
  | true =>
   rw [hs,cond_true]at h
   cases i with
   | zero =>
    rw [List.getElem?_cons_zero,Option.some.injEq]at hx
    exact⟨p,by rw [← hx]; exact eq_of_beq hs,fun _=>rfl,fun h=>absurd h (Nat.lt_irrefl _)⟩
   | succ i =>
    rw [List.getElem?_cons_succ]at hx
    obtain ⟨q,q1,q2,q3⟩:=JC h i x hx
    refine⟨q,q1,fun h=>absurd h (by omega),fun _ => ?_⟩
    cases i with
    | zero=>rw [q2 rfl]; rfl
    | succ i=>rw [q3 (by omega)]; simp
theorem nu (e:Int):(e=0∧pE e = .go ())∨(e≠0∧pE e = .ret e):=by
 unfold pE
 by_cases h:e=0
 ·subst h; exact .inl ⟨rfl,rfl⟩
 ·have:(e == 0)=false:=by simpa using h
  rw [this]; exact .inr ⟨h,rfl⟩
theorem I8 (n:Nat):nG (n:Int)=some (decide ((n:Int) < 32) || ((n:Int) == 127)):=by
 unfold nG
 cases decide ((n:Int) < 32) <;> rfl
def runeB (n:Nat):Bool:=decide ((n:Int) < 32) || ((n:Int) == 127)
theorem jy (s:ByteArray) {t:ByteArray} {v c k r:Bool} (h1:fo s=some v) (h2:decide (0≤Lib.idxFunc runeB true s)=c) (h3:nC s ⟨#[32]⟩=some t) (h4:strings_Contains s ⟨#[32,32]⟩=some k) (h5:(v && (!c && (sEq t s && !k)))=r):oC s=some r:=by
 subst h5
 unfold oC iB
 rw [h1,Az (p:=runeB) (fun n=>I8 n),h2,rM _ _ _ h3,h4]
 cases v with
 | false=>rfl
 | true =>
  cases c with
  | true=>rfl
  | false =>
   simp only [Option.bind_some,cond_true,Bool.not_false]
   cases sEq t s <;> rfl
def lS (s:ByteArray):Bool:=decide (s=⟨#[]⟩) || (decide (s=overS) || (decide (s=floodS) || decide (s=mallS)))
theorem Br:∀ s∈txtL,kL s=some (lS s)∧oC s=some (lS s):=by
 intro s hs
 unfold txtL at hs
 simp only [List.mem_cons,List.not_mem_nil,or_false]at hs
 rcases hs with rfl | rfl | rfl | rfl | rfl | rfl | rfl | rfl
 ·exact⟨fq _ _ (show fu ⟨#[]⟩=some (lS ⟨#[]⟩) by kernel_rfl),jy ⟨#[]⟩ (v:=true) (c:=false) (t:=⟨#[]⟩) (k:=false) (by kernel_rfl) (by kernel_rfl) (by kernel_rfl) (by kernel_rfl) (by kernel_rfl)⟩
 ·exact⟨fq _ _ (show fu overS=some (lS overS) by kernel_rfl),jy overS (v:=true) (c:=false) (t:=overS) (k:=false) (by kernel_rfl) (by kernel_rfl) (by kernel_rfl) (by kernel_rfl) (by kernel_rfl)⟩
 ·exact⟨fq _ _ (show fu floodS=some (lS floodS) by kernel_rfl),jy floodS (v:=true) (c:=false) (t:=floodS) (k:=false) (by kernel_rfl) (by kernel_rfl) (by kernel_rfl) (by kernel_rfl) (by kernel_rfl)⟩
 ·exact⟨fq _ _ (show fu mallS=some (lS mallS) by kernel_rfl),jy mallS (v:=true) (c:=false) (t:=mallS) (k:=false) (by kernel_rfl) (by kernel_rfl) (by kernel_rfl) (by kernel_rfl) (by kernel_rfl)⟩
 ·exact⟨fq _ _ (show fu ⟨#[32,120]⟩=some (lS ⟨#[32,120]⟩) by kernel_rfl),jy ⟨#[32,120]⟩ (v:=true) (c:=false) (t:=⟨#[120]⟩) (k:=false) (by kernel_rfl) (by kernel_rfl) (by kernel_rfl) (by kernel_rfl) (by kernel_rfl)⟩
 ·exact⟨fq _ _ (show fu ⟨#[97,32,32,98]⟩=some (lS ⟨#[97,32,32,98]⟩) by kernel_rfl),jy ⟨#[97,32,32,98]⟩ (v:=true) (c:=false) (t:=⟨#[97,32,32,98]⟩) (k:=true) (by kernel_rfl) (by kernel_rfl) (by kernel_rfl) (by kernel_rfl) (by kernel_rfl)⟩
 ·exact⟨fq _ _ (show fu ⟨#[10]⟩=some (lS ⟨#[10]⟩) by kernel_rfl),jy ⟨#[10]⟩ (v:=true) (c:=true) (t:=⟨#[10]⟩) (k:=false) (by kernel_rfl) (by kernel_rfl) (by kernel_rfl) (by kernel_rfl) (by kernel_rfl)⟩
 ·exact⟨fq _ _ (show fu ⟨#[255]⟩=some (lS ⟨#[255]⟩) by kernel_rfl),jy ⟨#[255]⟩ (v:=false) (c:=false) (t:=⟨#[255]⟩) (k:=false) (by kernel_rfl) (by kernel_rfl) (by kernel_rfl) (by kernel_rfl) (by kernel_rfl)⟩
theorem Ey:∀ s∈txtL,s.size≤16:=by
 intro s hs
 unfold txtL at hs
 simp only [List.mem_cons,List.not_mem_nil,or_false]at hs
 rcases hs with rfl | rfl | rfl | rfl | rfl | rfl | rfl | rfl <;> decide
def rT {α:Type} (f:α→Bool):Option α→Bool
 | some y=>f y
 | none=>false
def oQ (id:ByteArray) (p:Option ByteArray) (r:ByteArray):Int:=bif !kG r then 5 else bif rT (fun q=>sLe r q) p then 7 else bif sEq r id then 14 else 0
def lM (_:Option Rect) (r:Rect):Int:=bif Bb r then 1 else 0
theorem BG {α β:Type} {l:List α} {k:Nat} {x:α} (h:l[k]? = some x) (hl:l.length≤1000000) (g:α→Option Bool) (f:α→Bool) (hg:∀ y,g y=some (f y)):(bif (decide ((k:Int) > 0))then (idx l (w64 ((k:Int) - 1))).bind g else some false)=some (rT f (jL l k)):=by
 rcases Nat.eq_zero_or_pos k with h0 | h0
 ·subst h0
  rw [decide_eq_false (by omega)]; rfl
 ·obtain ⟨y,q1,q2⟩:=DK h h0 (by omega)
  rw [decide_eq_true (by omega),cond_true,q1,Option.bind_some,hg]
  unfold jL
  rw [if_neg (by omega),q2]; rfl
theorem FI (x:Alert) (h:GA x):∀ k r,x.Refs[k]? = some r→eB x k r ()=some (pE (oQ x.Id (jL x.Refs k) r)):=fun k r hr=>by
 have hl:=h.rlen
 have hs:=h.refs r (List.mem_of_getElem? hr)
 unfold ShA at hs
 unfold eB
 rw [tN r (by omega),BG (β:=Unit) hr (by omega) (fun y_20=>some (sLe r y_20)) (fun y=>sLe r y) (fun _=>rfl),Option.bind_some,Option.bind_some]
 unfold oQ
 cases kG r with
 | false=>rfl
 | true =>
  cases rT (fun q=>sLe r q) (jL x.Refs k)with
  | true=>rfl
  | false=>cases sEq r x.Id <;> rfl
theorem Gb (x:Alert) (h:GA x):∀ k r,x.Refs[k]? = some r→gZ x k r ()=some (pE (oQ x.Id (jL x.Refs k) r)):=fun k r hr=>by
 have hl:=h.rlen
 have hs:=h.refs r (List.mem_of_getElem? hr)
 unfold ShA at hs
 unfold gZ
 rw [uy r (by omega),BG (β:=Unit) hr (by omega) (fun y_20=>some (sLe r y_20)) (fun y=>sLe r y) (fun _=>rfl),Option.bind_some,Option.bind_some]
 unfold oQ
 cases kG r with
 | false=>rfl
 | true =>
  cases rT (fun q=>sLe r q) (jL x.Refs k)with
  | true=>rfl
  | false=>cases sEq r x.Id <;> rfl
theorem FE (x:Alert):∀ k r,x.Areas[k]? = some r→eQ k r ()=some (pE (lM (jL x.Areas k) r)):=fun k r hr=>by
 unfold eQ lM
 rw [CG]
 cases Bb r <;> rfl
theorem Gy (x:Alert):∀ k r,x.Areas[k]? = some r→gX k r ()=some (pE (lM (jL x.Areas k) r)):=fun k r hr=>by
 unfold gX lM
 rw [Cf]
 cases Bb r <;> rfl
def rfV (x:Alert):Int:=chA (oQ x.Id) none x.Refs
def arV (x:Alert):Int:=chA lM none x.Areas
def fmV (x:Alert):Bool := !((x.Kind == 1) == ((x.Refs.length:Int) == 0))
def agV (x:Alert):Bool := !yH x.At || (iK x.Until (x.At + 1) (x.At + 2592000000) || iK x.Weight 1 9)
def txV (x:Alert):Bool := !lS x.Text || (sEq x.Text ⟨#[]⟩ && !(x.Kind == 3))
def cnV (x:Alert):Bool := !((x.Kind == 3) == ((x.Areas.length:Int) == 0))
def alF (x:Alert):Int:=bif !kG x.Id || !kG x.Sender then 5 else bif iK x.Kind 1 3 then 4 else bif rfV x == 0 then (bif fmV x then 3 else bif agV x then 1 else bif arV x == 0 then (bif cnV x then 3 else bif txV x then 3 else 0)else arV x)else rfV x
theorem alF_K {x:Alert} (h:GA x):gD x=some (alF x):=by
 have h1:=h.id
 have h2:=h.sender
 have h3:=h.at_
 have h4:=h.rlen
 have h5:=h.alen
 have h6:=Ey _ h.text
 unfold ShA at h1 h2
 have hrf:ib x=some (bif rfV x == 0 then (bif fmV x then 3 else 0)else rfV x):=by
  unfold ib
  rw [decide_eq_false (by omega),cond_false,qO (stp:=oQ x.Id) (body:=fun k r s=>eB x k r s) (by omega) (FI x h)]
  unfold rfV fmV
  rcases nu (chA (oQ x.Id) none x.Refs)with⟨e1,e2⟩ | ⟨e1,e2⟩
  ·rw [e2,e1]
   simp only [Option.bind_some,thenC]
   cases (!((x.Kind == 1) == ((x.Refs.length:Int) == 0))) <;> rfl
  ·have:(chA (oQ x.Id) none x.Refs == 0)=false:=by simpa using e1
   rw [e2,this]; rfl
 unfold gD alF
 rw [tN _ (by omega),tN _ (by omega),hrf,lT,En,dC (n:=x.At + 1) (by omega),dC (n:=x.At + 2592000000) (by omega),lT,lT,(Br _ h.text).1,decide_eq_false (show ¬ (x.Areas.length:Int) > 20 by omega),decide_eq_false (show ¬ (x.Text.size:Int) > 500 by omega)]
 rw [qO (stp:=lM) (body:=fun k r s=>eQ k r s) (by omega) (FE x)]
 have ek:(bif !kG x.Id then some true else some (!kG x.Sender))=some (!kG x.Id || !kG x.Sender):=by cases kG x.Id <;> rfl
 have ea:((some (yH x.At)).bind fun r_19=>bif (!r_19)then some true else (some (iK x.Until (x.At + 1) (x.At + 2592000000))).bind fun r_22=>bif r_22 then some true else (some (iK x.Weight 1 9)).bind fun r_25=>some r_25)=some (agV x):=by
  unfold agV
  cases yH x.At <;> cases iK x.Until (x.At + 1) (x.At + 2592000000) <;> rfl
 have et:((some (lS x.Text)).bind fun r_47=>bif (!r_47)then some true else bif (sEq x.Text (⟨#[]⟩:ByteArray))then some (!(x.Kind == 3))else some false)=some (txV x):=by
  unfold txV
  cases lS x.Text <;> cases sEq x.Text ⟨#[]⟩ <;> rfl
 have ec:(!((x.Kind == 3) == ((x.Areas.length:Int) == 0)))=cnV x:=rfl
 rw [ea,et,ec]
 simp only [Option.bind_some]
 rw [ek]
 simp only [Option.bind_some]
 cases (!kG x.Id || !kG x.Sender)with
 | true=>rfl
 | false =>
 cases iK x.Kind 1 3 with
 | true=>rfl
 | false =>
 simp only [cond_false]
 cases hr:rfV x == 0 with
 | false =>
  have:(rfV x != 0)=true:=by simp [bne,hr]
  simp only [cond_false,this,cond_true]
 | true =>
  simp only [cond_true]
  cases fmV x with
  | true=>rfl
  | false =>
   cases agV x with
   | true=>rfl
   | false =>
    simp only [cond_false,bne_self_eq_false]
    unfold arV
    rcases nu (chA lM none x.Areas)with⟨e1,e2⟩ | ⟨e1,e2⟩
    ·rw [e2,e1]
     simp only [thenC]
     cases cnV x with
     | true=>rfl
     | false=>cases txV x <;> rfl
    ·have:(chA lM none x.Areas == 0)=false:=by simpa using e1
     rw [e2,this]; rfl
theorem alF_R {x:Alert} (h:GA x):kC x=some (alF x):=by
 have h1:=h.id
 have h2:=h.sender
 have h3:=h.at_
 have h4:=h.rlen
 have h5:=h.alen
 have h6:=Ey _ h.text
 unfold ShA at h1 h2
 have hm:oF x.At=some (yH x.At):=by unfold oF yH; rw [yx]; rfl
 unfold kC alF
 rw [uy _ (by omega),uy _ (by omega),hm,yx,dC (n:=x.At + 1) (by omega),dC (n:=x.At + 2592000000) (by omega),yx,yx,(Br _ h.text).2,decide_eq_false (show ¬ (x.Refs.length:Int) > 20 by omega),decide_eq_false (show ¬ (x.Areas.length:Int) > 20 by omega),decide_eq_false (show ¬ (x.Text.size:Int) > 500 by omega)]
 rw [qO (stp:=lM) (body:=fun k r s=>gX k r s) (by omega) (Gy x),qO (stp:=oQ x.Id) (body:=fun k r s=>gZ x k r s) (by omega) (Gb x h)]
 have ek:(bif !kG x.Id then some true else some (!kG x.Sender))=some (!kG x.Id || !kG x.Sender):=by cases kG x.Id <;> rfl
 have ea:((some (yH x.At)).bind fun r_38=>bif (!r_38)then some true else (some (!iK x.Until (x.At + 1) (x.At + 2592000000))).bind fun r_41=>bif (!r_41)then some true else (some (!iK x.Weight 1 9)).bind fun r_44=>some (!r_44))=some (agV x):=by
  unfold agV
  cases yH x.At <;> cases iK x.Until (x.At + 1) (x.At + 2592000000) <;> cases iK x.Weight 1 9 <;> rfl
 have et:((some (lS x.Text)).bind fun r_66=>bif (!r_66)then some true else bif (sEq x.Text (⟨#[]⟩:ByteArray))then some (x.Kind != 3)else some false)=some (txV x):=by
  unfold txV
  cases lS x.Text <;> cases sEq x.Text ⟨#[]⟩ <;> rfl
 have ec:(!((x.Kind == 3) == ((x.Areas.length:Int) == 0)))=cnV x:=rfl
 have ef:(!((x.Kind == 1) == ((x.Refs.length:Int) == 0)))=fmV x:=rfl
 rw [ea,et,ec,ef]
 simp only [Option.bind_some]
 rw [ek]
 simp only [Option.bind_some]
 cases (!kG x.Id || !kG x.Sender)with
 | true=>rfl
 | false =>
 cases iK x.Kind 1 3 with
 | true=>rfl
 | false =>
 simp only [cond_false,Bool.not_false]
 unfold rfV arV
 rcases nu (chA (oQ x.Id) none x.Refs)with⟨e1,e2⟩ | ⟨e1,e2⟩
 ·rw [e2,e1]
  simp only [thenC]
  cases fmV x with
  | true=>rfl
  | false =>
   cases agV x with
   | true=>rfl
   | false =>
    simp only [cond_false]
    rcases nu (chA lM none x.Areas)with⟨k1,k2⟩ | ⟨k1,k2⟩
    ·rw [k2,k1]
     simp only [thenC]
     cases cnV x with
     | true=>rfl
     | false=>cases txV x <;> rfl
    ·have:(chA lM none x.Areas == 0)=false:=by simpa using k1
     rw [k2,this]; rfl
 ·have:(chA (oQ x.Id) none x.Refs == 0)=false:=by simpa using e1
  rw [e2,this]; rfl
end Go.Proofs.YtjhcehhmdmbleaaGreatDoor.Law

open Go Go.Eng
namespace Go.Proofs.YtjhcehhmdmbleaaGreatDoor.Law
set_option linter.unusedVariables false
set_option linter.unusedSimpArgs false
section
variable {K T:Type} {eq:K→K→Bool}
theorem Kj (k:K):vk eq ([]:List (K×T)) k=none:=rfl
theorem qi (e:K×T) (es:List (K×T)) (k:K):vk eq (e::es) k=if eq k e.1=true then some e.2 else vk eq es k:=by
 unfold vk
 rw [xV]
 by_cases h:eq k e.1=true
 ·rw [if_pos h,if_pos h]; rfl
 ·rw [if_neg h,if_neg h]
  cases xV eq k es with
  | none=>rfl
  | some j=>rfl
theorem Ko (k:K) (v:T):rY eq ([]:List (K×T)) k v = [(k,v)]:=rfl
theorem BL (e:K×T) (es:List (K×T)) (k:K) (v:T):rY eq (e::es) k v=if eq k e.1=true then (k,v)::es else e::rY eq es k v:=by
 unfold rY
 rw [xV]
 by_cases h:eq k e.1=true
 ·rw [if_pos h,if_pos h]; rfl
 ·rw [if_neg h,if_neg h]
  cases xV eq k es with
  | none=>rfl
  | some j=>rfl
theorem BK (he:∀ a b,eq a b=true↔a=b) (k k':K) (v:T):∀ es:List (K×T),vk eq (rY eq es k v) k'=if eq k' k=true then some v else vk eq es k'
 | []=>by rw [Ko,qi]
 | e::es=>by
  rw [BL,qi]
  by_cases h:eq k e.1=true
  ·rw [if_pos h,qi]
   have h1:=(he _ _).1 h
   rw [← h1]
   by_cases h2:eq k' k=true
   ·rw [if_pos h2,if_pos h2]
   ·rw [if_neg h2,if_neg h2,if_neg h2]
  ·rw [if_neg h,qi,BK he k k' v es]
   by_cases h2:eq k' e.1=true
   ·have h3:=(he _ _).1 h2
    have:¬ eq k' k=true:=fun q=>h (by rw [← (he _ _).1 q]; exact h2)
    rw [if_pos h2,if_neg this,if_pos h2]
   ·rw [if_neg h2,if_neg h2]
theorem zq (k:K) (v:T):∀ es:List (K×T),(rY eq es k v).length=if (vk eq es k).isSome=true then es.length else es.length + 1
 | []=>rfl
 | e::es=>by
  rw [BL,qi]
  by_cases h:eq k e.1=true
  ·rw [if_pos h,if_pos h]; rfl
  ·rw [if_neg h,if_neg h,List.length_cons,zq k v es,List.length_cons]
   split <;> rfl
end
theorem CW (a b:ByteArray):eqS a b=true↔a=b:=⟨eqS_eq,fun h=>by
 subst h
 obtain ⟨x⟩:=a
 show (x == x)=true
 exact beq_self_eq_true x⟩
def wR (s:List (ByteArray×Bool)) (sn:List ByteArray):Prop := ∀ k,vk eqS s k=if k∈sn then some true else none
theorem wR.nil:wR [] []:=fun k=>by rw [Kj,if_neg (by simp)]
theorem wR.set {s:List (ByteArray×Bool)} {sn:List ByteArray} (h:wR s sn) (id:ByteArray):wR (rY eqS s id true) (sn ++ [id]):=fun k=>by
 rw [BK CW,h k]
 by_cases h1:eqS k id=true
 ·rw [if_pos h1,if_pos (by rw [(CW _ _).1 h1]; simp)]
 ·rw [if_neg h1]
  have:k∈sn ++ [id]↔k∈sn:=by
   rw [List.mem_append,List.mem_singleton]
   exact⟨fun q=>q.resolve_right (fun e=>h1 ((CW _ _).2 e)),.inl⟩
  by_cases h2:k∈sn
  ·rw [if_pos h2,if_pos (this.2 h2)]
  ·rw [if_neg h2,if_neg (fun q=>h2 (this.1 q))]
def vY:List ByteArray→List ByteArray→Bool
 | _,[]=>false
 | sn,x::l=>if x∈sn then true else vY (sn ++ [x]) l
theorem GJ:∀ (xs:List Alert) (k:Nat) (s:List (ByteArray×Bool)) (sn:List ByteArray),wR s sn→(vY sn (xs.map (·.Id))=false ∧ ∃ s',forR (fun k x s=>bK k x s) xs k s=some (.go s'))∨(vY sn (xs.map (·.Id))=true∧forR (fun k x s=>bK k x s) xs k s=some (.ret 6))
 | [],k,s,sn,h => .inl ⟨rfl,s,rfl⟩
 | x::xs,k,s,sn,h=>by
  have hg:=h x.Id
  rw [List.map_cons]
  by_cases hm:x.Id∈sn
  ·rw [if_pos hm]at hg
   have e:bK k x s=some (.ret 6):=by unfold bK; rw [hg]; rfl
   exact .inr ⟨by rw [vY,if_pos hm],by rw [forR,e]; rfl⟩
  ·rw [if_neg hm]at hg
   have e:bK k x s=some (.go (rY eqS s x.Id true)):=by unfold bK; rw [hg]; rfl
   rw [vY,if_neg hm,forR,e,Option.bind_some]
   exact GJ xs (k + 1) _ _ (h.set x.Id)
theorem Hu:∀ (xs:List Alert) (k:Nat) (s:List (ByteArray×Bool)) (sn:List ByteArray),wR s sn → ∃ s',forR (fun k x s=>iE k x s) xs k s=some (.go s')∧(if vY sn (xs.map (·.Id))=true then s'.length < s.length + xs.length else s'.length=s.length + xs.length)∧s'.length≤s.length + xs.length
 | [],k,s,sn,h=>⟨s,rfl,by rw [if_neg (by simp [vY])]; rfl,Nat.le_refl _⟩
 | x::xs,k,s,sn,h=>by
  have hg:=h x.Id
  have e:iE k x s=some (.go (rY eqS s x.Id true)):=rfl
  obtain ⟨s',e1,e2,e3⟩:=Hu xs (k + 1) _ _ (h.set x.Id)
  refine⟨s',by rw [forR,e,Option.bind_some]; exact e1,?_,?_⟩
  ·rw [List.map_cons,vY]
   have hl:=zq (eq:=eqS) x.Id true s
   by_cases hm:x.Id∈sn
   ·rw [if_pos hm]at hg
    rw [if_pos hm,if_pos rfl]
    rw [hg]at hl
    simp only [Option.isSome_some,if_true]at hl
    rw [List.length_cons]; omega
   ·rw [if_neg hm]at hg
    rw [hg]at hl
    rw [if_neg hm]
    have hl2:(rY eqS s x.Id true).length=s.length + 1:=by simpa using hl
    rw [hl2]at e2 e3
    rw [List.length_cons]
    by_cases hd:vY (sn ++ [x.Id]) (xs.map (·.Id))=true
    ·rw [if_pos hd]at e2; rw [if_pos hd]; omega
    ·rw [if_neg hd]at e2; rw [if_neg hd]; omega
  ·have hl:=zq (eq:=eqS) x.Id true s
   have:(rY eqS s x.Id true).length≤s.length + 1:=by rw [hl]; split <;> omega
   rw [List.length_cons]; omega
theorem Bz:∀ (l sn:List ByteArray),vY sn l=false→l.Nodup ∧ ∀ x∈l,x∉sn
 | [],sn,_=>⟨List.nodup_nil,fun x hx=>by cases hx⟩
 | y::l,sn,h=>by
  rw [vY]at h
  by_cases hm:y∈sn
  ·rw [if_pos hm]at h; cases h
  ·rw [if_neg hm]at h
   obtain ⟨h1,h2⟩:=Bz l _ h
   refine⟨List.nodup_cons.2 ⟨fun q=>h2 y q (by simp),h1⟩,fun x hx => ?_⟩
   rcases List.mem_cons.1 hx with rfl | hx
   ·exact hm
   ·exact fun q=>h2 x hx (List.mem_append_left _ q)
end Go.Proofs.YtjhcehhmdmbleaaGreatDoor.Law

open Go Go.Eng
namespace Go.Proofs.YtjhcehhmdmbleaaGreatDoor.Law
set_option linter.unusedVariables false
set_option linter.unusedSimpArgs false
theorem IC (l:List Alert) (px py t:Int):(nK l px py t).Perm (mP l px py t):=uu _ _
theorem KH (l:List Alert) (px py t:Int):(nK l px py t).length≤l.length:=by
 rw [(IC l px py t).length_eq]; exact List.length_filter_le _ _
theorem zM {l:List Alert} {px py F T:Int} {E:List Int} (hE:E.Pairwise (· < ·)) (hin:∀ x∈E,F≤x∧x≤T) (h1:∀ z∈l,F < z.At→z.At < T→z.At∈E) (h2:∀ z∈l,F < endV l z→endV l z < T→endV l z∈E) {i:Nat} {a b:Int} (ha:E[i]? = some a) (hb:E[i + 1]? = some b) {t:Int} (hat:a≤t) (htb:t < b):mY l px py t=mY l px py a:=by
 have a1:=hin a (List.mem_of_getElem? ha)
 have b1:=hin b (List.mem_of_getElem? hb)
 have key:∀ v:Int,(F < v→v < T→v∈E)→v≤a∨t < v:=fun v hv=>by
  by_cases q1:F < v
  ·by_cases q2:v < T
   ·rcases JU hE ha hb (hv q1 q2)with h | h
    ·exact .inl h
    ·exact .inr (by omega)
   ·exact .inr (by omega)
  ·exact .inl (by omega)
 exact Jg (fun z hz=>⟨key _ (h1 z hz),key _ (h2 z hz)⟩) hat
def qc (l m:List Alert) (px py t:Int):List Alert:=m.filter fun z=>onB l t z && hasB z.Areas px py
def cR (a b:Alert):Int:=or0 (lJ b.Weight a.Weight) (or0 (lJ b.At a.At) (xX a.Id b.Id))
theorem IP (a b:Alert):kQ a b=some (cR a b):=by
 simp only [kQ,qY,ul,or3_eq,Option.bind_some]; rfl
theorem vE {a b:Alert}:cR a b < 0↔qp a b=true:=by
 unfold cR
 rw [uh,uh,zJ,xu,zJ,xu,y9,tQ]
 constructor
 ·rintro (h | ⟨h,k | ⟨k,q⟩⟩)
  ·exact .inl h
  ·exact .inr ⟨h.symm,.inl k⟩
  ·exact .inr ⟨h.symm,.inr ⟨k.symm,q⟩⟩
 ·rintro (h | ⟨h,k | ⟨k,q⟩⟩)
  ·exact .inl h
  ·exact .inr ⟨h.symm,.inl k⟩
  ·exact .inr ⟨h.symm,.inr ⟨k.symm,q⟩⟩
theorem ED {a b c:Alert} (h:¬ qp a b=true) (k:¬ qp b c=true):¬ qp a c=true:=by
 rw [tQ]at *
 simp only [not_or,not_and]at h k
 rintro (q | ⟨q,q2 | ⟨q2,q3⟩⟩)
 ·omega
 ·have h2:=h.2
  have k2:=k.2
  by_cases e:a.Weight=b.Weight
  ·have:=(h2 e).1
   have:=(k2 (by omega)).1
   omega
  ·omega
 ·have h2:=h.2
  have k2:=k.2
  by_cases e:a.Weight=b.Weight
  ·have a1:=h2 e
   have a2:=k2 (by omega)
   by_cases e2:a.At=b.At
   ·exact lt_ntr (a1.2 e2) (a2.2 (by omega)) q3
   ·have:=a1.1
    have:=a2.1
    omega
  ·omega
theorem C8 {x:Alert} (h:∀ r∈x.Areas,Fine r) (hl:x.Areas.length≤1000) (p:Post):iT x p=some (hasB x.Areas p.X p.Y):=by
 unfold iT
 rw [JV (fun x0=>jU x0 p) (sI p.X p.Y) (fun r hr=>by
  have hs:=h r hr
  unfold Fine at hs
  unfold jU sI
  rw [dC (n:=r.X + r.W) (by omega),dC (n:=r.Y + r.H) (by omega)]
  cases decide (r.X≤p.X) <;> cases decide (p.X < r.X + r.W) <;> cases decide (r.Y≤p.Y) <;> rfl) (by omega)]
 rfl
theorem H8 {α β:Type} {l:List α} {f:α→β} {k:Nat} {x:α} (hx:l[k]? = some x):idx (l.map f) (k:Int)=some (f x):=by
 rw [ry,List.getElem?_map,hx]; rfl
theorem take_len {α:Type} (l:List α) (k:Nat):(l.take k).length≤l.length:=by rw [List.length_take]; exact Nat.min_le_right _ _
theorem Jc {l:List Alert} (h:CA l) (p:Post) (t:Int):mG l (l.map (endV l)) p t=some (nK l p.X p.Y t):=by
 have hl:=h.len
 unfold mG
 obtain ⟨u,u1,u2⟩:=kW (body:=fun k x s=>jW (l.map (endV l)) t p k x s) (fun k s=>s=qc l (l.take k) p.X p.Y t) (xs:=l) (s:=([]:List Alert)) (by omega) (fun k x s hx hs=>by
  have et:l.take (k + 1)=l.take k ++ [x]:=by rw [List.take_add_one,hx]; rfl
  have hm:=List.mem_of_getElem? hx
  have hf:qc l (l.take (k + 1)) p.X p.Y t=qc l (l.take k) p.X p.Y t++(bif onB l t x && hasB x.Areas p.X p.Y then [x]else []):=by
   unfold qc
   rw [et,List.filter_append]
   congr 1
  have hsl:s.length≤1000:=by
   rw [hs]
   refine Nat.le_trans (List.length_filter_le _ _) ?_
   have:=take_len l k
   omega
  unfold jW
  rw [H8 hx,Option.bind_some,isOn_eq,Option.bind_some,C8 (h.areas x hm) (h.alen x hm)]
  rw [hf,← hs]
  cases onB l t x with
  | false=>exact⟨_,rfl,by simp⟩
  | true =>
   cases hasB x.Areas p.X p.Y with
   | false=>exact⟨_,rfl,by simp⟩
   | true =>
    simp only [Option.bind_some,cond_true,Bool.and_true]
    rw [lN _ _ (by simp only [List.length_cons,List.length_nil]; omega)]
    exact⟨_,rfl,rfl⟩) rfl
 rw [u1,u2,List.take_length]
 simp only [Option.bind_some,thenC]
 have e0:qc l l p.X p.Y t=mP l p.X p.Y t:=rfl
 rw [e0]
 have hrl:(mP l p.X p.Y t).length≤12:=by
  have:(mP l p.X p.Y t).length≤l.length:=List.length_filter_le _ _
  omega
 obtain ⟨r,r1,r2,r3⟩:=Gv (cmp:=kQ) (S:=bE) cR (fun _=>rfl) (xs:=mP l p.X p.Y t) hrl (fun a _ b _=>IP a b)
  (fun a b q1 q2=>by have:=u7 _ _ _ (vE.1 q1) (vE.1 q2); rw [Af]at this; cases this)
  (fun a b c q1 q2 q3=>ED (fun e=>q1 (vE.2 e)) (fun e=>q2 (vE.2 e)) (vE.1 q3))
 have e2:bE (mP l p.X p.Y t)=some r:=r1
 have e3:iO r (mP l p.X p.Y t)=some ():=by unfold iO; rw [if_pos r2.length_eq]
 rw [e2,Option.bind_some,e3,Option.bind_some,Hr h.ids p.X p.Y t r2 (r3.imp (fun {a b} q=>by
  cases hb:qp b a with
  | false=>rfl
  | true=>exact absurd (vE.2 hb) q))]
end Go.Proofs.YtjhcehhmdmbleaaGreatDoor.Law

open Go Go.Eng
namespace Go.Proofs.YtjhcehhmdmbleaaGreatDoor.Law
set_option linter.unusedVariables false
set_option linter.unusedSimpArgs false
set_option maxRecDepth 100000
def oU (p:Option Alert) (x:Alert):Int:=bif alF x == 0 then (bif rT (fun y => !decide (befA y x)) p then 7 else 0)else alF x
def alV (l:List Alert):Int:=bif chA oU none l == 0 then (bif vY [] (l.map (·.Id))then 6 else 0)else chA oU none l
theorem Bg {a b:Alert} (ha:GA a) (hb:GA b):∃ n,iG a b=some n∧(n < 0↔befA a b):=by
 have h1:=ha.at_
 have h2:=hb.at_
 unfold iG befA
 by_cases h:a.At=b.At
 ·have:(a.At != b.At)=false:=by simpa using h
  rw [this,cond_false,qY]
  refine⟨_,rfl,?_⟩
  rw [y9]
  exact⟨fun q => .inr ⟨h,q⟩,fun q=>by
   rcases q with q | q
   ·omega
   ·exact q.2⟩
 ·have:(a.At != b.At)=true:=by simpa using h
  rw [this,cond_true,dC (n:=a.At - b.At) (by omega)]
  unfold wQ
  by_cases hn:a.At - b.At < 0
  ·rw [decide_eq_true hn]
   exact⟨-1,rfl,⟨fun _ => .inl (by omega),fun _=>by decide⟩⟩
  ·rw [decide_eq_false hn,decide_eq_true (show a.At - b.At > 0 by omega)]
   exact⟨1,rfl,⟨fun q=>absurd q (by decide),fun q=>by
    rcases q with q | q
    ·omega
    ·exact absurd q.1 h⟩⟩
theorem ge_of {n:Int} {P:Prop} [Decidable P] (h:n < 0↔P):decide (n≥0) = !decide P:=by
 by_cases hp:P
 ·rw [decide_eq_true hp,decide_eq_false (by have:=h.2 hp; omega)]; rfl
 ·rw [decide_eq_false hp,decide_eq_true (by
   rcases Int.lt_or_le n 0 with q | q
   ·exact absurd (h.1 q) hp
   ·exact q)]; rfl
theorem vW {α:Type} {l:List α} {k:Nat} {x:α} (h:l[k]? = some x) (hl:l.length≤1000000) (g:α→Option Bool) (f:α→Bool) (hg:∀ y∈l,g y=some (f y)):(bif (decide ((k:Int) > 0))then (idx l (w64 ((k:Int) - 1))).bind g else some false)=some (rT f (jL l k)):=by
 rcases Nat.eq_zero_or_pos k with h0 | h0
 ·subst h0
  rw [decide_eq_false (by omega)]; rfl
 ·obtain ⟨y,q1,q2⟩:=DK h h0 (by omega)
  rw [decide_eq_true (by omega),cond_true,q1,Option.bind_some,hg y (List.mem_of_getElem? q2)]
  unfold jL
  rw [if_neg (by omega),q2]; rfl
theorem KU {l:List Alert} (h:GAs l):∀ k x,l[k]? = some x→dF l k x ()=some (pE (oU (jL l k) x)):=fun k x hx=>by
 have hl:=h.2
 unfold dF oU
 rw [alF_K (h.1 x (List.mem_of_getElem? hx)),vW hx (by omega) (fun y_20=>(ik y_20 x).bind fun r_22=>some (decide (r_22≥0))) (fun y => !decide (befA y x)) (fun y _=>by
  obtain ⟨n,n1,n2⟩:=yc y x
  rw [n1,Option.bind_some,ge_of n2])]
 simp only [Option.bind_some]
 by_cases h0:alF x=0
 ·rw [h0]
  cases rT (fun y => !decide (befA y x)) (jL l k) <;> rfl
 ·have e1:(alF x == 0)=false:=by simpa using h0
  have e2:(alF x != 0)=true:=by simp [bne,e1]
  rw [e1,e2]
  unfold pE
  rw [cond_false,e1]; rfl
theorem KA {l:List Alert} (h:GAs l):∀ k x,l[k]? = some x→gG l k x ()=some (pE (oU (jL l k) x)):=fun k x hx=>by
 have hl:=h.2
 have hgx:=h.1 x (List.mem_of_getElem? hx)
 unfold gG oU
 rw [alF_R hgx,vW hx (by omega) (fun y_20=>(iG y_20 x).bind fun r_22=>some (decide (r_22≥0))) (fun y => !decide (befA y x)) (fun y hy=>by
  obtain ⟨n,n1,n2⟩:=Bg (h.1 y hy) hgx
  rw [n1,Option.bind_some,ge_of n2])]
 simp only [Option.bind_some]
 by_cases h0:alF x=0
 ·rw [h0]
  cases rT (fun y => !decide (befA y x)) (jL l k) <;> rfl
 ·have e1:(alF x == 0)=false:=by simpa using h0
  have e2:(alF x != 0)=true:=by simp [bne,e1]
  rw [e1,e2]
  unfold pE
  rw [cond_false,e1]; rfl
theorem alV_K {l:List Alert} (h:GAs l):fP l=some (alV l):=by
 have hl:=h.2
 unfold fP alV
 rw [decide_eq_false (by omega),cond_false,qO (stp:=oU) (body:=fun k x s=>dF l k x s) (by omega) (KU h)]
 rcases nu (chA oU none l)with⟨e1,e2⟩ | ⟨e1,e2⟩
 ·rw [e2,e1]
  simp only [Option.bind_some,thenC]
  rw [iI (by omega)]
  rcases GJ l 0 [] [] wR.nil with⟨d,s',f⟩ | ⟨d,f⟩
  ·rw [f,d]; rfl
  ·rw [f,d]; rfl
 ·have:(chA oU none l == 0)=false:=by simpa using e1
  rw [e2,this]; rfl
theorem alV_R {l:List Alert} (h:GAs l):jM l=some (alV l):=by
 have hl:=h.2
 unfold jM alV
 rw [decide_eq_false (by omega),cond_false,qO (stp:=oU) (body:=fun k x s=>gG l k x s) (by omega) (KA h)]
 rcases nu (chA oU none l)with⟨e1,e2⟩ | ⟨e1,e2⟩
 ·rw [e2,e1]
  simp only [Option.bind_some,thenC]
  rw [iI (by omega)]
  obtain ⟨s',f,g,_⟩:=Hu l 0 [] [] wR.nil
  rw [f]
  simp only [Option.bind_some,thenC]
  cases hd:vY [] (l.map (·.Id))with
  | true =>
   rw [hd,if_pos rfl]at g
   simp only [List.length_nil,Nat.zero_add]at g
   rw [decide_eq_true (by omega)]; rfl
  | false =>
   rw [hd,if_neg (by decide)]at g
   simp only [List.length_nil,Nat.zero_add]at g
   rw [decide_eq_false (by omega)]; rfl
 ·have:(chA oU none l == 0)=false:=by simpa using e1
  rw [e2,this]; rfl
theorem GX {x:Alert} (h:GA x) (h0:alF x=0):(0≤x.At∧x.At≤345686399999)∧(x.At + 1≤x.Until∧x.Until≤x.At + 2592000000) ∧ ∀ r∈x.Areas,Fine r:=by
 unfold alF at h0
 cases e1:(!kG x.Id || !kG x.Sender)with
 | true=>rw [e1]at h0; cases h0
 | false =>
 rw [e1,cond_false]at h0
 cases e2:iK x.Kind 1 3 with
 | true=>rw [e2]at h0; cases h0
 | false =>
 rw [e2,cond_false]at h0
 cases e3:rfV x == 0 with
 | false=>rw [e3,cond_false]at h0; rw [h0]at e3; exact absurd e3 (by decide)
 | true =>
 rw [e3,cond_true]at h0
 cases e4:fmV x with
 | true=>rw [e4]at h0; cases h0
 | false =>
 rw [e4,cond_false]at h0
 cases e5:agV x with
 | true=>rw [e5]at h0; cases h0
 | false =>
 rw [e5,cond_false]at h0
 cases e6:arV x == 0 with
 | false=>rw [e6,cond_false]at h0; rw [h0]at e6; exact absurd e6 (by decide)
 | true =>
 unfold agV at e5
 simp only [Bool.or_eq_false_iff]at e5
 obtain ⟨a1,a2,a3⟩:=e5
 have hm:yH x.At=true:=by cases hq:yH x.At with | true=>rfl | false=>rw [hq]at a1; cases a1
 unfold yH at hm
 have hm2:iK x.At 0 345686399999=false:=by cases hq:iK x.At 0 345686399999 with | false=>rfl | true=>rw [hq]at hm; cases hm
 have b1:=ve hm2
 have b2:=ve a2
 refine⟨b1,b2,fun r hr => ?_⟩
 obtain ⟨i,hi⟩:=List.getElem?_of_mem hr
 obtain ⟨q,q1,_⟩:=JC (eq_of_beq e6) i r hi
 unfold lM at q1
 refine IM ?_
 cases hb:Bb r with
 | false=>rfl
 | true=>rw [hb]at q1; cases q1
theorem alStp_0 {p:Option Alert} {x:Alert} (h:oU p x=0):alF x=0:=by
 unfold oU at h
 cases e:alF x == 0 with
 | true=>exact eq_of_beq e
 | false=>rw [e,cond_false]at h; exact h
theorem alV_ca {l:List Alert} (h:GAs l) (h0:alV l=0):CA l:=by
 have hl:=h.2
 unfold alV at h0
 cases e:chA oU none l == 0 with
 | false=>rw [e,cond_false]at h0; rw [h0]at e; exact absurd e (by decide)
 | true =>
 rw [e,cond_true]at h0
 have hd:vY [] (l.map (·.Id))=false:=by
  cases hq:vY [] (l.map (·.Id))with
  | false=>rfl
  | true=>rw [hq]at h0; cases h0
 have one:∀ x∈l,alF x=0:=fun x hx=>by
  obtain ⟨i,hi⟩:=List.getElem?_of_mem hx
  obtain ⟨q,q1,_⟩:=JC (eq_of_beq e) i x hi
  exact alStp_0 q1
 refine⟨(Bz _ _ hd).1,by omega,fun x hx => ?_,fun x hx => ?_,fun x hx=>(GX (h.1 x hx) (one x hx)).2.2,fun x hx => ?_,fun x hx => ?_⟩
 ·have:=(h.1 x hx).rlen; omega
 ·have:=(h.1 x hx).alen; omega
 ·have:=(GX (h.1 x hx) (one x hx)).1; omega
 ·have:=(GX (h.1 x hx) (one x hx)).1
  have:=(GX (h.1 x hx) (one x hx)).2.1
  omega
def tF (p:Option Post) (x:Post):Int:=bif !kG x.Player then 5 else bif iK x.X (-100000) 100000 || iK x.Y (-100000) 100000 then 1 else bif rT (fun y=>sLe x.Player y.Player) p then 7 else 0
def poV (l:List Post):Int:=chA tF none l
theorem Jy {l:List Post} (h:GPs l):∀ k x,l[k]? = some x→dN l k x ()=some (pE (tF (jL l k) x)):=fun k x hx=>by
 have hl:=h.2
 have hs:=(h.1 x (List.mem_of_getElem? hx)).player
 unfold ShA at hs
 unfold dN tF
 rw [tN _ (by omega),lT,lT,vW hx (by omega) (fun y=>some (sLe x.Player y.Player)) (fun y=>sLe x.Player y.Player) (fun y _=>rfl)]
 simp only [Option.bind_some]
 cases kG x.Player with
 | false=>rfl
 | true =>
  cases iK x.X (-100000) 100000 <;> cases iK x.Y (-100000) 100000 <;> cases rT (fun y=>sLe x.Player y.Player) (jL l k) <;> rfl
theorem poV_K {l:List Post} (h:GPs l):gJ l=some (poV l):=by
 have hl:=h.2
 unfold gJ poV
 rw [decide_eq_false (by omega),cond_false,qO (stp:=tF) (body:=fun k x s=>dN l k x s) (by omega) (Jy h),Option.bind_some]
 exact Il _
theorem GY:∀ (xs:List Post) (k:Nat) (p:Option Post) (last:ByteArray),(∀ x∈xs,GP x)→(last=match p with | some y=>y.Player | none=>⟨#[]⟩)→(chA tF p xs=0 ∧ ∃ s',forR (fun k x s=>fT k x s) xs k last=some (.go s'))∨(chA tF p xs≠0∧forR (fun k x s=>fT k x s) xs k last=some (.ret (chA tF p xs)))
 | [],k,p,last,_,_ => .inl ⟨rfl,last,rfl⟩
 | x::xs,k,p,last,hg,hlast=>by
  have hs:=(hg x (by simp)).player
  unfold ShA at hs
  have e:fT k x last=some (bif tF p x == 0 then .go x.Player else .ret (tF p x)):=by
   unfold fT tF
   rw [uy _ (by omega),yx,yx]
   simp only [Option.bind_some]
   cases hk:kG x.Player with
   | false=>rfl
   | true =>
    have hp:sLe x.Player last=rT (fun y=>sLe x.Player y.Player) p:=by
     rw [hlast]
     cases p with
     | some y=>rfl
     | none =>
      show sLe x.Player ⟨#[]⟩=false
      rw [sLe_nil]
      exact decide_eq_false (keyB_ne hk)
    rw [hp]
    cases iK x.X (-100000) 100000 <;> cases iK x.Y (-100000) 100000 <;> cases rT (fun y=>sLe x.Player y.Player) p <;> rfl
  rw [forR,e,Option.bind_some,chA]
  cases h0:tF p x == 0 with
  | true =>
   rw [cond_true,cond_true]
   exact GY xs (k + 1) (some x) x.Player (fun y hy=>hg y (by simp [hy])) rfl
  | false =>
   rw [cond_false,cond_false]
   exact .inr ⟨by simpa using h0,rfl⟩
theorem poV_R {l:List Post} (h:GPs l):kz l=some (poV l):=by
 have hl:=h.2
 unfold kz poV
 rw [decide_eq_false (by omega),cond_false,iI (by omega)]
 rcases GY l 0 none ⟨#[]⟩ h.1 rfl with⟨h1,s',h2⟩ | ⟨h1,h2⟩
 ·rw [h2,h1]; rfl
 ·rw [h2]; rfl
end Go.Proofs.YtjhcehhmdmbleaaGreatDoor.Law

open Go Go.Eng
namespace Go.Proofs.YtjhcehhmdmbleaaGreatDoor.Law
set_option linter.unusedVariables false
set_option linter.unusedSimpArgs false
set_option maxRecDepth 100000
theorem contS (l:List ByteArray) (v:ByteArray) (hl:l.length≤1000000):dE l v=some (decide (v∈l)):=by
 unfold dE fJ
 rw [iI (by omega)]
 rcases wN (f:=fun x=>some (sEq v x)) (p:=fun x=>sEq v x) (B:=fun k x s=>eU v k x s) (fun k x=>rfl) l 0 (fun x _=>rfl)with⟨h1,h2⟩ | ⟨j,x,h1,h2,_,h4,_⟩
 ·rw [h2]
  have:v∉l:=fun hm=>by
   have:l.any (fun x=>sEq v x)=true:=List.any_eq_true.2 ⟨v,hm,(yT v v).2 rfl⟩
   rw [h1]at this; cases this
  rw [decide_eq_false this]; rfl
 ·rw [h4]
  have:v∈l:=by rw [(yT _ _).1 h2]; exact List.mem_of_getElem? h1
  rw [decide_eq_true this]
  simp only [Option.bind_some,thenC]
  rw [decide_eq_true (by omega)]
theorem IR {a o:Alert} (ha:GA a) (ho:GA o) (r:ByteArray):kN o r a=some (og a o r):=by
 obtain ⟨n,n1,n2⟩:=Bg ho ha
 unfold kN og
 rw [uw,uw,n1]
 have:decide (n < 0)=decide (befA o a):=by rw [decide_eq_decide]; exact n2
 cases decide (o.Id=r) <;> cases decide (o.Sender=a.Sender) <;> simp [this]
theorem KX {l:List Alert} (h:GAs l) {a:Alert} (ha:GA a) (r:ByteArray):qH l a r=some (l.any fun o=>og a o r):=by
 have hl:=h.2
 unfold qH bR bg
 rw [iI (by omega)]
 rcases wN (f:=fun x0=>kN x0 r a) (p:=fun o=>og a o r) (B:=fun k x s=>bz (fun x0=>kN x0 r a) k x s) (fun k x=>rfl) l 0 (fun x hx=>IR ha (h.1 x hx) r)with⟨h1,h2⟩ | ⟨j,x,h1,h2,_,h4,h5⟩
 ·rw [h2,h1]; rfl
 ·rw [h4,h5]
  simp only [Option.bind_some,thenC]
  rw [decide_eq_true (by omega)]
theorem JF {l:List Alert} (hid:(l.map (·.Id)).Nodup) {z:Alert} (hz:z∈l) (a:Alert):(l.any fun o=>og a o z.Id)=og a z z.Id:=by
 rw [Bool.eq_iff_iff,List.any_eq_true]
 constructor
 ·rintro ⟨o,ho,h⟩
  obtain ⟨i,hi⟩:=List.getElem?_of_mem ho
  obtain ⟨j,hj⟩:=List.getElem?_of_mem hz
  have:=EZ hid hi hj (wS.1 h).1
  subst this
  rw [hi]at hj
  rw [← Option.some.inj hj]
  have e:=Option.some.inj hj
  rw [← e]at h
  exact h
 ·exact fun h=>⟨z,hz,h⟩
theorem KL {l:List Alert} (h:GAs l) (hid:(l.map (·.Id)).Nodup) {z:Alert} (hz:z∈l):qK l z=some (endV l z):=by
 have hl:=h.2
 unfold qK
 obtain ⟨t,t1,t2⟩:=kW (body:=fun k x s=>mJ z l k x s) (fun k s=>s=endV (l.take k) z) (xs:=l) (s:=z.Until) (by omega) (fun k x s hx hs=>by
  have et:l.take (k + 1)=l.take k ++ [x]:=by rw [List.take_add_one,hx]; rfl
  have hgx:=h.1 x (List.mem_of_getElem? hx)
  have hrl:=hgx.rlen
  unfold mJ
  rw [contS _ _ (by omega),KX h hgx,JF hid hz,hs,et,BZ]
  have ec:xz x z=(decide (z.Id∈x.Refs) && og x z z.Id):=by
   unfold xz og
   rw [decide_eq_true (rfl:z.Id=z.Id),Bool.true_and]
  rw [ec]
  simp only [Option.bind_some]
  cases decide (z.Id∈x.Refs)with
  | false=>exact⟨_,rfl,rfl⟩
  | true =>
   cases og x z z.Id with
   | false=>exact⟨_,rfl,rfl⟩
   | true=>exact⟨_,rfl,by rw [← J2]; rfl⟩) rfl
 rw [t1,t2,List.take_length]; rfl
theorem Iw {l:List Alert} (h:GAs l) (hid:(l.map (·.Id)).Nodup) {z:Alert} (hz:z∈l) (t:Int):oZ l z t=some (onB l t z):=by
 unfold oZ onB
 rw [KL h hid hz]
 have e:(z.Kind != 3)=decide (z.Kind≠3):=by rw [Bool.eq_iff_iff]; simp
 rw [e]
 cases decide (z.Kind≠3) <;> cases decide (z.At≤t) <;> rfl
theorem refHas {r:Rect} (h:Fine r) (x y:Int):wM r x y=some (sI x y r):=by
 unfold Fine at h
 unfold wM sI jg
 rw [dC (n:=r.X + r.W) (by omega),dC (n:=r.Y + r.H) (by omega),dC (n:=r.X + r.W - 1) (by omega),dC (n:=r.Y + r.H - 1) (by omega)]
 have e1:decide (x≤r.X + r.W - 1)=decide (x < r.X + r.W):=by rw [decide_eq_decide]; omega
 have e2:decide (y≤r.Y + r.H - 1)=decide (y < r.Y + r.H):=by rw [decide_eq_decide]; omega
 rw [e1,e2]
 cases decide (r.X≤x) <;> cases decide (x < r.X + r.W) <;> cases decide (r.Y≤y) <;> rfl
theorem Cx {x:Alert} (h:∀ r∈x.Areas,Fine r) (hl:x.Areas.length≤1000) (p:Post):lI x p=some (hasB x.Areas p.X p.Y):=by
 unfold lI wy
 rw [JV (fun x0=>oI x0 p.X p.Y) (sI p.X p.Y) (fun r hr=>by
  unfold oI
  rw [refHas (h r hr)]; rfl) (by omega)]
 rfl
def cD (a b:Alert):Int:=bif or0 (lJ b.Weight a.Weight) (lJ b.At a.At) != 0 then or0 (lJ b.Weight a.Weight) (lJ b.At a.At)else xX a.Id b.Id
theorem KO (a b c d:Int):fI [a,b] [c,d]=some (or0 (lJ a c) (lJ b d)):=by
 unfold fI or0
 rw [iI (by simp)]
 have f1:bT [c,d] 0 a ()=some (bif lJ a c != 0 then .ret (lJ a c)else .go ()):=by
  unfold bT
  rw [decide_eq_false (by simp),cond_false]
  show ((some c).bind fun y_14=>_)=_
  rw [Option.bind_some,ul,Option.bind_some]
  cases lJ a c != 0 <;> rfl
 have f2:bT [c,d] (0 + 1) b ()=some (bif lJ b d != 0 then .ret (lJ b d)else .go ()):=by
  unfold bT
  rw [decide_eq_false (by simp),cond_false]
  show ((some d).bind fun y_14=>_)=_
  rw [Option.bind_some,ul,Option.bind_some]
  cases lJ b d != 0 <;> rfl
 simp only [forR,f1,f2,Option.bind_some]
 cases ha:lJ a c == 0 with
 | false =>
  have:(lJ a c != 0)=true:=by simp [bne,ha]
  rw [this]; rfl
 | true =>
  have:(lJ a c != 0)=false:=by simp [bne,ha]
  rw [this]
  simp only [cond_false,cond_true]
  cases hb:lJ b d == 0 with
  | false =>
   have:(lJ b d != 0)=true:=by simp [bne,hb]
   rw [this]; rfl
  | true =>
   have:(lJ b d != 0)=false:=by simp [bne,hb]
   rw [this,eq_of_beq hb]; rfl
theorem FX (a b:Alert):ji a b=some (cD a b):=by
 unfold ji cD
 rw [KO,Option.bind_some,qY]
 cases or0 (lJ b.Weight a.Weight) (lJ b.At a.At) != 0 <;> rfl
theorem xc {a b:Alert}:cD a b < 0↔qp a b=true:=by
 rw [← vE]
 unfold cD cR
 by_cases h:or0 (lJ b.Weight a.Weight) (lJ b.At a.At)=0
 ·obtain ⟨h1,h2⟩:=Ac.1 h
  rw [h,h1,h2]; exact Iff.rfl
 ·have:(or0 (lJ b.Weight a.Weight) (lJ b.At a.At) != 0)=true:=by simpa using h
  rw [this,cond_true,uh,uh,uh]
  constructor
  ·rintro (q | ⟨q,q2⟩)
   ·exact .inl q
   ·exact .inr ⟨q,.inl q2⟩
  ·rintro (q | ⟨q,q2 | ⟨q2,q3⟩⟩)
   ·exact .inl q
   ·exact .inr ⟨q,q2⟩
   ·exact absurd (Ac.2 ⟨q,q2⟩) h
theorem Du {l:List Alert} (h:GAs l) (hc:CA l) (p:Post) (t:Int):mH l p t=some ((nK l p.X p.Y t).map (·.Id)):=by
 have hl:=hc.len
 unfold mH
 obtain ⟨u,u1,u2⟩:=kW (body:=fun k x s=>jP l t p k x s) (fun k s=>s=qc l (l.take k) p.X p.Y t) (xs:=l) (s:=([]:List Alert)) (by omega) (fun k x s hx hs=>by
  have et:l.take (k + 1)=l.take k ++ [x]:=by rw [List.take_add_one,hx]; rfl
  have hm:=List.mem_of_getElem? hx
  have hf:qc l (l.take (k + 1)) p.X p.Y t=qc l (l.take k) p.X p.Y t++(bif onB l t x && hasB x.Areas p.X p.Y then [x]else []):=by
   unfold qc
   rw [et,List.filter_append]
   congr 1
  have hsl:s.length≤1000:=by
   rw [hs]
   refine Nat.le_trans (List.length_filter_le _ _) ?_
   have:=take_len l k
   omega
  unfold jP
  rw [Iw h hc.ids hm,Cx (hc.areas x hm) (hc.alen x hm)]
  rw [hf,← hs]
  simp only [Option.bind_some]
  cases onB l t x with
  | false=>exact⟨_,rfl,by simp⟩
  | true =>
   cases hasB x.Areas p.X p.Y with
   | false=>exact⟨_,rfl,by simp⟩
   | true =>
    simp only [Option.bind_some,cond_true,Bool.and_true]
    rw [lN _ _ (by simp only [List.length_cons,List.length_nil]; omega)]
    exact⟨_,rfl,rfl⟩) rfl
 rw [u1,u2,List.take_length]
 simp only [Option.bind_some,thenC]
 have e0:qc l l p.X p.Y t=mP l p.X p.Y t:=rfl
 rw [e0]
 have hrl:(mP l p.X p.Y t).length≤12:=by
  have:(mP l p.X p.Y t).length≤l.length:=List.length_filter_le _ _
  omega
 obtain ⟨r,r1,r2,r3⟩:=Gv (cmp:=ji) (S:=bX) cD (fun _=>rfl) (xs:=mP l p.X p.Y t) hrl (fun a _ b _=>FX a b)
  (fun a b q1 q2=>by have:=u7 _ _ _ (xc.1 q1) (xc.1 q2); rw [Af]at this; cases this)
  (fun a b c q1 q2 q3=>ED (fun e=>q1 (xc.2 e)) (fun e=>q2 (xc.2 e)) (xc.1 q3))
 have hrr:=Hr hc.ids p.X p.Y t r2 (r3.imp (fun {a b} q=>by
  cases hb:qp b a with
  | false=>rfl
  | true=>exact absurd (xc.2 hb) q))
 have e3:iO r (mP l p.X p.Y t)=some ():=by unfold iO; rw [if_pos r2.length_eq]
 rw [r1,Option.bind_some,e3,Option.bind_some,hrr]
 have hr:=KH l p.X p.Y t
 obtain ⟨v,v1,v2⟩:=kW (body:=fun k x s=>jN k x s) (fun k s=>s=((nK l p.X p.Y t).take k).map (·.Id)) (xs:=nK l p.X p.Y t) (s:=([]:List ByteArray)) (by omega) (fun k x s hx hs=>by
  have et:(nK l p.X p.Y t).take (k + 1)=(nK l p.X p.Y t).take k ++ [x]:=by rw [List.take_add_one,hx]; rfl
  have:=take_len (nK l p.X p.Y t) k
  unfold jN
  rw [hs,lN _ _ (by simp only [List.length_map,List.length_cons,List.length_nil]; omega)]
  exact⟨_,rfl,by rw [et,List.map_append]; rfl⟩) rfl
 rw [v1,v2,List.take_length]; rfl
theorem AX {l:List Alert} (h:GAs l) (hc:CA l) (p:Post) (t:Int):kJ l p t=some (mY l p.X p.Y t,!(nK l p.X p.Y t).isEmpty):=by
 unfold kJ
 rw [Du h hc,Option.bind_some]
 unfold mY
 cases nK l p.X p.Y t with
 | nil=>rfl
 | cons z r =>
  have:((((z::r).map (·.Id)).length:Int) == 0)=false:=by rw [beq_eq_false_iff_ne]; simp only [List.map_cons,List.length_cons]; omega
  rw [this,cond_false]; rfl
end Go.Proofs.YtjhcehhmdmbleaaGreatDoor.Law

open Go Go.Eng
namespace Go.Proofs.YtjhcehhmdmbleaaGreatDoor.Law
set_option linter.unusedVariables false
set_option linter.unusedSimpArgs false
set_option maxRecDepth 100000
def mR (s_1:ByteArray):Option (Bool) :=
 (EU 0 (fun s=>iQ s_1 s)).bind fun o_10=>thenC o_10 (fun s_7=>(bif (sNe s_1 (⟨#[]⟩:ByteArray))then some (decide ((s_1.size:Int)≤40))else some false).bind fun v_30=>some v_30) (fun r=>some r)
theorem qU (s_1:ByteArray):Le (mR s_1) (kit_IsKey s_1):=by
 unfold mR kit_IsKey
 repeat' (with_reducible first | exact Le.refl _ | refine Le.loop (fun _ => ?_) | refine Le.forL (fun _ _ _ => ?_) | refine Le.thenC (fun _ => ?_) (fun _ => ?_) | refine Le.cond ?_ ?_ | refine Le.bind ?_ (fun _ => ?_))
def lm (a_1:Alert) (k_4:Nat) (x_6:ByteArray) (s_9:Unit):Option (Ctl (Unit) (Int)) :=
 (mR x_6).bind fun r_14=>bif (!r_14)then some (.ret 5)else (bif (decide ((k_4:Int) > 0))then (idx a_1.Refs (w64 ((k_4:Int) - 1))).bind fun y_20=>some (sLe x_6 y_20)else some false).bind fun v_17=>bif v_17 then some (.ret 7)else bif (sEq x_6 a_1.Id)then some (.ret 14)else some (.go ())
theorem rW (a_1:Alert) (k_4:Nat) (x_6:ByteArray) (s_9:Unit):Le (lm a_1 k_4 x_6 s_9) (eB a_1 k_4 x_6 s_9):=by
 unfold lm eB
 repeat' (with_reducible first | exact Le.refl _ | exact qU _ | refine Le.loop (fun _ => ?_) | refine Le.forL (fun _ _ _ => ?_) | refine Le.thenC (fun _ => ?_) (fun _ => ?_) | refine Le.cond ?_ ?_ | refine Le.bind ?_ (fun _ => ?_))
def mW (a_1:Alert):Option (Int) :=
 bif (decide ((a_1.Refs.length:Int) > 20))then some 2 else (forL a_1.Refs () (fun k x s=>lm a_1 k x s)).bind fun o_12=>thenC o_12 (fun s_9=>bif (!((a_1.Kind == 1) == ((a_1.Refs.length:Int) == 0)))then some 3 else some 0) (fun r=>some r)
theorem vC (a_1:Alert):Le (mW a_1) (ib a_1):=by
 unfold mW ib
 repeat' (with_reducible first | exact Le.refl _ | exact rW _ _ _ _ | refine Le.loop (fun _ => ?_) | refine Le.forL (fun _ _ _ => ?_) | refine Le.thenC (fun _ => ?_) (fun _ => ?_) | refine Le.cond ?_ ?_ | refine Le.bind ?_ (fun _ => ?_))
def mK (a_1:Alert):Option (Int) :=
 ((mR a_1.Id).bind fun r_5=>bif (!r_5)then some true else (mR a_1.Sender).bind fun r_8=>some (!r_8)).bind fun v_3=>bif v_3 then some 5 else (bW a_1.Kind 1 3).bind fun r_11=>bif r_11 then some 4 else (mW a_1).bind fun r_14=>bif (r_14 != 0)then some r_14 else ((lc a_1.At).bind fun r_19=>bif (!r_19)then some true else (bW a_1.Until (w64 (a_1.At + 1)) (w64 (a_1.At + 2592000000))).bind fun r_22=>bif r_22 then some true else (bW a_1.Weight 1 9).bind fun r_25=>some r_25).bind fun v_17=>bif v_17 then some 1 else bif (decide ((a_1.Areas.length:Int) > 20))then some 2 else (forL a_1.Areas () (fun k x s=>eQ k x s)).bind fun o_37=>thenC o_37 (fun s_34=>bif (!((a_1.Kind == 3) == ((a_1.Areas.length:Int) == 0)))then some 3 else bif (decide ((a_1.Text.size:Int) > 500))then some 2 else ((fu a_1.Text).bind fun r_47=>bif (!r_47)then some true else bif (sEq a_1.Text (⟨#[]⟩:ByteArray))then some (!(a_1.Kind == 3))else some false).bind fun v_45=>bif v_45 then some 3 else some 0) (fun r=>some r)
theorem uI (a_1:Alert):Le (mK a_1) (gD a_1):=by
 unfold mK gD
 repeat' (with_reducible first | exact Le.refl _ | exact qU _ | exact vC _ | exact fq _ | exact yC _ | refine Le.loop (fun _ => ?_) | refine Le.forL (fun _ _ _ => ?_) | refine Le.thenC (fun _ => ?_) (fun _ => ?_) | refine Le.cond ?_ ?_ | refine Le.bind ?_ (fun _ => ?_))
def ko (l_1:(List Alert)) (k_3:Nat) (x_5:Alert) (s_8:Unit):Option (Ctl (Unit) (Int)) :=
 (mK x_5).bind fun r_14=>bif (r_14 != 0)then some (.ret r_14)else (bif (decide ((k_3:Int) > 0))then (idx l_1 (w64 ((k_3:Int) - 1))).bind fun y_20=>(ik y_20 x_5).bind fun r_22=>some (decide (r_22≥0))else some false).bind fun v_17=>bif v_17 then some (.ret 7)else some (.go ())
theorem qy (l_1:(List Alert)) (k_3:Nat) (x_5:Alert) (s_8:Unit):Le (ko l_1 k_3 x_5 s_8) (dF l_1 k_3 x_5 s_8):=by
 unfold ko dF
 repeat' (with_reducible first | exact Le.refl _ | exact uI _ | refine Le.loop (fun _ => ?_) | refine Le.forL (fun _ _ _ => ?_) | refine Le.thenC (fun _ => ?_) (fun _ => ?_) | refine Le.cond ?_ ?_ | refine Le.bind ?_ (fun _ => ?_))
def lU (l_1:(List Alert)):Option (Int) :=
 bif (decide ((l_1.length:Int) > 300))then some 2 else (forL l_1 () (fun k x s=>ko l_1 k x s)).bind fun o_11=>thenC o_11 (fun s_8=>(forL l_1 ([]:List (ByteArray×Bool)) (fun k x s=>bK k x s)).bind fun o_34=>thenC o_34 (fun s_31=>some 0) (fun r=>some r)) (fun r=>some r)
theorem sW (l_1:(List Alert)):Le (lU l_1) (fP l_1):=by
 unfold lU fP
 repeat' (with_reducible first | exact Le.refl _ | exact qy _ _ _ _ | refine Le.loop (fun _ => ?_) | refine Le.forL (fun _ _ _ => ?_) | refine Le.thenC (fun _ => ?_) (fun _ => ?_) | refine Le.cond ?_ ?_ | refine Le.bind ?_ (fun _ => ?_))
def kM (l_1:(List Post)) (k_3:Nat) (x_5:Post) (s_8:Unit):Option (Ctl (Unit) (Int)) :=
 (mR x_5.Player).bind fun r_14=>bif (!r_14)then some (.ret 5)else ((bW x_5.X (-100000) 100000).bind fun r_19=>bif r_19 then some true else (bW x_5.Y (-100000) 100000).bind fun r_22=>some r_22).bind fun v_17=>bif v_17 then some (.ret 1)else (bif (decide ((k_3:Int) > 0))then (idx l_1 (w64 ((k_3:Int) - 1))).bind fun y_28=>some (sLe x_5.Player y_28.Player)else some false).bind fun v_25=>bif v_25 then some (.ret 7)else some (.go ())
theorem q9 (l_1:(List Post)) (k_3:Nat) (x_5:Post) (s_8:Unit):Le (kM l_1 k_3 x_5 s_8) (dN l_1 k_3 x_5 s_8):=by
 unfold kM dN
 repeat' (with_reducible first | exact Le.refl _ | exact qU _ | refine Le.loop (fun _ => ?_) | refine Le.forL (fun _ _ _ => ?_) | refine Le.thenC (fun _ => ?_) (fun _ => ?_) | refine Le.cond ?_ ?_ | refine Le.bind ?_ (fun _ => ?_))
def mF (l_1:(List Post)):Option (Int) :=
 bif (decide ((l_1.length:Int) > 500))then some 2 else (forL l_1 () (fun k x s=>kM l_1 k x s)).bind fun o_11=>thenC o_11 (fun s_8=>some 0) (fun r=>some r)
theorem uK (l_1:(List Post)):Le (mF l_1) (gJ l_1):=by
 unfold mF gJ
 repeat' (with_reducible first | exact Le.refl _ | exact q9 _ _ _ _ | refine Le.loop (fun _ => ?_) | refine Le.forL (fun _ _ _ => ?_) | refine Le.thenC (fun _ => ?_) (fun _ => ?_) | refine Le.cond ?_ ?_ | refine Le.bind ?_ (fun _ => ?_))
def mZ (l_1:(List Alert)) (posts_2:(List Post)):Option (Int) :=
 (lU l_1).bind fun r_3=>bif (r_3 != 0)then some r_3 else (mF posts_2).bind fun r_6=>some r_6
theorem vO (l_1:(List Alert)) (posts_2:(List Post)):Le (mZ l_1 posts_2) (gm l_1 posts_2):=by
 unfold mZ gm
 repeat' (with_reducible first | exact Le.refl _ | exact sW _ | exact uK _ | refine Le.loop (fun _ => ?_) | refine Le.forL (fun _ _ _ => ?_) | refine Le.thenC (fun _ => ?_) (fun _ => ?_) | refine Le.cond ?_ ?_ | refine Le.bind ?_ (fun _ => ?_))
def o8 (a_1:Alert) (p_2:Post):Option (Bool×Int) :=
 (mZ ([a_1]:List Alert) ([p_2]:List Post)).bind fun r_5=>bif (r_5 != 0)then some (false,r_5)else (iT a_1 p_2).bind fun r_8=>some (r_8,0)
theorem xD (a_1:Alert) (p_2:Post):Le (o8 a_1 p_2) (lF a_1 p_2):=by
 unfold o8 lF
 repeat' (with_reducible first | exact Le.refl _ | exact vO _ _ | refine Le.loop (fun _ => ?_) | refine Le.forL (fun _ _ _ => ?_) | refine Le.thenC (fun _ => ?_) (fun _ => ?_) | refine Le.cond ?_ ?_ | refine Le.bind ?_ (fun _ => ?_))
def sN  : Option (Bool) :=
 (o8 (⟨(⟨#[97]⟩:ByteArray),(⟨#[115]⟩:ByteArray),1,([]:List ByteArray),0,5,1,([(⟨0,0,2,2⟩:Rect)]:List Rect),(⟨#[120]⟩:ByteArray)⟩:Alert) (⟨(⟨#[112]⟩:ByteArray),1,1⟩:Post)).bind fun r_2=>(bif (r_2.2 == 0)then some r_2.1 else some false).bind fun v_4=>some v_4
theorem Bf  : Le (sN) (lV):=by
 unfold sN lV
 repeat' (with_reducible first | exact Le.refl _ | exact xD _ _ | refine Le.loop (fun _ => ?_) | refine Le.forL (fun _ _ _ => ?_) | refine Le.thenC (fun _ => ?_) (fun _ => ?_) | refine Le.cond ?_ ?_ | refine Le.bind ?_ (fun _ => ?_))
end Go.Proofs.YtjhcehhmdmbleaaGreatDoor.Law

open Go Go.Eng
namespace Go.Proofs.YtjhcehhmdmbleaaGreatDoor.Law
set_option linter.unusedVariables false
set_option maxRecDepth 100000
theorem J7:sN=some true:=by kernel_rfl
theorem IL:lV=some true:=Bf _ J7
end Go.Proofs.YtjhcehhmdmbleaaGreatDoor.Law

open Go Go.Eng
namespace Go.Proofs.YtjhcehhmdmbleaaGreatDoor.Law
set_option linter.unusedVariables false
set_option linter.unusedSimpArgs false
set_option maxRecDepth 100000
theorem FK (a b c:Int):tO [a,b,c]=some (or0 a (or0 b c)):=by
 unfold tO or0
 rw [iI (by simp)]
 simp only [forR,pQ]
 cases ha:a == 0 with
 | false =>
  have:(a != 0)=true:=by simp [bne,ha]
  simp only [this,cond_true,cond_false,Option.bind_some,thenC]
 | true =>
  have:(a != 0)=false:=by simp [bne,ha]
  simp only [this,cond_true,cond_false,Option.bind_some]
  cases hb:b == 0 with
  | false =>
   have:(b != 0)=true:=by simp [bne,hb]
   simp only [this,cond_true,cond_false,Option.bind_some,thenC]
  | true =>
   have:(b != 0)=false:=by simp [bne,hb]
   simp only [this,cond_true,cond_false,Option.bind_some]
   cases hc:c == 0 with
   | false =>
    have:(c != 0)=true:=by simp [bne,hc]
    simp only [this,cond_true,cond_false,Option.bind_some,thenC]
   | true =>
    have:(c != 0)=false:=by simp [bne,hc]
    simp only [this,cond_true,cond_false,Option.bind_some,thenC]
    rw [eq_of_beq hc]
theorem both_eq {l:List Alert} (h:GAs l) {ps:List Post} (hp:GPs ps):gm l ps=some (or0 (alV l) (poV ps)):=by
 unfold gm or0
 rw [alV_K h,poV_K hp,Option.bind_some,Option.bind_some]
 by_cases h0:alV l=0
 ·rw [h0]; rfl
 ·have e1:(alV l == 0)=false:=by simpa using h0
  have e2:(alV l != 0)=true:=by simp [bne,e1]
  rw [e1,e2]; rfl
theorem Bw (a b c:Int):or0 (or0 a b) c=or0 a (or0 b c):=by
 unfold or0
 by_cases h:a=0
 ·rw [h]; rfl
 ·have e1:(a == 0)=false:=by simpa using h
  simp only [e1,cond_false]
theorem oneGP {x:Post} (h:GP x):GPs [x]:=⟨fun y hy=>by rw [List.mem_singleton.1 hy]; exact h,by simp⟩
end Go.Proofs.YtjhcehhmdmbleaaGreatDoor.Law

open Go Go.Eng
namespace Go.Proofs.YtjhcehhmdmbleaaGreatDoor.Law
set_option linter.unusedVariables false
set_option linter.unusedSimpArgs false
structure EI (l m:List Alert) (F T:Int) (E:List Int):Prop where
 from_:F∈E
 to_:T∈E
 in_:∀ x∈E,F≤x∧x≤T
 at_:∀ z∈m,F < z.At→z.At < T→z.At∈E
 end_:∀ z∈m,F < endV l z→endV l z < T→endV l z∈E
 len:E.length≤2 + 2 * m.length
theorem wW (F T n:Int) (E:List Int) (hl:E.length≤100000):∃ E',(bif (decide (F < n))then some (decide (n < T))else some false).bind (fun v=>(bif v then (pJ E [n]).bind fun a=>some a else some E).bind fun v=>some ((.go v):Ctl (List Int) Unit))=some (.go E')∧(∀ x∈E,x∈E')∧(∀ x∈E',x∈E∨F < x∧x < T)∧(F < n→n < T→n∈E')∧E'.length≤E.length + 1:=by
 by_cases h1:F < n
 ·by_cases h2:n < T
  ·refine⟨E ++ [n],?_,fun x hx=>List.mem_append_left _ hx,fun x hx => ?_,fun _ _=>List.mem_append_right _ (List.mem_singleton.2 rfl),by simp⟩
   ·rw [decide_eq_true h1,decide_eq_true h2]
    simp only [cond_true,Option.bind_some]
    rw [lN _ _ (by simp; omega)]; rfl
   ·rcases List.mem_append.1 hx with hx | hx
    ·exact .inl hx
    ·rw [List.mem_singleton.1 hx]; exact .inr ⟨h1,h2⟩
  ·refine⟨E,?_,fun x hx=>hx,fun x hx => .inl hx,fun _ h=>absurd h h2,by omega⟩
   rw [decide_eq_true h1,decide_eq_false h2]; rfl
 ·refine⟨E,?_,fun x hx=>hx,fun x hx => .inl hx,fun h _=>absurd h h1,by omega⟩
  rw [decide_eq_false h1]; rfl
theorem FZ {l:List Alert} (h:CA l) {w:Window} {k:Nat} {x:Alert} (hx:l[k]? = some x) {E:List Int} (hE:EI l (l.take k) w.From w.To E):∃ E',iy (l.map (endV l)) w k x E=some (.go E')∧EI l (l.take (k + 1)) w.From w.To E':=by
 have hl:=h.len
 have et:l.take (k + 1)=l.take k ++ [x]:=by rw [List.take_add_one,hx]; rfl
 have hel:=hE.len
 have htk:=take_len l k
 have hlt:(l.take k).length=k:=by
  obtain ⟨hk,_⟩:=List.getElem?_eq_some_iff.1 hx
  rw [List.length_take]; omega
 obtain ⟨E1,a1,a2,a3,a4,a5⟩:=wW w.From w.To x.At E (by omega)
 obtain ⟨E2,b1,b2,b3,b4,b5⟩:=wW w.From w.To (endV l x) E1 (by omega)
 refine⟨E2,?_,?_⟩
 ·unfold iy
  rw [H8 hx,Option.bind_some,iI (by simp)]
  have c1:iZ x (endV l x) w 0 0 E=some (.go E1):=a1
  have c2:iZ x (endV l x) w (0 + 1) 1 E1=some (.go E2):=b1
  show (forR _ [0,1] 0 E).bind _=_
  simp only [forR,c1,c2,Option.bind_some,thenC]
 ·refine⟨b2 _ (a2 _ hE.from_),b2 _ (a2 _ hE.to_),fun y hy => ?_,fun z hz g1 g2 => ?_,fun z hz g1 g2 => ?_,by rw [et,List.length_append]; simp only [List.length_cons,List.length_nil]; omega⟩
  ·rcases b3 y hy with q | q
   ·rcases a3 y q with q | q
    ·exact hE.in_ y q
    ·omega
   ·omega
  ·rw [et]at hz
   rcases List.mem_append.1 hz with hz | hz
   ·exact b2 _ (a2 _ (hE.at_ z hz g1 g2))
   ·rw [List.mem_singleton.1 hz]at g1 g2 ⊢
    exact b2 _ (a4 g1 g2)
  ·rw [et]at hz
   rcases List.mem_append.1 hz with hz | hz
   ·exact b2 _ (a2 _ (hE.end_ z hz g1 g2))
   ·rw [List.mem_singleton.1 hz]at g1 g2 ⊢
    exact b4 g1 g2
theorem Kz {α:Type} {xs:List α} {n:Nat} (h:xs.length=n + 1) (hn:n≤1000000):w64 ((xs.length:Int) - 1)=(n:Int):=by
 rw [dC (by omega)]; omega
def di (id:ByteArray) (a b:Int) (out:List Slot_):Option (List Slot_) :=
 (bif (decide ((w64 ((out.length:Int) - 1))≥0))then (inR (w64 ((out.length:Int) - 1)) out).bind fun _=>(out[(0 + ((w64 ((out.length:Int) - 1))).toNat)]?).bind fun e_81=>some (sEq e_81.Entry id)else some false).bind fun v_77 =>
 (bif v_77 then (inR (w64 ((out.length:Int) - 1)) out).bind fun _=>(out[(0 + ((w64 ((out.length:Int) - 1))).toNat)]?).bind fun e_90=>some (out.set (0 + ((w64 ((out.length:Int) - 1))).toNat) (⟨(⟨e_90.Time.From,b⟩:Window),e_90.Entry⟩:Slot_))
 else (pJ out ([(⟨(⟨a,b⟩:Window),id⟩:Slot_)]:List Slot_)).bind fun a_96=>some a_96)
theorem Hf (id:ByteArray) (a b:Int) (out:List Slot_) (hl:out.length≤1000000):di id a b out=some (r9 id a b out):=by
 unfold di
 cases ho:out.length with
 | zero =>
  have e:=List.eq_nil_of_length_eq_zero ho
  subst e
  rw [decide_eq_false (by decide)]; rfl
 | succ n =>
  rw [← ho,Kz ho (by omega),decide_eq_true (by omega),cond_true,Cr (by omega) (by omega)]
  have hn:n < out.length:=by omega
  have e1:out[(0 + ((n:Int)).toNat)]? = some out[n]:=by rw [show 0 + ((n:Int)).toNat=n by omega]; exact List.getElem?_eq_getElem hn
  rw [e1]
  simp only [Option.bind_some,uw]
  by_cases he:out[n].Entry=id
  ·rw [decide_eq_true he,cond_true,DU id a b out n _ ho (List.getElem?_eq_getElem hn) he,show 0 + ((n:Int)).toNat=n by omega]
  ·rw [decide_eq_false he,cond_false,lN _ _ (by simp; omega),Fg id a b out (fun m x h1 h2=>by
    obtain rfl:m=n:=by omega
    rw [List.getElem?_eq_getElem hn,Option.some.injEq]at h2
    rw [← h2]; exact he)]; rfl
theorem F4 {f:Int→ByteArray} {E:List Int} {F T:Int} (hE:E.Pairwise (· < ·)) (hl:E.length≤1000000) (h0:E[0]? = some F) (hT:E[E.length - 1]? = some T)
  (hf:∀ (i:Nat) (a b:Int),E[i]? = some a→E[i + 1]? = some b → ∀ t,a≤t→t < b→f t=f a)
  {body:(List Slot_×Int)→Option (Ctl (List Slot_×Int) Unit)} (hgo:∀ (i:Nat) (out:List Slot_) (a b:Int),E[i]? = some a→E[i + 1]? = some b→body (out,(i:Int))=(di (f a) a b out).bind fun v=>some (.go (v,w64 ((i:Int) + 1))))
  (hbrk:∀ (i:Nat) (out:List Slot_),i + 1=E.length→body (out,(i:Int))=some (.brk (out,(i:Int)))):∃ out i,ic (([]:List Slot_),(0:Int)) body=some (.go (out,i))∧fK f T F out∧out.length≤E.length:=by
 have hlen:0 < E.length:=(List.getElem?_eq_some_iff.1 h0).1
 obtain ⟨s,s1,s2⟩:=BS (body:=body) (fun k s=>s.2=(k:Int)∧s.1.length≤k ∧ ∃ a,E[k]? = some a∧fK f a F s.1) (E.length - 1) (fun k s hk ⟨i1,i2,a,i3,i4⟩=>by
  obtain ⟨out,n⟩:=s
  simp only at i1 i2 i4
  subst i1
  have hb:E[k + 1]? = some E[k + 1]:=List.getElem?_eq_getElem (by omega)
  rw [hgo k out a _ i3 hb,Hf _ _ _ _ (by omega)]
  refine⟨_,rfl,by simp only []; rw [dC (by omega)]; omega,?_,_,hb,?_⟩
  ·simp only []
   have:=zU (f a) a E[k + 1] out
   omega
  ·exact fK.add (BU hE i3 hb) (fun t t1 t2=>hf k a _ i3 hb t t1 t2) out F i4) (fun s ⟨i1,i2,a,i3,i4⟩=>by
  obtain ⟨out,n⟩:=s
  simp only at i1
  subst i1
  exact hbrk _ out (by omega)) (s:=(([]:List Slot_),(0:Int))) ⟨rfl,Nat.le_refl _,F,h0,by unfold fK; rfl⟩
 obtain ⟨_,i2,a,i3,i4⟩:=s2
 rw [hT,Option.some.injEq]at i3
 exact⟨s.1,s.2,s1,by rw [i3]; exact i4,by omega⟩
theorem FH {l:List Alert} (h:CA l) (p:Post) {w:Window} (hw:w.From≤w.To) (hb : -1000000000000000≤w.From∧w.To≤1000000000000000):∃ t,jZ l p w=some t∧fK (mY l p.X p.Y) w.To w.From t∧t.length≤10000:=by
 have hl:=h.len
 unfold jZ
 rw [ends_eq h,Option.bind_some]
 obtain ⟨E,e1,e2⟩:=kW (body:=fun k x s=>iy (l.map (endV l)) w k x s) (fun k s=>EI l (l.take k) w.From w.To s) (xs:=l) (s:=([w.From,w.To]:List Int)) (by omega) (fun k x s hx hs=>FZ h hx hs)
  ⟨by simp,by simp,fun x hx=>by
   simp only [List.mem_cons,List.not_mem_nil,or_false]at hx
   rcases hx with rfl | rfl <;> omega,fun z hz=>(by cases hz),fun z hz=>(by cases hz),by simp⟩
 rw [List.take_length]at e2
 have hel:=e2.len
 rw [e1]
 simp only [Option.bind_some,thenC]
 have hne:neL E=some ():=by
  unfold neL
  have:=List.ne_nil_of_mem e2.from_
  first | rw [if_pos this] | (cases E with | nil=>exact absurd rfl this | cons a E=>rfl)
 obtain ⟨s,C,c1,c2,c3,c4,c5,c6⟩:=sortC E (by omega)
 have c2':iO s E=some ():=by unfold iO; rw [if_pos c2]
 rw [hne,Option.bind_some,c1,Option.bind_some,c2',Option.bind_some,c3,Option.bind_some]
 have hin:∀ x∈C,w.From≤x∧x≤w.To:=fun x hx=>e2.in_ x ((c5 x).1 hx)
 obtain ⟨d1,d2⟩:=BJ c4 ((c5 _).2 e2.from_) ((c5 _).2 e2.to_) hin
 obtain ⟨out,i,o1,o2,o3⟩:=F4 (f:=mY l p.X p.Y) c4 (by omega) d1 d2 (fun i a b ha hb t t1 t2=>zM c4 hin (fun z hz g1 g2=>(c5 _).2 (e2.at_ z hz g1 g2)) (fun z hz g1 g2=>(c5 _).2 (e2.end_ z hz g1 g2)) ha hb t1 t2)
  (body:=fun s=>iw C l (l.map (endV l)) p s) (fun i out a b ha hb=>by
   have hi:i + 1 < C.length:=(List.getElem?_eq_some_iff.1 hb).1
   unfold iw
   simp only []
   have w1:w64 ((i:Int) + 1)=((i + 1:Nat):Int):=by rw [dC (by omega)]; omega
   rw [w1,decide_eq_true (by omega),cond_true,ry,ha,Option.bind_some,Jc h,Option.bind_some,ry,hb]
   have e3:(bif (decide (((nK l p.X p.Y a).length:Int) > 0))then (idx (nK l p.X p.Y a) 0).bind fun y_75=>some y_75.Id else some (⟨#[]⟩:ByteArray))=some (mY l p.X p.Y a):=by
    unfold mY
    cases nK l p.X p.Y a with
    | nil=>rfl
    | cons z r=>rw [decide_eq_true (by simp only [List.length_cons]; omega),cond_true]; rfl
   rw [e3]
   simp only [Option.bind_some]
   unfold di
   generalize (bif decide (w64 ((out.length:Int) - 1)≥0)then _ else _:Option Bool)=c
   cases c with
   | none=>rfl
   | some c=>cases c <;> rfl) (fun i out hi=>by
   unfold iw
   simp only []
   rw [dC (n:=(i:Int) + 1) (by omega),decide_eq_false (by omega),cond_false])
 rw [o1]
 exact⟨out,rfl,o2,by omega⟩
end Go.Proofs.YtjhcehhmdmbleaaGreatDoor.Law

open Go Go.Eng
namespace Go.Proofs.YtjhcehhmdmbleaaGreatDoor.Law
set_option linter.unusedVariables false
set_option linter.unusedSimpArgs false
set_option maxRecDepth 100000
theorem Ez {f:Int→ByteArray} {E:List Int} {F T:Int} (hE:E.Pairwise (· < ·)) (hl:E.length≤1000000) (h0:E[0]? = some F) (hT:E[E.length - 1]? = some T)
  (hf:∀ (i:Nat) (a b:Int),E[i]? = some a→E[i + 1]? = some b → ∀ t,a≤t→t < b→f t=f a)
  {body:(List Slot_×Int)→Option (Ctl (List Slot_×Int) Unit)} (hgo:∀ (i:Nat) (out:List Slot_) (a b:Int),E[i]? = some a→E[i + 1]? = some b→body (out,((i + 1:Nat):Int))=(di (f a) a b out).bind fun v=>some (.go (v,w64 (((i + 1:Nat):Int) + 1))))
  (hbrk:∀ (i:Nat) (out:List Slot_),i + 1=E.length→body (out,((i + 1:Nat):Int))=some (.brk (out,((i + 1:Nat):Int)))):∃ out i,ic (([]:List Slot_),(1:Int)) body=some (.go (out,i))∧fK f T F out∧out.length≤E.length:=by
 have hlen:0 < E.length:=(List.getElem?_eq_some_iff.1 h0).1
 obtain ⟨s,s1,s2⟩:=BS (body:=body) (fun k s=>s.2=((k + 1:Nat):Int)∧s.1.length≤k ∧ ∃ a,E[k]? = some a∧fK f a F s.1) (E.length - 1) (fun k s hk ⟨i1,i2,a,i3,i4⟩=>by
  obtain ⟨out,n⟩:=s
  simp only at i1 i2 i4
  subst i1
  have hb:E[k + 1]? = some E[k + 1]:=List.getElem?_eq_getElem (by omega)
  rw [hgo k out a _ i3 hb,Hf _ _ _ _ (by omega)]
  refine⟨_,rfl,by simp only []; rw [dC (by omega)]; omega,?_,_,hb,?_⟩
  ·simp only []
   have:=zU (f a) a E[k + 1] out
   omega
  ·exact fK.add (BU hE i3 hb) (fun t t1 t2=>hf k a _ i3 hb t t1 t2) out F i4) (fun s ⟨i1,i2,a,i3,i4⟩=>by
  obtain ⟨out,n⟩:=s
  simp only at i1
  subst i1
  exact hbrk _ out (by omega)) (s:=(([]:List Slot_),(1:Int))) ⟨rfl,Nat.le_refl _,F,h0,by unfold fK; rfl⟩
 obtain ⟨_,i2,a,i3,i4⟩:=s2
 rw [hT,Option.some.injEq]at i3
 exact⟨s.1,s.2,s1,by rw [i3]; exact i4,by omega⟩
theorem EP {l:List Alert} (hl:l.length≤12) {w:Window} {k:Nat} {x:Alert} (hx:l[k]? = some x) {E:List Int} (hE:EI [] (l.take k) w.From w.To E):∃ E',fG w k x E=some (.go E')∧EI [] (l.take (k + 1)) w.From w.To E':=by
 have et:l.take (k + 1)=l.take k ++ [x]:=by rw [List.take_add_one,hx]; rfl
 have hel:=hE.len
 have htk:=take_len l k
 have hlt:(l.take k).length=k:=by
  obtain ⟨hk,_⟩:=List.getElem?_eq_some_iff.1 hx
  rw [List.length_take]; omega
 obtain ⟨E1,a1,a2,a3,a4,a5⟩:=wW w.From w.To x.At E (by omega)
 obtain ⟨E2,b1,b2,b3,b4,b5⟩:=wW w.From w.To x.Until E1 (by omega)
 refine⟨E2,?_,?_⟩
 ·unfold fG
  rw [iI (by simp)]
  have c1:gU w 0 x.At E=some (.go E1):=a1
  have c2:gU w (0 + 1) x.Until E1=some (.go E2):=b1
  simp only [forR,c1,c2,Option.bind_some,thenC]
 ·refine⟨b2 _ (a2 _ hE.from_),b2 _ (a2 _ hE.to_),fun y hy => ?_,fun z hz g1 g2 => ?_,fun z hz g1 g2 => ?_,by rw [et,List.length_append]; simp only [List.length_cons,List.length_nil]; omega⟩
  ·rcases b3 y hy with q | q
   ·rcases a3 y q with q | q
    ·exact hE.in_ y q
    ·omega
   ·omega
  ·rw [et]at hz
   rcases List.mem_append.1 hz with hz | hz
   ·exact b2 _ (a2 _ (hE.at_ z hz g1 g2))
   ·rw [List.mem_singleton.1 hz]at g1 g2 ⊢
    exact b2 _ (a4 g1 g2)
  ·rw [et]at hz
   rcases List.mem_append.1 hz with hz | hz
   ·exact b2 _ (a2 _ (hE.end_ z hz g1 g2))
   ·rw [List.mem_singleton.1 hz]at g1 g2 ⊢
    exact b4 g1 g2
theorem DF {l:List Alert} (hg:GAs l) (h:CA l) (p:Post) {w:Window} (hw:w.From≤w.To):∃ t,iM l p w=some t∧fK (mY l p.X p.Y) w.To w.From t∧t.length≤10000:=by
 have hl:=h.len
 unfold iM
 obtain ⟨E,e1,e2⟩:=kW (body:=fun k x s=>fG w k x s) (fun k s=>EI [] (l.take k) w.From w.To s) (xs:=l) (s:=([w.From,w.To]:List Int)) (by omega) (fun k x s hx hs=>EP hl hx hs)
  ⟨by simp,by simp,fun x hx=>by
   simp only [List.mem_cons,List.not_mem_nil,or_false]at hx
   rcases hx with rfl | rfl <;> omega,fun z hz=>(by cases hz),fun z hz=>(by cases hz),by simp⟩
 rw [List.take_length]at e2
 have hel:=e2.len
 rw [e1]
 simp only [Option.bind_some,thenC]
 have hne:neL E=some ():=by
  unfold neL
  have:=List.ne_nil_of_mem e2.from_
  first | rw [if_pos this] | (cases E with | nil=>exact absurd rfl this | cons a E=>rfl)
 obtain ⟨s,C,c1,c2,c3,c4,c5,c6⟩:=sortC E (by omega)
 have c2':iO s E=some ():=by unfold iO; rw [if_pos c2]
 rw [hne,Option.bind_some,c1,Option.bind_some,c2',Option.bind_some,c3,Option.bind_some]
 have hin:∀ x∈C,w.From≤x∧x≤w.To:=fun x hx=>e2.in_ x ((c5 x).1 hx)
 have hat:∀ z∈l,w.From < z.At→z.At < w.To→z.At∈C:=fun z hz g1 g2=>(c5 _).2 (e2.at_ z hz g1 g2)
 have hen:∀ z∈l,w.From < endV l z→endV l z < w.To→endV l z∈C:=fun z hz g1 g2=>by
  rcases Gz l z with q | ⟨a,ha,q⟩
  ·rw [q]at g1 g2 ⊢
   exact (c5 _).2 (e2.end_ z hz g1 g2)
  ·rw [q]at g1 g2 ⊢
   exact hat a ha g1 g2
 obtain ⟨d1,d2⟩:=BJ c4 ((c5 _).2 e2.from_) ((c5 _).2 e2.to_) hin
 obtain ⟨out,i,o1,o2,o3⟩:=Ez (f:=mY l p.X p.Y) c4 (by omega) d1 d2 (fun i a b ha hb t t1 t2=>zM c4 hin hat hen ha hb t1 t2)
  (body:=fun s=>fD C l p s) (fun i out a b ha hb=>by
   have hi:i + 1 < C.length:=(List.getElem?_eq_some_iff.1 hb).1
   unfold fD
   simp only []
   have w1:w64 (((i + 1:Nat):Int) - 1)=(i:Int):=by rw [dC (by omega)]; omega
   rw [decide_eq_true (by omega),cond_true,w1,ry,ha,Option.bind_some,AX hg h,Option.bind_some,ry,hb]
   simp only [Option.bind_some]
   unfold di
   generalize (bif decide (w64 ((out.length:Int) - 1)≥0)then _ else _:Option Bool)=c
   cases c with
   | none=>rfl
   | some c =>
    cases c with
    | false =>
     simp only [Option.bind_some,cond_false]
     cases pJ out [_] <;> rfl
    | true =>
     simp only [Option.bind_some,cond_true]
     cases inR (w64 ((out.length:Int) - 1)) out with
     | none=>rfl
     | some u =>
      simp only [Option.bind_some]
      cases out[(0 + ((w64 ((out.length:Int) - 1))).toNat)]? <;> rfl) (fun i out hi=>by
   unfold fD
   simp only []
   rw [decide_eq_false (by omega),cond_false])
 rw [o1]
 exact⟨out,rfl,o2,by omega⟩
def wiV (w:Window):Int:=bif iK w.From 0 w.To || decide (w.To > 345686400000)then 1 else 0
theorem wiR (w:Window):jR w=some (wiV w):=by
 unfold jR wiV
 rw [yx,Option.bind_some,Bool.not_not]
 cases iK w.From 0 w.To <;> cases decide (w.To > 345686400000) <;> rfl
theorem wi_0 {w:Window} (h:wiV w=0):0≤w.From∧w.From≤w.To∧w.To≤345686400000:=by
 unfold wiV at h
 cases e:iK w.From 0 w.To with
 | true=>rw [e]at h; cases h
 | false =>
  have:=ve e
  cases e2:decide (w.To > 345686400000)with
  | true=>rw [e,e2]at h; cases h
  | false =>
   have:=of_decide_eq_false e2
   omega
theorem JD (l:List Slot_) (hl:l.length≤1000000):dh l l=some true:=by
 have key:∀ (xs:List Slot_) (k:Nat),l.drop k=xs→forR (fun k x s=>bD l k x s) xs k ()=some (.go ()):=by
  intro xs
  induction xs with
  | nil=>exact fun _ _=>rfl
  | cons x xs ih =>
   intro k h
   have hg:idx l (k:Int)=some x:=by rw [ry]; exact Am h
   rw [forR]
   have:bD l k x ()=some (.go ()):=by
    unfold bD
    rw [hg]; simp
   rw [this,Option.bind_some]
   exact ih (k + 1) (aR h)
 unfold dh
 have:((l.length:Int) != (l.length:Int))=false:=by simp
 rw [this,cond_false,iI (by omega),key l 0 rfl]; rfl
theorem thru_x {l:List Alert} (hl:GAs l) {x:Post} (hx:GP x) (s1:Stream) (v:(List Int)×Int×Int×Int) (k:Nat):d9 (l,s1) v k x ()=some (.go ()):=by
 have hT:lC l x ⟨v.2.2.1,v.2.2.2⟩=(bif or0 (alV l) (poV [x]) == 0 then (bif wiV ⟨v.2.2.1,v.2.2.2⟩ == 0 then (jZ l x ⟨v.2.2.1,v.2.2.2⟩).bind fun r=>some (r,0)else some ([],1))else some ([],or0 (alV l) (poV [x]))):=by
  unfold lC
  rw [both_eq hl (oneGP hx),Option.bind_some]
  by_cases h0:or0 (alV l) (poV [x])=0
  ·rw [h0,bne_self_eq_false,cond_false,lT]
   simp only [Option.bind_some]
   unfold wiV
   simp only []
   cases iK v.2.2.1 0 v.2.2.2 <;> cases decide (v.2.2.2 > 345686400000) <;> rfl
  ·have e1:(or0 (alV l) (poV [x]) == 0)=false:=by simpa using h0
   have e2:(or0 (alV l) (poV [x]) != 0)=true:=by simp [bne,e1]
   rw [e1,e2]; rfl
 unfold d9
 simp only []
 rw [hT,alV_R hl,poV_R (oneGP hx),wiR]
 generalize hw:(⟨v.2.2.1,v.2.2.2⟩:Window)=w
 by_cases h0:or0 (alV l) (poV [x])=0
 ·rw [h0]
  simp only [beq_self_eq_true,cond_true]
  have e3:or0 (alV l) (or0 (poV [x]) (wiV w))=wiV w:=by rw [← Bw,h0]; rfl
  by_cases h1:wiV w=0
  ·have hca:=alV_ca hl (Ac.1 h0).1
   obtain ⟨g1,g2,g3⟩:=wi_0 h1
   obtain ⟨t,t1,t2,t3⟩:=FH hca x g2 (by omega)
   obtain ⟨u,u1,u2,u3⟩:=DF hl hca x g2
   have htu:=fK.uniq t2 u2
   subst htu
   rw [h1]at e3 ⊢
   rw [t1]
   simp only [beq_self_eq_true,cond_true,Option.bind_some]
   rw [FK,e3]
   simp only [beq_self_eq_true,cond_true,Option.bind_some]
   rw [u1]
   simp only [Option.bind_some,bne_self_eq_false,cond_false]
   rw [JD _ (by omega)]; rfl
  ·have h2:wiV w=1:=by
    unfold wiV at h1 ⊢
    cases hq:(iK w.From 0 w.To || decide (w.To > 345686400000))with
    | true=>rfl
    | false=>rw [hq]at h1; exact absurd rfl h1
   rw [h2]at e3 ⊢
   have e4:((1:Int) == 0)=false:=rfl
   rw [e4,cond_false]
   simp only [Option.bind_some]
   rw [FK,e3]
   simp only [Option.bind_some,e4,cond_false,bne_self_eq_false]
   rw [JD [] (by simp)]; rfl
 ·have e1:(or0 (alV l) (poV [x]) == 0)=false:=by simpa using h0
  have e3:or0 (alV l) (or0 (poV [x]) (wiV w))=or0 (alV l) (poV [x]):=by
   rw [← Bw]
   generalize or0 (alV l) (poV [x])=q at e1
   unfold or0
   rw [e1]; rfl
  rw [e1,cond_false]
  simp only [Option.bind_some]
  rw [FK,e3]
  simp only [Option.bind_some,e1,cond_false,bne_self_eq_false]
  rw [JD [] (by simp)]; rfl
theorem alertsThrough (l:List Int):kr l=some true:=by
 have h0:Ok (⟨l,0⟩:Stream) 0:=⟨Int.le_refl _,Int.le_refl _⟩
 obtain ⟨a,s1,a1,a2,a3⟩:=FO _ h0 (by decide)
 obtain ⟨f,s2,b1,b2,b3⟩:=oq s1 [0,3,10,20] a3 (by decide) (by simp) (by simp)
 obtain ⟨t,s3,c1,c2,c3⟩:=oq s2 [10,30,100] b3 (by decide) (by simp) (by simp)
 obtain ⟨d,s4,d1,d2⟩:=ou s3 12 c3 (by decide) (by decide) (by decide)
 have hal:=a2.2
 have fin:∀ (v:(List Int)×Int×Int×Int),Ok (⟨v.1,v.2.1⟩:Stream) (0 + 400 + 1 + 1 + 1 + 4)→((iL (⟨v.1,v.2.1⟩:Stream)).bind fun r_25=>(forL r_25.1 () (fun k x s=>d9 (a,s1) v k x s)).bind fun o_36=>thenC o_36 (fun s_33=>(lV).bind fun r_62=>some r_62) (fun r=>some r))=some true:=fun v hv=>by
  obtain ⟨p,s5,p1,p2,p3⟩:=IY _ hv (by decide)
  have hpl:=p2.2
  obtain ⟨u,u1,_⟩:=kW (body:=fun k x s=>d9 (a,s1) v k x s) (fun _ _=>True) (xs:=p) (s:=()) (by omega) (fun k x s hx _=>by
   cases s
   exact⟨(),thru_x a2 (p2.1 x (List.mem_of_getElem? hx)) s1 v k,trivial⟩) trivial
  rw [p1,Option.bind_some]
  simp only []
  rw [u1]
  simp only [Option.bind_some,thenC,IL]
 unfold kr
 rw [a1,Option.bind_some]
 simp only []
 rw [b1,Option.bind_some]
 simp only []
 rw [c1,Option.bind_some]
 simp only []
 rw [d1,Option.bind_some]
 simp only []
 cases d with
 | false =>
  simp only [cond_false,Option.bind_some]
  refine fin (s4.L,s4.f_at,f,t) ⟨d2.1,Int.le_trans d2.2 (by omega)⟩
 | true =>
  obtain ⟨x,s6,x1,_,x3⟩:=vP s4 0 50 d2 (by decide) (by decide) (by decide) (by decide)
  obtain ⟨y,s7,y1,_,y3⟩:=vP s6 0 100 x3 (by decide) (by decide) (by decide) (by decide)
  simp only [cond_true]
  rw [x1,Option.bind_some]
  simp only []
  rw [y1,Option.bind_some]
  simp only [Option.bind_some]
  refine fin (s7.L,s7.f_at,x,y) ⟨y3.1,Int.le_trans y3.2 (by omega)⟩
end Go.Proofs.YtjhcehhmdmbleaaGreatDoor.Law

