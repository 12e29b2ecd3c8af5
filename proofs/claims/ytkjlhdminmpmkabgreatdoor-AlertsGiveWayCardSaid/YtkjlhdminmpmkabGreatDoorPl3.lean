/-
  THE PLAIN LAW (part 3).
-/
import Derived.Test.YtkjlhdminmpmkabGreatDoorPl2
import Derived.Test.YtkjlhdminmpmkabGreatDoorDefs
open Go Go.Eng
namespace Go.Proofs.YtkjlhdminmpmkabGreatDoor.Law
set_option linter.unusedVariables false
set_option linter.unusedSimpArgs false
end Go.Proofs.YtkjlhdminmpmkabGreatDoor.Law

open Go Go.Eng
namespace Go.Proofs.YtkjlhdminmpmkabGreatDoor.Law
set_option linter.unusedVariables false
set_option linter.unusedSimpArgs false
end Go.Proofs.YtkjlhdminmpmkabGreatDoor.Law

open Go Go.Eng
namespace Go.Proofs.YtkjlhdminmpmkabGreatDoor.Law
set_option linter.unusedVariables false
set_option linter.unusedSimpArgs false
theorem Lu (s:Stream) {b:Int} (hs:Ok s b) (hb:b<=900000):∃r s',jf s=some (r,s')/\Fine r/\(-2<=r.X/\r.X<=8 /\ -2<=r.Y/\r.Y<=8/\r.W<=5/\r.H<=5)/\Ok s' (b+4):=by
 unfold jf
 obtain ⟨X,q1,c1,c2,c3,c4⟩:=qP s (-2) 8 hs (by omega) (by decide) (by decide) (by decide)
 obtain ⟨Y,q2,d1,d2,d3,d4⟩:=qP q1 (-2) 8 c4 (by omega) (by decide) (by decide) (by decide)
 obtain ⟨U,q3,e1,e2,e3,e4⟩:=qP q2 1 5 d4 (by omega) (by decide) (by decide) (by decide)
 obtain ⟨V,q4,f1,f2,f3,f4⟩:=qP q3 1 5 e4 (by omega) (by decide) (by decide) (by decide)
 simp only [c1,d1,e1,f1,ob_]
 refine⟨_,_,rfl,?_,by simp only [];omega,f4.mono (by omega)⟩
 unfold Fine
 simp only [];omega
end Go.Proofs.YtkjlhdminmpmkabGreatDoor.Law

open Go Go.Eng
namespace Go.Proofs.YtkjlhdminmpmkabGreatDoor.Law
set_option linter.unusedVariables false
set_option linter.unusedSimpArgs false
def tZ {σ ρ:Type} (s:σ) (body:σ->Option (Ctl σ ρ)):Option (Ctl σ ρ):=iterN body 300 s
def Le {α:Type} (a b:Option α):Prop:=∀r,a=some r->b=some r
theorem Le.refl {α:Type} (a:Option α):Le a a:=λ_ h=>h
theorem Le.bind {α β:Type} {a b:Option α} {f g:α->Option β} (h:Le a b) (k:∀x,Le (f x) (g x)):Le (a.bind f) (b.bind g):=λr e=>by
 obtain ⟨x,h1,h2⟩:=Option.bind_eq_some_iff.1 e
 rw [h x h1];exact k x r h2
theorem Le.cond {α:Type} {a b c d:Option α} {t:Bool} (h:Le a c) (k:Le b d):Le (bif t then a else b) (bif t then c else d):=by
 cases t
 ·exact k
 ·exact h
theorem Le.thenC {σ ρ τ:Type} {o:Ctl σ ρ} {f f':σ->Option τ} {g g':ρ->Option τ} (h:∀x,Le (f x) (f' x)) (k:∀x,Le (g x) (g' x)):Le (Go.Eng.thenC o f g) (Go.Eng.thenC o f' g'):=by
 cases o
 ·exact h _
 ·exact Le.refl _
 ·exact k _
theorem Le.forR {α σ ρ:Type} {b b':Nat->α->σ->Option (Ctl σ ρ)} (h:∀k x s,Le (b k x s) (b' k x s)):∀(xs:List α) (k:Nat) (s:σ),Le (Go.Eng.forR b xs k s) (Go.Eng.forR b' xs k s)
 | [],k,s=>Le.refl _
 | x::xs,k,s=>Le.bind (h k x s) (λc=>by
   cases c with
   | go s'=>exact Le.forR h xs _ _
   | brk s'=>exact Le.refl _
   | ret r=>exact Le.refl _)
theorem Le.forL {α σ ρ:Type} {xs:List α} {s:σ} {b b':Nat->α->σ->Option (Ctl σ ρ)} (h:∀k x s,Le (b k x s) (b' k x s)):Le (Go.Eng.forL xs s b) (Go.Eng.forL xs s b'):=by
 unfold Go.Eng.forL
 split
 ·exact Le.forR h xs 0 s
 ·exact Le.refl _
theorem Le.iterN {σ ρ:Type} {b b':σ->Option (Ctl σ ρ)} (h:∀s,Le (b s) (b' s)):∀(n:Nat) (s:σ),Le (Go.Eng.iterN b n s) (Go.Eng.iterN b' n s)
 | 0,s=>Le.refl _
 | n+1,s=>Le.bind (h s) (λc=>by
   cases c with
   | go s'=>exact Le.iterN h n s'
   | brk s'=>exact Le.refl _
   | ret r=>exact Le.refl _)
theorem Le.loop {σ ρ:Type} {s:σ} {b b':σ->Option (Ctl σ ρ)} (h:∀s,Le (b s) (b' s)):Le (tZ s b) (iJ s b'):=λr e=>oI (Le.iterN h _ _ r e)
end Go.Proofs.YtkjlhdminmpmkabGreatDoor.Law

open Go Go.Eng
namespace Go.Proofs.YtkjlhdminmpmkabGreatDoor.Law
set_option linter.unusedVariables false
set_option linter.unusedSimpArgs false
set_option maxRecDepth 100000
def lF (s_1:ByteArray) (c_2:Int):Option (ByteArray) :=
 (tZ s_1 (λs=>iO c_2 s)).bind λo_11=>thenC o_11 (λs_8=>some s_8) (λ_=>none)
theorem uV (s_1:ByteArray) (c_2:Int):Le (lF s_1 c_2) (strings_trimRightByte s_1 c_2):=by
 unfold lF strings_trimRightByte
 repeat' (with_reducible first | exact Le.refl _ | refine Le.loop (λ_ => ?_) | refine Le.forL (λ_ _ _ => ?_) | refine Le.thenC (λ_ => ?_) (λ_ => ?_) | refine Le.cond ?_ ?_ | refine Le.bind ?_ (λ_ => ?_))
def l9 (s_1:ByteArray) (c_2:Int):Option (ByteArray) :=
 (tZ s_1 (λs=>iZ c_2 s)).bind λo_11=>thenC o_11 (λs_8=>some s_8) (λ_=>none)
theorem vo (s_1:ByteArray) (c_2:Int):Le (l9 s_1 c_2) (strings_trimLeftByte s_1 c_2):=by
 unfold l9 strings_trimLeftByte
 repeat' (with_reducible first | exact Le.refl _ | refine Le.loop (λ_ => ?_) | refine Le.forL (λ_ _ _ => ?_) | refine Le.thenC (λ_ => ?_) (λ_ => ?_) | refine Le.cond ?_ ?_ | refine Le.bind ?_ (λ_ => ?_))
def uW (s_1:ByteArray) (cutset_2:ByteArray):Option (ByteArray) :=
 (bif (sEq s_1 (⟨#[]⟩:ByteArray))then some true else some (sEq cutset_2 (⟨#[]⟩:ByteArray))).bind λv_3=>bif v_3 then some s_1 else (bif ((cutset_2.size:Int)==1)then (zl cutset_2 0).bind λb_10=>some (decide ((b_10.toNat:Int)<128))else some false).bind λv_7=>bif v_7 then (zl cutset_2 0).bind λb_13=>(lF s_1 (b_13.toNat:Int)).bind λr_15=>(zl cutset_2 0).bind λb_17=>(l9 r_15 (b_17.toNat:Int)).bind λr_19=>some r_19 else none
theorem Dw (s_1:ByteArray) (cutset_2:ByteArray):Le (uW s_1 cutset_2) (pU s_1 cutset_2):=by
 unfold uW pU
 repeat' (with_reducible first | exact Le.refl _ | exact uV _ _ | exact vo _ _ | refine Le.loop (λ_ => ?_) | refine Le.forL (λ_ _ _ => ?_) | refine Le.thenC (λ_ => ?_) (λ_ => ?_) | refine Le.cond ?_ ?_ | refine Le.bind ?_ (λ_ => ?_))
def dW (s_1:ByteArray):Option (Bool) :=
 (tZ 0 (λs=>pz s_1 s)).bind λo_10=>thenC o_10 (λs_7=>((kE s_1).bind λr_23=>bif r_23 then (uW s_1 (⟨#[32]⟩:ByteArray)).bind λr_26=>bif (sEq r_26 s_1)then (strings_Contains s_1 (⟨#[32,32]⟩:ByteArray)).bind λr_29=>some (!r_29)else some false else some false).bind λv_21=>some v_21) (λr=>some r)
theorem dJ (s_1:ByteArray):Le (dW s_1) (lw s_1):=by
 unfold dW lw
 repeat' (with_reducible first | exact Le.refl _ | exact Dw _ _ | refine Le.loop (λ_ => ?_) | refine Le.forL (λ_ _ _ => ?_) | refine Le.thenC (λ_ => ?_) (λ_ => ?_) | refine Le.cond ?_ ?_ | refine Le.bind ?_ (λ_ => ?_))
theorem Dz (s:ByteArray):Le (dW s) (lw s):=dJ s
end Go.Proofs.YtkjlhdminmpmkabGreatDoor.Law

open Go Go.Eng
namespace Go.Proofs.YtkjlhdminmpmkabGreatDoor.Law
set_option linter.unusedVariables false
set_option linter.unusedSimpArgs false
set_option maxRecDepth 100000
def idL:List ByteArray:=[⟨#[97,97]⟩,⟨#[97,98]⟩,⟨#[97,99]⟩,⟨#[97,100]⟩,⟨#[97,101]⟩,⟨#[97,102]⟩]
def refL:List ByteArray:=[⟨#[97,97]⟩,⟨#[97,98]⟩,⟨#[97,99]⟩,⟨#[97,100]⟩,⟨#[122,122]⟩]
def zyS:ByteArray:=⟨#[122,121]⟩
def wxS:ByteArray:=⟨#[119,120]⟩
def fireS:ByteArray:=⟨#[102,105,114,101]⟩
def floodS:ByteArray:=⟨#[102,108,111,111,100]⟩
def mallS:ByteArray:=⟨#[102,105,114,101,32,105,110,32,116,104,101,32,109,97,108,108]⟩
def overS:ByteArray:=⟨#[111,118,101,114]⟩
theorem NL:dW ⟨#[]⟩=some true/\dW floodS=some true/\dW mallS=some true/\dW overS=some true :=
 ⟨by kernel_rfl,by kernel_rfl,by kernel_rfl,by kernel_rfl⟩
def SmallR (r:Rect):Prop:=Fine r/\(-2<=r.X/\r.X<=8 /\ -2<=r.Y/\r.Y<=8/\r.W<=5/\r.H<=5)
structure RightA (x:Alert):Prop where
 id:x.Id∈idL
 sender:x.Sender=wxS\/x.Sender=fireS
 kind:1<=x.Kind/\x.Kind<=3
 refs:x.Refs.Sublist refL\/x.Refs=[zyS]
 noId:∀r∈x.Refs,r≠x.Id
 new:x.Kind=1↔x.Refs=[]
 at_:0<=x.At/\x.At<=30
 until_:x.At+1<=x.Until/\x.Until<=x.At+50
 weight:1<=x.Weight/\x.Weight<=9
 areas:∀r∈x.Areas,SmallR r
 alen:x.Areas.length<=2
 cancel:x.Kind=3↔x.Areas=[]
 text:x.Text=floodS\/x.Text=mallS\/x.Kind=3/\(x.Text=⟨#[]⟩\/x.Text=overS)
theorem MX:∀k∈idL,keyB k=true/\Nat.ble k.size 1000=true:=by
 intro k hk
 simp only [idL,List.mem_cons,List.not_mem_nil,or_false]at hk
 rcases hk with rfl|rfl|rfl|rfl|rfl|rfl <;> exact⟨by kernel_rfl,rfl⟩
theorem Qq:∀k∈idL,rD k 0=97:=by
 intro k hk
 simp only [idL,List.mem_cons,List.not_mem_nil,or_false]at hk
 rcases hk with rfl|rfl|rfl|rfl|rfl|rfl <;> rfl
theorem KN:∀k∈refL,keyB k=true/\Nat.ble k.size 1000=true:=by
 intro k hk
 simp only [refL,List.mem_cons,List.not_mem_nil,or_false]at hk
 rcases hk with rfl|rfl|rfl|rfl|rfl <;> exact⟨by kernel_rfl,rfl⟩
theorem NF:refL.Pairwise lt:=by
 unfold refL
 simp only [List.pairwise_cons,List.mem_cons,List.not_mem_nil,or_false,forall_eq_or_imp,forall_eq]
 refine⟨⟨iG (by kernel_rfl),iG (by kernel_rfl),iG (by kernel_rfl),iG (by kernel_rfl)⟩,⟨iG (by kernel_rfl),iG (by kernel_rfl),iG (by kernel_rfl)⟩,⟨iG (by kernel_rfl),iG (by kernel_rfl)⟩,iG (by kernel_rfl),λa h=>(by cases h),List.Pairwise.nil⟩
theorem Pd:idL.Pairwise lt:=by
 unfold idL
 simp only [List.pairwise_cons,List.mem_cons,List.not_mem_nil,or_false,forall_eq_or_imp,forall_eq]
 refine⟨⟨iG (by kernel_rfl),iG (by kernel_rfl),iG (by kernel_rfl),iG (by kernel_rfl),iG (by kernel_rfl)⟩,⟨iG (by kernel_rfl),iG (by kernel_rfl),iG (by kernel_rfl),iG (by kernel_rfl)⟩,⟨iG (by kernel_rfl),iG (by kernel_rfl),iG (by kernel_rfl)⟩,⟨iG (by kernel_rfl),iG (by kernel_rfl)⟩,iG (by kernel_rfl),λa h=>(by cases h),List.Pairwise.nil⟩
theorem RightA.refsKey {x:Alert} (h:RightA x):∀r∈x.Refs,kit_IsKey r=some true:=λr hr=>by
 have:keyB r=true/\Nat.ble r.size 1000=true:=by
  rcases h.refs with hs|hs
  ·exact KN r (hs.subset hr)
  ·rw [hs]at hr
   rw [List.mem_singleton.1 hr];exact⟨by kernel_rfl,rfl⟩
 rw [ve r (by have:=Nat.le_of_ble_eq_true this.2;omega),this.1]
theorem RightA.refsRise {x:Alert} (h:RightA x):x.Refs.Pairwise lt:=by
 rcases h.refs with hs|hs
 ·exact NF.sublist hs
 ·rw [hs];exact List.pairwise_singleton _ _
theorem RightA.refsLen {x:Alert} (h:RightA x):x.Refs.length<=5:=by
 rcases h.refs with hs|hs
 ·exact hs.length_le
 ·rw [hs];decide
theorem RightA.plain {x:Alert} (h:RightA x):lw x.Text=some true:=by
 obtain ⟨p1,p2,p3,p4⟩:=NL
 rcases h.text with e|e|⟨_,e|e⟩ <;> rw [e]
 ·exact dJ _ _ p2
 ·exact dJ _ _ p3
 ·exact dJ _ _ p1
 ·exact dJ _ _ p4
theorem Kh {x:Alert} (h:RightA x):gN x=some 0:=by
 have hl:=h.refsLen
 unfold gN
 rw [decide_eq_false (by omega),cond_false]
 obtain ⟨u,e,_⟩:=pq (body:=λk y s=>dQ x k y s) (λ_ _=>True) (xs:=x.Refs) (s:=()) (by omega) (λk y s hy _=>by
  refine⟨(),?_,trivial⟩
  have hm:=List.mem_of_getElem? hy
  unfold dQ
  rw [h.refsKey y hm]
  simp only [ob_,Bool.not_true,cond_false]
  have hid:sEq y x.Id=false:=by rw [wO];exact decide_eq_false (h.noId y hm)
  rcases Nat.eq_zero_or_pos k with h0|h0
  ·rw [decide_eq_false (by omega),cond_false,ob_,cond_false,hid];rfl
  ·rw [decide_eq_true (by omega),cond_true]
   obtain ⟨z,q1,q2⟩:=EE hy h0 (by omega)
   have hz:lt z y:=by
    obtain ⟨l1,m1⟩:=List.getElem?_eq_some_iff.1 q2
    obtain ⟨l2,m2⟩:=List.getElem?_eq_some_iff.1 hy
    rw [<- m1,<- m2]
    exact List.pairwise_iff_getElem.1 h.refsRise _ _ l1 l2 (by omega)
   have hle:sLe y z=false:=by rw [<- Bool.not_eq_true,sLe_iff];exact λk=>k hz
   rw [q1,ob_,hle,ob_,cond_false,hid];rfl) trivial
 rw [e]
 simp only [ob_,thenC]
 have:((x.Kind==1)==((x.Refs.length:Int)==0))=true:=by
  rw [beq_iff_eq,Bool.eq_iff_iff,beq_iff_eq,beq_iff_eq,h.new]
  constructor
  ·intro e;rw [e];rfl
  ·intro e;exact List.eq_nil_of_length_eq_zero (by omega)
 rw [this];rfl
theorem LW {r:Rect} (h:Fine r):iK r=some 0:=by rw [A7,OD h];rfl
theorem Bn {x:Alert} (h:RightA x):fO x=some 0:=by
 have hid:=MX _ h.id
 have k1:kit_IsKey x.Id=some true:=by rw [ve _ (by have:=Nat.le_of_ble_eq_true hid.2;omega),hid.1]
 have k2:kit_IsKey x.Sender=some true:=by
  rcases h.sender with e|e <;> rw [e,ve _ (by decide)] <;> exact congrArg some (by kernel_rfl)
 have h1:=h.at_
 have h2:=h.until_
 have h3:=h.weight
 have h4:=h.alen
 have k3:zS x.At=true:=by unfold zS;rw [uD (by omega)];rfl
 unfold fO
 rw [k1,k2,Kh h]
 simp only [ob_,Bool.not_true,cond_false,tC,uD h.kind,bne_self_eq_false,yL,k3,jl (n:=x.At+1) (by omega),jl (n:=x.At+2592000000) (by omega),uD (show x.At+1<=x.Until/\x.Until<=x.At+2592000000 by omega),uD h3,decide_eq_false (show ¬(x.Areas.length:Int)>20 by omega)]
 obtain ⟨u,e,_⟩:=pq (body:=λk y s=>dU k y s) (λ_ _=>True) (xs:=x.Areas) (s:=()) (by omega) (λk y s hy _=>by
  refine⟨(),?_,trivial⟩
  unfold dU
  rw [LW (h.areas y (List.mem_of_getElem? hy)).1];rfl) trivial
 rw [e]
 simp only [ob_,thenC,h.plain,Bool.not_true,cond_false]
 have c1:((x.Kind==3)==((x.Areas.length:Int)==0))=true:=by
  rw [beq_iff_eq,Bool.eq_iff_iff,beq_iff_eq,beq_iff_eq,h.cancel]
  constructor
  ·intro e;rw [e];rfl
  ·intro e;exact List.eq_nil_of_length_eq_zero (by omega)
 rw [c1]
 have c2:x.Text.size<=16:=by
  rcases h.text with e|e|⟨_,e|e⟩ <;> rw [e] <;> decide
 rw [decide_eq_false (show ¬(x.Text.size:Int)>500 by omega)]
 have c3:(bif sEq x.Text ⟨#[]⟩then some (!(x.Kind==3))else some false)=some false:=by
  rw [wO]
  rcases h.text with e|e|⟨k,_⟩
  ·rw [e,decide_eq_false (by decide)];rfl
  ·rw [e,decide_eq_false (by decide)];rfl
  ·rw [k]
   cases decide (x.Text=⟨#[]⟩) <;> rfl
 rw [c3];rfl
theorem Po (id:ByteArray) (s:Stream) {b:Int} (hs:Ok s b) (hb:b<=800000) :
  ∃l s',forL ([(⟨#[97,97]⟩:ByteArray),(⟨#[97,98]⟩:ByteArray),(⟨#[97,99]⟩:ByteArray),(⟨#[97,100]⟩:ByteArray),(⟨#[122,122]⟩:ByteArray)]:List ByteArray) (([]:List ByteArray),s.L,s.f_at) (λk x s=>dP id k x s)=some (.go (l,s'.L,s'.f_at))/\l.Sublist refL/\(∀r∈l,r≠id)/\Ok s' (b+10):=by
 obtain ⟨t,t1,t2,t3,t4⟩:=pq (body:=λk x s=>dP id k x s) (xs:=refL) (s:=(([]:List ByteArray),s.L,s.f_at)) (λk t=>t.1.Sublist (refL.take k)/\(∀r∈t.1,r≠id)/\Ok ⟨t.2.1,t.2.2⟩ (b+k)) (by decide) (λk x t hx ⟨i1,i2,i3⟩=>by
  have hk:k<refL.length:=(List.getElem?_eq_some_iff.1 hx).1
  have hk5:k<5:=hk
  have et:refL.take (k+1)=refL.take k++[x]:=by rw [List.take_add_one,hx];rfl
  have hlen:t.1.length<=5:=Nat.le_trans i1.length_le (by rw [List.length_take];exact Nat.min_le_right _ _)
  unfold dP
  rw [xm]
  by_cases he:x=id
  ·rw [decide_eq_true he]
   exact⟨_,rfl,by rw [et];exact i1.trans (List.sublist_append_left _ _),i2,i3.mono (by omega)⟩
  ·obtain ⟨f,s1,c1,c2⟩:=flip_ok _ 3 i3 (by omega) (by decide) (by decide)
   rw [decide_eq_false he]
   simp only [Bool.not_false,cond_true,c1,ob_]
   cases f with
   | true =>
    rw [cond_true,kr _ _ (by simp;omega)]
    refine⟨_,rfl,by rw [et];exact i1.append (List.Sublist.refl _),λr hr => ?_,c2.mono (by omega)⟩
    rcases List.mem_append.1 hr with hr|hr
    ·exact i2 r hr
    ·rw [List.mem_singleton.1 hr];exact he
   | false=>exact⟨_,rfl,by rw [et];exact i1.trans (List.sublist_append_left _ _),i2,c2.mono (by omega)⟩) ⟨List.Sublist.refl _,λr hr=>(by cases hr),hs.mono (by omega)⟩
 exact⟨t.1,⟨t.2.1,t.2.2⟩,t1,by simpa using t2,t3,t4.mono (by show b+((5:Nat):Int)<=b+10;omega)⟩
theorem OE (n:Int) (hn:1<=n/\n<=2) (s:Stream) {b:Int} (hs:Ok s b) (hb:b<=800000) :
  ∃l s',forL (List.range n.toNat) (([]:List Rect),s.L,s.f_at) (λk x s=>dN k x s)=some (.go (l,s'.L,s'.f_at))/\(l.length:Int)=n/\(∀r∈l,SmallR r)/\Ok s' (b+10):=by
 obtain ⟨t,t1,t2,t3,t4⟩:=Pq (body:=λk x s=>dN k x s) (s:=(([]:List Rect),s.L,s.f_at)) (xs:=List.range n.toNat) (λj t=>t.1.length=j/\(∀r∈t.1,SmallR r)/\Ok ⟨t.2.1,t.2.2⟩ (b+4*j)) (by simp;omega) (λj x t hx hj ⟨i1,i2,i3⟩=>by
  simp only [List.length_range]at hj
  obtain ⟨r,s1,c1,c2,c3,c4⟩:=Lu _ i3 (by omega)
  unfold dN
  rw [c1,ob_,kr _ _ (by simp;omega)]
  refine⟨_,rfl,by simp [i1],λq hq => ?_,c4.mono (by omega)⟩
  rcases List.mem_append.1 hq with hq|hq
  ·exact i2 q hq
  ·rw [List.mem_singleton.1 hq];exact⟨c2,c3⟩) ⟨rfl,λr hr=>(by cases hr),hs.mono (by omega)⟩
 rw [List.length_range]at t2 t4
 exact⟨t.1,⟨t.2.1,t.2.2⟩,t1,by omega,t3,t4.mono (by omega)⟩
theorem OB (id:ByteArray) (hid:id∈idL) (k:Nat) (l0:List Alert) (hl:l0.length<=100) (s:Stream) {b:Int} (hs:Ok s b) (hb:b<=700000) :
  ∃x s',fe k id (l0,s.L,s.f_at)=some (.go (l0++[x],s'.L,s'.f_at))/\RightA x/\x.Id=id/\Ok s' (b+40):=by
 obtain ⟨sd,s1,a1,a2,a3⟩:=I4 s [(⟨#[119,120]⟩:ByteArray),(⟨#[119,120]⟩:ByteArray),(⟨#[102,105,114,101]⟩:ByteArray)] hs (by omega) (by simp) (by simp)
 obtain ⟨kd,s2,b1,b2,b3⟩:=Ie s1 [1,1,2,2,3] a3 (by omega) (by simp) (by simp)
 obtain ⟨n5,s3,c1,c2,c3,c4⟩:=qP s2 0 6 b3 (by omega) (by decide) (by decide) (by decide)
 obtain ⟨wt,s4,d1,d2,d3⟩:=Ie s3 [1,5,5,9] c4 (by omega) (by simp) (by simp)
 obtain ⟨tx,s5,e1,e2,e3⟩:=I4 s4 [(⟨#[102,108,111,111,100]⟩:ByteArray),(⟨#[102,105,114,101,32,105,110,32,116,104,101,32,109,97,108,108]⟩:ByteArray)] d3 (by omega) (by simp) (by simp)
 obtain ⟨un,s6,f1,f2,f3⟩:=Ie s5 [1,10,20,50] e3 (by omega) (by simp) (by simp)
 have hsd:sd=wxS\/sd=fireS:=by
  simp only [List.mem_cons,List.not_mem_nil,or_false]at a2
  rcases a2 with h|h|h
  ·exact .inl h
  ·exact .inl h
  ·exact .inr h
 have hkd:kd=1\/kd=2\/kd=3:=by
  simp only [List.mem_cons,List.not_mem_nil,or_false]at b2;omega
 have hwt:1<=wt/\wt<=9:=by
  simp only [List.mem_cons,List.not_mem_nil,or_false]at d2;omega
 have hun:1<=un/\un<=50:=by
  simp only [List.mem_cons,List.not_mem_nil,or_false]at f2;omega
 have htx:tx=floodS\/tx=mallS:=by
  simp only [List.mem_cons,List.not_mem_nil,or_false]at e2;exact e2
 obtain ⟨rf,s7,g1,g2,g3,g4,g5⟩:∃rf s7,(bif kd != 1 then (forL ([(⟨#[97,97]⟩:ByteArray),(⟨#[97,98]⟩:ByteArray),(⟨#[97,99]⟩:ByteArray),(⟨#[97,100]⟩:ByteArray),(⟨#[122,122]⟩:ByteArray)]:List ByteArray) (([]:List ByteArray),s6.L,s6.f_at) (λk x s=>dP id k x s)).bind λo_56=>thenC o_56 (λs_50=>bif ((s_50.1.length:Int)==0)then some (s_50.2.1,s_50.2.2,([(⟨#[122,121]⟩:ByteArray)]:List ByteArray))else some (s_50.2.1,s_50.2.2,s_50.1)) (λ_=>none)else some (s6.L,s6.f_at,([]:List ByteArray)))=some (Stream.L s7,Stream.f_at s7,rf)/\(rf.Sublist refL\/rf=[zyS])/\(∀r∈rf,r≠id)/\(kd=1↔rf=[])/\Ok s7 (b+20):=by
  by_cases h1:kd=1
  ·rw [h1]
   exact⟨[],s6,rfl,.inl (List.nil_sublist _),λr hr=>(by cases hr),⟨λ_=>rfl,λ_=>rfl⟩,f3.mono (by omega)⟩
  ·have:(kd != 1)=true:=by simpa using h1
   rw [this,cond_true]
   obtain ⟨l,s7,g1,g2,g3,g4⟩:=Po id s6 f3 (by omega)
   rw [g1]
   simp only [ob_,thenC]
   by_cases hl0:l=[]
   ·subst hl0
    refine⟨[zyS],s7,rfl,.inr rfl,λr hr e => ?_,⟨λh=>absurd h h1,λh=>(by cases h)⟩,g4.mono (by omega)⟩
    rw [List.mem_singleton.1 hr]at e
    rw [<- e]at hid
    have:=Qq _ hid
    exact absurd this (by decide)
   ·have:((l.length:Int)==0)=false:=by
     rw [beq_eq_false_iff_ne]
     intro e;exact hl0 (List.eq_nil_of_length_eq_zero (by omega))
    rw [this,cond_false]
    exact⟨l,s7,rfl,.inl g2,g3,⟨λh=>absurd h h1,λh=>absurd h hl0⟩,g4.mono (by omega)⟩
 obtain ⟨ar,tx2,s8,j1,j2,j3,j4,j5,j6⟩:∃ar tx2 s8,(bif kd==3 then (iU (⟨Stream.L s7,Stream.f_at s7⟩:Stream) ([(⟨#[]⟩:ByteArray),(⟨#[111,118,101,114]⟩:ByteArray)]:List ByteArray)).bind λr_79=>some (([]:List Rect),r_79.2.L,r_79.2.f_at,r_79.1)else (dI (⟨Stream.L s7,Stream.f_at s7⟩:Stream) 1 2).bind λr_82=>(forL (List.range (r_82.1).toNat) (([]:List Rect),r_82.2.L,r_82.2.f_at) (λk x s=>dN k x s)).bind λo_95=>thenC o_95 (λs_90=>some (s_90.1,s_90.2.1,s_90.2.2,tx)) (λ_=>none))=some (ar,Stream.L s8,Stream.f_at s8,tx2)/\(∀r∈ar,SmallR r)/\ar.length<=2/\(kd=3↔ar=[])/\(tx2=floodS\/tx2=mallS\/kd=3/\(tx2=⟨#[]⟩\/tx2=overS))/\Ok s8 (b+40):=by
  have e7:(⟨Stream.L s7,Stream.f_at s7⟩:Stream)=s7:=rfl
  rw [e7]
  by_cases h3:kd=3
  ·have:(kd==3)=true:=by simpa using h3
   rw [this,cond_true]
   obtain ⟨t2,s8,q1,q2,q3⟩:=I4 s7 [(⟨#[]⟩:ByteArray),(⟨#[111,118,101,114]⟩:ByteArray)] g5 (by omega) (by simp) (by simp)
   rw [q1]
   simp only [List.mem_cons,List.not_mem_nil,or_false]at q2
   exact⟨[],t2,s8,rfl,λr hr=>(by cases hr),by decide,⟨λ_=>rfl,λ_=>h3⟩,.inr (.inr ⟨h3,q2⟩),q3.mono (by omega)⟩
  ·have:(kd==3)=false:=by simpa using h3
   rw [this,cond_false]
   obtain ⟨m,s8,q1,q2,q3,q4⟩:=qP s7 1 2 g5 (by omega) (by decide) (by decide) (by decide)
   obtain ⟨ar,s9,r1,r2,r3,r4⟩:=OE m ⟨q2,q3⟩ s8 q4 (by omega)
   rw [q1,ob_,r1]
   refine⟨ar,tx,s9,rfl,r3,by omega,⟨λh=>absurd h h3,λh => ?_⟩,htx.imp (λh=>h) .inl,r4.mono (by omega)⟩
   rw [h]at r2;simp at r2;omega
 refine⟨⟨id,sd,kd,rf,n5*5,n5*5+un,wt,ar,tx2⟩,s8,?_,⟨hid,hsd,by simp only [];omega,g2,g3,g4,by simp only [];omega,by simp only [];omega,hwt,j2,j3,j4,j5⟩,rfl,j6⟩
 unfold fe
 have e0:(⟨s.L,s.f_at⟩:Stream)=s:=rfl
 simp only [e0,a1,b1,c1,d1,e1,f1,g1,j1,ob_]
 rw [kr _ _ (by simp;omega),jl (n:=n5*5) (by omega),jl (n:=n5*5+un) (by omega)];rfl
def befA (a b:Alert):Prop:=a.At<b.At\/a.At=b.At/\lt a.Id b.Id
open Classical in
theorem Qz {a b:Alert} (ha:RightA a) (hb:RightA b):lY a b=some (bif a.At != b.At then a.At-b.At else bif sLt a.Id b.Id then -1 else 1):=by
 have h1:=ha.at_
 have h2:=hb.at_
 unfold lY
 cases a.At != b.At with
 | true=>rw [cond_true,cond_true,jl (by omega)]
 | false =>
  rw [cond_false,cond_false]
  cases sLt a.Id b.Id <;> rfl
theorem su {a b:Alert}:(bif a.At != b.At then a.At-b.At else bif sLt a.Id b.Id then (-1:Int)else 1)<0↔befA a b:=by
 unfold befA
 by_cases h:a.At=b.At
 ·have:(a.At != b.At)=false:=by simpa using h
  rw [this,cond_false]
  cases hl:sLt a.Id b.Id with
  | true =>
   rw [cond_true]
   exact⟨λ_ => .inr ⟨h,(wD _ _).1 hl⟩,λ_=>by decide⟩
  | false =>
   rw [cond_false]
   refine⟨λh=>absurd h (by decide),λhb => ?_⟩
   rcases hb with hb|hb
   ·omega
   ·rw [(wD _ _).2 hb.2]at hl;cases hl
 ·have:(a.At != b.At)=true:=by simpa using h
  rw [this,cond_true]
  refine⟨λk => .inl (by omega),λhb => ?_⟩
  rcases hb with hb|hb
  ·omega
  ·exact absurd hb.1 h
theorem E8 (a:Alert):¬befA a a:=λh=>by
 rcases h with h|h
 ·omega
 ·exact uS _ h.2
theorem Fg {a b c:Alert} (h:befA a b) (k:befA b c):befA a c:=by
 rcases h with h|h <;> rcases k with k|k
 ·exact .inl (by omega)
 ·exact .inl (by omega)
 ·exact .inl (by omega)
 ·exact .inr ⟨h.1.trans k.1,lt_trans h.2 k.2⟩
theorem KC (a b:Alert) (hid:a.Id≠b.Id):befA a b\/befA b a:=by
 rcases Int.lt_trichotomy a.At b.At with h|h|h
 ·exact .inl (.inl h)
 ·rcases BC a.Id b.Id with k|k|k
  ·exact .inl (.inr ⟨h,k⟩)
  ·exact absurd k hid
  ·exact .inr (.inr ⟨h.symm,k⟩)
 ·exact .inr (.inl h)
theorem C9 {a b c:Alert} (h:¬befA a b) (k:¬befA b c):¬befA a c:=λhc=>by
 unfold befA at *
 simp only [not_or,not_and]at h k
 rcases hc with hc|hc
 ·rcases Int.lt_trichotomy a.At b.At with q|q|q
  ·exact h.1 q
  ·rcases Int.lt_trichotomy b.At c.At with r|r|r
   ·exact k.1 r
   ·omega
   ·omega
  ·have:=k.1;omega
 ·have h1:=h.1
  have k1:=k.1
  have e1:a.At=b.At:=by omega
  have e2:b.At=c.At:=by omega
  have h2:=h.2 e1
  have k2:=k.2 e2
  rcases BC a.Id b.Id with q|q|q
  ·exact h2 q
  ·rw [q]at hc;exact k2 hc.2
  ·rcases BC b.Id c.Id with r|r|r
   ·exact k2 r
   ·rw [<- r]at hc;exact h2 hc.2
   ·exact uS _ (lt_trans (lt_trans hc.2 r) q)
structure RAlerts (l:List Alert) (n:Nat):Prop where
 right:∀x∈l,RightA x
 rise:l.Pairwise befA
 ids:(l.map (·.Id)).Nodup
 len:l.length<=n
theorem Ii (most:Int) (hm:0<=most/\most<=6) (s:Stream) {b:Int} (hs:Ok s b) (hb:b<=600000):∃l s',gG s most=some (l,s')/\(RAlerts l most.toNat/\∀x∈l,x.Id∈idL.take most.toNat)/\Ok s' (b+250):=by
 obtain ⟨n,s1,a1,a2,a3,a4⟩:=qP s 0 most hs (by omega) (by omega) (by decide) (by omega)
 have hsub:IJ idL 0 n=some (idL.take n.toNat):=by
  unfold IJ
  have h6:idL.length=6:=rfl
  rw [if_pos (by rw [h6];omega)]
  simp
 obtain ⟨t,t1,t2,t3,t4⟩:=pq (body:=λk x s=>fe k x s) (xs:=idL.take n.toNat) (s:=(([]:List Alert),s1.L,s1.f_at)) (λk t=>t.1.map (·.Id)=idL.take k/\(∀x∈t.1,RightA x)/\Ok ⟨t.2.1,t.2.2⟩ (b+1+40*k)) (by rw [List.length_take];show min n.toNat 6<=_;omega) (λk x t hx ⟨i1,i2,i3⟩=>by
  have hk:k<(idL.take n.toNat).length:=(List.getElem?_eq_some_iff.1 hx).1
  rw [List.length_take]at hk
  have hk6:k<6:=by have:idL.length=6:=rfl;omega
  have hx':idL[k]? = some x:=by rw [List.getElem?_take_of_lt (by omega)]at hx;exact hx
  have hlen:t.1.length<=6:=by
   have:=congrArg List.length i1
   rw [List.length_map,List.length_take]at this
   omega
  obtain ⟨y,s2,c1,c2,c3,c4⟩:=OB x (List.mem_of_getElem? hx') k t.1 (by omega) ⟨t.2.1,t.2.2⟩ i3 (by omega)
  refine⟨_,c1,?_,λz hz => ?_,c4.mono (by omega)⟩
  ·rw [List.map_append,i1,List.take_add_one,hx']
   simp [c3]
  ·rcases List.mem_append.1 hz with hz|hz
   ·exact i2 z hz
   ·rw [List.mem_singleton.1 hz];exact c2) ⟨rfl,λx hx=>(by cases hx),a4.mono (by omega)⟩
 have hnd:(t.1.map (·.Id)).Nodup:=by
  rw [t2]
  exact (Pd.sublist (List.take_sublist _ _)).imp (λh e=>by rw [e]at h;exact uS _ h)
 have hlen:t.1.length<=most.toNat:=by
  have:=congrArg List.length t2
  rw [List.length_map,List.length_take,List.length_take]at this
  omega
 obtain ⟨r,r1,r2,r3⟩:=sort12 (cmp:=lY) (S:=cB) (λa b=>bif a.At != b.At then a.At-b.At else bif sLt a.Id b.Id then -1 else 1) (λ_=>rfl) (xs:=t.1) (by omega) (λx hx y hy=>Qz (t3 x hx) (t3 y hy))
  (λx y h k=>E8 x (Fg (su.1 h) (su.1 k))) (λx y z h k q=>C9 (λe=>h (su.2 e)) (λe=>k (su.2 e)) (su.1 q))
 have hrl:r.length=t.1.length:=r2.length_eq
 have hids:(r.map (·.Id)).Nodup:=(r2.map (·.Id)).nodup_iff.2 hnd
 have hin:∀x∈r,x.Id∈idL.take most.toNat:=λx hx=>by
  have h1:x.Id∈t.1.map (·.Id):=List.mem_map.2 ⟨x,r2.mem_iff.1 hx,rfl⟩
  rw [t2]at h1
  have h2:(idL.take n.toNat).length<=most.toNat:=by rw [List.length_take];omega
  have h3:idL.take (idL.take n.toNat).length=(idL.take most.toNat).take (idL.take n.toNat).length:=by rw [List.take_take,Nat.min_eq_left h2]
  rw [h3]at h1
  exact List.mem_of_mem_take h1
 refine⟨r,⟨t.2.1,t.2.2⟩,?_,⟨⟨λx hx=>t3 x (r2.mem_iff.1 hx),?_,hids,by omega⟩,hin⟩,t4.mono (by
  have:(idL.take n.toNat).length<=6:=by rw [List.length_take];exact Nat.min_le_right _ _
  omega)⟩
 ·unfold gG
  have e1:IJ ([(⟨#[97,97]⟩:ByteArray),(⟨#[97,98]⟩:ByteArray),(⟨#[97,99]⟩:ByteArray),(⟨#[97,100]⟩:ByteArray),(⟨#[97,101]⟩:ByteArray),(⟨#[97,102]⟩:ByteArray)]:List ByteArray) 0 n=some (idL.take n.toNat):=hsub
  simp only [a1,ob_,e1,t1,thenC]
  have e2:cB t.1=some r:=r1
  have e3:iR r t.1=some ():=by unfold iR;rw [if_pos hrl]
  rw [e2,ob_,e3];rfl
 ·refine List.pairwise_iff_getElem.2 (λi j hi hj hij => ?_)
  have h1:=List.pairwise_iff_getElem.1 r3 i j hi hj hij
  have h2:r[i].Id≠r[j].Id:=λe=>by
   have:=List.pairwise_iff_getElem.1 hids i j (by simpa using hi) (by simpa using hj) hij
   rw [List.getElem_map,List.getElem_map]at this
   exact this e
  rcases KC r[i] r[j] h2 with h|h
  ·exact h
  ·exact absurd (su.2 h) h1
theorem KT (most:Int) (hm:0<=most/\most<=6) (s:Stream) {b:Int} (hs:Ok s b) (hb:b<=600000):∃l s',gG s most=some (l,s')/\RAlerts l most.toNat/\Ok s' (b+250):=by
 obtain ⟨l,s',h1,h2,h3⟩:=Ii most hm s hs hb
 exact⟨l,s',h1,h2.1,h3⟩
theorem IW {a b:Alert} (h:befA a b):∃n,gL a b=some n/\n<0:=by
 refine⟨_,by simp only [gL,E9,GY,P9,ob_];rfl,?_⟩
 unfold or0 LH
 rcases h with h|⟨h,k⟩
 ·simp [h]
 ·rw [h]
  rcases Hq a.Id b.Id with⟨_,e⟩|⟨e,_⟩|⟨e,_⟩
  ·rw [e];simp
  ·rw [e]at k;exact absurd k (uS _)
  ·exact absurd (lt_trans k e) (uS _)
end Go.Proofs.YtkjlhdminmpmkabGreatDoor.Law

open Go Go.Eng
namespace Go.Proofs.YtkjlhdminmpmkabGreatDoor.Law
set_option linter.unusedVariables false
set_option linter.unusedSimpArgs false
theorem Ha {K T:Type} {eq:K->K->Bool} {k:K}:∀{es:List (K×T)},(∀e∈es,eq k e.1=false)->yE eq k es=none
 | [],_=>rfl
 | e::es,h=>by
  have h1:=h e (by simp)
  have h2:=Ha (es:=es) (λx hx=>h x (by simp [hx]))
  rw [yE,h1,h2];rfl
theorem O9 {a b:ByteArray} (h:(a==b)=true):a=b:=by
 obtain ⟨x⟩:=a
 obtain ⟨y⟩:=b
 have h1:(x==y)=true:=h
 rw [eq_of_beq h1]
theorem idsLoop (l:List Alert) (hnd:(l.map (·.Id)).Nodup) (hl:l.length<=1000):∃s,forL l ([]:List (ByteArray×Bool)) (λk x s=>fE k x s)=some (.go s):=by
 obtain ⟨s,e,_⟩:=pq (body:=λk x s=>fE k x s) (λk s=>s=(l.take k).map λa=>(a.Id,true)) (xs:=l) (s:=([]:List (ByteArray×Bool))) (by omega) (λk x s hx hs=>by
  have et:l.take (k+1)=l.take k++[x]:=by rw [List.take_add_one,hx];rfl
  have hn:yE eqS x.Id s=none:=Ha (λe he=>by
   rw [hs]at he
   obtain ⟨a,ha,rfl⟩:=List.mem_map.1 he
   obtain ⟨i,hi,rfl⟩:=List.getElem_of_mem ha
   rw [List.length_take]at hi
   obtain ⟨hk,hxk⟩:=List.getElem?_eq_some_iff.1 hx
   rw [<- Bool.not_eq_true]
   intro e
   replace e:=O9 e
   have:=List.pairwise_iff_getElem.1 hnd i k (by simp;omega) (by simpa using hk) (by omega)
   rw [List.getElem_map,List.getElem_map,hxk]at this
   rw [List.getElem_take]at e
   exact this e.symm)
  unfold fE kw pR
  rw [hn]
  refine⟨_,rfl,?_⟩
  rw [et,List.map_append,hs];rfl) rfl
 exact⟨s,e⟩
theorem uZ {l:List Alert} {n:Nat} (h:RAlerts l n) (hn:n<=300):bW l=some 0:=by
 have hl:=h.len
 unfold bW
 rw [decide_eq_false (by omega),cond_false]
 obtain ⟨u,e,_⟩:=pq (body:=λk x s=>fG l k x s) (λ_ _=>True) (xs:=l) (s:=()) (by omega) (λk x s hx _=>by
  refine⟨(),?_,trivial⟩
  have hm:=List.mem_of_getElem? hx
  unfold fG
  rw [Bn (h.right x hm)]
  simp only [ob_,bne_self_eq_false,cond_false]
  rcases Nat.eq_zero_or_pos k with h0|h0
  ·rw [decide_eq_false (by omega)];rfl
  ·rw [decide_eq_true (by omega),cond_true]
   obtain ⟨y,q1,q2⟩:=EE hx h0 (by omega)
   have hb:befA y x:=by
    obtain ⟨l1,m1⟩:=List.getElem?_eq_some_iff.1 q2
    obtain ⟨l2,m2⟩:=List.getElem?_eq_some_iff.1 hx
    rw [<- m1,<- m2]
    exact List.pairwise_iff_getElem.1 h.rise _ _ l1 l2 (by omega)
   obtain ⟨m,m1,m2⟩:=IW hb
   rw [q1,ob_,m1,ob_,decide_eq_false (by omega)];rfl) trivial
 rw [e]
 simp only [ob_,thenC]
 obtain ⟨s,e2⟩:=idsLoop l h.ids (by omega)
 rw [e2];rfl
structure RightPo (p:Post):Prop where
 key:kit_IsKey p.Player=some true
 x : -1000<=p.X/\p.X<=1000
 y : -1000<=p.Y/\p.Y<=1000
end Go.Proofs.YtkjlhdminmpmkabGreatDoor.Law

open Go Go.Eng
namespace Go.Proofs.YtkjlhdminmpmkabGreatDoor.Law
set_option linter.unusedVariables false
set_option linter.unusedSimpArgs false
end Go.Proofs.YtkjlhdminmpmkabGreatDoor.Law

open Go Go.Eng
namespace Go.Proofs.YtkjlhdminmpmkabGreatDoor.Law
set_option linter.unusedVariables false
set_option linter.unusedSimpArgs false
end Go.Proofs.YtkjlhdminmpmkabGreatDoor.Law

open Go Go.Eng
namespace Go.Proofs.YtkjlhdminmpmkabGreatDoor.Law
set_option linter.unusedVariables false
set_option linter.unusedSimpArgs false
instance (a b:Alert):Decidable (lt a.Id b.Id):=by unfold lt;exact inferInstance
instance (a b:Alert):Decidable (befA a b):=by unfold befA;exact inferInstance
instance (v:ByteArray) (l:List ByteArray):Decidable (v∈l):=decidable_of_iff (l.any (λx=>decide (v=x))=true) (by simp)
def xO (a o:Alert) (r:ByteArray):Bool:=decide (o.Id=r)&&(decide (o.Sender=a.Sender)&&decide (befA o a))
def J3 (a z:Alert):Bool:=decide (z.Id∈a.Refs)&&(decide (z.Sender=a.Sender)&&decide (befA z a))
def Bv (l:List Alert) (z:Alert):Int:=l.foldl (λm a=>bif J3 a z then min m a.At else m) z.Until
def onB (l:List Alert) (t:Int) (z:Alert):Bool:=decide (z.Kind≠3)&&(decide (z.At<=t)&&decide (t<Bv l z))
end Go.Proofs.YtkjlhdminmpmkabGreatDoor.Law

open Go Go.Eng
namespace Go.Proofs.YtkjlhdminmpmkabGreatDoor.Law
set_option linter.unusedVariables false
set_option linter.unusedSimpArgs false
structure CA (l:List Alert):Prop where
 ids:(l.map (·.Id)).Nodup
 len:l.length<=12
 refs:∀x∈l,x.Refs.length<=1000
 alen:∀x∈l,x.Areas.length<=1000
 areas:∀x∈l,∀r∈x.Areas,Fine r
 at_:∀x∈l,0<=x.At/\x.At<=1000000000000
 until_:∀x∈l,0<=x.Until/\x.Until<=2000000000000
theorem RAlerts.ca {l:List Alert} {n:Nat} (h:RAlerts l n) (hn:n<=12):CA l:=by
 refine⟨h.ids,by have:=h.len;omega,λx hx => ?_,λx hx => ?_,λx hx r hr=>((h.right x hx).areas r hr).1,λx hx => ?_,λx hx => ?_⟩
 ·have:=(h.right x hx).refsLen;omega
 ·have:=(h.right x hx).alen;omega
 ·have:=(h.right x hx).at_;omega
 ·have:=(h.right x hx).at_;have:=(h.right x hx).until_;omega
theorem tF {l:List Alert} (h:(l.map (·.Id)).Nodup) {i j:Nat} {a b:Alert} (ha:l[i]? = some a) (hb:l[j]? = some b) (e:a.Id=b.Id):i=j:=by
 obtain ⟨h1,e1⟩:=List.getElem?_eq_some_iff.1 ha
 obtain ⟨h2,e2⟩:=List.getElem?_eq_some_iff.1 hb
 have hp:=List.pairwise_iff_getElem.1 h
 rcases Nat.lt_trichotomy i j with q|q|q
 ·exact absurd (by rw [List.getElem_map,List.getElem_map,e1,e2];exact e) (hp i j (by simpa using h1) (by simpa using h2) q)
 ·exact q
 ·exact absurd (by rw [List.getElem_map,List.getElem_map,e1,e2];exact e.symm) (hp j i (by simpa using h2) (by simpa using h1) q)
theorem N7 (l:List Alert) (a z:Alert):Bv (l++[a]) z=bif J3 a z then min (Bv l z) a.At else Bv l z:=by
 unfold Bv
 rw [List.foldl_append];rfl
def Ko (a:Alert) (j:Nat) (z:Alert):Bool:=decide (z.Id∈a.Refs.take j)&&(decide (z.Sender=a.Sender)&&decide (befA z a))
def wK (l:List Alert) (k:Nat) (a:Alert) (j:Nat) (z:Alert):Int:=bif Ko a j z then min (Bv (l.take k) z) a.At else Bv (l.take k) z
theorem endJ_0 (l:List Alert) (k:Nat) (a z:Alert):wK l k a 0 z=Bv (l.take k) z:=by
 unfold wK Ko
 rw [decide_eq_false (by simp)];rfl
theorem PH {l:List Alert} {k:Nat} {a:Alert} (h:l[k]? = some a) (z:Alert):wK l k a a.Refs.length z=Bv (l.take (k+1)) z:=by
 have et:l.take (k+1)=l.take k++[a]:=by rw [List.take_add_one,h];rfl
 rw [et,N7]
 unfold wK Ko J3
 rw [List.take_length]
theorem sV {a o:Alert} {r:ByteArray}:xO a o r=true↔o.Id=r/\o.Sender=a.Sender/\befA o a:=by
 unfold xO
 simp only [Bool.and_eq_true,decide_eq_true_eq]
theorem Jw {a z:Alert} {j:Nat}:Ko a j z=true↔z.Id∈a.Refs.take j/\z.Sender=a.Sender/\befA z a:=by
 unfold Ko
 simp only [Bool.and_eq_true,decide_eq_true_eq]
theorem OG {a z:Alert} {j:Nat} {r:ByteArray} (hr:a.Refs[j]? = some r):Ko a (j+1) z=(Ko a j z||xO a z r):=by
 have et:a.Refs.take (j+1)=a.Refs.take j++[r]:=by rw [List.take_add_one,hr];rfl
 rw [Bool.eq_iff_iff,Bool.or_eq_true,Jw,Jw,sV,et,List.mem_append,List.mem_singleton]
 constructor
 ·rintro ⟨h|h,k⟩
  ·exact .inl ⟨h,k⟩
  ·exact .inr ⟨h,k⟩
 ·rintro (⟨h,k⟩|⟨h,k⟩)
  ·exact⟨.inl h,k⟩
  ·exact⟨.inr h,k⟩
theorem BP {l:List Alert} {k j:Nat} {a z:Alert} {r:ByteArray} (hr:a.Refs[j]? = some r):wK l k a (j+1) z=bif xO a z r then min (wK l k a j z) a.At else wK l k a j z:=by
 unfold wK
 rw [OG hr]
 cases Ko a j z <;> cases xO a z r <;> simp only [Bool.or_true,Bool.or_false,Bool.false_or,Bool.true_or,cond_true,cond_false]
 omega
theorem map_none {l:List Alert} {k j:Nat} {a:Alert} {r:ByteArray} (hr:a.Refs[j]? = some r) (h:l.any (λo=>xO a o r)=false):l.map (wK l k a (j+1))=l.map (wK l k a j):=by
 refine List.map_congr_left (λz hz => ?_)
 have:xO a z r=false:=by
  rw [<- Bool.not_eq_true];intro e
  have:l.any (λo=>xO a o r)=true:=List.any_eq_true.2 ⟨z,hz,e⟩
  rw [h]at this;cases this
 rw [BP hr,this,cond_false]
theorem map_one {l:List Alert} (hid:(l.map (·.Id)).Nodup) {k j i:Nat} {a z:Alert} {r:ByteArray} (hr:a.Refs[j]? = some r) (hz:l[i]? = some z) (h:xO a z r=true):l.map (wK l k a (j+1))=(l.map (wK l k a j)).set i (min (wK l k a j z) a.At):=by
 refine List.ext_getElem? (λn => ?_)
 rw [List.getElem?_map,List.getElem?_set]
 by_cases hin:i=n
 ·subst hin
  obtain ⟨h1,_⟩:=List.getElem?_eq_some_iff.1 hz
  rw [if_pos rfl,if_pos (by simpa using h1),hz,Option.map_some,BP hr,h,cond_true]
 ·rw [if_neg hin,List.getElem?_map]
  cases hn:l[n]? with
  | none=>rfl
  | some y =>
   rw [Option.map_some,Option.map_some,BP hr]
   have:xO a y r=false:=by
    rw [<- Bool.not_eq_true];intro e
    exact hin (tF hid hz hn ((sV.1 h).1.trans (sV.1 e).1.symm))
   rw [this,cond_false]
theorem xY {α:Type} {f:α->Option Bool} {p:α->Bool} {B:Nat->α->Unit->Option (Ctl Unit Int)} (hB:∀k x,B k x ()=(f x).bind λr=>bif r then some (.ret (k:Int))else some (.go ())):∀(xs:List α) (k:Nat),(∀x∈xs,f x=some (p x)) ->
  (xs.any p=false/\forR B xs k ()=some (.go ()))\/∃(j:Nat) (x:α),xs[j]? = some x/\p x=true/\(∀(i:Nat) (y:α),i<j->xs[i]? = some y->p y=false)/\forR B xs k ()=some (.ret ((k+j:Nat):Int))/\xs.any p=true
 | [],k,h => .inl ⟨rfl,rfl⟩
 | x::xs,k,h=>by
  have hx:=h x (by simp)
  cases hp:p x with
  | true =>
   refine .inr ⟨0,x,rfl,hp,λi y hi=>absurd hi (Nat.not_lt_zero _),?_,by rw [List.any_cons,hp];rfl⟩
   rw [forR,hB,hx,hp];rfl
  | false =>
   have e1:forR B (x::xs) k ()=forR B xs (k+1) ():=by rw [forR,hB,hx,hp];rfl
   rw [e1,List.any_cons,hp,Bool.false_or]
   rcases xY hB xs (k+1) (λy hy=>h y (by simp [hy]))with⟨h1,h2⟩|⟨j,y,h1,h2,h3,h4,h5⟩
   ·exact .inl ⟨h1,h2⟩
   ·refine .inr ⟨j+1,y,h1,h2,λi z hi hz => ?_,by rw [h4];congr 3;omega,h5⟩
    cases i with
    | zero=>rw [List.getElem?_cons_zero,so_]at hz;rw [<- hz];exact hp
    | succ i=>exact h3 i z (by omega) (by simpa using hz)
theorem minI_m (a b:Int):yD a b=min a b:=by unfold yD;split <;> omega
theorem C8 (a b:Alert):∃n,gL a b=some n/\(n<0↔befA a b):=by
 refine⟨_,by simp only [gL,E9,GY,P9,ob_];rfl,?_⟩
 rw [or0_neg,Pz,NW,QL];rfl
theorem OL (a o:Alert) (r:ByteArray):lD o r a=some (xO a o r):=by
 obtain ⟨n,n1,n2⟩:=C8 o a
 unfold lD xO
 rw [wO,wO,n1]
 have:decide (n<0)=decide (befA o a):=by rw [decide_eq_decide];exact n2
 cases decide (o.Id=r) <;> cases decide (o.Sender=a.Sender) <;> simp [this]
theorem Mt {l:List Alert} (hl:l.length<=1000) (a:Alert) (r:ByteArray):(oz l a r=some (-1)/\l.any (λo=>xO a o r)=false)\/∃(j:Nat) (z:Alert),oz l a r=some (j:Int)/\l[j]? = some z/\xO a z r=true:=by
 unfold oz bf
 rw [iX (by omega)]
 rcases xY (f:=λx0=>lD x0 r a) (p:=λo=>xO a o r) (B:=λk x s=>bD (λx0=>lD x0 r a) k x s) (λk x=>rfl) l 0 (λx _=>OL a x r)with⟨h1,h2⟩|⟨j,x,h1,h2,_,h4,_⟩
 ·rw [h2];exact .inl ⟨rfl,h1⟩
 ·rw [h4];exact .inr ⟨j,x,by simp only [ob_,thenC,Nat.zero_add],h1,h2⟩
theorem NR {l:List Alert} (h:CA l) {k j:Nat} {a:Alert} {r:ByteArray} (hr:a.Refs[j]? = some r):lZ l a j r (l.map (wK l k a j))=some (.go (l.map (wK l k a (j+1)))):=by
 have hl:=h.len
 unfold lZ
 rcases Mt (Nat.le_trans hl (by decide)) a r with⟨h1,h2⟩|⟨i,z,h1,h2,h3⟩
 ·rw [h1,ob_,decide_eq_false (by decide),cond_false,ob_,map_none hr h2]
 ·obtain ⟨hi,_⟩:=List.getElem?_eq_some_iff.1 h2
  have e1:(l.map (wK l k a j))[(0+((i:Int)).toNat)]? = some (wK l k a j z):=by
   rw [show 0+((i:Int)).toNat=i by omega,List.getElem?_map,h2];rfl
  have hin:inR (i:Int) (l.map (wK l k a j))=some ():=inR_ok (by omega) (by rw [List.length_map];omega)
  rw [h1,ob_,decide_eq_true (by omega),cond_true,hin,e1]
  simp only [ob_]
  rw [map_one h.ids hr h2 h3,minI_m,show 0+((i:Int)).toNat=i by omega]
theorem ends_eq {l:List Alert} (h:CA l):sS l=some (l.map (Bv l)):=by
 have hl:=h.len
 unfold sS
 obtain ⟨t,t1,t2⟩:=pq (body:=λk x s=>nY k x s) (λk s=>s=(l.take k).map (·.Until)) (xs:=l) (s:=([]:List Int)) (by omega) (λk x s hx hs=>by
  have et:l.take (k+1)=l.take k++[x]:=by rw [List.take_add_one,hx];rfl
  have hk:(l.take k).length<=l.length:=by rw [List.length_take];exact Nat.min_le_right _ _
  unfold nY
  rw [hs,kr _ _ (by simp only [List.length_map,List.length_cons,List.length_nil];omega)]
  exact⟨_,rfl,by rw [et,List.map_append];rfl⟩) rfl
 rw [t1,t2,List.take_length]
 simp only [ob_,thenC]
 obtain ⟨u,u1,u2⟩:=pq (body:=λk x s=>nV l k x s) (λk s=>s=l.map (Bv (l.take k))) (xs:=l) (s:=l.map (·.Until)) (by omega) (λk x s hx hs=>by
  have hrl:=h.refs x (List.mem_of_getElem? hx)
  obtain ⟨v,v1,v2⟩:=pq (body:=λj r s=>lZ l x j r s) (λj s=>s=l.map (wK l k x j)) (xs:=x.Refs) (s:=s) (by omega) (λj r s hr hs=>by
   rw [hs]
   exact⟨_,NR h hr,rfl⟩) (by rw [hs];exact List.map_congr_left (λz _=>(endJ_0 l k x z).symm))
  unfold nV
  rw [v1]
  exact⟨v,rfl,by rw [v2];exact List.map_congr_left (λz _=>PH hx z)⟩) rfl
 rw [u1,u2,List.take_length]
 rfl
theorem isOn_eq (l:List Alert) (a:Alert) (t:Int):sN a (Bv l a) t=some (onB l t a):=by
 unfold sN onB
 have e:(a.Kind != 3)=decide (a.Kind≠3):=by rw [Bool.eq_iff_iff];simp
 rw [e]
 cases decide (a.Kind≠3) <;> cases decide (a.At<=t) <;> rfl
end Go.Proofs.YtkjlhdminmpmkabGreatDoor.Law

open Go Go.Eng
namespace Go.Proofs.YtkjlhdminmpmkabGreatDoor.Law
set_option linter.unusedVariables false
set_option linter.unusedSimpArgs false
section
variable {K T:Type} {eq:K->K->Bool}
theorem Pn (k:K):kw eq ([]:List (K×T)) k=none:=rfl
theorem vT (e:K×T) (es:List (K×T)) (k:K):kw eq (e::es) k=if eq k e.1=true then some e.2 else kw eq es k:=by
 unfold kw
 rw [yE]
 by_cases h:eq k e.1=true
 ·rw [if_pos h,if_pos h];rfl
 ·rw [if_neg h,if_neg h]
  cases yE eq k es with
  | none=>rfl
  | some j=>rfl
theorem Pj (k:K) (v:T):pR eq ([]:List (K×T)) k v=[(k,v)]:=rfl
theorem Hf (e:K×T) (es:List (K×T)) (k:K) (v:T):pR eq (e::es) k v=if eq k e.1=true then (k,v)::es else e::pR eq es k v:=by
 unfold pR
 rw [yE]
 by_cases h:eq k e.1=true
 ·rw [if_pos h,if_pos h];rfl
 ·rw [if_neg h,if_neg h]
  cases yE eq k es with
  | none=>rfl
  | some j=>rfl
theorem Ck (he:∀a b,eq a b=true↔a=b) (k k':K) (v:T):∀es:List (K×T),kw eq (pR eq es k v) k'=if eq k' k=true then some v else kw eq es k'
 | []=>by rw [Pj,vT]
 | e::es=>by
  rw [Hf,vT]
  by_cases h:eq k e.1=true
  ·rw [if_pos h,vT]
   have h1:=(he _ _).1 h
   rw [<- h1]
   by_cases h2:eq k' k=true
   ·rw [if_pos h2,if_pos h2]
   ·rw [if_neg h2,if_neg h2,if_neg h2]
  ·rw [if_neg h,vT,Ck he k k' v es]
   by_cases h2:eq k' e.1=true
   ·have h3:=(he _ _).1 h2
    have:¬eq k' k=true:=λq=>h (by rw [<- (he _ _).1 q];exact h2)
    rw [if_pos h2,if_neg this,if_pos h2]
   ·rw [if_neg h2,if_neg h2]
end
theorem y5 (a b:ByteArray):eqS a b=true↔a=b:=⟨O9,λh=>by
 subst h
 obtain ⟨x⟩:=a
 show (x==x)=true
 exact beq_self_eq_true x⟩
def JZ (s:List (ByteArray×Bool)) (sn:List ByteArray):Prop:=∀k,kw eqS s k=if k∈sn then some true else none
theorem JZ.nil:JZ [] []:=λk=>by rw [Pn,if_neg (by simp)]
theorem JZ.set {s:List (ByteArray×Bool)} {sn:List ByteArray} (h:JZ s sn) (id:ByteArray):JZ (pR eqS s id true) (sn++[id]):=λk=>by
 rw [Ck y5,h k]
 by_cases h1:eqS k id=true
 ·rw [if_pos h1,if_pos (by rw [(y5 _ _).1 h1];simp)]
 ·rw [if_neg h1]
  have:k∈sn++[id]↔k∈sn:=by
   rw [List.mem_append,List.mem_singleton]
   exact⟨λq=>q.resolve_right (λe=>h1 ((y5 _ _).2 e)),.inl⟩
  by_cases h2:k∈sn
  ·rw [if_pos h2,if_pos (this.2 h2)]
  ·rw [if_neg h2,if_neg (λq=>h2 (this.1 q))]
end Go.Proofs.YtkjlhdminmpmkabGreatDoor.Law

open Go Go.Eng Go.Flow
namespace Go.Proofs.YtkjlhdminmpmkabGreatDoor.Law
set_option linter.unusedVariables false
set_option linter.unusedSimpArgs false
set_option linter.unusedSectionVars false
def Ed (l:List Alert) (k i:Nat):Prop:=∃a z,l[k]? = some a/\l[i]? = some z/\z.Id∈a.Refs/\z.Sender=a.Sender/\befA z a
def Aj (l:List Alert) (i j:Nat):Prop:=Ed l i j\/Ed l j i
inductive Rc (l:List Alert) (f:Nat):Nat->Prop
 | base:Rc l f f
 | step {i j:Nat} (h:Rc l f i) (e:Aj l i j):Rc l f j
def idOf (l:List Alert) (i:Nat):ByteArray:=match l[i]? with | some a=>a.Id | none=>⟨#[]⟩
theorem wu {l:List Alert} {i:Nat} {a:Alert} (h:l[i]? = some a):idOf l i=a.Id:=by unfold idOf;rw [h]
theorem Ed.lt {l:List Alert} {k i:Nat} (h:Ed l k i):k<l.length/\i<l.length:=by
 obtain ⟨a,z,h1,h2,_⟩:=h
 exact⟨(List.getElem?_eq_some_iff.1 h1).1,(List.getElem?_eq_some_iff.1 h2).1⟩
theorem Aj.lt {l:List Alert} {i j:Nat} (h:Aj l i j):i<l.length/\j<l.length:=by
 rcases h with h|h
 ·exact h.lt
 ·exact⟨h.lt.2,h.lt.1⟩
theorem Aj.symm {l:List Alert} {i j:Nat} (h:Aj l i j):Aj l j i:=by
 rcases h with h|h
 ·exact .inr h
 ·exact .inl h
theorem Rc.lt {l:List Alert} {f i:Nat} (hf:f<l.length) (h:Rc l f i):i<l.length:=by
 cases h with
 | base=>exact hf
 | step h e=>exact e.lt.2
theorem PM {l:List Alert} (hid:(l.map (·.Id)).Nodup) {i j:Nat} (hi:i<l.length) (hj:j<l.length) (e:idOf l i=idOf l j):i=j:=by
 rw [wu (List.getElem?_eq_getElem hi),wu (List.getElem?_eq_getElem hj)]at e
 exact tF hid (List.getElem?_eq_getElem hi) (List.getElem?_eq_getElem hj) e
def Dn (l:List Alert) (k j x i:Nat):Prop:=(x<k/\Ed l x i)\/(x=k/\∃a z,l[k]? = some a/\l[i]? = some z/\z.Id∈a.Refs.take j/\z.Sender=a.Sender/\befA z a)
section
variable {l:List Alert} {k j:Nat} {a:Alert} {r:ByteArray}
theorem Np (hk:l[k]? = some a) (hr:a.Refs[j]? = some r) (x i:Nat):Dn l k (j+1) x i↔Dn l k j x i\/(x=k/\∃z,l[i]? = some z/\xO a z r=true):=by
 unfold Dn
 constructor
 ·rintro (h|⟨h1,a',z,h2,h3,h4,h5,h6⟩)
  ·exact .inl (.inl h)
  ·rw [hk]at h2
   simp only [so_]at h2
   subst h2
   rw [List.take_add_one,hr]at h4
   rcases List.mem_append.1 h4 with h4|h4
   ·exact .inl (.inr ⟨h1,a,z,hk,h3,h4,h5,h6⟩)
   ·exact .inr ⟨h1,z,h3,sV.2 ⟨by simpa using h4,h5,h6⟩⟩
 ·rintro ((h|⟨h1,a',z,h2,h3,h4,h5,h6⟩) | ⟨h1,z,h3,h4⟩)
  ·exact .inl h
  ·refine .inr ⟨h1,a',z,h2,h3,?_,h5,h6⟩
   rw [List.take_add_one]
   exact List.mem_append_left _ h4
  ·obtain ⟨g1,g2,g3⟩:=sV.1 h4
   refine .inr ⟨h1,a,z,hk,h3,?_,g2,g3⟩
   rw [List.take_add_one,hr,g1]
   exact List.mem_append_right _ (by simp)
theorem H5 (hk:l[k]? = some a) (x i:Nat):Dn l (k+1) 0 x i↔Dn l k a.Refs.length x i:=by
 unfold Dn
 constructor
 ·rintro (⟨h1,h2⟩|⟨_,a',z,_,_,h4,_⟩)
  ·by_cases hx:x=k
   ·subst hx
    obtain ⟨a',z,g1,g2,g3,g4⟩:=h2
    refine .inr ⟨rfl,a',z,g1,g2,?_,g4⟩
    rw [hk]at g1
    simp only [so_]at g1
    subst g1
    rw [List.take_length];exact g3
   ·exact .inl ⟨by omega,h2⟩
  ·simp at h4
 ·rintro (⟨h1,h2⟩|⟨h1,a',z,h2,h3,h4,h5⟩)
  ·exact .inl ⟨by omega,h2⟩
  ·exact .inl ⟨by omega,a',z,by rw [h1];exact h2,h3,List.mem_of_mem_take h4,h5⟩
theorem Iq (x i:Nat):Dn l l.length 0 x i↔Ed l x i:=by
 unfold Dn
 constructor
 ·rintro (⟨_,h⟩|⟨_,a',z,_,_,h4,_⟩)
  ·exact h
  ·simp at h4
 ·exact λh => .inl ⟨h.lt.1,h⟩
theorem Dn_0 (x i:Nat):¬Dn l 0 0 x i:=by
 rintro (⟨h,_⟩|⟨_,a',z,_,_,h4,_⟩)
 ·omega
 ·simp at h4
structure Nr (l:List Alert) (k j:Nat) (rows:List (List Int)):Prop where
 len:rows.length=l.length
 sz:∀(i:Nat) (r:List Int),rows[i]? = some r->r.length<=4000*k+2*j
 in_:∀(i:Nat) (r:List Int),rows[i]? = some r->∀y∈r,∃x:Nat,y=(x:Int)/\(Dn l k j x i\/Dn l k j i x)
 has:∀(i x:Nat) (r:List Int),rows[i]? = some r->(Dn l k j x i\/Dn l k j i x)->(x:Int)∈r
theorem NS (hca:CA l) (hk:l[k]? = some a) (hr:a.Refs[j]? = some r) {rows:List (List Int)} (h:Nr l k j rows):∃rows',jN l a l.length k j r rows=some (.go rows')/\Nr l k (j+1) rows':=by
 have hlen:=hca.len
 have hkl:k<l.length:=(List.getElem?_eq_some_iff.1 hk).1
 have hjl:j<a.Refs.length:=(List.getElem?_eq_some_iff.1 hr).1
 have hrefs:=hca.refs a (List.mem_of_getElem? hk)
 unfold jN
 rcases Mt (Nat.le_trans hlen (by decide)) a r with⟨h1,h2⟩|⟨i,z,h1,h2,h3⟩
 ·rw [h1,ob_,decide_eq_false (by decide),cond_false]
  have hno:∀z,z∈l->xO a z r=true->False:=λz hz hb=>by
   have:l.any (λo=>xO a o r)=true:=List.any_eq_true.2 ⟨z,hz,hb⟩
   rw [h2]at this;cases this
  have hsame:∀x i,Dn l k (j+1) x i↔Dn l k j x i:=λx i=>by
   rw [Np hk hr]
   constructor
   ·rintro (h|⟨_,z,g1,g2⟩)
    ·exact h
    ·exact (hno z (List.mem_of_getElem? g1) g2).elim
   ·exact .inl
  refine⟨rows,rfl,h.len,λi r hi=>by have:=h.sz i r hi;omega,λi r hi y hy => ?_,λi x r hi hx => ?_⟩
  ·obtain ⟨x,e,hx⟩:=h.in_ i r hi y hy
   exact⟨x,e,by rw [hsame,hsame];exact hx⟩
  ·rw [hsame,hsame]at hx
   exact h.has i x r hi hx
 ·have hil:i<l.length:=(List.getElem?_eq_some_iff.1 h2).1
  obtain ⟨g1,g2,g3⟩:=sV.1 h3
  have hik:i≠k:=λe=>by
   subst e
   rw [hk]at h2
   simp only [so_]at h2
   subst h2
   exact E8 _ g3
  have hnew:∀x y,Dn l k (j+1) x y↔Dn l k j x y\/(x=k/\y=i):=λx y=>by
   rw [Np hk hr]
   constructor
   ·rintro (h|⟨e,z',q1,q2⟩)
    ·exact .inl h
    ·refine .inr ⟨e,tF hca.ids q1 h2 ?_⟩
     rw [(sV.1 q2).1,g1]
   ·rintro (h|⟨e,e'⟩)
    ·exact .inl h
    ·exact .inr ⟨e,z,by rw [e'];exact h2,h3⟩
  have hri:rows[i]? = some (rows[i]'(by rw [h.len];exact hil)):=List.getElem?_eq_getElem _
  have hrk:rows[k]? = some (rows[k]'(by rw [h.len];exact hkl)):=List.getElem?_eq_getElem _
  generalize rows[i]'(by rw [h.len];exact hil)=ri at hri
  generalize rows[k]'(by rw [h.len];exact hkl)=rk at hrk
  have si:=h.sz i ri hri
  have sk:=h.sz k rk hrk
  have a1:jc ri [(k:Int)]=some (ri++[(k:Int)]):=kr _ _ (by simp;omega)
  have a2:jc rk [(i:Int)]=some (rk++[(i:Int)]):=kr _ _ (by simp;omega)
  have hne:neN i k=some ():=by unfold neN;rw [if_neg hik]
  have hset:(rows.set i (ri++[(k:Int)]))[k]? = some rk:=by rw [List.getElem?_set_ne hik];exact hrk
  rw [h1,ob_,decide_eq_true (by omega),cond_true]
  simp only [Ja hil,Ja hkl,toN,hri,hrk,a1,a2,hne,hset,ob_]
  have hget:∀m,((rows.set i (ri++[(k:Int)])).set k (rk++[(i:Int)]))[m]? = if m=k then some (rk++[(i:Int)])else if m=i then some (ri++[(k:Int)])else rows[m]? := λm=>by
   rw [List.getElem?_set,List.getElem?_set,List.length_set]
   by_cases e1:k=m
   ·subst e1;rw [if_pos rfl,if_pos rfl,if_pos (by rw [h.len];exact hkl)]
   ·rw [if_neg e1,if_neg (show ¬m=k from λe=>e1 e.symm)]
    by_cases e2:i=m
    ·subst e2;rw [if_pos (show i=i from rfl),if_pos (show i<rows.length by rw [h.len];exact hil),if_pos (show i=i from rfl)]
    ·rw [if_neg e2,if_neg (show ¬m=i from λe=>e2 e.symm)]
  refine⟨_,rfl,by rw [List.length_set,List.length_set];exact h.len,λm r hm => ?_,λm r hm y hy => ?_,λm x r hm hx => ?_⟩
  ·rw [hget]at hm
   split at hm
   ·simp only [so_]at hm;subst hm;simp;omega
   ·split at hm
    ·simp only [so_]at hm;subst hm;simp;omega
    ·have:=h.sz m r hm;omega
  ·rw [hget]at hm
   split at hm
   ·rename_i e;subst e
    simp only [so_]at hm;subst hm
    rcases List.mem_append.1 hy with hy|hy
    ·obtain ⟨x,e,hx⟩:=h.in_ _ _ hrk y hy
     exact⟨x,e,by rw [hnew,hnew];exact hx.imp .inl .inl⟩
    ·exact⟨i,List.mem_singleton.1 hy,.inr ((hnew _ _).2 (.inr ⟨rfl,rfl⟩))⟩
   ·split at hm
    ·rename_i e;subst e
     simp only [so_]at hm;subst hm
     rcases List.mem_append.1 hy with hy|hy
     ·obtain ⟨x,e,hx⟩:=h.in_ _ _ hri y hy
      exact⟨x,e,by rw [hnew,hnew];exact hx.imp .inl .inl⟩
     ·exact⟨k,List.mem_singleton.1 hy,.inl ((hnew _ _).2 (.inr ⟨rfl,rfl⟩))⟩
    ·obtain ⟨x,e,hx⟩:=h.in_ m r hm y hy
     exact⟨x,e,by rw [hnew,hnew];exact hx.imp .inl .inl⟩
  ·rw [hnew,hnew]at hx
   rw [hget]at hm
   split at hm
   ·rename_i e;subst e
    simp only [so_]at hm;subst hm
    rcases hx with (hx|⟨e1,e2⟩) | (hx|⟨e1,e2⟩)
    ·exact List.mem_append_left _ (h.has _ x _ hrk (.inl hx))
    ·exact absurd e2.symm hik
    ·exact List.mem_append_left _ (h.has _ x _ hrk (.inr hx))
    ·rw [e2];exact List.mem_append_right _ (by simp)
   ·rename_i hmk
    split at hm
    ·rename_i e;subst e
     simp only [so_]at hm;subst hm
     rcases hx with (hx|⟨e1,e2⟩) | (hx|⟨e1,e2⟩)
     ·exact List.mem_append_left _ (h.has _ x _ hri (.inl hx))
     ·rw [e1];exact List.mem_append_right _ (by simp)
     ·exact List.mem_append_left _ (h.has _ x _ hri (.inr hx))
     ·exact absurd e1 hmk
    ·rename_i hmi
     rcases hx with (hx|⟨e1,e2⟩) | (hx|⟨e1,e2⟩)
     ·exact h.has m x r hm (.inl hx)
     ·exact absurd e2 hmi
     ·exact h.has m x r hm (.inr hx)
     ·exact absurd e1 hmk
theorem near_ok (hca:CA l):∃rows,forL l (List.replicate l.length ([]:List Int)) (λk x s=>jM l l.length k x s)=some (.go rows)/\Nr l l.length 0 rows:=by
 have hlen:=hca.len
 refine w9 (body:=λk x s=>jM l l.length k x s) (λk s=>Nr l k 0 s) (by omega) (λk a rows hk hN => ?_) ⟨by simp,λi r hi => ?_,λi r hi y hy => ?_,λi x r hi hx => ?_⟩
 ·have hrefs:=hca.refs a (List.mem_of_getElem? hk)
  obtain ⟨rows',r1,r2⟩:=w9 (body:=λj x s=>jN l a l.length k j x s) (λj s=>Nr l k j s) (xs:=a.Refs) (s:=rows) (by omega) (λj r s hr hs=>NS hca hk hr hs) hN
  unfold jM
  rw [r1,ob_,lU]
  refine⟨rows',rfl,r2.len,λi r hi=>by have:=r2.sz i r hi;omega,λi r hi y hy => ?_,λi x r hi hx => ?_⟩
  ·obtain ⟨x,e,hx⟩:=r2.in_ i r hi y hy
   exact⟨x,e,by rw [H5 hk,H5 hk];exact hx⟩
  ·rw [H5 hk,H5 hk]at hx
   exact r2.has i x r hi hx
 ·rw [List.getElem?_replicate]at hi
  split at hi
  ·simp only [so_]at hi;subst hi;simp
  ·cases hi
 ·rw [List.getElem?_replicate]at hi
  split at hi
  ·simp only [so_]at hi;subst hi;cases hy
  ·cases hi
 ·rcases hx with hx|hx
  ·exact absurd hx (Dn_0 _ _)
  ·exact absurd hx (Dn_0 _ _)
theorem Nr.near {rows:List (List Int)} (h:Nr l l.length 0 rows) {i:Nat} {r:List Int} (hi:rows[i]? = some r):(∀y∈r,∃x:Nat,y=(x:Int)/\Aj l i x)/\(∀x,Aj l i x->(x:Int)∈r):=by
 refine⟨λy hy => ?_,λx hx => ?_⟩
 ·obtain ⟨x,e,hx⟩:=h.in_ i r hi y hy
  rw [Iq,Iq]at hx
  exact⟨x,e,hx.symm⟩
 ·refine h.has i x r hi ?_
  rw [Iq,Iq]
  exact hx.symm
end
end Go.Proofs.YtkjlhdminmpmkabGreatDoor.Law

open Go Go.Eng Go.Flow
namespace Go.Proofs.YtkjlhdminmpmkabGreatDoor.Law
set_option linter.unusedVariables false
set_option linter.unusedSimpArgs false
set_option linter.unusedSectionVars false
theorem Jd (a b:Int):eqI a b=true↔a=b:=beq_iff_eq
def seenB (m:List (Int×Bool)) (i:Nat):Bool:=(kw eqI m (i:Int)).getD false
theorem yQ (m:List (Int×Bool)) (x i:Nat):seenB (pR eqI m (x:Int) true) i=if i=x then true else seenB m i:=by
 unfold seenB
 rw [Ck Jd]
 by_cases h:i=x
 ·subst h;rw [if_pos ((Jd _ _).2 rfl),if_pos rfl];rfl
 ·rw [if_neg (λe=>h (by have:=(Jd _ _).1 e;omega)),if_neg h]
section
variable {l:List Alert} {f:Nat} {rows:List (List Int)}
structure Bs (l:List Alert) (f:Nat) (done wait:List Nat) (seen:List (Int×Bool)):Prop where
 nd:(done++wait).Nodup
 seen_:∀i,seenB seen i=true↔i∈done++wait
 rc:∀i∈done++wait,Rc l f i
 root:f∈done++wait
 clo:∀i∈done,∀x,Aj l i x->x∈done++wait
theorem Bs.add {done wait:List Nat} {seen:List (Int×Bool)} (h:Bs l f done wait seen) {x:Nat} (hx:¬seenB seen x=true) (hr:Rc l f x):Bs l f done (wait++[x]) (pR eqI seen (x:Int) true):=by
 have hnx:x∉done++wait:=λhm=>hx ((h.seen_ x).2 hm)
 have hm:∀i,i∈done++(wait++[x])↔i∈done++wait\/i=x:=λi=>by
  simp only [List.mem_append,List.mem_singleton]
  exact⟨λq=>q.elim (λq => .inl (.inl q)) (λq=>q.elim (λq => .inl (.inr q)) .inr),λq=>q.elim (λq=>q.elim .inl (λq => .inr (.inl q))) (λq => .inr (.inr q))⟩
 refine⟨?_,λi => ?_,λi hi => ?_,(hm f).2 (.inl h.root),λi hi y hy=>(hm y).2 (.inl (h.clo i hi y hy))⟩
 ·rw [<- List.append_assoc]
  exact List.nodup_append.2 ⟨h.nd,by simp,λa ha b hb e=>by
   rw [List.mem_singleton]at hb
   subst hb;subst e;exact hnx ha⟩
 ·rw [yQ,hm]
  by_cases e:i=x
  ·rw [if_pos e];simp [e]
  ·rw [if_neg e,h.seen_];simp [e]
 ·rcases (hm i).1 hi with q|q
  ·exact h.rc i q
  ·rw [q];exact hr
theorem Bs.len {done wait:List Nat} {seen:List (Int×Bool)} (h:Bs l f done wait seen) (hf:f<l.length):done.length+wait.length<=l.length:=by
 have h1:(done++wait).length<=(List.range l.length).length:=List.Nodup.length_le_of_subset h.nd (λi hi=>List.mem_range.2 ((h.rc i hi).lt hf))
 rw [List.length_append,List.length_range]at h1
 exact h1
structure Bi (l:List Alert) (f e:Nat) (done:List Nat) (r:List Int) (j:Nat) (t:List (Int×Bool)×List Int×Nat):Prop where
 le:t.2.2<=t.2.1.length
 ex:∃wait:List Nat,t.2.1.drop t.2.2=(e::wait).map (λi:Nat=>(i:Int))/\Bs l f done (e::wait) t.1
 dn:∀b,b<j->∀x:Nat,r[b]? = some (x:Int)->seenB t.1 x=true
theorem bfs_in (hca:CA l) (hf:f<l.length) (hN:Nr l l.length 0 rows) {e:Nat} {done:List Nat} {r:List Int} (hr:rows[e]? = some r) (he:Rc l f e) {j:Nat} (hj:j<r.length) {t:List (Int×Bool)×List Int×Nat} (h:Bi l f e done r j t) :
  ∃t',jO r rows (e:Int) j j t=some (.go t')/\Bi l f e done r (j+1) t':=by
 obtain ⟨seen,q,o⟩:=t
 obtain ⟨hle,⟨wait,h1,h2⟩,h3⟩:=h
 simp only at hle h1 h2 h3
 have hlen:=hca.len
 have hg:r[j]? = some r[j]:=List.getElem?_eq_getElem hj
 obtain ⟨x,e1,e2⟩:=(hN.near hr).1 r[j] (List.getElem_mem hj)
 rw [e1]at hg
 have hd:∀m:List (Int×Bool),(∀y,seenB seen y=true->seenB m y=true)->seenB m x=true->∀b,b<j+1->∀y:Nat,r[b]? = some (y:Int)->seenB m y=true:=λm hm hx b hb y hy=>by
  by_cases hbj:b=j
  ·subst hbj
   rw [hg]at hy
   simp only [so_]at hy
   have:x=y:=by omega
   rw [<- this];exact hx
  ·exact hm y (h3 b (by omega) y hy)
 unfold jO
 simp only [Go.Flow.inR_at hj,toN,hr,hg,ob_]
 have hsb:((kw eqI seen (x:Int)).getD false)=seenB seen x:=rfl
 rw [hsb]
 cases hs:seenB seen x with
 | true =>
  simp only [Bool.not_true,cond_false,ob_]
  exact⟨(seen,q,o),rfl,hle,⟨wait,h1,h2⟩,hd seen (λy hy=>hy) hs⟩
 | false =>
  have hns:¬seenB seen x=true:=by rw [hs];exact Bool.false_ne_true
  have hadd:=h2.add hns (he.step e2)
  have hl:=h2.len hf
  have hdl:(q.drop o).length=wait.length+1:=by rw [h1];simp
  have hap:jc (q.drop o) [(x:Int)]=some (q.drop o++[(x:Int)]):=kr _ _ (by simp only [List.length_cons]at hl;rw [hdl];simp;omega)
  simp only [Bool.not_false,cond_true,leN_at hle,hap,ob_]
  refine⟨(pR eqI seen (x:Int) true,q.drop o++[(x:Int)],0),rfl,Nat.zero_le _,⟨wait++[x],?_,hadd⟩,hd _ (λy hy => ?_) ?_⟩
  ·show List.drop 0 (q.drop o++[(x:Int)])=_
   rw [h1];simp
  ·rw [yQ];split
   ·rfl
   ·exact hy
  ·rw [yQ,if_pos rfl]
structure Bo (l:List Alert) (f:Nat) (s:List (Int×Bool)×List Int×List ByteArray×Nat):Prop where
 le:s.2.2.2<=s.2.1.length
 ex:∃done wait:List Nat,s.2.1.drop s.2.2.2=wait.map (λi:Nat=>(i:Int))/\s.2.2.1=done.map (idOf l)/\Bs l f done wait s.1
theorem bfs_ok (hca:CA l) (hf:f<l.length) (hN:Nr l l.length 0 rows):∃s',iJ ((pR eqI ([]:List (Int×Bool)) (f:Int) true),([(f:Int)]:List Int),([]:List ByteArray),0) (λs=>lW l l.length rows s)=some (.go s')/\∃done:List Nat,s'.2.2.1=done.map (idOf l)/\done.Nodup/\∀i,i∈done↔Rc l f i:=by
 have hlen:=hca.len
 refine OJ (Bo l f) (λs=>l.length-s.2.2.1.length) (λs=>∃done:List Nat,s.2.2.1=done.map (idOf l)/\done.Nodup/\∀i,i∈done↔Rc l f i) (λs hs => ?_) ⟨Nat.zero_le _,[],[f],rfl,rfl,by simp,λi => ?_,λi hi => ?_,by simp,λi hi=>by cases hi⟩
 ·obtain ⟨seen,q,out,o⟩:=s
  obtain ⟨hle,done,wait,h1,h2,h3⟩:=hs
  simp only at hle h1 h2 h3
  unfold lW
  simp only
  have hl:=h3.len hf
  cases wait with
  | nil =>
   right
   have hlk:q.length-o=0:=by
    have:=congrArg List.length h1
    simpa using this
   rw [hlk]
   simp only [show decide ((((0:Nat):Nat):Int)>0)=false from rfl,cond_false]
   refine⟨_,rfl,done,h2,by have:=h3.nd;rwa [List.append_nil]at this,λi=>⟨λhi=>h3.rc i (List.mem_append_left _ hi),λhi => ?_⟩⟩
   induction hi with
   | base=>have:=h3.root;rwa [List.append_nil]at this
   | step hi e ih=>have:=h3.clo _ ih _ e;rwa [List.append_nil]at this
  | cons e wait =>
   left
   have h1:q.drop o=(e:Int)::wait.map (λi:Nat=>(i:Int)):=h1
   have hkl:=ww h1
   have hk:q[o]? = some (e:Int):=AO h1
   have hd1:decide (((q.length-o:Nat):Int)>0)=true:=decide_eq_true (by omega)
   have hin:inN 0 (q.length-o)=some ():=by
    have:=Ja (i:=0) (n:=q.length-o) (by omega)
    simpa using this
   have hkt:(o+(0:Int).toNat)=o:=by simp
   have hrc:=h3.rc e (by simp)
   have hel:=hrc.lt hf
   have hla:l[e]? = some l[e]:=List.getElem?_eq_getElem hel
   have hdl:done.length+(wait.length+1)<=l.length:=by simpa using hl
   have hap:jc out [(l[e]).Id]=some (out++[(l[e]).Id]):=kr _ _ (by rw [h2];simp;omega)
   have hre:rows[e]? = some (rows[e]'(by rw [hN.len];exact hel)):=List.getElem?_eq_getElem _
   generalize rows[e]'(by rw [hN.len];exact hel)=re at hre
   have hrs:=hN.sz e re hre
   rw [hd1]
   simp only [cond_true,hin,hkt,hk,wG,hla,hap,Ja hel,toN,hre,ob_]
   have hrn:((re.length:Int)).toNat=re.length:=by simp
   rw [hrn]
   obtain ⟨t',r1,r2⟩:=PR (body:=λk x s=>jO re rows (e:Int) k x s) (Bi l f e done re) (n:=re.length) (s:=(seen,q,o)) (by omega) (λj s hj hi=>bfs_in hca hf hN hre hrc hj hi) ⟨hle,⟨wait,h1,h3⟩,λb hb=>absurd hb (Nat.not_lt_zero b)⟩
   obtain ⟨seen',q',o'⟩:=t'
   obtain ⟨le',⟨wait',p1,p2⟩,p3⟩:=r2
   simp only at le' p1 p2 p3
   have p1:q'.drop o'=(e:Int)::wait'.map (λi:Nat=>(i:Int)):=p1
   have hlt:=ww p1
   have hl':=p2.len hf
   rw [r1,ob_,lU]
   simp only [ltN_at hlt,ob_]
   have hmm:∀i,i∈(done++[e])++wait'↔i∈done++e::wait':=λi=>by simp
   refine⟨_,rfl,⟨hlt,done++[e],wait',aR p1,?_,?_,λi => ?_,λi hi => ?_,?_,λi hi x hx => ?_⟩,?_⟩
   ·show out++[(l[e]).Id]=_
    rw [h2,List.map_append]
    show _=_++[idOf l e]
    rw [wu hla]
   ·have:=p2.nd
    rw [List.append_assoc];exact this
   ·rw [hmm];exact p2.seen_ i
   ·exact p2.rc i ((hmm i).1 hi)
   ·exact (hmm f).2 p2.root
   ·refine (hmm x).2 ?_
    rcases List.mem_append.1 hi with hi|hi
    ·exact p2.clo i hi x hx
    ·rw [List.mem_singleton]at hi
     subst hi
     obtain ⟨b,hb⟩:=List.getElem?_of_mem ((hN.near hre).2 x hx)
     exact (p2.seen_ x).1 (p3 b (List.getElem?_eq_some_iff.1 hb).1 x hb)
   ·show l.length-(out++[(l[e]).Id]).length<l.length-out.length
    rw [List.length_append,h2]
    simp only [List.length_map,List.length_singleton]
    omega
 ·rw [yQ]
  have:seenB ([]:List (Int×Bool)) i=false:=rfl
  rw [this]
  by_cases e:i=f
  ·rw [if_pos e];simp [e]
  ·rw [if_neg e];simp [e]
 ·have:i=f:=by simpa using hi
  rw [this];exact .base
end
end Go.Proofs.YtkjlhdminmpmkabGreatDoor.Law

open Go Go.Eng Go.Flow
namespace Go.Proofs.YtkjlhdminmpmkabGreatDoor.Law
set_option linter.unusedVariables false
set_option linter.unusedSimpArgs false
set_option linter.unusedSectionVars false
def cS (a b:ByteArray):Option Int:=some (bif sLt a b then -1 else 0)
theorem less_eq (a b:ByteArray):cmp_Less_string a b=some (sLt a b):=by
 have hn:∀x,cmp_isNaN_string x=some false:=λx=>by unfold cmp_isNaN_string;rw [xm];simp
 unfold cmp_Less_string
 simp only [hn,ob_,cond_false]
theorem insS_L1 (a:Int) (s:List ByteArray×Int):bR a s=Hu cS a s:=by
 have h:∀x y:ByteArray,(cmp_Less_string x y).bind (λr=>some r)=(cS x y).bind λr=>some (decide (r<0)):=λx y=>by
  rw [less_eq]
  unfold cS
  cases sLt x y <;> rfl
 unfold bR Hu
 simp only [h]
theorem pdqS_eq (x:List ByteArray) (b lim:Int):dR x 0 b lim=Cc cS x 0 b lim:=by
 have h2:∀(d:List ByteArray) (a b:Int),dh d a b=D6 cS d a b:=λd a b=>by
  have h1:∀s,bT b a s=DY cS b a s:=λs=>by
   unfold bT DY
   simp only [insS_L1]
  unfold dh D6
  simp only [h1]
 unfold dR Cc
 have h3:∀s,dD b 0 x lim s=Jl cS b 0 x lim s:=λs=>by
  unfold dD Jl
  rw [h2]
 simp only [h3]
theorem sortSt {xs:List ByteArray} (hl:xs.length<=12):∃r,eU xs=some r/\r.Perm xs/\r.Pairwise (λa b=>¬lt b a):=by
 obtain ⟨k,hk⟩:=Lg xs.length hl
 have hc:∀a b:ByteArray,True->True->∃c,cS a b=some c/\(c<0->¬lt b a)/\(¬c<0->¬lt a b):=λa b _ _=>by
  refine⟨bif sLt a b then -1 else 0,rfl,λh hb => ?_,λh hb => ?_⟩
  ·cases hs:sLt a b with
   | true=>exact uS _ (lt_trans ((wD _ _).1 hs) hb)
   | false=>rw [hs]at h;simp at h
  ·have:=(wD a b).2 hb
   rw [this]at h;simp at h
 have htr:∀a b d:ByteArray,¬lt b a->¬lt d b->¬lt d a:=λa b d h k q=>by
  rcases BC a b with g|g|g
  ·exact k (lt_trans q g)
  ·rw [g]at q;exact k q
  ·exact h g
 obtain ⟨s,h1,h2,h3⟩:=Mo (cmp:=cS) (le:=λa b=>¬lt b a) (p:=λ_=>True) hc htr xs hl (λx hx=>trivial) k
 refine⟨s,?_,h2,h3⟩
 have hsm:iR s xs=some ():=by unfold iR;rw [if_pos h2.length_eq]
 unfold eU
 rw [hk,ob_,pdqS_eq,h1,ob_,hsm];rfl
theorem NC {a b:List ByteArray} (h:a.Perm b) (ha:a.Pairwise (λa b=>¬lt b a)) (hb:b.Pairwise (λa b=>¬lt b a)):a=b :=
 List.Perm.eq_of_pairwise (le:=λa b=>¬lt b a) (λx y _ _ h1 h2=>by
  rcases BC x y with g|g|g
  ·exact absurd g h2
  ·exact g
  ·exact absurd g h1) ha hb h
end Go.Proofs.YtkjlhdminmpmkabGreatDoor.Law

