/-
  THE PLAIN LAW (part 5).
-/
import Derived.Test.YticmkhcacamhkaaGreatDoorPl4
import Derived.Test.YticmkhcacamhkaaGreatDoorDefs
open Go Go.Eng
namespace Go.Proofs.YticmkhcacamhkaaGreatDoor.Law.AlN
set_option linter.unusedVariables false
set_option linter.unusedSimpArgs false
theorem KI (s:Stream) {b:Int} (hs:Ok s b) (hb:b<=900000):∃r s',jA s=some (r,s')/\Fine r/\(-2<=r.X/\r.X<=8 /\ -2<=r.Y/\r.Y<=8/\r.W<=5/\r.H<=5)/\Ok s' (b+4):=by
 unfold jA
 obtain ⟨X,q1,c1,c2,c3,c4⟩:=l8 s (-2) 8 hs (by omega) (by decide) (by decide) (by decide)
 obtain ⟨Y,q2,d1,d2,d3,d4⟩:=l8 q1 (-2) 8 c4 (by omega) (by decide) (by decide) (by decide)
 obtain ⟨U,q3,e1,e2,e3,e4⟩:=l8 q2 1 5 d4 (by omega) (by decide) (by decide) (by decide)
 obtain ⟨V,q4,f1,f2,f3,f4⟩:=l8 q3 1 5 e4 (by omega) (by decide) (by decide) (by decide)
 simp only [c1,d1,e1,f1,ob_]
 refine⟨_,_,rfl,?_,by simp only [];omega,f4.mono (by omega)⟩
 unfold Fine
 simp only [];omega
theorem Kh (f:Rect->Option Bool) (p:Rect->Bool):∀(l:List Rect) (k:Nat),(∀r∈l,f r=some (p r))->(forR (λk z s=>bH f k z s) l k ()=some (.go ())/\l.any p=false)\/∃j:Nat,forR (λk z s=>bH f k z s) l k ()=some (.ret (j:Int))/\l.any p=true
 | [],k,_ => .inl ⟨rfl,rfl⟩
 | r::l,k,h=>by
  have hB:bH f k r ()=some (bif p r then .ret (k:Int)else .go ()):=by
   unfold bH
   rw [h r (by simp),ob_]
   cases p r <;> rfl
  rw [forR,hB,ob_,List.any_cons]
  cases p r with
  | true=>exact .inr ⟨k,rfl,rfl⟩
  | false=>exact Kh f p l (k+1) (λr hr=>h r (by simp [hr]))
theorem any_eq (f:Rect->Option Bool) (p:Rect->Bool) {l:List Rect} (h:∀r∈l,f r=some (p r)) (hl:l.length<=1000000):dx l f=some (l.any p):=by
 unfold dx fo
 rw [lH (by omega)]
 rcases Kh f p l 0 h with⟨h1,h2⟩|⟨j,h1,h2⟩
 ·rw [h1,h2];rfl
 ·rw [h1,h2]
  simp only [ob_,thenC]
  have:decide ((j:Int)>=0)=true:=by simp
  rw [this]
def p9 {σ ρ:Type} (s:σ) (body:σ->Option (Ctl σ ρ)):Option (Ctl σ ρ):=iterN body 300 s
def Le {α:Type} (a b:Option α):Prop:=∀r,a=some r->b=some r
theorem Le.refl {α:Type} (a:Option α):Le a a:=λ_ h=>h
theorem Le.bind {α β:Type} {a b:Option α} {f g:α->Option β} (h:Le a b) (k:∀x,Le (f x) (g x)):Le (a.bind f) (b.bind g):=λr e=>by
 obtain ⟨x,h1,h2⟩:=Option.bind_eq_some_iff.1 e
 rw [h x h1];exact k x r h2
theorem Le.cond {α:Type} {a b c d:Option α} {t:Bool} (h:Le a c) (k:Le b d):Le (bif t then a else b) (bif t then c else d):=by
 cases t
 ·exact k
 ·exact h
theorem Le.thenC {σ ρ τ:Type} {o:Ctl σ ρ} {f f':σ->Option τ} {g g':ρ->Option τ} (h:∀x,Le (f x) (f' x)) (k:∀x,Le (g x) (g' x)):Le (Go.Eng.thenC o f g) (Go.Eng.thenC o f' g'):=by
 cases o
 ·exact h _
 ·exact Le.refl _
 ·exact k _
theorem Le.forR {α σ ρ:Type} {b b':Nat->α->σ->Option (Ctl σ ρ)} (h:∀k x s,Le (b k x s) (b' k x s)):∀(xs:List α) (k:Nat) (s:σ),Le (Go.Eng.forR b xs k s) (Go.Eng.forR b' xs k s)
 | [],k,s=>Le.refl _
 | x::xs,k,s=>Le.bind (h k x s) (λc=>by
   cases c with
   | go s'=>exact Le.forR h xs _ _
   | brk s'=>exact Le.refl _
   | ret r=>exact Le.refl _)
theorem Le.forL {α σ ρ:Type} {xs:List α} {s:σ} {b b':Nat->α->σ->Option (Ctl σ ρ)} (h:∀k x s,Le (b k x s) (b' k x s)):Le (Go.Eng.forL xs s b) (Go.Eng.forL xs s b'):=by
 unfold Go.Eng.forL
 split
 ·exact Le.forR h xs 0 s
 ·exact Le.refl _
theorem Le.iterN {σ ρ:Type} {b b':σ->Option (Ctl σ ρ)} (h:∀s,Le (b s) (b' s)):∀(n:Nat) (s:σ),Le (Go.Eng.iterN b n s) (Go.Eng.iterN b' n s)
 | 0,s=>Le.refl _
 | n+1,s=>Le.bind (h s) (λc=>by
   cases c with
   | go s'=>exact Le.iterN h n s'
   | brk s'=>exact Le.refl _
   | ret r=>exact Le.refl _)
theorem Le.loop {σ ρ:Type} {s:σ} {b b':σ->Option (Ctl σ ρ)} (h:∀s,Le (b s) (b' s)):Le (p9 s b) (fC s b'):=λr e=>gQ (Le.iterN h _ _ r e)
set_option maxRecDepth 100000
def jm (s_7:ByteArray):Option (Ctl (ByteArray) (Unit)) :=
 bif (decide ((s_7.size:Int)>0))then (q9 s_7 0).bind λb_13=>bif (decide ((b_13.toNat:Int)<128))then (vF s_7 1 s_7.size).bind λy_16=>(bif (decide ((y_16.size:Int)>8))then (bE y_16).bind λr_21=>some ((ru .u64 r_21 9259542123273814144)==0)else some false).bind λv_18=>(bif v_18 then (vF y_16 8 y_16.size).bind λy_26=>(bif (decide ((y_26.size:Int)>16))then (bE y_26).bind λr_31=>(vF y_26 8 y_26.size).bind λy_33=>(bE y_33).bind λr_35=>some ((ru .u64 (orI .u64 r_31 r_35) 9259542123273814144)==0)else some false).bind λv_28=>bif v_28 then (vF y_26 16 y_26.size).bind λy_38=>(p9 y_38 (λs=>gZ s)).bind λo_48=>thenC o_48 (λs_45=>some s_45) (λ_=>none)else some y_26 else some y_16).bind λv_23=>some (.go v_23)else none else some (.brk s_7)
theorem qx (s_7:ByteArray):Le (jm s_7) (fF s_7):=by
 unfold jm fF
 repeat' (with_reducible first | exact Le.refl _ | refine Le.loop (λ_ => ?_) | refine Le.forL (λ_ _ _ => ?_) | refine Le.thenC (λ_ => ?_) (λ_ => ?_) | refine Le.cond ?_ ?_ | refine Le.bind ?_ (λ_ => ?_))
def jY (s_1:ByteArray):Option (Bool) :=
 (p9 s_1 (λs=>jm s)).bind λo_10=>thenC o_10 (λs_7=>some true) (λ_=>none)
theorem sF (s_1:ByteArray):Le (jY s_1) (gG s_1):=by
 unfold jY gG
 repeat' (with_reducible first | exact Le.refl _ | exact qx _ | refine Le.loop (λ_ => ?_) | refine Le.forL (λ_ _ _ => ?_) | refine Le.thenC (λ_ => ?_) (λ_ => ?_) | refine Le.cond ?_ ?_ | refine Le.bind ?_ (λ_ => ?_))
def lV (s_1:ByteArray) (c_2:Int):Option (ByteArray) :=
 (p9 s_1 (λs=>iZ c_2 s)).bind λo_11=>thenC o_11 (λs_8=>some s_8) (λ_=>none)
theorem uS (s_1:ByteArray) (c_2:Int):Le (lV s_1 c_2) (strings_trimRightByte s_1 c_2):=by
 unfold lV strings_trimRightByte
 repeat' (with_reducible first | exact Le.refl _ | refine Le.loop (λ_ => ?_) | refine Le.forL (λ_ _ _ => ?_) | refine Le.thenC (λ_ => ?_) (λ_ => ?_) | refine Le.cond ?_ ?_ | refine Le.bind ?_ (λ_ => ?_))
def mF (s_1:ByteArray) (c_2:Int):Option (ByteArray) :=
 (p9 s_1 (λs=>ji c_2 s)).bind λo_11=>thenC o_11 (λs_8=>some s_8) (λ_=>none)
theorem u7 (s_1:ByteArray) (c_2:Int):Le (mF s_1 c_2) (strings_trimLeftByte s_1 c_2):=by
 unfold mF strings_trimLeftByte
 repeat' (with_reducible first | exact Le.refl _ | refine Le.loop (λ_ => ?_) | refine Le.forL (λ_ _ _ => ?_) | refine Le.thenC (λ_ => ?_) (λ_ => ?_) | refine Le.cond ?_ ?_ | refine Le.bind ?_ (λ_ => ?_))
def uL (s_1:ByteArray) (cutset_2:ByteArray):Option (ByteArray) :=
 (bif (sEq s_1 (⟨#[]⟩:ByteArray))then some true else some (sEq cutset_2 (⟨#[]⟩:ByteArray))).bind λv_3=>bif v_3 then some s_1 else (bif ((cutset_2.size:Int)==1)then (q9 cutset_2 0).bind λb_10=>some (decide ((b_10.toNat:Int)<128))else some false).bind λv_7=>bif v_7 then (q9 cutset_2 0).bind λb_13=>(lV s_1 (b_13.toNat:Int)).bind λr_15=>(q9 cutset_2 0).bind λb_17=>(mF r_15 (b_17.toNat:Int)).bind λr_19=>some r_19 else none
theorem Df (s_1:ByteArray) (cutset_2:ByteArray):Le (uL s_1 cutset_2) (qc s_1 cutset_2):=by
 unfold uL qc
 repeat' (with_reducible first | exact Le.refl _ | exact uS _ _ | exact u7 _ _ | refine Le.loop (λ_ => ?_) | refine Le.forL (λ_ _ _ => ?_) | refine Le.thenC (λ_ => ?_) (λ_ => ?_) | refine Le.cond ?_ ?_ | refine Le.bind ?_ (λ_ => ?_))
def nP (s_1:ByteArray):Option (Bool) :=
 (p9 0 (λs=>pY s_1 s)).bind λo_10=>thenC o_10 (λs_7=>((jY s_1).bind λr_23=>bif r_23 then (uL s_1 (⟨#[32]⟩:ByteArray)).bind λr_26=>bif (sEq r_26 s_1)then (strings_Contains s_1 (⟨#[32,32]⟩:ByteArray)).bind λr_29=>some (!r_29)else some false else some false).bind λv_21=>some v_21) (λr=>some r)
theorem pM (s_1:ByteArray):Le (nP s_1) (o5 s_1):=by
 unfold nP o5
 repeat' (with_reducible first | exact Le.refl _ | exact sF _ | exact Df _ _ | refine Le.loop (λ_ => ?_) | refine Le.forL (λ_ _ _ => ?_) | refine Le.thenC (λ_ => ?_) (λ_ => ?_) | refine Le.cond ?_ ?_ | refine Le.bind ?_ (λ_ => ?_))
def idL:List ByteArray:=[⟨#[97,97]⟩,⟨#[97,98]⟩,⟨#[97,99]⟩,⟨#[97,100]⟩,⟨#[97,101]⟩,⟨#[97,102]⟩]
def refL:List ByteArray:=[⟨#[97,97]⟩,⟨#[97,98]⟩,⟨#[97,99]⟩,⟨#[97,100]⟩,⟨#[122,122]⟩]
def zyS:ByteArray:=⟨#[122,121]⟩
def wxS:ByteArray:=⟨#[119,120]⟩
def fireS:ByteArray:=⟨#[102,105,114,101]⟩
def floodS:ByteArray:=⟨#[102,108,111,111,100]⟩
def mallS:ByteArray:=⟨#[102,105,114,101,32,105,110,32,116,104,101,32,109,97,108,108]⟩
def overS:ByteArray:=⟨#[111,118,101,114]⟩
theorem Nn:nP ⟨#[]⟩=some true/\nP floodS=some true/\nP mallS=some true/\nP overS=some true :=
 ⟨by kernel_rfl,by kernel_rfl,by kernel_rfl,by kernel_rfl⟩
def SmallR (r:Rect):Prop:=Fine r/\(-2<=r.X/\r.X<=8 /\ -2<=r.Y/\r.Y<=8/\r.W<=5/\r.H<=5)
structure RightA (x:Alert):Prop where
 id:x.Id∈idL
 sender:x.Sender=wxS\/x.Sender=fireS
 kind:1<=x.Kind/\x.Kind<=3
 refs:x.Refs.Sublist refL\/x.Refs=[zyS]
 noId:∀r∈x.Refs,r≠x.Id
 new:x.Kind=1↔x.Refs=[]
 at_:0<=x.At/\x.At<=30
 until_:x.At+1<=x.Until/\x.Until<=x.At+50
 weight:1<=x.Weight/\x.Weight<=9
 areas:∀r∈x.Areas,SmallR r
 alen:x.Areas.length<=2
 cancel:x.Kind=3↔x.Areas=[]
 text:x.Text=floodS\/x.Text=mallS\/x.Kind=3/\(x.Text=⟨#[]⟩\/x.Text=overS)
theorem idL_key:∀k∈idL,qh k=true/\Nat.ble k.size 1000=true:=by
 intro k hk
 simp only [idL,List.mem_cons,List.not_mem_nil,or_false]at hk
 rcases hk with rfl|rfl|rfl|rfl|rfl|rfl <;> exact⟨by kernel_rfl,rfl⟩
theorem Pi:∀k∈idL,uY k 0=97:=by
 intro k hk
 simp only [idL,List.mem_cons,List.not_mem_nil,or_false]at hk
 rcases hk with rfl|rfl|rfl|rfl|rfl|rfl <;> rfl
theorem Ps:∀k∈refL,qh k=true/\Nat.ble k.size 1000=true:=by
 intro k hk
 simp only [refL,List.mem_cons,List.not_mem_nil,or_false]at hk
 rcases hk with rfl|rfl|rfl|rfl|rfl <;> exact⟨by kernel_rfl,rfl⟩
theorem Ns:refL.Pairwise lt:=by
 unfold refL
 simp only [List.pairwise_cons,List.mem_cons,List.not_mem_nil,or_false,forall_eq_or_imp,forall_eq]
 refine⟨⟨jo (by kernel_rfl),jo (by kernel_rfl),jo (by kernel_rfl),jo (by kernel_rfl)⟩,⟨jo (by kernel_rfl),jo (by kernel_rfl),jo (by kernel_rfl)⟩,⟨jo (by kernel_rfl),jo (by kernel_rfl)⟩,jo (by kernel_rfl),λa h=>(by cases h),List.Pairwise.nil⟩
theorem NV:idL.Pairwise lt:=by
 unfold idL
 simp only [List.pairwise_cons,List.mem_cons,List.not_mem_nil,or_false,forall_eq_or_imp,forall_eq]
 refine⟨⟨jo (by kernel_rfl),jo (by kernel_rfl),jo (by kernel_rfl),jo (by kernel_rfl),jo (by kernel_rfl)⟩,⟨jo (by kernel_rfl),jo (by kernel_rfl),jo (by kernel_rfl),jo (by kernel_rfl)⟩,⟨jo (by kernel_rfl),jo (by kernel_rfl),jo (by kernel_rfl)⟩,⟨jo (by kernel_rfl),jo (by kernel_rfl)⟩,jo (by kernel_rfl),λa h=>(by cases h),List.Pairwise.nil⟩
theorem RightA.refsKey {x:Alert} (h:RightA x):∀r∈x.Refs,kit_IsKey r=some true:=λr hr=>by
 have:qh r=true/\Nat.ble r.size 1000=true:=by
  rcases h.refs with hs|hs
  ·exact Ps r (hs.subset hr)
  ·rw [hs]at hr
   rw [List.mem_singleton.1 hr];exact⟨by kernel_rfl,rfl⟩
 rw [o9 r (by have:=Nat.le_of_ble_eq_true this.2;omega),this.1]
theorem RightA.refsRise {x:Alert} (h:RightA x):x.Refs.Pairwise lt:=by
 rcases h.refs with hs|hs
 ·exact Ns.sublist hs
 ·rw [hs];exact List.pairwise_singleton _ _
theorem RightA.refsLen {x:Alert} (h:RightA x):x.Refs.length<=5:=by
 rcases h.refs with hs|hs
 ·exact hs.length_le
 ·rw [hs];decide
theorem RightA.plain {x:Alert} (h:RightA x):o5 x.Text=some true:=by
 obtain ⟨p1,p2,p3,p4⟩:=Nn
 rcases h.text with e|e|⟨_,e|e⟩ <;> rw [e]
 ·exact pM _ _ p2
 ·exact pM _ _ p3
 ·exact pM _ _ p1
 ·exact pM _ _ p4
theorem JO {x:Alert} (h:RightA x):l5 x=some 0:=by
 have hl:=h.refsLen
 unfold l5
 rw [decide_eq_false (by omega),cond_false]
 obtain ⟨u,e,_⟩:=jW (body:=λk y s=>jV x k y s) (λ_ _=>True) (xs:=x.Refs) (s:=()) (by omega) (λk y s hy _=>by
  refine⟨(),?_,trivial⟩
  have hm:=List.mem_of_getElem? hy
  unfold jV
  rw [h.refsKey y hm]
  simp only [ob_,Bool.not_true,cond_false]
  have hid:sEq y x.Id=false:=by rw [uz];exact decide_eq_false (h.noId y hm)
  rcases Nat.eq_zero_or_pos k with h0|h0
  ·rw [decide_eq_false (by omega),cond_false,ob_,cond_false,hid];rfl
  ·rw [decide_eq_true (by omega),cond_true]
   obtain ⟨z,q1,q2⟩:=vQ hy h0 (by omega)
   have hz:lt z y:=by
    obtain ⟨l1,m1⟩:=List.getElem?_eq_some_iff.1 q2
    obtain ⟨l2,m2⟩:=List.getElem?_eq_some_iff.1 hy
    rw [<- m1,<- m2]
    exact List.pairwise_iff_getElem.1 h.refsRise _ _ l1 l2 (by omega)
   have hle:sLe y z=false:=by rw [<- Bool.not_eq_true,vU];exact λk=>k hz
   rw [q1,ob_,hle,ob_,cond_false,hid];rfl) trivial
 rw [e]
 simp only [ob_,thenC]
 have:((x.Kind==1)==((x.Refs.length:Int)==0))=true:=by
  rw [beq_iff_eq,Bool.eq_iff_iff,beq_iff_eq,beq_iff_eq,h.new]
  constructor
  ·intro e;rw [e];rfl
  ·intro e;exact List.eq_nil_of_length_eq_zero (by omega)
 rw [this];rfl
theorem LF {r:Rect} (h:Fine r):iT r=some 0:=by rw [Hl,NJ h];rfl
theorem Hr {x:Alert} (h:RightA x):kU x=some 0:=by
 have hid:=idL_key _ h.id
 have k1:kit_IsKey x.Id=some true:=by rw [o9 _ (by have:=Nat.le_of_ble_eq_true hid.2;omega),hid.1]
 have k2:kit_IsKey x.Sender=some true:=by
  rcases h.sender with e|e <;> rw [e,o9 _ (by decide)] <;> exact congrArg some (by kernel_rfl)
 have h1:=h.at_
 have h2:=h.until_
 have h3:=h.weight
 have h4:=h.alen
 have k3:momB x.At=true:=by unfold momB;rw [lG (by omega)];rfl
 unfold kU
 rw [k1,k2,JO h]
 simp only [ob_,Bool.not_true,cond_false,lQ,lG h.kind,bne_self_eq_false,JV,k3,bD (n:=x.At+1) (by omega),bD (n:=x.At+2592000000) (by omega),lG (show x.At+1<=x.Until/\x.Until<=x.At+2592000000 by omega),lG h3,decide_eq_false (show ¬(x.Areas.length:Int)>20 by omega)]
 obtain ⟨u,e,_⟩:=jW (body:=λk y s=>jy k y s) (λ_ _=>True) (xs:=x.Areas) (s:=()) (by omega) (λk y s hy _=>by
  refine⟨(),?_,trivial⟩
  unfold jy
  rw [LF (h.areas y (List.mem_of_getElem? hy)).1];rfl) trivial
 rw [e]
 simp only [ob_,thenC,h.plain,Bool.not_true,cond_false]
 have c1:((x.Kind==3)==((x.Areas.length:Int)==0))=true:=by
  rw [beq_iff_eq,Bool.eq_iff_iff,beq_iff_eq,beq_iff_eq,h.cancel]
  constructor
  ·intro e;rw [e];rfl
  ·intro e;exact List.eq_nil_of_length_eq_zero (by omega)
 rw [c1]
 have c2:x.Text.size<=16:=by
  rcases h.text with e|e|⟨_,e|e⟩ <;> rw [e] <;> decide
 rw [decide_eq_false (show ¬(x.Text.size:Int)>500 by omega)]
 have c3:(bif sEq x.Text ⟨#[]⟩then some (!(x.Kind==3))else some false)=some false:=by
  rw [uz]
  rcases h.text with e|e|⟨k,_⟩
  ·rw [e,decide_eq_false (by decide)];rfl
  ·rw [e,decide_eq_false (by decide)];rfl
  ·rw [k]
   cases decide (x.Text=⟨#[]⟩) <;> rfl
 rw [c3];rfl
theorem OG (id:ByteArray) (s:Stream) {b:Int} (hs:Ok s b) (hb:b<=800000) :
  ∃l s',forL ([(⟨#[97,97]⟩:ByteArray),(⟨#[97,98]⟩:ByteArray),(⟨#[97,99]⟩:ByteArray),(⟨#[97,100]⟩:ByteArray),(⟨#[122,122]⟩:ByteArray)]:List ByteArray) (([]:List ByteArray),s.L,s.f_at) (λk x s=>dZ id k x s)=some (.go (l,s'.L,s'.f_at))/\l.Sublist refL/\(∀r∈l,r≠id)/\Ok s' (b+10):=by
 obtain ⟨t,t1,t2,t3,t4⟩:=jW (body:=λk x s=>dZ id k x s) (xs:=refL) (s:=(([]:List ByteArray),s.L,s.f_at)) (λk t=>t.1.Sublist (refL.take k)/\(∀r∈t.1,r≠id)/\Ok ⟨t.2.1,t.2.2⟩ (b+k)) (by decide) (λk x t hx ⟨i1,i2,i3⟩=>by
  have hk:k<refL.length:=(List.getElem?_eq_some_iff.1 hx).1
  have hk5:k<5:=hk
  have et:refL.take (k+1)=refL.take k++[x]:=by rw [List.take_add_one,hx];rfl
  have hlen:t.1.length<=5:=Nat.le_trans i1.length_le (by rw [List.length_take];exact Nat.min_le_right _ _)
  unfold dZ
  rw [DL]
  by_cases he:x=id
  ·rw [decide_eq_true he]
   exact⟨_,rfl,by rw [et];exact i1.trans (List.sublist_append_left _ _),i2,i3.mono (by omega)⟩
  ·obtain ⟨f,s1,c1,c2⟩:=Dy _ 3 i3 (by omega) (by decide) (by decide)
   rw [decide_eq_false he]
   simp only [Bool.not_false,cond_true,c1,ob_]
   cases f with
   | true =>
    rw [cond_true,lK _ _ (by simp;omega)]
    refine⟨_,rfl,by rw [et];exact i1.append (List.Sublist.refl _),λr hr => ?_,c2.mono (by omega)⟩
    rcases List.mem_append.1 hr with hr|hr
    ·exact i2 r hr
    ·rw [List.mem_singleton.1 hr];exact he
   | false=>exact⟨_,rfl,by rw [et];exact i1.trans (List.sublist_append_left _ _),i2,c2.mono (by omega)⟩) ⟨List.Sublist.refl _,λr hr=>(by cases hr),hs.mono (by omega)⟩
 exact⟨t.1,⟨t.2.1,t.2.2⟩,t1,by simpa using t2,t3,t4.mono (by show b+((5:Nat):Int)<=b+10;omega)⟩
theorem Np (n:Int) (hn:1<=n/\n<=2) (s:Stream) {b:Int} (hs:Ok s b) (hb:b<=800000) :
  ∃l s',forL (List.range n.toNat) (([]:List Rect),s.L,s.f_at) (λk x s=>dY k x s)=some (.go (l,s'.L,s'.f_at))/\(l.length:Int)=n/\(∀r∈l,SmallR r)/\Ok s' (b+10):=by
 obtain ⟨t,t1,t2,t3,t4⟩:=OV (body:=λk x s=>dY k x s) (s:=(([]:List Rect),s.L,s.f_at)) (xs:=List.range n.toNat) (λj t=>t.1.length=j/\(∀r∈t.1,SmallR r)/\Ok ⟨t.2.1,t.2.2⟩ (b+4*j)) (by simp;omega) (λj x t hx hj ⟨i1,i2,i3⟩=>by
  simp only [List.length_range]at hj
  obtain ⟨r,s1,c1,c2,c3,c4⟩:=KI _ i3 (by omega)
  unfold dY
  rw [c1,ob_,lK _ _ (by simp;omega)]
  refine⟨_,rfl,by simp [i1],λq hq => ?_,c4.mono (by omega)⟩
  rcases List.mem_append.1 hq with hq|hq
  ·exact i2 q hq
  ·rw [List.mem_singleton.1 hq];exact⟨c2,c3⟩) ⟨rfl,λr hr=>(by cases hr),hs.mono (by omega)⟩
 rw [List.length_range]at t2 t4
 exact⟨t.1,⟨t.2.1,t.2.2⟩,t1,by omega,t3,t4.mono (by omega)⟩
theorem M6 (id:ByteArray) (hid:id∈idL) (k:Nat) (l0:List Alert) (hl:l0.length<=100) (s:Stream) {b:Int} (hs:Ok s b) (hb:b<=700000) :
  ∃x s',fA k id (l0,s.L,s.f_at)=some (.go (l0++[x],s'.L,s'.f_at))/\RightA x/\x.Id=id/\Ok s' (b+40):=by
 obtain ⟨sd,s1,a1,a2,a3⟩:=DJ s [(⟨#[119,120]⟩:ByteArray),(⟨#[119,120]⟩:ByteArray),(⟨#[102,105,114,101]⟩:ByteArray)] hs (by omega) (by simp) (by simp)
 obtain ⟨kd,s2,b1,b2,b3⟩:=qd s1 [1,1,2,2,3] a3 (by omega) (by simp) (by simp)
 obtain ⟨n5,s3,c1,c2,c3,c4⟩:=l8 s2 0 6 b3 (by omega) (by decide) (by decide) (by decide)
 obtain ⟨wt,s4,d1,d2,d3⟩:=qd s3 [1,5,5,9] c4 (by omega) (by simp) (by simp)
 obtain ⟨tx,s5,e1,e2,e3⟩:=DJ s4 [(⟨#[102,108,111,111,100]⟩:ByteArray),(⟨#[102,105,114,101,32,105,110,32,116,104,101,32,109,97,108,108]⟩:ByteArray)] d3 (by omega) (by simp) (by simp)
 obtain ⟨un,s6,f1,f2,f3⟩:=qd s5 [1,10,20,50] e3 (by omega) (by simp) (by simp)
 have hsd:sd=wxS\/sd=fireS:=by
  simp only [List.mem_cons,List.not_mem_nil,or_false]at a2
  rcases a2 with h|h|h
  ·exact .inl h
  ·exact .inl h
  ·exact .inr h
 have hkd:kd=1\/kd=2\/kd=3:=by
  simp only [List.mem_cons,List.not_mem_nil,or_false]at b2;omega
 have hwt:1<=wt/\wt<=9:=by
  simp only [List.mem_cons,List.not_mem_nil,or_false]at d2;omega
 have hun:1<=un/\un<=50:=by
  simp only [List.mem_cons,List.not_mem_nil,or_false]at f2;omega
 have htx:tx=floodS\/tx=mallS:=by
  simp only [List.mem_cons,List.not_mem_nil,or_false]at e2;exact e2
 obtain ⟨rf,s7,g1,g2,g3,g4,g5⟩:∃rf s7,(bif kd != 1 then (forL ([(⟨#[97,97]⟩:ByteArray),(⟨#[97,98]⟩:ByteArray),(⟨#[97,99]⟩:ByteArray),(⟨#[97,100]⟩:ByteArray),(⟨#[122,122]⟩:ByteArray)]:List ByteArray) (([]:List ByteArray),s6.L,s6.f_at) (λk x s=>dZ id k x s)).bind λo_56=>thenC o_56 (λs_50=>bif ((s_50.1.length:Int)==0)then some (s_50.2.1,s_50.2.2,([(⟨#[122,121]⟩:ByteArray)]:List ByteArray))else some (s_50.2.1,s_50.2.2,s_50.1)) (λ_=>none)else some (s6.L,s6.f_at,([]:List ByteArray)))=some (Stream.L s7,Stream.f_at s7,rf)/\(rf.Sublist refL\/rf=[zyS])/\(∀r∈rf,r≠id)/\(kd=1↔rf=[])/\Ok s7 (b+20):=by
  by_cases h1:kd=1
  ·rw [h1]
   exact⟨[],s6,rfl,.inl (List.nil_sublist _),λr hr=>(by cases hr),⟨λ_=>rfl,λ_=>rfl⟩,f3.mono (by omega)⟩
  ·have:(kd != 1)=true:=by simpa using h1
   rw [this,cond_true]
   obtain ⟨l,s7,g1,g2,g3,g4⟩:=OG id s6 f3 (by omega)
   rw [g1]
   simp only [ob_,thenC]
   by_cases hl0:l=[]
   ·subst hl0
    refine⟨[zyS],s7,rfl,.inr rfl,λr hr e => ?_,⟨λh=>absurd h h1,λh=>(by cases h)⟩,g4.mono (by omega)⟩
    rw [List.mem_singleton.1 hr]at e
    rw [<- e]at hid
    have:=Pi _ hid
    exact absurd this (by decide)
   ·have:((l.length:Int)==0)=false:=by
     rw [beq_eq_false_iff_ne]
     intro e;exact hl0 (List.eq_nil_of_length_eq_zero (by omega))
    rw [this,cond_false]
    exact⟨l,s7,rfl,.inl g2,g3,⟨λh=>absurd h h1,λh=>absurd h hl0⟩,g4.mono (by omega)⟩
 obtain ⟨ar,tx2,s8,j1,j2,j3,j4,j5,j6⟩:∃ar tx2 s8,(bif kd==3 then (iG (⟨Stream.L s7,Stream.f_at s7⟩:Stream) ([(⟨#[]⟩:ByteArray),(⟨#[111,118,101,114]⟩:ByteArray)]:List ByteArray)).bind λr_79=>some (([]:List Rect),r_79.2.L,r_79.2.f_at,r_79.1)else (bT (⟨Stream.L s7,Stream.f_at s7⟩:Stream) 1 2).bind λr_82=>(forL (List.range (r_82.1).toNat) (([]:List Rect),r_82.2.L,r_82.2.f_at) (λk x s=>dY k x s)).bind λo_95=>thenC o_95 (λs_90=>some (s_90.1,s_90.2.1,s_90.2.2,tx)) (λ_=>none))=some (ar,Stream.L s8,Stream.f_at s8,tx2)/\(∀r∈ar,SmallR r)/\ar.length<=2/\(kd=3↔ar=[])/\(tx2=floodS\/tx2=mallS\/kd=3/\(tx2=⟨#[]⟩\/tx2=overS))/\Ok s8 (b+40):=by
  have e7:(⟨Stream.L s7,Stream.f_at s7⟩:Stream)=s7:=rfl
  rw [e7]
  by_cases h3:kd=3
  ·have:(kd==3)=true:=by simpa using h3
   rw [this,cond_true]
   obtain ⟨t2,s8,q1,q2,q3⟩:=DJ s7 [(⟨#[]⟩:ByteArray),(⟨#[111,118,101,114]⟩:ByteArray)] g5 (by omega) (by simp) (by simp)
   rw [q1]
   simp only [List.mem_cons,List.not_mem_nil,or_false]at q2
   exact⟨[],t2,s8,rfl,λr hr=>(by cases hr),by decide,⟨λ_=>rfl,λ_=>h3⟩,.inr (.inr ⟨h3,q2⟩),q3.mono (by omega)⟩
  ·have:(kd==3)=false:=by simpa using h3
   rw [this,cond_false]
   obtain ⟨m,s8,q1,q2,q3,q4⟩:=l8 s7 1 2 g5 (by omega) (by decide) (by decide) (by decide)
   obtain ⟨ar,s9,r1,r2,r3,r4⟩:=Np m ⟨q2,q3⟩ s8 q4 (by omega)
   rw [q1,ob_,r1]
   refine⟨ar,tx,s9,rfl,r3,by omega,⟨λh=>absurd h h3,λh => ?_⟩,htx.imp (λh=>h) .inl,r4.mono (by omega)⟩
   rw [h]at r2;simp at r2;omega
 refine⟨⟨id,sd,kd,rf,n5*5,n5*5+un,wt,ar,tx2⟩,s8,?_,⟨hid,hsd,by simp only [];omega,g2,g3,g4,by simp only [];omega,by simp only [];omega,hwt,j2,j3,j4,j5⟩,rfl,j6⟩
 unfold fA
 have e0:(⟨s.L,s.f_at⟩:Stream)=s:=rfl
 simp only [e0,a1,b1,c1,d1,e1,f1,g1,j1,ob_]
 rw [lK _ _ (by simp;omega),bD (n:=n5*5) (by omega),bD (n:=n5*5+un) (by omega)];rfl
def befA (a b:Alert):Prop:=a.At<b.At\/a.At=b.At/\lt a.Id b.Id
open Classical in
theorem O3 {a b:Alert} (ha:RightA a) (hb:RightA b):mq a b=some (bif a.At != b.At then a.At-b.At else bif sLt a.Id b.Id then -1 else 1):=by
 have h1:=ha.at_
 have h2:=hb.at_
 unfold mq
 cases a.At != b.At with
 | true=>rw [cond_true,cond_true,bD (by omega)]
 | false =>
  rw [cond_false,cond_false]
  cases sLt a.Id b.Id <;> rfl
theorem sI {a b:Alert}:(bif a.At != b.At then a.At-b.At else bif sLt a.Id b.Id then (-1:Int)else 1)<0↔befA a b:=by
 unfold befA
 by_cases h:a.At=b.At
 ·have:(a.At != b.At)=false:=by simpa using h
  rw [this,cond_false]
  cases hl:sLt a.Id b.Id with
  | true =>
   rw [cond_true]
   exact⟨λ_ => .inr ⟨h,(p8 _ _).1 hl⟩,λ_=>by decide⟩
  | false =>
   rw [cond_false]
   refine⟨λh=>absurd h (by decide),λhb => ?_⟩
   rcases hb with hb|hb
   ·omega
   ·rw [(p8 _ _).2 hb.2]at hl;cases hl
 ·have:(a.At != b.At)=true:=by simpa using h
  rw [this,cond_true]
  refine⟨λk => .inl (by omega),λhb => ?_⟩
  rcases hb with hb|hb
  ·omega
  ·exact absurd hb.1 h
theorem Ph (a:Alert):¬befA a a:=λh=>by
 rcases h with h|h
 ·omega
 ·exact kR _ h.2
theorem LQ {a b c:Alert} (h:befA a b) (k:befA b c):befA a c:=by
 rcases h with h|h <;> rcases k with k|k
 ·exact .inl (by omega)
 ·exact .inl (by omega)
 ·exact .inl (by omega)
 ·exact .inr ⟨h.1.trans k.1,lt_trans h.2 k.2⟩
theorem P9 (a b:Alert) (hid:a.Id≠b.Id):befA a b\/befA b a:=by
 rcases Int.lt_trichotomy a.At b.At with h|h|h
 ·exact .inl (.inl h)
 ·rcases uK a.Id b.Id with k|k|k
  ·exact .inl (.inr ⟨h,k⟩)
  ·exact absurd k hid
  ·exact .inr (.inr ⟨h.symm,k⟩)
 ·exact .inr (.inl h)
theorem JM {a b c:Alert} (h:¬befA a b) (k:¬befA b c):¬befA a c:=λhc=>by
 unfold befA at *
 simp only [not_or,not_and]at h k
 rcases hc with hc|hc
 ·rcases Int.lt_trichotomy a.At b.At with q|q|q
  ·exact h.1 q
  ·rcases Int.lt_trichotomy b.At c.At with r|r|r
   ·exact k.1 r
   ·omega
   ·omega
  ·have:=k.1;omega
 ·have h1:=h.1
  have k1:=k.1
  have e1:a.At=b.At:=by omega
  have e2:b.At=c.At:=by omega
  have h2:=h.2 e1
  have k2:=k.2 e2
  rcases uK a.Id b.Id with q|q|q
  ·exact h2 q
  ·rw [q]at hc;exact k2 hc.2
  ·rcases uK b.Id c.Id with r|r|r
   ·exact k2 r
   ·rw [<- r]at hc;exact h2 hc.2
   ·exact kR _ (lt_trans (lt_trans hc.2 r) q)
structure RAlerts (l:List Alert) (n:Nat):Prop where
 right:∀x∈l,RightA x
 rise:l.Pairwise befA
 ids:(l.map (·.Id)).Nodup
 len:l.length<=n
theorem Hq (most:Int) (hm:0<=most/\most<=6) (s:Stream) {b:Int} (hs:Ok s b) (hb:b<=600000):∃l s',gz s most=some (l,s')/\(RAlerts l most.toNat/\∀x∈l,x.Id∈idL.take most.toNat)/\Ok s' (b+250):=by
 obtain ⟨n,s1,a1,a2,a3,a4⟩:=l8 s 0 most hs (by omega) (by omega) (by decide) (by omega)
 have hsub:Ht idL 0 n=some (idL.take n.toNat):=by
  unfold Ht
  have h6:idL.length=6:=rfl
  rw [if_pos (by rw [h6];omega)]
  simp
 obtain ⟨t,t1,t2,t3,t4⟩:=jW (body:=λk x s=>fA k x s) (xs:=idL.take n.toNat) (s:=(([]:List Alert),s1.L,s1.f_at)) (λk t=>t.1.map (·.Id)=idL.take k/\(∀x∈t.1,RightA x)/\Ok ⟨t.2.1,t.2.2⟩ (b+1+40*k)) (by rw [List.length_take];show min n.toNat 6<=_;omega) (λk x t hx ⟨i1,i2,i3⟩=>by
  have hk:k<(idL.take n.toNat).length:=(List.getElem?_eq_some_iff.1 hx).1
  rw [List.length_take]at hk
  have hk6:k<6:=by have:idL.length=6:=rfl;omega
  have hx':idL[k]? = some x:=by rw [List.getElem?_take_of_lt (by omega)]at hx;exact hx
  have hlen:t.1.length<=6:=by
   have:=congrArg List.length i1
   rw [List.length_map,List.length_take]at this
   omega
  obtain ⟨y,s2,c1,c2,c3,c4⟩:=M6 x (List.mem_of_getElem? hx') k t.1 (by omega) ⟨t.2.1,t.2.2⟩ i3 (by omega)
  refine⟨_,c1,?_,λz hz => ?_,c4.mono (by omega)⟩
  ·rw [List.map_append,i1,List.take_add_one,hx']
   simp [c3]
  ·rcases List.mem_append.1 hz with hz|hz
   ·exact i2 z hz
   ·rw [List.mem_singleton.1 hz];exact c2) ⟨rfl,λx hx=>(by cases hx),a4.mono (by omega)⟩
 have hnd:(t.1.map (·.Id)).Nodup:=by
  rw [t2]
  exact (NV.sublist (List.take_sublist _ _)).imp (λh e=>by rw [e]at h;exact kR _ h)
 have hlen:t.1.length<=most.toNat:=by
  have:=congrArg List.length t2
  rw [List.length_map,List.length_take,List.length_take]at this
  omega
 obtain ⟨r,r1,r2,r3⟩:=La (cmp:=mq) (S:=dm) (λa b=>bif a.At != b.At then a.At-b.At else bif sLt a.Id b.Id then -1 else 1) (λ_=>rfl) (xs:=t.1) (by omega) (λx hx y hy=>O3 (t3 x hx) (t3 y hy))
  (λx y h k=>Ph x (LQ (sI.1 h) (sI.1 k))) (λx y z h k q=>JM (λe=>h (sI.2 e)) (λe=>k (sI.2 e)) (sI.1 q))
 have hrl:r.length=t.1.length:=r2.length_eq
 have hids:(r.map (·.Id)).Nodup:=(r2.map (·.Id)).nodup_iff.2 hnd
 have hin:∀x∈r,x.Id∈idL.take most.toNat:=λx hx=>by
  have h1:x.Id∈t.1.map (·.Id):=List.mem_map.2 ⟨x,r2.mem_iff.1 hx,rfl⟩
  rw [t2]at h1
  have h2:(idL.take n.toNat).length<=most.toNat:=by rw [List.length_take];omega
  have h3:idL.take (idL.take n.toNat).length=(idL.take most.toNat).take (idL.take n.toNat).length:=by rw [List.take_take,Nat.min_eq_left h2]
  rw [h3]at h1
  exact List.mem_of_mem_take h1
 refine⟨r,⟨t.2.1,t.2.2⟩,?_,⟨⟨λx hx=>t3 x (r2.mem_iff.1 hx),?_,hids,by omega⟩,hin⟩,t4.mono (by
  have:(idL.take n.toNat).length<=6:=by rw [List.length_take];exact Nat.min_le_right _ _
  omega)⟩
 ·unfold gz
  have e1:Ht ([(⟨#[97,97]⟩:ByteArray),(⟨#[97,98]⟩:ByteArray),(⟨#[97,99]⟩:ByteArray),(⟨#[97,100]⟩:ByteArray),(⟨#[97,101]⟩:ByteArray),(⟨#[97,102]⟩:ByteArray)]:List ByteArray) 0 n=some (idL.take n.toNat):=hsub
  simp only [a1,ob_,e1,t1,thenC]
  have e2:dm t.1=some r:=r1
  have e3:iJ r t.1=some ():=by unfold iJ;rw [if_pos hrl]
  rw [e2,ob_,e3];rfl
 ·refine List.pairwise_iff_getElem.2 (λi j hi hj hij => ?_)
  have h1:=List.pairwise_iff_getElem.1 r3 i j hi hj hij
  have h2:r[i].Id≠r[j].Id:=λe=>by
   have:=List.pairwise_iff_getElem.1 hids i j (by simpa using hi) (by simpa using hj) hij
   rw [List.getElem_map,List.getElem_map]at this
   exact this e
  rcases P9 r[i] r[j] h2 with h|h
  ·exact h
  ·exact absurd (sI.2 h) h1
theorem rightAlerts (most:Int) (hm:0<=most/\most<=6) (s:Stream) {b:Int} (hs:Ok s b) (hb:b<=600000):∃l s',gz s most=some (l,s')/\RAlerts l most.toNat/\Ok s' (b+250):=by
 obtain ⟨l,s',h1,h2,h3⟩:=Hq most hm s hs hb
 exact⟨l,s',h1,h2.1,h3⟩
theorem IM {a b:Alert} (h:befA a b):∃n,jG a b=some n/\n<0:=by
 refine⟨_,by simp only [jG,tH,sM,Ol,ob_];rfl,?_⟩
 unfold or0 wY
 rcases h with h|⟨h,k⟩
 ·simp [h]
 ·rw [h]
  rcases yK a.Id b.Id with⟨_,e⟩|⟨e,_⟩|⟨e,_⟩
  ·rw [e];simp
  ·rw [e]at k;exact absurd k (kR _)
  ·exact absurd (lt_trans k e) (kR _)
theorem Gw {K T:Type} {eq:K->K->Bool} {k:K}:∀{es:List (K×T)},(∀e∈es,eq k e.1=false)->Di eq k es=none
 | [],_=>rfl
 | e::es,h=>by
  have h1:=h e (by simp)
  have h2:=Gw (es:=es) (λx hx=>h x (by simp [hx]))
  rw [Di,h1,h2];rfl
theorem eqS_eq {a b:ByteArray} (h:(a==b)=true):a=b:=by
 obtain ⟨x⟩:=a
 obtain ⟨y⟩:=b
 have h1:(x==y)=true:=h
 rw [eq_of_beq h1]
theorem idsLoop (l:List Alert) (hnd:(l.map (·.Id)).Nodup) (hl:l.length<=1000):∃s,forL l ([]:List (ByteArray×Bool)) (λk x s=>gU k x s)=some (.go s):=by
 obtain ⟨s,e,_⟩:=jW (body:=λk x s=>gU k x s) (λk s=>s=(l.take k).map λa=>(a.Id,true)) (xs:=l) (s:=([]:List (ByteArray×Bool))) (by omega) (λk x s hx hs=>by
  have et:l.take (k+1)=l.take k++[x]:=by rw [List.take_add_one,hx];rfl
  have hn:Di eqS x.Id s=none:=Gw (λe he=>by
   rw [hs]at he
   obtain ⟨a,ha,rfl⟩:=List.mem_map.1 he
   obtain ⟨i,hi,rfl⟩:=List.getElem_of_mem ha
   rw [List.length_take]at hi
   obtain ⟨hk,hxk⟩:=List.getElem?_eq_some_iff.1 hx
   rw [<- Bool.not_eq_true]
   intro e
   replace e:=eqS_eq e
   have:=List.pairwise_iff_getElem.1 hnd i k (by simp;omega) (by simpa using hk) (by omega)
   rw [List.getElem_map,List.getElem_map,hxk]at this
   rw [List.getElem_take]at e
   exact this e.symm)
  unfold gU Kq ND
  rw [hn]
  refine⟨_,rfl,?_⟩
  rw [et,List.map_append,hs];rfl) rfl
 exact⟨s,e⟩
theorem F6 {l:List Alert} {n:Nat} (h:RAlerts l n) (hn:n<=300):kE l=some 0:=by
 have hl:=h.len
 unfold kE
 rw [decide_eq_false (by omega),cond_false]
 obtain ⟨u,e,_⟩:=jW (body:=λk x s=>jd l k x s) (λ_ _=>True) (xs:=l) (s:=()) (by omega) (λk x s hx _=>by
  refine⟨(),?_,trivial⟩
  have hm:=List.mem_of_getElem? hx
  unfold jd
  rw [Hr (h.right x hm)]
  simp only [ob_,bne_self_eq_false,cond_false]
  rcases Nat.eq_zero_or_pos k with h0|h0
  ·rw [decide_eq_false (by omega)];rfl
  ·rw [decide_eq_true (by omega),cond_true]
   obtain ⟨y,q1,q2⟩:=vQ hx h0 (by omega)
   have hb:befA y x:=by
    obtain ⟨l1,m1⟩:=List.getElem?_eq_some_iff.1 q2
    obtain ⟨l2,m2⟩:=List.getElem?_eq_some_iff.1 hx
    rw [<- m1,<- m2]
    exact List.pairwise_iff_getElem.1 h.rise _ _ l1 l2 (by omega)
   obtain ⟨m,m1,m2⟩:=IM hb
   rw [q1,ob_,m1,ob_,decide_eq_false (by omega)];rfl) trivial
 rw [e]
 simp only [ob_,thenC]
 obtain ⟨s,e2⟩:=idsLoop l h.ids (by omega)
 rw [e2];rfl
structure RightPo (p:Post):Prop where
 key:kit_IsKey p.Player=some true
 x : -1000<=p.X/\p.X<=1000
 y : -1000<=p.Y/\p.Y<=1000
theorem paP_right {x y:Int} (hx : -1000<=x/\x<=1000) (hy : -1000<=y/\y<=1000):RightPo ⟨⟨#[112,97]⟩,x,y⟩:=⟨by
 show kit_IsKey ⟨#[112,97]⟩=some true
 rw [o9 _ (by decide)];exact congrArg some (by kernel_rfl),hx,hy⟩
theorem M9 {p:Post} (h:RightPo p):kN [p]=some 0:=by
 have h1:=h.x
 have h2:=h.y
 unfold kN
 rw [decide_eq_false (by simp),cond_false,lH (by simp)]
 have e:jC [p] 0 p ()=some (.go ()):=by
  unfold jC
  rw [h.key]
  simp only [ob_,Bool.not_true,cond_false,lQ,lG (show (-100000:Int)<=p.X/\p.X<=100000 by omega),lG (show (-100000:Int)<=p.Y/\p.Y<=100000 by omega)]
  rfl
 simp only [forR,e,ob_,thenC]
theorem checkBoth_0 {l:List Alert} {n:Nat} (h:RAlerts l n) (hn:n<=300) {p:Post} (hp:RightPo p):lZ l [p]=some 0:=by
 unfold lZ
 rw [F6 h hn,ob_,M9 hp];rfl
instance (a b:Alert):Decidable (lt a.Id b.Id):=by unfold lt;exact inferInstance
instance (a b:Alert):Decidable (befA a b):=by unfold befA;exact inferInstance
instance (v:ByteArray) (l:List ByteArray):Decidable (v∈l):=decidable_of_iff (l.any (λx=>decide (v=x))=true) (by simp)
def Ah (a o:Alert) (r:ByteArray):Bool:=decide (o.Id=r)&&(decide (o.Sender=a.Sender)&&decide (befA o a))
def cutB (a z:Alert):Bool:=decide (z.Id∈a.Refs)&&(decide (z.Sender=a.Sender)&&decide (befA z a))
def endV (l:List Alert) (z:Alert):Int:=l.foldl (λm a=>bif cutB a z then min m a.At else m) z.Until
def onB (l:List Alert) (t:Int) (z:Alert):Bool:=decide (z.Kind≠3)&&(decide (z.At<=t)&&decide (t<endV l z))
def xA (a b:Alert):Bool:=decide (b.Weight<a.Weight)||(decide (a.Weight=b.Weight)&&(decide (b.At<a.At)||(decide (a.At=b.At)&&decide (lt a.Id b.Id))))
theorem Jw (a:Alert):xA a a=false:=by
 unfold xA
 rw [<- Bool.not_eq_true]
 simp only [Bool.or_eq_true,Bool.and_eq_true,decide_eq_true_eq,not_or,not_and]
 exact⟨Int.lt_irrefl _,λ_=>⟨Int.lt_irrefl _,λ_=>kR _⟩⟩
theorem yw {a b:Alert}:xA a b=true↔b.Weight<a.Weight\/a.Weight=b.Weight/\(b.At<a.At\/a.At=b.At/\lt a.Id b.Id):=by
 unfold xA
 simp only [Bool.or_eq_true,Bool.and_eq_true,decide_eq_true_eq]
theorem EP (a b c:Alert) (h:xA a b=true) (k:xA b c=true):xA a c=true:=by
 rw [yw]at *
 rcases h with h|⟨h,h2⟩ <;> rcases k with k|⟨k,k2⟩
 ·exact .inl (by omega)
 ·exact .inl (by omega)
 ·exact .inl (by omega)
 ·refine .inr ⟨by omega,?_⟩
  rcases h2 with h2|⟨h2,h3⟩ <;> rcases k2 with k2|⟨k2,k3⟩
  ·exact .inl (by omega)
  ·exact .inl (by omega)
  ·exact .inl (by omega)
  ·exact .inr ⟨by omega,lt_trans h3 k3⟩
theorem Oy {a b:Alert} (h:a.Id≠b.Id):xA a b=true\/xA b a=true:=by
 rw [yw,yw]
 rcases Int.lt_trichotomy a.Weight b.Weight with q|q|q
 ·exact .inr (.inl q)
 ·rcases Int.lt_trichotomy a.At b.At with w|w|w
  ·exact .inr (.inr ⟨q.symm,.inl w⟩)
  ·rcases uK a.Id b.Id with e|e|e
   ·exact .inl (.inr ⟨q,.inr ⟨w,e⟩⟩)
   ·exact absurd e h
   ·exact .inr (.inr ⟨q.symm,.inr ⟨w.symm,e⟩⟩)
  ·exact .inl (.inr ⟨q,.inl w⟩)
 ·exact .inl (.inl q)
theorem M7 {l:List Alert} (h:(l.map (·.Id)).Nodup):l.Pairwise (λa b=>xA a b=true\/xA b a=true):=by
 have h2:l.Pairwise (λa b=>a.Id≠b.Id):=by
  have:=h
  unfold List.Nodup at this
  rwa [List.pairwise_map]at this
 exact h2.imp Oy
def xm (l:List Alert) (px py t:Int):List Alert:=l.filter λz=>onB l t z&&hasB z.Areas px py
def Ew (l:List Alert) (px py t:Int):List Alert:=JI xA (xm l px py t)
def wo (l:List Alert) (px py t:Int):ByteArray:=match Ew l px py t with | []=>⟨#[]⟩ | z::_=>z.Id
theorem JA {l:List Alert} (h:(l.map (·.Id)).Nodup) (px py t:Int):((xm l px py t).map (·.Id)).Nodup:=h.sublist ((List.filter_sublist (l:=l)).map _)
theorem rank_is {l:List Alert} (h:(l.map (·.Id)).Nodup) (px py t:Int) {s:List Alert} (hp:s.Perm (xm l px py t)) (hs:s.Pairwise (λa b=>xA b a=false)):s=Ew l px py t :=
 srtG_is Jw EP (M7 (JA h px py t)) hp hs
theorem MV {l:List Alert} {px py e t:Int} (h:∀z∈l,(z.At<=e\/t<z.At)/\(endV l z<=e\/t<endV l z)) (het:e<=t):wo l px py t=wo l px py e:=by
 have:xm l px py t=xm l px py e:=by
  unfold xm
  refine List.filter_congr (λz hz => ?_)
  have h1:onB l t z=onB l e z:=by
   obtain ⟨h1,h2⟩:=h z hz
   unfold onB
   have e1:decide (z.At<=t)=decide (z.At<=e):=by rw [decide_eq_decide];omega
   have e2:decide (t<endV l z)=decide (e<endV l z):=by rw [decide_eq_decide];omega
   rw [e1,e2]
  rw [h1]
 unfold wo Ew
 rw [this]
structure CA (l:List Alert):Prop where
 ids:(l.map (·.Id)).Nodup
 len:l.length<=12
 refs:∀x∈l,x.Refs.length<=1000
 alen:∀x∈l,x.Areas.length<=1000
 areas:∀x∈l,∀r∈x.Areas,Fine r
 at_:∀x∈l,0<=x.At/\x.At<=1000000000000
 until_:∀x∈l,0<=x.Until/\x.Until<=2000000000000
theorem RAlerts.ca {l:List Alert} {n:Nat} (h:RAlerts l n) (hn:n<=12):CA l:=by
 refine⟨h.ids,by have:=h.len;omega,λx hx => ?_,λx hx => ?_,λx hx r hr=>((h.right x hx).areas r hr).1,λx hx => ?_,λx hx => ?_⟩
 ·have:=(h.right x hx).refsLen;omega
 ·have:=(h.right x hx).alen;omega
 ·have:=(h.right x hx).at_;omega
 ·have:=(h.right x hx).at_;have:=(h.right x hx).until_;omega
theorem N7 {l:List Alert} (h:(l.map (·.Id)).Nodup) {i j:Nat} {a b:Alert} (ha:l[i]? = some a) (hb:l[j]? = some b) (e:a.Id=b.Id):i=j:=by
 obtain ⟨h1,e1⟩:=List.getElem?_eq_some_iff.1 ha
 obtain ⟨h2,e2⟩:=List.getElem?_eq_some_iff.1 hb
 have hp:=List.pairwise_iff_getElem.1 h
 rcases Nat.lt_trichotomy i j with q|q|q
 ·exact absurd (by rw [List.getElem_map,List.getElem_map,e1,e2];exact e) (hp i j (by simpa using h1) (by simpa using h2) q)
 ·exact q
 ·exact absurd (by rw [List.getElem_map,List.getElem_map,e1,e2];exact e.symm) (hp j i (by simpa using h2) (by simpa using h1) q)
theorem MX (l:List Alert) (a z:Alert):endV (l++[a]) z=bif cutB a z then min (endV l z) a.At else endV l z:=by
 unfold endV
 rw [List.foldl_append];rfl
def J6 (a:Alert) (j:Nat) (z:Alert):Bool:=decide (z.Id∈a.Refs.take j)&&(decide (z.Sender=a.Sender)&&decide (befA z a))
def vZ (l:List Alert) (k:Nat) (a:Alert) (j:Nat) (z:Alert):Int:=bif J6 a j z then min (endV (l.take k) z) a.At else endV (l.take k) z
theorem endJ_0 (l:List Alert) (k:Nat) (a z:Alert):vZ l k a 0 z=endV (l.take k) z:=by
 unfold vZ J6
 rw [decide_eq_false (by simp)];rfl
theorem PH {l:List Alert} {k:Nat} {a:Alert} (h:l[k]? = some a) (z:Alert):vZ l k a a.Refs.length z=endV (l.take (k+1)) z:=by
 have et:l.take (k+1)=l.take k++[a]:=by rw [List.take_add_one,h];rfl
 rw [et,MX]
 unfold vZ J6 cutB
 rw [List.take_length]
theorem FD {a o:Alert} {r:ByteArray}:Ah a o r=true↔o.Id=r/\o.Sender=a.Sender/\befA o a:=by
 unfold Ah
 simp only [Bool.and_eq_true,decide_eq_true_eq]
theorem J9 {a z:Alert} {j:Nat}:J6 a j z=true↔z.Id∈a.Refs.take j/\z.Sender=a.Sender/\befA z a:=by
 unfold J6
 simp only [Bool.and_eq_true,decide_eq_true_eq]
theorem Nq {a z:Alert} {j:Nat} {r:ByteArray} (hr:a.Refs[j]? = some r):J6 a (j+1) z=(J6 a j z||Ah a z r):=by
 have et:a.Refs.take (j+1)=a.Refs.take j++[r]:=by rw [List.take_add_one,hr];rfl
 rw [Bool.eq_iff_iff,Bool.or_eq_true,J9,J9,FD,et,List.mem_append,List.mem_singleton]
 constructor
 ·rintro ⟨h|h,k⟩
  ·exact .inl ⟨h,k⟩
  ·exact .inr ⟨h,k⟩
 ·rintro (⟨h,k⟩|⟨h,k⟩)
  ·exact⟨.inl h,k⟩
  ·exact⟨.inr h,k⟩
theorem BR {l:List Alert} {k j:Nat} {a z:Alert} {r:ByteArray} (hr:a.Refs[j]? = some r):vZ l k a (j+1) z=bif Ah a z r then min (vZ l k a j z) a.At else vZ l k a j z:=by
 unfold vZ
 rw [Nq hr]
 cases J6 a j z <;> cases Ah a z r <;> simp only [Bool.or_true,Bool.or_false,Bool.false_or,Bool.true_or,cond_true,cond_false]
 omega
theorem map_none {l:List Alert} {k j:Nat} {a:Alert} {r:ByteArray} (hr:a.Refs[j]? = some r) (h:l.any (λo=>Ah a o r)=false):l.map (vZ l k a (j+1))=l.map (vZ l k a j):=by
 refine List.map_congr_left (λz hz => ?_)
 have:Ah a z r=false:=by
  rw [<- Bool.not_eq_true];intro e
  have:l.any (λo=>Ah a o r)=true:=List.any_eq_true.2 ⟨z,hz,e⟩
  rw [h]at this;cases this
 rw [BR hr,this,cond_false]
theorem map_one {l:List Alert} (hid:(l.map (·.Id)).Nodup) {k j i:Nat} {a z:Alert} {r:ByteArray} (hr:a.Refs[j]? = some r) (hz:l[i]? = some z) (h:Ah a z r=true):l.map (vZ l k a (j+1))=(l.map (vZ l k a j)).set i (min (vZ l k a j z) a.At):=by
 refine List.ext_getElem? (λn => ?_)
 rw [List.getElem?_map,List.getElem?_set]
 by_cases hin:i=n
 ·subst hin
  obtain ⟨h1,_⟩:=List.getElem?_eq_some_iff.1 hz
  rw [if_pos rfl,if_pos (by simpa using h1),hz,Option.map_some,BR hr,h,cond_true]
 ·rw [if_neg hin,List.getElem?_map]
  cases hn:l[n]? with
  | none=>rfl
  | some y =>
   rw [Option.map_some,Option.map_some,BR hr]
   have:Ah a y r=false:=by
    rw [<- Bool.not_eq_true];intro e
    exact hin (N7 hid hz hn ((FD.1 h).1.trans (FD.1 e).1.symm))
   rw [this,cond_false]
theorem J5 {α:Type} {f:α->Option Bool} {p:α->Bool} {B:Nat->α->Unit->Option (Ctl Unit Int)} (hB:∀k x,B k x ()=(f x).bind λr=>bif r then some (.ret (k:Int))else some (.go ())):∀(xs:List α) (k:Nat),(∀x∈xs,f x=some (p x)) ->
  (xs.any p=false/\forR B xs k ()=some (.go ()))\/∃(j:Nat) (x:α),xs[j]? = some x/\p x=true/\(∀(i:Nat) (y:α),i<j->xs[i]? = some y->p y=false)/\forR B xs k ()=some (.ret ((k+j:Nat):Int))/\xs.any p=true
 | [],k,h => .inl ⟨rfl,rfl⟩
 | x::xs,k,h=>by
  have hx:=h x (by simp)
  cases hp:p x with
  | true =>
   refine .inr ⟨0,x,rfl,hp,λi y hi=>absurd hi (Nat.not_lt_zero _),?_,by rw [List.any_cons,hp];rfl⟩
   rw [forR,hB,hx,hp];rfl
  | false =>
   have e1:forR B (x::xs) k ()=forR B xs (k+1) ():=by rw [forR,hB,hx,hp];rfl
   rw [e1,List.any_cons,hp,Bool.false_or]
   rcases J5 hB xs (k+1) (λy hy=>h y (by simp [hy]))with⟨h1,h2⟩|⟨j,y,h1,h2,h3,h4,h5⟩
   ·exact .inl ⟨h1,h2⟩
   ·refine .inr ⟨j+1,y,h1,h2,λi z hi hz => ?_,by rw [h4];congr 3;omega,h5⟩
    cases i with
    | zero=>rw [List.getElem?_cons_zero,so_]at hz;rw [<- hz];exact hp
    | succ i=>exact h3 i z (by omega) (by simpa using hz)
theorem minI_m (a b:Int):lD a b=min a b:=by unfold lD;split <;> omega
theorem Ju (a b:Alert):∃n,jG a b=some n/\(n<0↔befA a b):=by
 refine⟨_,by simp only [jG,tH,sM,Ol,ob_];rfl,?_⟩
 rw [yP,oz,sJ,Ao];rfl
theorem NW (a o:Alert) (r:ByteArray):lJ o r a=some (Ah a o r):=by
 obtain ⟨n,n1,n2⟩:=Ju o a
 unfold lJ Ah
 rw [uz,uz,n1]
 have:decide (n<0)=decide (befA o a):=by rw [decide_eq_decide];exact n2
 cases decide (o.Id=r) <;> cases decide (o.Sender=a.Sender) <;> simp [this]
theorem find_eq {l:List Alert} (hl:l.length<=1000) (a:Alert) (r:ByteArray):(qC l a r=some (-1)/\l.any (λo=>Ah a o r)=false)\/∃(j:Nat) (z:Alert),qC l a r=some (j:Int)/\l[j]? = some z/\Ah a z r=true:=by
 unfold qC eG
 rw [lH (by omega)]
 rcases J5 (f:=λx0=>lJ x0 r a) (p:=λo=>Ah a o r) (B:=λk x s=>dN (λx0=>lJ x0 r a) k x s) (λk x=>rfl) l 0 (λx _=>NW a x r)with⟨h1,h2⟩|⟨j,x,h1,h2,_,h4,_⟩
 ·rw [h2];exact .inl ⟨rfl,h1⟩
 ·rw [h4];exact .inr ⟨j,x,by simp only [ob_,thenC,Nat.zero_add],h1,h2⟩
theorem MW {l:List Alert} (h:CA l) {k j:Nat} {a:Alert} {r:ByteArray} (hr:a.Refs[j]? = some r):mo l a j r (l.map (vZ l k a j))=some (.go (l.map (vZ l k a (j+1)))):=by
 have hl:=h.len
 unfold mo
 rcases find_eq (Nat.le_trans hl (by decide)) a r with⟨h1,h2⟩|⟨i,z,h1,h2,h3⟩
 ·rw [h1,ob_,decide_eq_false (by decide),cond_false,ob_,map_none hr h2]
 ·obtain ⟨hi,_⟩:=List.getElem?_eq_some_iff.1 h2
  have e1:(l.map (vZ l k a j))[(0+((i:Int)).toNat)]? = some (vZ l k a j z):=by
   rw [show 0+((i:Int)).toNat=i by omega,List.getElem?_map,h2];rfl
  have hin:inR (i:Int) (l.map (vZ l k a j))=some ():=yz (by omega) (by rw [List.length_map];omega)
  rw [h1,ob_,decide_eq_true (by omega),cond_true,hin,e1]
  simp only [ob_]
  rw [map_one h.ids hr h2 h3,minI_m,show 0+((i:Int)).toNat=i by omega]
theorem ends_eq {l:List Alert} (h:CA l):uj l=some (l.map (endV l)):=by
 have hl:=h.len
 unfold uj
 obtain ⟨t,t1,t2⟩:=jW (body:=λk x s=>oF k x s) (λk s=>s=(l.take k).map (·.Until)) (xs:=l) (s:=([]:List Int)) (by omega) (λk x s hx hs=>by
  have et:l.take (k+1)=l.take k++[x]:=by rw [List.take_add_one,hx];rfl
  have hk:(l.take k).length<=l.length:=by rw [List.length_take];exact Nat.min_le_right _ _
  unfold oF
  rw [hs,lK _ _ (by simp only [List.length_map,List.length_cons,List.length_nil];omega)]
  exact⟨_,rfl,by rw [et,List.map_append];rfl⟩) rfl
 rw [t1,t2,List.take_length]
 simp only [ob_,thenC]
 obtain ⟨u,u1,u2⟩:=jW (body:=λk x s=>oC l k x s) (λk s=>s=l.map (endV (l.take k))) (xs:=l) (s:=l.map (·.Until)) (by omega) (λk x s hx hs=>by
  have hrl:=h.refs x (List.mem_of_getElem? hx)
  obtain ⟨v,v1,v2⟩:=jW (body:=λj r s=>mo l x j r s) (λj s=>s=l.map (vZ l k x j)) (xs:=x.Refs) (s:=s) (by omega) (λj r s hr hs=>by
   rw [hs]
   exact⟨_,MW h hr,rfl⟩) (by rw [hs];exact List.map_congr_left (λz _=>(endJ_0 l k x z).symm))
  unfold oC
  rw [v1]
  exact⟨v,rfl,by rw [v2];exact List.map_congr_left (λz _=>PH hx z)⟩) rfl
 rw [u1,u2,List.take_length]
 rfl
theorem isOn_eq (l:List Alert) (a:Alert) (t:Int):tY a (endV l a) t=some (onB l t a):=by
 unfold tY onB
 have e:(a.Kind != 3)=decide (a.Kind≠3):=by rw [Bool.eq_iff_iff];simp
 rw [e]
 cases decide (a.Kind≠3) <;> cases decide (a.At<=t) <;> rfl
theorem LU {l:List Alert} {px py F T:Int} {E:List Int} (hE:E.Pairwise (· < ·)) (hin:∀x∈E,F<=x/\x<=T) (h1:∀z∈l,F<z.At->z.At<T->z.At∈E) (h2:∀z∈l,F<endV l z->endV l z<T->endV l z∈E) {i:Nat} {a b:Int} (ha:E[i]? = some a) (hb:E[i+1]? = some b) {t:Int} (hat:a<=t) (htb:t<b):wo l px py t=wo l px py a:=by
 have a1:=hin a (List.mem_of_getElem? ha)
 have b1:=hin b (List.mem_of_getElem? hb)
 have key:∀v:Int,(F<v->v<T->v∈E)->v<=a\/t<v:=λv hv=>by
  by_cases q1:F<v
  ·by_cases q2:v<T
   ·rcases Jq hE ha hb (hv q1 q2)with h|h
    ·exact .inl h
    ·exact .inr (by omega)
   ·exact .inr (by omega)
  ·exact .inl (by omega)
 exact MV (λz hz=>⟨key _ (h1 z hz),key _ (h2 z hz)⟩) hat
def Fj (l m:List Alert) (px py t:Int):List Alert:=m.filter λz=>onB l t z&&hasB z.Areas px py
def cR (a b:Alert):Int:=or0 (wY b.Weight a.Weight) (or0 (wY b.At a.At) (wm a.Id b.Id))
theorem Nf (a b:Alert):nO a b=some (cR a b):=by
 simp only [nO,tH,sM,Lp,ob_];rfl
theorem BS {a b:Alert}:cR a b<0↔xA a b=true:=by
 unfold cR
 rw [yP,yP,oz,sJ,oz,sJ,Ao,yw]
 constructor
 ·rintro (h|⟨h,k|⟨k,q⟩⟩)
  ·exact .inl h
  ·exact .inr ⟨h.symm,.inl k⟩
  ·exact .inr ⟨h.symm,.inr ⟨k.symm,q⟩⟩
 ·rintro (h|⟨h,k|⟨k,q⟩⟩)
  ·exact .inl h
  ·exact .inr ⟨h.symm,.inl k⟩
  ·exact .inr ⟨h.symm,.inr ⟨k.symm,q⟩⟩
theorem NZ {a b c:Alert} (h:¬xA a b=true) (k:¬xA b c=true):¬xA a c=true:=by
 rw [yw]at *
 simp only [not_or,not_and]at h k
 rintro (q|⟨q,q2|⟨q2,q3⟩⟩)
 ·omega
 ·have h2:=h.2
  have k2:=k.2
  by_cases e:a.Weight=b.Weight
  ·have:=(h2 e).1
   have:=(k2 (by omega)).1
   omega
  ·omega
 ·have h2:=h.2
  have k2:=k.2
  by_cases e:a.Weight=b.Weight
  ·have a1:=h2 e
   have a2:=k2 (by omega)
   by_cases e2:a.At=b.At
   ·exact OO (a1.2 e2) (a2.2 (by omega)) q3
   ·have:=a1.1
    have:=a2.1
    omega
  ·omega
theorem HY {x:Alert} (h:∀r∈x.Areas,Fine r) (hl:x.Areas.length<=1000) (p:Post):oo x p=some (hasB x.Areas p.X p.Y):=by
 unfold oo
 rw [any_eq (λx0=>mh x0 p) (yu p.X p.Y) (λr hr=>by
  have hs:=h r hr
  unfold Fine at hs
  unfold mh yu
  rw [bD (n:=r.X+r.W) (by omega),bD (n:=r.Y+r.H) (by omega)]
  cases decide (r.X<=p.X) <;> cases decide (p.X<r.X+r.W) <;> cases decide (r.Y<=p.Y) <;> rfl) (by omega)]
 rfl
theorem Mx {α β:Type} {l:List α} {f:α->β} {k:Nat} {x:α} (hx:l[k]? = some x):idx (l.map f) (k:Int)=some (f x):=by
 rw [lS,List.getElem?_map,hx];rfl
theorem take_len {α:Type} (l:List α) (k:Nat):(l.take k).length<=l.length:=by rw [List.length_take];exact Nat.min_le_right _ _
theorem M0 {l:List Alert} (h:CA l) (p:Post) (t:Int):qa l (l.map (endV l)) p t=some (Ew l p.X p.Y t):=by
 have hl:=h.len
 unfold qa
 obtain ⟨u,u1,u2⟩:=jW (body:=λk x s=>mf (l.map (endV l)) t p k x s) (λk s=>s=Fj l (l.take k) p.X p.Y t) (xs:=l) (s:=([]:List Alert)) (by omega) (λk x s hx hs=>by
  have et:l.take (k+1)=l.take k++[x]:=by rw [List.take_add_one,hx];rfl
  have hm:=List.mem_of_getElem? hx
  have hf:Fj l (l.take (k+1)) p.X p.Y t=Fj l (l.take k) p.X p.Y t++(bif onB l t x&&hasB x.Areas p.X p.Y then [x]else []):=by
   unfold Fj
   rw [et,List.filter_append]
   congr 1
  have hsl:s.length<=1000:=by
   rw [hs]
   refine Nat.le_trans (List.length_filter_le _ _) ?_
   have:=take_len l k
   omega
  unfold mf
  rw [Mx hx,ob_,isOn_eq,ob_,HY (h.areas x hm) (h.alen x hm)]
  rw [hf,<- hs]
  cases onB l t x with
  | false=>exact⟨_,rfl,by simp⟩
  | true =>
   cases hasB x.Areas p.X p.Y with
   | false=>exact⟨_,rfl,by simp⟩
   | true =>
    simp only [ob_,cond_true,Bool.and_true]
    rw [lK _ _ (by simp only [List.length_cons,List.length_nil];omega)]
    exact⟨_,rfl,rfl⟩) rfl
 rw [u1,u2,List.take_length]
 simp only [ob_,thenC]
 have e0:Fj l l p.X p.Y t=xm l p.X p.Y t:=rfl
 rw [e0]
 have hrl:(xm l p.X p.Y t).length<=12:=by
  have:(xm l p.X p.Y t).length<=l.length:=List.length_filter_le _ _
  omega
 obtain ⟨r,r1,r2,r3⟩:=La (cmp:=nO) (S:=di) cR (λ_=>rfl) (xs:=xm l p.X p.Y t) hrl (λa _ b _=>Nf a b)
  (λa b q1 q2=>by have:=EP _ _ _ (BS.1 q1) (BS.1 q2);rw [Jw]at this;cases this)
  (λa b c q1 q2 q3=>NZ (λe=>q1 (BS.2 e)) (λe=>q2 (BS.2 e)) (BS.1 q3))
 have e2:di (xm l p.X p.Y t)=some r:=r1
 have e3:iJ r (xm l p.X p.Y t)=some ():=by unfold iJ;rw [if_pos r2.length_eq]
 rw [e2,ob_,e3,ob_,rank_is h.ids p.X p.Y t r2 (r3.imp (λ{a b} q=>by
  cases hb:xA b a with
  | false=>rfl
  | true=>exact absurd (BS.2 hb) q))]
structure EI (l m:List Alert) (F T:Int) (E:List Int):Prop where
 from_:F∈E
 to_:T∈E
 in_:∀x∈E,F<=x/\x<=T
 at_:∀z∈m,F<z.At->z.At<T->z.At∈E
 end_:∀z∈m,F<endV l z->endV l z<T->endV l z∈E
 len:E.length<=2+2*m.length
theorem JD (F T n:Int) (E:List Int) (hl:E.length<=100000):∃E',(bif (decide (F<n))then some (decide (n<T))else some false).bind (λv=>(bif v then (lX E [n]).bind λa=>some a else some E).bind λv=>some ((.go v):Ctl (List Int) Unit))=some (.go E')/\(∀x∈E,x∈E')/\(∀x∈E',x∈E\/F<x/\x<T)/\(F<n->n<T->n∈E')/\E'.length<=E.length+1:=by
 by_cases h1:F<n
 ·by_cases h2:n<T
  ·refine⟨E++[n],?_,λx hx=>List.mem_append_left _ hx,λx hx => ?_,λ_ _=>List.mem_append_right _ (List.mem_singleton.2 rfl),by simp⟩
   ·rw [decide_eq_true h1,decide_eq_true h2]
    simp only [cond_true,ob_]
    rw [lK _ _ (by simp;omega)];rfl
   ·rcases List.mem_append.1 hx with hx|hx
    ·exact .inl hx
    ·rw [List.mem_singleton.1 hx];exact .inr ⟨h1,h2⟩
  ·refine⟨E,?_,λx hx=>hx,λx hx => .inl hx,λ_ h=>absurd h h2,by omega⟩
   rw [decide_eq_true h1,decide_eq_false h2];rfl
 ·refine⟨E,?_,λx hx=>hx,λx hx => .inl hx,λh _=>absurd h h1,by omega⟩
  rw [decide_eq_false h1];rfl
theorem LA {l:List Alert} (h:CA l) {w:Window} {k:Nat} {x:Alert} (hx:l[k]? = some x) {E:List Int} (hE:EI l (l.take k) w.From w.To E):∃E',jJ (l.map (endV l)) w k x E=some (.go E')/\EI l (l.take (k+1)) w.From w.To E':=by
 have hl:=h.len
 have et:l.take (k+1)=l.take k++[x]:=by rw [List.take_add_one,hx];rfl
 have hel:=hE.len
 have htk:=take_len l k
 have hlt:(l.take k).length=k:=by
  obtain ⟨hk,_⟩:=List.getElem?_eq_some_iff.1 hx
  rw [List.length_take];omega
 obtain ⟨E1,a1,a2,a3,a4,a5⟩:=JD w.From w.To x.At E (by omega)
 obtain ⟨E2,b1,b2,b3,b4,b5⟩:=JD w.From w.To (endV l x) E1 (by omega)
 refine⟨E2,?_,?_⟩
 ·unfold jJ
  rw [Mx hx,ob_,lH (by simp)]
  have c1:kY x (endV l x) w 0 0 E=some (.go E1):=a1
  have c2:kY x (endV l x) w (0+1) 1 E1=some (.go E2):=b1
  show (forR _ [0,1] 0 E).bind _=_
  simp only [forR,c1,c2,ob_,thenC]
 ·refine⟨b2 _ (a2 _ hE.from_),b2 _ (a2 _ hE.to_),λy hy => ?_,λz hz g1 g2 => ?_,λz hz g1 g2 => ?_,by rw [et,List.length_append];simp only [List.length_cons,List.length_nil];omega⟩
  ·rcases b3 y hy with q|q
   ·rcases a3 y q with q|q
    ·exact hE.in_ y q
    ·omega
   ·omega
  ·rw [et]at hz
   rcases List.mem_append.1 hz with hz|hz
   ·exact b2 _ (a2 _ (hE.at_ z hz g1 g2))
   ·rw [List.mem_singleton.1 hz]at g1 g2 ⊢
    exact b2 _ (a4 g1 g2)
  ·rw [et]at hz
   rcases List.mem_append.1 hz with hz|hz
   ·exact b2 _ (a2 _ (hE.end_ z hz g1 g2))
   ·rw [List.mem_singleton.1 hz]at g1 g2 ⊢
    exact b4 g1 g2
theorem PL {α:Type} {xs:List α} {n:Nat} (h:xs.length=n+1) (hn:n<=1000000):w64 ((xs.length:Int)-1)=(n:Int):=by
 rw [bD (by omega)];omega
def eB (id:ByteArray) (a b:Int) (out:List Slot_):Option (List Slot_) :=
 (bif (decide ((w64 ((out.length:Int)-1))>=0))then (inR (w64 ((out.length:Int)-1)) out).bind λ_=>(out[(0+((w64 ((out.length:Int)-1))).toNat)]?).bind λe_81=>some (sEq e_81.Entry id)else some false).bind λv_77 =>
 (bif v_77 then (inR (w64 ((out.length:Int)-1)) out).bind λ_=>(out[(0+((w64 ((out.length:Int)-1))).toNat)]?).bind λe_90=>some (out.set (0+((w64 ((out.length:Int)-1))).toNat) (⟨(⟨e_90.Time.From,b⟩:Window),e_90.Entry⟩:Slot_))
 else (lX out ([(⟨(⟨a,b⟩:Window),id⟩:Slot_)]:List Slot_)).bind λa_96=>some a_96)
theorem putS_eq (id:ByteArray) (a b:Int) (out:List Slot_) (hl:out.length<=1000000):eB id a b out=some (vY id a b out):=by
 unfold eB
 cases ho:out.length with
 | zero =>
  have e:=List.eq_nil_of_length_eq_zero ho
  subst e
  rw [decide_eq_false (by decide)];rfl
 | succ n =>
  rw [<- ho,PL ho (by omega),decide_eq_true (by omega),cond_true,yz (by omega) (by omega)]
  have hn:n<out.length:=by omega
  have e1:out[(0+((n:Int)).toNat)]? = some out[n]:=by rw [show 0+((n:Int)).toNat=n by omega];exact List.getElem?_eq_getElem hn
  rw [e1]
  simp only [ob_,uz]
  by_cases he:out[n].Entry=id
  ·rw [decide_eq_true he,cond_true,E5 id a b out n _ ho (List.getElem?_eq_getElem hn) he,show 0+((n:Int)).toNat=n by omega]
  ·rw [decide_eq_false he,cond_false,lK _ _ (by simp;omega),EJ id a b out (λm x h1 h2=>by
    obtain rfl:m=n:=by omega
    rw [List.getElem?_eq_getElem hn,so_]at h2
    rw [<- h2];exact he)];rfl
theorem Ll {f:Int->ByteArray} {E:List Int} {F T:Int} (hE:E.Pairwise (· < ·)) (hl:E.length<=1000000) (h0:E[0]? = some F) (hT:E[E.length-1]? = some T)
  (hf:∀(i:Nat) (a b:Int),E[i]? = some a->E[i+1]? = some b->∀t,a<=t->t<b->f t=f a)
  {body:(List Slot_×Int)->Option (Ctl (List Slot_×Int) Unit)} (hgo:∀(i:Nat) (out:List Slot_) (a b:Int),E[i]? = some a->E[i+1]? = some b->body (out,(i:Int))=(eB (f a) a b out).bind λv=>some (.go (v,w64 ((i:Int)+1))))
  (hbrk:∀(i:Nat) (out:List Slot_),i+1=E.length->body (out,(i:Int))=some (.brk (out,(i:Int)))):∃out i,fC (([]:List Slot_),(0:Int)) body=some (.go (out,i))/\ik f T F out/\out.length<=E.length:=by
 have hlen:0<E.length:=(List.getElem?_eq_some_iff.1 h0).1
 obtain ⟨s,s1,s2⟩:=yF (body:=body) (λk s=>s.2=(k:Int)/\s.1.length<=k/\∃a,E[k]? = some a/\ik f a F s.1) (E.length-1) (λk s hk ⟨i1,i2,a,i3,i4⟩=>by
  obtain ⟨out,n⟩:=s
  simp only at i1 i2 i4
  subst i1
  have hb:E[k+1]? = some E[k+1]:=List.getElem?_eq_getElem (by omega)
  rw [hgo k out a _ i3 hb,putS_eq _ _ _ _ (by omega)]
  refine⟨_,rfl,by simp only [];rw [bD (by omega)];omega,?_,_,hb,?_⟩
  ·simp only []
   have:=EX (f a) a E[k+1] out
   omega
  ·exact ik.add (GI hE i3 hb) (λt t1 t2=>hf k a _ i3 hb t t1 t2) out F i4) (λs ⟨i1,i2,a,i3,i4⟩=>by
  obtain ⟨out,n⟩:=s
  simp only at i1
  subst i1
  exact hbrk _ out (by omega)) (s:=(([]:List Slot_),(0:Int))) ⟨rfl,Nat.le_refl _,F,h0,by unfold ik;rfl⟩
 obtain ⟨_,i2,a,i3,i4⟩:=s2
 rw [hT,so_]at i3
 exact⟨s.1,s.2,s1,by rw [i3];exact i4,by omega⟩
theorem through_ok {l:List Alert} (h:CA l) (p:Post) {w:Window} (hw:w.From<=w.To) (hb : -1000000000000000<=w.From/\w.To<=1000000000000000):∃t,ol l p w=some t/\ik (wo l p.X p.Y) w.To w.From t/\t.length<=10000:=by
 have hl:=h.len
 unfold ol
 rw [ends_eq h,ob_]
 obtain ⟨E,e1,e2⟩:=jW (body:=λk x s=>jJ (l.map (endV l)) w k x s) (λk s=>EI l (l.take k) w.From w.To s) (xs:=l) (s:=([w.From,w.To]:List Int)) (by omega) (λk x s hx hs=>LA h hx hs)
  ⟨by simp,by simp,λx hx=>by
   simp only [List.mem_cons,List.not_mem_nil,or_false]at hx
   rcases hx with rfl|rfl <;> omega,λz hz=>(by cases hz),λz hz=>(by cases hz),by simp⟩
 rw [List.take_length]at e2
 have hel:=e2.len
 rw [e1]
 simp only [ob_,thenC]
 have hne:neL E=some ():=by
  unfold neL
  have:=List.ne_nil_of_mem e2.from_
  first | rw [if_pos this] | (cases E with | nil=>exact absurd rfl this | cons a E=>rfl)
 obtain ⟨s,C,c1,c2,c3,c4,c5,c6⟩:=qj E (by omega)
 have c2':iJ s E=some ():=by unfold iJ;rw [if_pos c2]
 rw [hne,ob_,c1,ob_,c2',ob_,c3,ob_]
 have hin:∀x∈C,w.From<=x/\x<=w.To:=λx hx=>e2.in_ x ((c5 x).1 hx)
 obtain ⟨d1,d2⟩:=Gi c4 ((c5 _).2 e2.from_) ((c5 _).2 e2.to_) hin
 obtain ⟨out,i,o1,o2,o3⟩:=Ll (f:=wo l p.X p.Y) c4 (by omega) d1 d2 (λi a b ha hb t t1 t2=>LU c4 hin (λz hz g1 g2=>(c5 _).2 (e2.at_ z hz g1 g2)) (λz hz g1 g2=>(c5 _).2 (e2.end_ z hz g1 g2)) ha hb t1 t2)
  (body:=λs=>jL C l (l.map (endV l)) p s) (λi out a b ha hb=>by
   have hi:i+1<C.length:=(List.getElem?_eq_some_iff.1 hb).1
   unfold jL
   simp only []
   have w1:w64 ((i:Int)+1)=((i+1:Nat):Int):=by rw [bD (by omega)];omega
   rw [w1,decide_eq_true (by omega),cond_true,lS,ha,ob_,M0 h,ob_,lS,hb]
   have e3:(bif (decide (((Ew l p.X p.Y a).length:Int)>0))then (idx (Ew l p.X p.Y a) 0).bind λy_75=>some y_75.Id else some (⟨#[]⟩:ByteArray))=some (wo l p.X p.Y a):=by
    unfold wo
    cases Ew l p.X p.Y a with
    | nil=>rfl
    | cons z r=>rw [decide_eq_true (by simp only [List.length_cons];omega),cond_true];rfl
   rw [e3]
   simp only [ob_]
   unfold eB
   generalize (bif decide (w64 ((out.length:Int)-1)>=0)then _ else _:Option Bool)=c
   cases c with
   | none=>rfl
   | some c=>cases c <;> rfl) (λi out hi=>by
   unfold jL
   simp only []
   rw [bD (n:=(i:Int)+1) (by omega),decide_eq_false (by omega),cond_false])
 rw [o1]
 exact⟨out,rfl,o2,by omega⟩
end Go.Proofs.YticmkhcacamhkaaGreatDoor.Law.AlN

open Go Go.Eng
namespace Go.Proofs.YticmkhcacamhkaaGreatDoor.Law
set_option linter.unusedVariables false
set_option linter.unusedSimpArgs false
def p9 {σ ρ:Type} (s:σ) (body:σ->Option (Ctl σ ρ)):Option (Ctl σ ρ):=iterN body 300 s
def Le {α:Type} (a b:Option α):Prop:=∀r,a=some r->b=some r
theorem Le.refl {α:Type} (a:Option α):Le a a:=λ_ h=>h
theorem Le.bind {α β:Type} {a b:Option α} {f g:α->Option β} (h:Le a b) (k:∀x,Le (f x) (g x)):Le (a.bind f) (b.bind g):=λr e=>by
 obtain ⟨x,h1,h2⟩:=Option.bind_eq_some_iff.1 e
 rw [h x h1];exact k x r h2
theorem Le.cond {α:Type} {a b c d:Option α} {t:Bool} (h:Le a c) (k:Le b d):Le (bif t then a else b) (bif t then c else d):=by
 cases t
 ·exact k
 ·exact h
theorem Le.thenC {σ ρ τ:Type} {o:Ctl σ ρ} {f f':σ->Option τ} {g g':ρ->Option τ} (h:∀x,Le (f x) (f' x)) (k:∀x,Le (g x) (g' x)):Le (Go.Eng.thenC o f g) (Go.Eng.thenC o f' g'):=by
 cases o
 ·exact h _
 ·exact Le.refl _
 ·exact k _
theorem Le.forR {α σ ρ:Type} {b b':Nat->α->σ->Option (Ctl σ ρ)} (h:∀k x s,Le (b k x s) (b' k x s)):∀(xs:List α) (k:Nat) (s:σ),Le (Go.Eng.forR b xs k s) (Go.Eng.forR b' xs k s)
 | [],k,s=>Le.refl _
 | x::xs,k,s=>Le.bind (h k x s) (λc=>by
   cases c with
   | go s'=>exact Le.forR h xs _ _
   | brk s'=>exact Le.refl _
   | ret r=>exact Le.refl _)
theorem Le.forL {α σ ρ:Type} {xs:List α} {s:σ} {b b':Nat->α->σ->Option (Ctl σ ρ)} (h:∀k x s,Le (b k x s) (b' k x s)):Le (Go.Eng.forL xs s b) (Go.Eng.forL xs s b'):=by
 unfold Go.Eng.forL
 split
 ·exact Le.forR h xs 0 s
 ·exact Le.refl _
theorem Le.iterN {σ ρ:Type} {b b':σ->Option (Ctl σ ρ)} (h:∀s,Le (b s) (b' s)):∀(n:Nat) (s:σ),Le (Go.Eng.iterN b n s) (Go.Eng.iterN b' n s)
 | 0,s=>Le.refl _
 | n+1,s=>Le.bind (h s) (λc=>by
   cases c with
   | go s'=>exact Le.iterN h n s'
   | brk s'=>exact Le.refl _
   | ret r=>exact Le.refl _)
theorem Le.loop {σ ρ:Type} {s:σ} {b b':σ->Option (Ctl σ ρ)} (h:∀s,Le (b s) (b' s)):Le (p9 s b) (fC s b'):=λr e=>gQ (Le.iterN h _ _ r e)
def M5 (x:Int):List Int->List Int
 | []=>[x]
 | y::l=>bif decide (x<=y)then x::y::l else y::M5 x l
def EF:List Int->List Int
 | []=>[]
 | x::l=>M5 x (EF l)
theorem Cw (x:Int):∀l,(M5 x l).Perm (x::l)
 | [] => .refl _
 | y::l=>by
  unfold M5
  cases decide (x<=y)with
  | true=>exact .refl _
  | false=>exact ((Cw x l).cons y).trans (List.Perm.swap x y l)
theorem CV:∀l,(EF l).Perm l
 | [] => .refl _
 | x::l=>(Cw x _).trans ((CV l).cons x)
theorem CL (x:Int):∀l:List Int,l.Pairwise (· <= ·)->(M5 x l).Pairwise (· <= ·)
 | [],_=>List.pairwise_singleton _ _
 | y::l,h=>by
  obtain ⟨h1,h2⟩:=List.pairwise_cons.1 h
  unfold M5
  by_cases hx:x<=y
  ·rw [decide_eq_true hx,cond_true]
   exact List.pairwise_cons.2 ⟨λz hz=>by
    rcases List.mem_cons.1 hz with rfl|hz
    ·exact hx
    ·exact Int.le_trans hx (h1 z hz),h⟩
  ·rw [decide_eq_false hx,cond_false]
   exact List.pairwise_cons.2 ⟨λz hz=>by
    rcases List.mem_cons.1 ((Cw x l).mem_iff.1 hz)with rfl|hz
    ·omega
    ·exact h1 z hz,CL x l h2⟩
theorem zF:∀l,(EF l).Pairwise (· <= ·)
 | [] => .nil
 | x::l=>CL x _ (zF l)
theorem Nc (l:List Int):l.mergeSort (λx y=>decide (x<=y))=EF l:=by
 refine List.Perm.eq_of_pairwise (le:=(· <= ·)) (λa b _ _ h1 h2=>Int.le_antisymm h1 h2) ?_ (zF l) ((List.mergeSort_perm l _).trans (CV l).symm)
 have:=List.pairwise_mergeSort (le:=λ(x y:Int)=>decide (x<=y)) (λa b c=>by simp;omega) (λa b=>by simp;omega) l
 exact this.imp (by simp)
def zu (l:List Int):Option (List Int):=bif Nat.ble l.length 1000 then some (EF l)else none
theorem O1 (l:List Int):Le (zu l) (dC l):=λr h=>by
 unfold zu at h
 cases hb:Nat.ble l.length 1000 with
 | false=>rw [hb]at h;cases h
 | true =>
  rw [hb,cond_true]at h
  have:=Nat.le_of_ble_eq_true hb
  unfold dC Ki
  rw [if_pos (by omega),Nc];exact h
end Go.Proofs.YticmkhcacamhkaaGreatDoor.Law

