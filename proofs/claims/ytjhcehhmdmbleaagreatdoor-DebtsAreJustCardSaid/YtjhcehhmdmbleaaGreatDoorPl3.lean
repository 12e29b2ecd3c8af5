/-
  THE PLAIN LAW (part 3).
-/
import Derived.Test.YtjhcehhmdmbleaaGreatDoorPl2
import Derived.Test.YtjhcehhmdmbleaaGreatDoorDefs
open Go Go.Eng
namespace Go.Proofs.YtjhcehhmdmbleaaGreatDoor.Law
set_option linter.unusedVariables false
set_option linter.unusedSimpArgs false
theorem F6 (s:Stream) {b:Int} (hs:Ok s b) (hb:b≤900000):∃ r s',iq s=some (r,s')∧Fine r∧(-2≤r.X∧r.X≤8 ∧ -2≤r.Y∧r.Y≤8∧r.W≤5∧r.H≤5)∧Ok s' (b + 4):=by
 unfold iq
 obtain ⟨X,q1,c1,c2,c3,c4⟩:=jW s (-2) 8 hs (by omega) (by decide) (by decide) (by decide)
 obtain ⟨Y,q2,d1,d2,d3,d4⟩:=jW q1 (-2) 8 c4 (by omega) (by decide) (by decide) (by decide)
 obtain ⟨U,q3,e1,e2,e3,e4⟩:=jW q2 1 5 d4 (by omega) (by decide) (by decide) (by decide)
 obtain ⟨V,q4,f1,f2,f3,f4⟩:=jW q3 1 5 e4 (by omega) (by decide) (by decide) (by decide)
 simp only [c1,d1,e1,f1,Option.bind_some]
 refine⟨_,_,rfl,?_,by simp only []; omega,f4.mono (by omega)⟩
 unfold Fine
 simp only []; omega
theorem FK (f:Rect→Option Bool) (p:Rect→Bool):∀ (l:List Rect) (k:Nat),(∀ r∈l,f r=some (p r))→(forR (fun k z s=>bg f k z s) l k ()=some (.go ())∧l.any p=false) ∨ ∃ j:Nat,forR (fun k z s=>bg f k z s) l k ()=some (.ret (j:Int))∧l.any p=true
 | [],k,_ => .inl ⟨rfl,rfl⟩
 | r::l,k,h=>by
  have hB:bg f k r ()=some (bif p r then .ret (k:Int)else .go ()):=by
   unfold bg
   rw [h r (by simp),Option.bind_some]
   cases p r <;> rfl
  rw [forR,hB,Option.bind_some,List.any_cons]
  cases p r with
  | true=>exact .inr ⟨k,rfl,rfl⟩
  | false=>exact FK f p l (k + 1) (fun r hr=>h r (by simp [hr]))
theorem any_eq (f:Rect→Option Bool) (p:Rect→Bool) {l:List Rect} (h:∀ r∈l,f r=some (p r)) (hl:l.length≤1000000):bT l f=some (l.any p):=by
 unfold bT dF
 rw [qP (by omega)]
 rcases FK f p l 0 h with⟨h1,h2⟩ | ⟨j,h1,h2⟩
 ·rw [h1,h2]; rfl
 ·rw [h1,h2]
  simp only [Option.bind_some,thenC]
  have:decide ((j:Int)≥0)=true:=by simp
  rw [this]
end Go.Proofs.YtjhcehhmdmbleaaGreatDoor.Law

open Go Go.Eng
namespace Go.Proofs.YtjhcehhmdmbleaaGreatDoor.Law
set_option linter.unusedVariables false
set_option linter.unusedSimpArgs false
def oF {σ ρ:Type} (s:σ) (body:σ→Option (Ctl σ ρ)):Option (Ctl σ ρ):=iterN body 300 s
def Le {α:Type} (a b:Option α):Prop := ∀ r,a=some r→b=some r
theorem Le.refl {α:Type} (a:Option α):Le a a:=fun _ h=>h
theorem Le.bind {α β:Type} {a b:Option α} {f g:α→Option β} (h:Le a b) (k:∀ x,Le (f x) (g x)):Le (a.bind f) (b.bind g):=fun r e=>by
 obtain ⟨x,h1,h2⟩:=Option.bind_eq_some_iff.1 e
 rw [h x h1]; exact k x r h2
theorem Le.cond {α:Type} {a b c d:Option α} {t:Bool} (h:Le a c) (k:Le b d):Le (bif t then a else b) (bif t then c else d):=by
 cases t
 ·exact k
 ·exact h
theorem Le.thenC {σ ρ τ:Type} {o:Ctl σ ρ} {f f':σ→Option τ} {g g':ρ→Option τ} (h:∀ x,Le (f x) (f' x)) (k:∀ x,Le (g x) (g' x)):Le (Go.Eng.thenC o f g) (Go.Eng.thenC o f' g'):=by
 cases o
 ·exact h _
 ·exact Le.refl _
 ·exact k _
theorem Le.forR {α σ ρ:Type} {b b':Nat→α→σ→Option (Ctl σ ρ)} (h:∀ k x s,Le (b k x s) (b' k x s)):∀ (xs:List α) (k:Nat) (s:σ),Le (Go.Eng.forR b xs k s) (Go.Eng.forR b' xs k s)
 | [],k,s=>Le.refl _
 | x::xs,k,s=>Le.bind (h k x s) (fun c=>by
   cases c with
   | go s'=>exact Le.forR h xs _ _
   | brk s'=>exact Le.refl _
   | ret r=>exact Le.refl _)
theorem Le.forL {α σ ρ:Type} {xs:List α} {s:σ} {b b':Nat→α→σ→Option (Ctl σ ρ)} (h:∀ k x s,Le (b k x s) (b' k x s)):Le (Go.Eng.forL xs s b) (Go.Eng.forL xs s b'):=by
 unfold Go.Eng.forL
 split
 ·exact Le.forR h xs 0 s
 ·exact Le.refl _
theorem Le.iterN {σ ρ:Type} {b b':σ→Option (Ctl σ ρ)} (h:∀ s,Le (b s) (b' s)):∀ (n:Nat) (s:σ),Le (Go.Eng.iterN b n s) (Go.Eng.iterN b' n s)
 | 0,s=>Le.refl _
 | n + 1,s=>Le.bind (h s) (fun c=>by
   cases c with
   | go s'=>exact Le.iterN h n s'
   | brk s'=>exact Le.refl _
   | ret r=>exact Le.refl _)
theorem Le.loop {σ ρ:Type} {s:σ} {b b':σ→Option (Ctl σ ρ)} (h:∀ s,Le (b s) (b' s)):Le (oF s b) (iB s b'):=fun r e=>jN (Le.iterN h _ _ r e)
end Go.Proofs.YtjhcehhmdmbleaaGreatDoor.Law

open Go Go.Eng
namespace Go.Proofs.YtjhcehhmdmbleaaGreatDoor.Law
set_option linter.unusedVariables false
set_option linter.unusedSimpArgs false
set_option maxRecDepth 100000
def ic (s_7:ByteArray):Option (Ctl (ByteArray) (Unit)) :=
 bif (decide ((s_7.size:Int) > 0))then (oH s_7 0).bind fun b_13=>bif (decide ((b_13.toNat:Int) < 128))then (su s_7 1 s_7.size).bind fun y_16=>(bif (decide ((y_16.size:Int) > 8))then (bf y_16).bind fun r_21=>some ((tN .u64 r_21 9259542123273814144) == 0)else some false).bind fun v_18=>(bif v_18 then (su y_16 8 y_16.size).bind fun y_26=>(bif (decide ((y_26.size:Int) > 16))then (bf y_26).bind fun r_31=>(su y_26 8 y_26.size).bind fun y_33=>(bf y_33).bind fun r_35=>some ((tN .u64 (orI .u64 r_31 r_35) 9259542123273814144) == 0)else some false).bind fun v_28=>bif v_28 then (su y_26 16 y_26.size).bind fun y_38=>(oF y_38 (fun s=>fF s)).bind fun o_48=>thenC o_48 (fun s_45=>some s_45) (fun _=>none)else some y_26 else some y_16).bind fun v_23=>some (.go v_23)else none else some (.brk s_7)
theorem nW (s_7:ByteArray):Le (ic s_7) (dM s_7):=by
 unfold ic dM
 repeat' (with_reducible first | exact Le.refl _ | refine Le.loop (fun _ => ?_) | refine Le.forL (fun _ _ _ => ?_) | refine Le.thenC (fun _ => ?_) (fun _ => ?_) | refine Le.cond ?_ ?_ | refine Le.bind ?_ (fun _ => ?_))
def iT (s_1:ByteArray):Option (Bool) :=
 (oF s_1 (fun s=>ic s)).bind fun o_10=>thenC o_10 (fun s_7=>some true) (fun _=>none)
theorem pW (s_1:ByteArray):Le (iT s_1) (eP s_1):=by
 unfold iT eP
 repeat' (with_reducible first | exact Le.refl _ | exact nW _ | refine Le.loop (fun _ => ?_) | refine Le.forL (fun _ _ _ => ?_) | refine Le.thenC (fun _ => ?_) (fun _ => ?_) | refine Le.cond ?_ ?_ | refine Le.bind ?_ (fun _ => ?_))
def jO (s_1:ByteArray) (c_2:Int):Option (ByteArray) :=
 (oF s_1 (fun s=>gK c_2 s)).bind fun o_11=>thenC o_11 (fun s_8=>some s_8) (fun _=>none)
theorem ru (s_1:ByteArray) (c_2:Int):Le (jO s_1 c_2) (strings_trimRightByte s_1 c_2):=by
 unfold jO strings_trimRightByte
 repeat' (with_reducible first | exact Le.refl _ | refine Le.loop (fun _ => ?_) | refine Le.forL (fun _ _ _ => ?_) | refine Le.thenC (fun _ => ?_) (fun _ => ?_) | refine Le.cond ?_ ?_ | refine Le.bind ?_ (fun _ => ?_))
def ku (s_1:ByteArray) (c_2:Int):Option (ByteArray) :=
 (oF s_1 (fun s=>gY c_2 s)).bind fun o_11=>thenC o_11 (fun s_8=>some s_8) (fun _=>none)
theorem rP (s_1:ByteArray) (c_2:Int):Le (ku s_1 c_2) (strings_trimLeftByte s_1 c_2):=by
 unfold ku strings_trimLeftByte
 repeat' (with_reducible first | exact Le.refl _ | refine Le.loop (fun _ => ?_) | refine Le.forL (fun _ _ _ => ?_) | refine Le.thenC (fun _ => ?_) (fun _ => ?_) | refine Le.cond ?_ ?_ | refine Le.bind ?_ (fun _ => ?_))
def ry (s_1:ByteArray) (cutset_2:ByteArray):Option (ByteArray) :=
 (bif (sEq s_1 (⟨#[]⟩:ByteArray))then some true else some (sEq cutset_2 (⟨#[]⟩:ByteArray))).bind fun v_3=>bif v_3 then some s_1 else (bif ((cutset_2.size:Int) == 1)then (oH cutset_2 0).bind fun b_10=>some (decide ((b_10.toNat:Int) < 128))else some false).bind fun v_7=>bif v_7 then (oH cutset_2 0).bind fun b_13=>(jO s_1 (b_13.toNat:Int)).bind fun r_15=>(oH cutset_2 0).bind fun b_17=>(ku r_15 (b_17.toNat:Int)).bind fun r_19=>some r_19 else none
theorem zB (s_1:ByteArray) (cutset_2:ByteArray):Le (ry s_1 cutset_2) (ni s_1 cutset_2):=by
 unfold ry ni
 repeat' (with_reducible first | exact Le.refl _ | exact ru _ _ | exact rP _ _ | refine Le.loop (fun _ => ?_) | refine Le.forL (fun _ _ _ => ?_) | refine Le.thenC (fun _ => ?_) (fun _ => ?_) | refine Le.cond ?_ ?_ | refine Le.bind ?_ (fun _ => ?_))
def ja (s_1:ByteArray):Option (Bool) :=
 (oF 0 (fun s=>nD s_1 s)).bind fun o_10=>thenC o_10 (fun s_7=>((iT s_1).bind fun r_23=>bif r_23 then (ry s_1 (⟨#[32]⟩:ByteArray)).bind fun r_26=>bif (sEq r_26 s_1)then (strings_Contains s_1 (⟨#[32,32]⟩:ByteArray)).bind fun r_29=>some (!r_29)else some false else some false).bind fun v_21=>some v_21) (fun r=>some r)
theorem jq (s_1:ByteArray):Le (ja s_1) (lu s_1):=by
 unfold ja lu
 repeat' (with_reducible first | exact Le.refl _ | exact pW _ | exact zB _ _ | refine Le.loop (fun _ => ?_) | refine Le.forL (fun _ _ _ => ?_) | refine Le.thenC (fun _ => ?_) (fun _ => ?_) | refine Le.cond ?_ ?_ | refine Le.bind ?_ (fun _ => ?_))
theorem zC (s:ByteArray):Le (ja s) (lu s):=jq s
end Go.Proofs.YtjhcehhmdmbleaaGreatDoor.Law

open Go Go.Eng
namespace Go.Proofs.YtjhcehhmdmbleaaGreatDoor.Law
set_option linter.unusedVariables false
set_option linter.unusedSimpArgs false
set_option maxRecDepth 100000
def idL:List ByteArray := [⟨#[97,97]⟩,⟨#[97,98]⟩,⟨#[97,99]⟩,⟨#[97,100]⟩,⟨#[97,101]⟩,⟨#[97,102]⟩]
def refL:List ByteArray := [⟨#[97,97]⟩,⟨#[97,98]⟩,⟨#[97,99]⟩,⟨#[97,100]⟩,⟨#[122,122]⟩]
def zyS:ByteArray:=⟨#[122,121]⟩
def wxS:ByteArray:=⟨#[119,120]⟩
def fireS:ByteArray:=⟨#[102,105,114,101]⟩
def floodS:ByteArray:=⟨#[102,108,111,111,100]⟩
def mallS:ByteArray:=⟨#[102,105,114,101,32,105,110,32,116,104,101,32,109,97,108,108]⟩
def overS:ByteArray:=⟨#[111,118,101,114]⟩
theorem IR:ja ⟨#[]⟩=some true∧ja floodS=some true∧ja mallS=some true∧ja overS=some true :=
 ⟨by kernel_rfl,by kernel_rfl,by kernel_rfl,by kernel_rfl⟩
def SmallR (r:Rect):Prop:=Fine r∧(-2≤r.X∧r.X≤8 ∧ -2≤r.Y∧r.Y≤8∧r.W≤5∧r.H≤5)
structure RightA (x:Alert):Prop where
 id:x.Id∈idL
 sender:x.Sender=wxS∨x.Sender=fireS
 kind:1≤x.Kind∧x.Kind≤3
 refs:x.Refs.Sublist refL∨x.Refs = [zyS]
 noId:∀ r∈x.Refs,r≠x.Id
 new:x.Kind=1↔x.Refs = []
 at_:0≤x.At∧x.At≤30
 until_:x.At + 1≤x.Until∧x.Until≤x.At + 50
 weight:1≤x.Weight∧x.Weight≤9
 areas:∀ r∈x.Areas,SmallR r
 alen:x.Areas.length≤2
 cancel:x.Kind=3↔x.Areas = []
 text:x.Text=floodS∨x.Text=mallS∨x.Kind=3∧(x.Text=⟨#[]⟩∨x.Text=overS)
theorem IC:∀ k∈idL,Kc k=true∧Nat.ble k.size 1000=true:=by
 intro k hk
 simp only [idL,List.mem_cons,List.not_mem_nil,or_false]at hk
 rcases hk with rfl | rfl | rfl | rfl | rfl | rfl <;> exact⟨by kernel_rfl,rfl⟩
theorem KU:∀ k∈idL,rD k 0=97:=by
 intro k hk
 simp only [idL,List.mem_cons,List.not_mem_nil,or_false]at hk
 rcases hk with rfl | rfl | rfl | rfl | rfl | rfl <;> rfl
theorem Kz:∀ k∈refL,Kc k=true∧Nat.ble k.size 1000=true:=by
 intro k hk
 simp only [refL,List.mem_cons,List.not_mem_nil,or_false]at hk
 rcases hk with rfl | rfl | rfl | rfl | rfl <;> exact⟨by kernel_rfl,rfl⟩
theorem I1:refL.Pairwise lt:=by
 unfold refL
 simp only [List.pairwise_cons,List.mem_cons,List.not_mem_nil,or_false,forall_eq_or_imp,forall_eq]
 refine⟨⟨fQ (by kernel_rfl),fQ (by kernel_rfl),fQ (by kernel_rfl),fQ (by kernel_rfl)⟩,⟨fQ (by kernel_rfl),fQ (by kernel_rfl),fQ (by kernel_rfl)⟩,⟨fQ (by kernel_rfl),fQ (by kernel_rfl)⟩,fQ (by kernel_rfl),fun a h=>(by cases h),List.Pairwise.nil⟩
theorem FC:idL.Pairwise lt:=by
 unfold idL
 simp only [List.pairwise_cons,List.mem_cons,List.not_mem_nil,or_false,forall_eq_or_imp,forall_eq]
 refine⟨⟨fQ (by kernel_rfl),fQ (by kernel_rfl),fQ (by kernel_rfl),fQ (by kernel_rfl),fQ (by kernel_rfl)⟩,⟨fQ (by kernel_rfl),fQ (by kernel_rfl),fQ (by kernel_rfl),fQ (by kernel_rfl)⟩,⟨fQ (by kernel_rfl),fQ (by kernel_rfl),fQ (by kernel_rfl)⟩,⟨fQ (by kernel_rfl),fQ (by kernel_rfl)⟩,fQ (by kernel_rfl),fun a h=>(by cases h),List.Pairwise.nil⟩
theorem RightA.refsKey {x:Alert} (h:RightA x):∀ r∈x.Refs,kit_IsKey r=some true:=fun r hr=>by
 have:Kc r=true∧Nat.ble r.size 1000=true:=by
  rcases h.refs with hs | hs
  ·exact Kz r (hs.subset hr)
  ·rw [hs]at hr
   rw [List.mem_singleton.1 hr]; exact⟨by kernel_rfl,rfl⟩
 rw [uZ r (by have:=Nat.le_of_ble_eq_true this.2; omega),this.1]
theorem RightA.refsRise {x:Alert} (h:RightA x):x.Refs.Pairwise lt:=by
 rcases h.refs with hs | hs
 ·exact I1.sublist hs
 ·rw [hs]; exact List.pairwise_singleton _ _
theorem RightA.refsLen {x:Alert} (h:RightA x):x.Refs.length≤5:=by
 rcases h.refs with hs | hs
 ·exact hs.length_le
 ·rw [hs]; decide
theorem RightA.plain {x:Alert} (h:RightA x):lu x.Text=some true:=by
 obtain ⟨p1,p2,p3,p4⟩:=IR
 rcases h.text with e | e | ⟨_,e | e⟩ <;> rw [e]
 ·exact jq _ _ p2
 ·exact jq _ _ p3
 ·exact jq _ _ p1
 ·exact jq _ _ p4
theorem FY {x:Alert} (h:RightA x):gZ x=some 0:=by
 have hl:=h.refsLen
 unfold gZ
 rw [decide_eq_false (by omega),cond_false]
 obtain ⟨u,e,_⟩:=gL (body:=fun k y s=>eZ x k y s) (fun _ _=>True) (xs:=x.Refs) (s:=()) (by omega) (fun k y s hy _=>by
  refine⟨(),?_,trivial⟩
  have hm:=List.mem_of_getElem? hy
  unfold eZ
  rw [h.refsKey y hm]
  simp only [Option.bind_some,Bool.not_true,cond_false]
  have hid:sEq y x.Id=false:=by rw [yh]; exact decide_eq_false (h.noId y hm)
  rcases Nat.eq_zero_or_pos k with h0 | h0
  ·rw [decide_eq_false (by omega),cond_false,Option.bind_some,cond_false,hid]; rfl
  ·rw [decide_eq_true (by omega),cond_true]
   obtain ⟨z,q1,q2⟩:=xG hy h0 (by omega)
   have hz:lt z y:=by
    obtain ⟨l1,m1⟩:=List.getElem?_eq_some_iff.1 q2
    obtain ⟨l2,m2⟩:=List.getElem?_eq_some_iff.1 hy
    rw [← m1,← m2]
    exact List.pairwise_iff_getElem.1 h.refsRise _ _ l1 l2 (by omega)
   have hle:sLe y z=false:=by rw [← Bool.not_eq_true,Ip]; exact fun k=>k hz
   rw [q1,Option.bind_some,hle,Option.bind_some,cond_false,hid]; rfl) trivial
 rw [e]
 simp only [Option.bind_some,thenC]
 have:((x.Kind == 1) == ((x.Refs.length:Int) == 0))=true:=by
  rw [beq_iff_eq,Bool.eq_iff_iff,beq_iff_eq,beq_iff_eq,h.new]
  constructor
  ·intro e; rw [e]; rfl
  ·intro e; exact List.eq_nil_of_length_eq_zero (by omega)
 rw [this]; rfl
theorem GX {r:Rect} (h:Fine r):gu r=some 0:=by rw [Dx,JA h]; rfl
theorem Ew {x:Alert} (h:RightA x):gG x=some 0:=by
 have hid:=IC _ h.id
 have k1:kit_IsKey x.Id=some true:=by rw [uZ _ (by have:=Nat.le_of_ble_eq_true hid.2; omega),hid.1]
 have k2:kit_IsKey x.Sender=some true:=by
  rcases h.sender with e | e <;> rw [e,uZ _ (by decide)] <;> exact congrArg some (by kernel_rfl)
 have h1:=h.at_
 have h2:=h.until_
 have h3:=h.weight
 have h4:=h.alen
 have k3:Fw x.At=true:=by unfold Fw; rw [jQ (by omega)]; rfl
 unfold gG
 rw [k1,k2,FY h]
 simp only [Option.bind_some,Bool.not_true,cond_false,qf,jQ h.kind,bne_self_eq_false,uL,k3,gN (n:=x.At + 1) (by omega),gN (n:=x.At + 2592000000) (by omega),jQ (show x.At + 1≤x.Until∧x.Until≤x.At + 2592000000 by omega),jQ h3,decide_eq_false (show ¬ (x.Areas.length:Int) > 20 by omega)]
 obtain ⟨u,e,_⟩:=gL (body:=fun k y s=>fO k y s) (fun _ _=>True) (xs:=x.Areas) (s:=()) (by omega) (fun k y s hy _=>by
  refine⟨(),?_,trivial⟩
  unfold fO
  rw [GX (h.areas y (List.mem_of_getElem? hy)).1]; rfl) trivial
 rw [e]
 simp only [Option.bind_some,thenC,h.plain,Bool.not_true,cond_false]
 have c1:((x.Kind == 3) == ((x.Areas.length:Int) == 0))=true:=by
  rw [beq_iff_eq,Bool.eq_iff_iff,beq_iff_eq,beq_iff_eq,h.cancel]
  constructor
  ·intro e; rw [e]; rfl
  ·intro e; exact List.eq_nil_of_length_eq_zero (by omega)
 rw [c1]
 have c2:x.Text.size≤16:=by
  rcases h.text with e | e | ⟨_,e | e⟩ <;> rw [e] <;> decide
 rw [decide_eq_false (show ¬ (x.Text.size:Int) > 500 by omega)]
 have c3:(bif sEq x.Text ⟨#[]⟩then some (!(x.Kind == 3))else some false)=some false:=by
  rw [yh]
  rcases h.text with e | e | ⟨k,_⟩
  ·rw [e,decide_eq_false (by decide)]; rfl
  ·rw [e,decide_eq_false (by decide)]; rfl
  ·rw [k]
   cases decide (x.Text=⟨#[]⟩) <;> rfl
 rw [c3]; rfl
theorem Lc (id:ByteArray) (s:Stream) {b:Int} (hs:Ok s b) (hb:b≤800000) :
  ∃ l s',forL ([(⟨#[97,97]⟩:ByteArray),(⟨#[97,98]⟩:ByteArray),(⟨#[97,99]⟩:ByteArray),(⟨#[97,100]⟩:ByteArray),(⟨#[122,122]⟩:ByteArray)]:List ByteArray) (([]:List ByteArray),s.L,s.f_at) (fun k x s=>cZ id k x s)=some (.go (l,s'.L,s'.f_at))∧l.Sublist refL∧(∀ r∈l,r≠id)∧Ok s' (b + 10):=by
 obtain ⟨t,t1,t2,t3,t4⟩:=gL (body:=fun k x s=>cZ id k x s) (xs:=refL) (s:=(([]:List ByteArray),s.L,s.f_at)) (fun k t=>t.1.Sublist (refL.take k)∧(∀ r∈t.1,r≠id)∧Ok ⟨t.2.1,t.2.2⟩ (b + k)) (by decide) (fun k x t hx ⟨i1,i2,i3⟩=>by
  have hk:k < refL.length:=(List.getElem?_eq_some_iff.1 hx).1
  have hk5:k < 5:=hk
  have et:refL.take (k + 1)=refL.take k ++ [x]:=by rw [List.take_add_one,hx]; rfl
  have hlen:t.1.length≤5:=Nat.le_trans i1.length_le (by rw [List.length_take]; exact Nat.min_le_right _ _)
  unfold cZ
  rw [II]
  by_cases he:x=id
  ·rw [decide_eq_true he]
   exact⟨_,rfl,by rw [et]; exact i1.trans (List.sublist_append_left _ _),i2,i3.mono (by omega)⟩
  ·obtain ⟨f,s1,c1,c2⟩:=Dc _ 3 i3 (by omega) (by decide) (by decide)
   rw [decide_eq_false he]
   simp only [Bool.not_false,cond_true,c1,Option.bind_some]
   cases f with
   | true =>
    rw [cond_true,pK _ _ (by simp; omega)]
    refine⟨_,rfl,by rw [et]; exact i1.append (List.Sublist.refl _),fun r hr => ?_,c2.mono (by omega)⟩
    rcases List.mem_append.1 hr with hr | hr
    ·exact i2 r hr
    ·rw [List.mem_singleton.1 hr]; exact he
   | false=>exact⟨_,rfl,by rw [et]; exact i1.trans (List.sublist_append_left _ _),i2,c2.mono (by omega)⟩) ⟨List.Sublist.refl _,fun r hr=>(by cases hr),hs.mono (by omega)⟩
 exact⟨t.1,⟨t.2.1,t.2.2⟩,t1,by simpa using t2,t3,t4.mono (by show b + ((5:Nat):Int)≤b + 10; omega)⟩
theorem Ja (n:Int) (hn:1≤n∧n≤2) (s:Stream) {b:Int} (hs:Ok s b) (hb:b≤800000) :
  ∃ l s',forL (List.range n.toNat) (([]:List Rect),s.L,s.f_at) (fun k x s=>cO k x s)=some (.go (l,s'.L,s'.f_at))∧(l.length:Int)=n∧(∀ r∈l,SmallR r)∧Ok s' (b + 10):=by
 obtain ⟨t,t1,t2,t3,t4⟩:=JS (body:=fun k x s=>cO k x s) (s:=(([]:List Rect),s.L,s.f_at)) (xs:=List.range n.toNat) (fun j t=>t.1.length=j∧(∀ r∈t.1,SmallR r)∧Ok ⟨t.2.1,t.2.2⟩ (b + 4 * j)) (by simp; omega) (fun j x t hx hj ⟨i1,i2,i3⟩=>by
  simp only [List.length_range]at hj
  obtain ⟨r,s1,c1,c2,c3,c4⟩:=F6 _ i3 (by omega)
  unfold cO
  rw [c1,Option.bind_some,pK _ _ (by simp; omega)]
  refine⟨_,rfl,by simp [i1],fun q hq => ?_,c4.mono (by omega)⟩
  rcases List.mem_append.1 hq with hq | hq
  ·exact i2 q hq
  ·rw [List.mem_singleton.1 hq]; exact⟨c2,c3⟩) ⟨rfl,fun r hr=>(by cases hr),hs.mono (by omega)⟩
 rw [List.length_range]at t2 t4
 exact⟨t.1,⟨t.2.1,t.2.2⟩,t1,by omega,t3,t4.mono (by omega)⟩
theorem IV (id:ByteArray) (hid:id∈idL) (k:Nat) (l0:List Alert) (hl:l0.length≤100) (s:Stream) {b:Int} (hs:Ok s b) (hb:b≤700000) :
  ∃ x s',dK k id (l0,s.L,s.f_at)=some (.go (l0 ++ [x],s'.L,s'.f_at))∧RightA x∧x.Id=id∧Ok s' (b + 40):=by
 obtain ⟨sd,s1,a1,a2,a3⟩:=Ea s [(⟨#[119,120]⟩:ByteArray),(⟨#[119,120]⟩:ByteArray),(⟨#[102,105,114,101]⟩:ByteArray)] hs (by omega) (by simp) (by simp)
 obtain ⟨kd,s2,b1,b2,b3⟩:=DZ s1 [1,1,2,2,3] a3 (by omega) (by simp) (by simp)
 obtain ⟨n5,s3,c1,c2,c3,c4⟩:=jW s2 0 6 b3 (by omega) (by decide) (by decide) (by decide)
 obtain ⟨wt,s4,d1,d2,d3⟩:=DZ s3 [1,5,5,9] c4 (by omega) (by simp) (by simp)
 obtain ⟨tx,s5,e1,e2,e3⟩:=Ea s4 [(⟨#[102,108,111,111,100]⟩:ByteArray),(⟨#[102,105,114,101,32,105,110,32,116,104,101,32,109,97,108,108]⟩:ByteArray)] d3 (by omega) (by simp) (by simp)
 obtain ⟨un,s6,f1,f2,f3⟩:=DZ s5 [1,10,20,50] e3 (by omega) (by simp) (by simp)
 have hsd:sd=wxS∨sd=fireS:=by
  simp only [List.mem_cons,List.not_mem_nil,or_false]at a2
  rcases a2 with h | h | h
  ·exact .inl h
  ·exact .inl h
  ·exact .inr h
 have hkd:kd=1∨kd=2∨kd=3:=by
  simp only [List.mem_cons,List.not_mem_nil,or_false]at b2; omega
 have hwt:1≤wt∧wt≤9:=by
  simp only [List.mem_cons,List.not_mem_nil,or_false]at d2; omega
 have hun:1≤un∧un≤50:=by
  simp only [List.mem_cons,List.not_mem_nil,or_false]at f2; omega
 have htx:tx=floodS∨tx=mallS:=by
  simp only [List.mem_cons,List.not_mem_nil,or_false]at e2; exact e2
 obtain ⟨rf,s7,g1,g2,g3,g4,g5⟩:∃ rf s7,(bif kd != 1 then (forL ([(⟨#[97,97]⟩:ByteArray),(⟨#[97,98]⟩:ByteArray),(⟨#[97,99]⟩:ByteArray),(⟨#[97,100]⟩:ByteArray),(⟨#[122,122]⟩:ByteArray)]:List ByteArray) (([]:List ByteArray),s6.L,s6.f_at) (fun k x s=>cZ id k x s)).bind fun o_56=>thenC o_56 (fun s_50=>bif ((s_50.1.length:Int) == 0)then some (s_50.2.1,s_50.2.2,([(⟨#[122,121]⟩:ByteArray)]:List ByteArray))else some (s_50.2.1,s_50.2.2,s_50.1)) (fun _=>none)else some (s6.L,s6.f_at,([]:List ByteArray)))=some (Stream.L s7,Stream.f_at s7,rf)∧(rf.Sublist refL∨rf = [zyS])∧(∀ r∈rf,r≠id)∧(kd=1↔rf = [])∧Ok s7 (b + 20):=by
  by_cases h1:kd=1
  ·rw [h1]
   exact⟨[],s6,rfl,.inl (List.nil_sublist _),fun r hr=>(by cases hr),⟨fun _=>rfl,fun _=>rfl⟩,f3.mono (by omega)⟩
  ·have:(kd != 1)=true:=by simpa using h1
   rw [this,cond_true]
   obtain ⟨l,s7,g1,g2,g3,g4⟩:=Lc id s6 f3 (by omega)
   rw [g1]
   simp only [Option.bind_some,thenC]
   by_cases hl0:l = []
   ·subst hl0
    refine⟨[zyS],s7,rfl,.inr rfl,fun r hr e => ?_,⟨fun h=>absurd h h1,fun h=>(by cases h)⟩,g4.mono (by omega)⟩
    rw [List.mem_singleton.1 hr]at e
    rw [← e]at hid
    have:=KU _ hid
    exact absurd this (by decide)
   ·have:((l.length:Int) == 0)=false:=by
     rw [beq_eq_false_iff_ne]
     intro e; exact hl0 (List.eq_nil_of_length_eq_zero (by omega))
    rw [this,cond_false]
    exact⟨l,s7,rfl,.inl g2,g3,⟨fun h=>absurd h h1,fun h=>absurd h hl0⟩,g4.mono (by omega)⟩
 obtain ⟨ar,tx2,s8,j1,j2,j3,j4,j5,j6⟩:∃ ar tx2 s8,(bif kd == 3 then (gU (⟨Stream.L s7,Stream.f_at s7⟩:Stream) ([(⟨#[]⟩:ByteArray),(⟨#[111,118,101,114]⟩:ByteArray)]:List ByteArray)).bind fun r_79=>some (([]:List Rect),r_79.2.L,r_79.2.f_at,r_79.1)else (bJ (⟨Stream.L s7,Stream.f_at s7⟩:Stream) 1 2).bind fun r_82=>(forL (List.range (r_82.1).toNat) (([]:List Rect),r_82.2.L,r_82.2.f_at) (fun k x s=>cO k x s)).bind fun o_95=>thenC o_95 (fun s_90=>some (s_90.1,s_90.2.1,s_90.2.2,tx)) (fun _=>none))=some (ar,Stream.L s8,Stream.f_at s8,tx2)∧(∀ r∈ar,SmallR r)∧ar.length≤2∧(kd=3↔ar = [])∧(tx2=floodS∨tx2=mallS∨kd=3∧(tx2=⟨#[]⟩∨tx2=overS))∧Ok s8 (b + 40):=by
  have e7:(⟨Stream.L s7,Stream.f_at s7⟩:Stream)=s7:=rfl
  rw [e7]
  by_cases h3:kd=3
  ·have:(kd == 3)=true:=by simpa using h3
   rw [this,cond_true]
   obtain ⟨t2,s8,q1,q2,q3⟩:=Ea s7 [(⟨#[]⟩:ByteArray),(⟨#[111,118,101,114]⟩:ByteArray)] g5 (by omega) (by simp) (by simp)
   rw [q1]
   simp only [List.mem_cons,List.not_mem_nil,or_false]at q2
   exact⟨[],t2,s8,rfl,fun r hr=>(by cases hr),by decide,⟨fun _=>rfl,fun _=>h3⟩,.inr (.inr ⟨h3,q2⟩),q3.mono (by omega)⟩
  ·have:(kd == 3)=false:=by simpa using h3
   rw [this,cond_false]
   obtain ⟨m,s8,q1,q2,q3,q4⟩:=jW s7 1 2 g5 (by omega) (by decide) (by decide) (by decide)
   obtain ⟨ar,s9,r1,r2,r3,r4⟩:=Ja m ⟨q2,q3⟩ s8 q4 (by omega)
   rw [q1,Option.bind_some,r1]
   refine⟨ar,tx,s9,rfl,r3,by omega,⟨fun h=>absurd h h3,fun h => ?_⟩,htx.imp (fun h=>h) .inl,r4.mono (by omega)⟩
   rw [h]at r2; simp at r2; omega
 refine⟨⟨id,sd,kd,rf,n5 * 5,n5 * 5 + un,wt,ar,tx2⟩,s8,?_,⟨hid,hsd,by simp only []; omega,g2,g3,g4,by simp only []; omega,by simp only []; omega,hwt,j2,j3,j4,j5⟩,rfl,j6⟩
 unfold dK
 have e0:(⟨s.L,s.f_at⟩:Stream)=s:=rfl
 simp only [e0,a1,b1,c1,d1,e1,f1,g1,j1,Option.bind_some]
 rw [pK _ _ (by simp; omega),gN (n:=n5 * 5) (by omega),gN (n:=n5 * 5 + un) (by omega)]; rfl
def befA (a b:Alert):Prop:=a.At < b.At∨a.At=b.At∧lt a.Id b.Id
open Classical in
theorem Ka {a b:Alert} (ha:RightA a) (hb:RightA b):ko a b=some (bif a.At != b.At then a.At - b.At else bif sLt a.Id b.Id then -1 else 1):=by
 have h1:=ha.at_
 have h2:=hb.at_
 unfold ko
 cases a.At != b.At with
 | true=>rw [cond_true,cond_true,gN (by omega)]
 | false =>
  rw [cond_false,cond_false]
  cases sLt a.Id b.Id <;> rfl
theorem qa {a b:Alert}:(bif a.At != b.At then a.At - b.At else bif sLt a.Id b.Id then (-1:Int)else 1) < 0↔befA a b:=by
 unfold befA
 by_cases h:a.At=b.At
 ·have:(a.At != b.At)=false:=by simpa using h
  rw [this,cond_false]
  cases hl:sLt a.Id b.Id with
  | true =>
   rw [cond_true]
   exact⟨fun _ => .inr ⟨h,(zM _ _).1 hl⟩,fun _=>by decide⟩
  | false =>
   rw [cond_false]
   refine⟨fun h=>absurd h (by decide),fun hb => ?_⟩
   rcases hb with hb | hb
   ·omega
   ·rw [(zM _ _).2 hb.2]at hl; cases hl
 ·have:(a.At != b.At)=true:=by simpa using h
  rw [this,cond_true]
  refine⟨fun k => .inl (by omega),fun hb => ?_⟩
  rcases hb with hb | hb
  ·omega
  ·exact absurd hb.1 h
theorem KF (a:Alert):¬ befA a a:=fun h=>by
 rcases h with h | h
 ·omega
 ·exact iU _ h.2
theorem G9 {a b c:Alert} (h:befA a b) (k:befA b c):befA a c:=by
 rcases h with h | h <;> rcases k with k | k
 ·exact .inl (by omega)
 ·exact .inl (by omega)
 ·exact .inl (by omega)
 ·exact .inr ⟨h.1.trans k.1,lt_trans h.2 k.2⟩
theorem KQ (a b:Alert) (hid:a.Id≠b.Id):befA a b∨befA b a:=by
 rcases Int.lt_trichotomy a.At b.At with h | h | h
 ·exact .inl (.inl h)
 ·rcases xc a.Id b.Id with k | k | k
  ·exact .inl (.inr ⟨h,k⟩)
  ·exact absurd k hid
  ·exact .inr (.inr ⟨h.symm,k⟩)
 ·exact .inr (.inl h)
theorem FQ {a b c:Alert} (h:¬ befA a b) (k:¬ befA b c):¬ befA a c:=fun hc=>by
 unfold befA at *
 simp only [not_or,not_and]at h k
 rcases hc with hc | hc
 ·rcases Int.lt_trichotomy a.At b.At with q | q | q
  ·exact h.1 q
  ·rcases Int.lt_trichotomy b.At c.At with r | r | r
   ·exact k.1 r
   ·omega
   ·omega
  ·have:=k.1; omega
 ·have h1:=h.1
  have k1:=k.1
  have e1:a.At=b.At:=by omega
  have e2:b.At=c.At:=by omega
  have h2:=h.2 e1
  have k2:=k.2 e2
  rcases xc a.Id b.Id with q | q | q
  ·exact h2 q
  ·rw [q]at hc; exact k2 hc.2
  ·rcases xc b.Id c.Id with r | r | r
   ·exact k2 r
   ·rw [← r]at hc; exact h2 hc.2
   ·exact iU _ (lt_trans (lt_trans hc.2 r) q)
structure RAlerts (l:List Alert) (n:Nat):Prop where
 right:∀ x∈l,RightA x
 rise:l.Pairwise befA
 ids:(l.map (·.Id)).Nodup
 len:l.length≤n
theorem Ef (most:Int) (hm:0≤most∧most≤6) (s:Stream) {b:Int} (hs:Ok s b) (hb:b≤600000):∃ l s',gp s most=some (l,s')∧(RAlerts l most.toNat ∧ ∀ x∈l,x.Id∈idL.take most.toNat)∧Ok s' (b + 250):=by
 obtain ⟨n,s1,a1,a2,a3,a4⟩:=jW s 0 most hs (by omega) (by omega) (by decide) (by omega)
 have hsub:Dm idL 0 n=some (idL.take n.toNat):=by
  unfold Dm
  have h6:idL.length=6:=rfl
  rw [if_pos (by rw [h6]; omega)]
  simp
 obtain ⟨t,t1,t2,t3,t4⟩:=gL (body:=fun k x s=>dK k x s) (xs:=idL.take n.toNat) (s:=(([]:List Alert),s1.L,s1.f_at)) (fun k t=>t.1.map (·.Id)=idL.take k∧(∀ x∈t.1,RightA x)∧Ok ⟨t.2.1,t.2.2⟩ (b + 1 + 40 * k)) (by rw [List.length_take]; show min n.toNat 6≤_; omega) (fun k x t hx ⟨i1,i2,i3⟩=>by
  have hk:k < (idL.take n.toNat).length:=(List.getElem?_eq_some_iff.1 hx).1
  rw [List.length_take]at hk
  have hk6:k < 6:=by have:idL.length=6:=rfl; omega
  have hx':idL[k]? = some x:=by rw [List.getElem?_take_of_lt (by omega)]at hx; exact hx
  have hlen:t.1.length≤6:=by
   have:=congrArg List.length i1
   rw [List.length_map,List.length_take]at this
   omega
  obtain ⟨y,s2,c1,c2,c3,c4⟩:=IV x (List.mem_of_getElem? hx') k t.1 (by omega) ⟨t.2.1,t.2.2⟩ i3 (by omega)
  refine⟨_,c1,?_,fun z hz => ?_,c4.mono (by omega)⟩
  ·rw [List.map_append,i1,List.take_add_one,hx']
   simp [c3]
  ·rcases List.mem_append.1 hz with hz | hz
   ·exact i2 z hz
   ·rw [List.mem_singleton.1 hz]; exact c2) ⟨rfl,fun x hx=>(by cases hx),a4.mono (by omega)⟩
 have hnd:(t.1.map (·.Id)).Nodup:=by
  rw [t2]
  exact (FC.sublist (List.take_sublist _ _)).imp (fun h e=>by rw [e]at h; exact iU _ h)
 have hlen:t.1.length≤most.toNat:=by
  have:=congrArg List.length t2
  rw [List.length_map,List.length_take,List.length_take]at this
  omega
 obtain ⟨r,r1,r2,r3⟩:=sort12 (cmp:=ko) (S:=bS) (fun a b=>bif a.At != b.At then a.At - b.At else bif sLt a.Id b.Id then -1 else 1) (fun _=>rfl) (xs:=t.1) (by omega) (fun x hx y hy=>Ka (t3 x hx) (t3 y hy))
  (fun x y h k=>KF x (G9 (qa.1 h) (qa.1 k))) (fun x y z h k q=>FQ (fun e=>h (qa.2 e)) (fun e=>k (qa.2 e)) (qa.1 q))
 have hrl:r.length=t.1.length:=r2.length_eq
 have hids:(r.map (·.Id)).Nodup:=(r2.map (·.Id)).nodup_iff.2 hnd
 have hin:∀ x∈r,x.Id∈idL.take most.toNat:=fun x hx=>by
  have h1:x.Id∈t.1.map (·.Id):=List.mem_map.2 ⟨x,r2.mem_iff.1 hx,rfl⟩
  rw [t2]at h1
  have h2:(idL.take n.toNat).length≤most.toNat:=by rw [List.length_take]; omega
  have h3:idL.take (idL.take n.toNat).length=(idL.take most.toNat).take (idL.take n.toNat).length:=by rw [List.take_take,Nat.min_eq_left h2]
  rw [h3]at h1
  exact List.mem_of_mem_take h1
 refine⟨r,⟨t.2.1,t.2.2⟩,?_,⟨⟨fun x hx=>t3 x (r2.mem_iff.1 hx),?_,hids,by omega⟩,hin⟩,t4.mono (by
  have:(idL.take n.toNat).length≤6:=by rw [List.length_take]; exact Nat.min_le_right _ _
  omega)⟩
 ·unfold gp
  have e1:Dm ([(⟨#[97,97]⟩:ByteArray),(⟨#[97,98]⟩:ByteArray),(⟨#[97,99]⟩:ByteArray),(⟨#[97,100]⟩:ByteArray),(⟨#[97,101]⟩:ByteArray),(⟨#[97,102]⟩:ByteArray)]:List ByteArray) 0 n=some (idL.take n.toNat):=hsub
  simp only [a1,Option.bind_some,e1,t1,thenC]
  have e2:bS t.1=some r:=r1
  have e3:kJ r t.1=some ():=by unfold kJ; rw [if_pos hrl]
  rw [e2,Option.bind_some,e3]; rfl
 ·refine List.pairwise_iff_getElem.2 (fun i j hi hj hij => ?_)
  have h1:=List.pairwise_iff_getElem.1 r3 i j hi hj hij
  have h2:r[i].Id≠r[j].Id:=fun e=>by
   have:=List.pairwise_iff_getElem.1 hids i j (by simpa using hi) (by simpa using hj) hij
   rw [List.getElem_map,List.getElem_map]at this
   exact this e
  rcases KQ r[i] r[j] h2 with h | h
  ·exact h
  ·exact absurd (qa.2 h) h1
theorem D8 {a b:Alert} (h:befA a b):∃ n,gJ a b=some n∧n < 0:=by
 refine⟨_,by simp only [gJ,qp,y5,GQ,Option.bind_some]; rfl,?_⟩
 unfold or0 Gy
 rcases h with h | ⟨h,k⟩
 ·simp [h]
 ·rw [h]
  rcases rH a.Id b.Id with⟨_,e⟩ | ⟨e,_⟩ | ⟨e,_⟩
  ·rw [e]; simp
  ·rw [e]at k; exact absurd k (iU _)
  ·exact absurd (lt_trans k e) (iU _)
end Go.Proofs.YtjhcehhmdmbleaaGreatDoor.Law

open Go Go.Eng
namespace Go.Proofs.YtjhcehhmdmbleaaGreatDoor.Law
set_option linter.unusedVariables false
set_option linter.unusedSimpArgs false
theorem Cr {K T:Type} {eq:K→K→Bool} {k:K}:∀ {es:List (K×T)},(∀ e∈es,eq k e.1=false)→vU eq k es=none
 | [],_=>rfl
 | e::es,h=>by
  have h1:=h e (by simp)
  have h2:=Cr (es:=es) (fun x hx=>h x (by simp [hx]))
  rw [vU,h1,h2]; rfl
theorem KH {a b:ByteArray} (h:(a == b)=true):a=b:=by
 obtain ⟨x⟩:=a
 obtain ⟨y⟩:=b
 have h1:(x == y)=true:=h
 rw [eq_of_beq h1]
theorem idsLoop (l:List Alert) (hnd:(l.map (·.Id)).Nodup) (hl:l.length≤1000):∃ s,forL l ([]:List (ByteArray×Bool)) (fun k x s=>dW k x s)=some (.go s):=by
 obtain ⟨s,e,_⟩:=gL (body:=fun k x s=>dW k x s) (fun k s=>s=(l.take k).map fun a=>(a.Id,true)) (xs:=l) (s:=([]:List (ByteArray×Bool))) (by omega) (fun k x s hx hs=>by
  have et:l.take (k + 1)=l.take k ++ [x]:=by rw [List.take_add_one,hx]; rfl
  have hn:vU eqS x.Id s=none:=Cr (fun e he=>by
   rw [hs]at he
   obtain ⟨a,ha,rfl⟩:=List.mem_map.1 he
   obtain ⟨i,hi,rfl⟩:=List.getElem_of_mem ha
   rw [List.length_take]at hi
   obtain ⟨hk,hxk⟩:=List.getElem?_eq_some_iff.1 hx
   rw [← Bool.not_eq_true]
   intro e
   replace e:=KH e
   have:=List.pairwise_iff_getElem.1 hnd i k (by simp; omega) (by simpa using hk) (by omega)
   rw [List.getElem_map,List.getElem_map,hxk]at this
   rw [List.getElem_take]at e
   exact this e.symm)
  unfold dW mGet wQ
  rw [hn]
  refine⟨_,rfl,?_⟩
  rw [et,List.map_append,hs]; rfl) rfl
 exact⟨s,e⟩
theorem wD {l:List Alert} {n:Nat} (h:RAlerts l n) (hn:n≤300):fJ l=some 0:=by
 have hl:=h.len
 unfold fJ
 rw [decide_eq_false (by omega),cond_false]
 obtain ⟨u,e,_⟩:=gL (body:=fun k x s=>dX l k x s) (fun _ _=>True) (xs:=l) (s:=()) (by omega) (fun k x s hx _=>by
  refine⟨(),?_,trivial⟩
  have hm:=List.mem_of_getElem? hx
  unfold dX
  rw [Ew (h.right x hm)]
  simp only [Option.bind_some,bne_self_eq_false,cond_false]
  rcases Nat.eq_zero_or_pos k with h0 | h0
  ·rw [decide_eq_false (by omega)]; rfl
  ·rw [decide_eq_true (by omega),cond_true]
   obtain ⟨y,q1,q2⟩:=xG hx h0 (by omega)
   have hb:befA y x:=by
    obtain ⟨l1,m1⟩:=List.getElem?_eq_some_iff.1 q2
    obtain ⟨l2,m2⟩:=List.getElem?_eq_some_iff.1 hx
    rw [← m1,← m2]
    exact List.pairwise_iff_getElem.1 h.rise _ _ l1 l2 (by omega)
   obtain ⟨m,m1,m2⟩:=D8 hb
   rw [q1,Option.bind_some,m1,Option.bind_some,decide_eq_false (by omega)]; rfl) trivial
 rw [e]
 simp only [Option.bind_some,thenC]
 obtain ⟨s,e2⟩:=idsLoop l h.ids (by omega)
 rw [e2]; rfl
theorem Fy {x:Alert} (h:RightA x):RAlerts [x] 1:=⟨fun y hy=>by rw [List.mem_singleton.1 hy]; exact h,List.pairwise_singleton _ _,by simp,by simp⟩
structure RightPo (p:Post):Prop where
 key:kit_IsKey p.Player=some true
 x : -1000≤p.X∧p.X≤1000
 y : -1000≤p.Y∧p.Y≤1000
theorem I4 {p:Post} (h:RightPo p):eu [p]=some 0:=by
 have h1:=h.x
 have h2:=h.y
 unfold eu
 rw [decide_eq_false (by simp),cond_false,qP (by simp)]
 have e:dn [p] 0 p ()=some (.go ()):=by
  unfold dn
  rw [h.key]
  simp only [Option.bind_some,Bool.not_true,cond_false,qf,jQ (show (-100000:Int)≤p.X∧p.X≤100000 by omega),jQ (show (-100000:Int)≤p.Y∧p.Y≤100000 by omega)]
  rfl
 simp only [forR,e,Option.bind_some,thenC]
theorem EM {l:List Alert} {n:Nat} (h:RAlerts l n) (hn:n≤300) {p:Post} (hp:RightPo p):eX l [p]=some 0:=by
 unfold eX
 rw [wD h hn,Option.bind_some,I4 hp]; rfl
theorem Bn {x:Alert} (h:∀ r∈x.Areas,SmallR r) (hl:x.Areas.length≤1000) (p:Post):jh x p=some (hasB x.Areas p.X p.Y):=by
 unfold jh
 rw [any_eq (fun x0=>jV x0 p) (has1 p.X p.Y) (fun r hr=>by
  have hs:=(h r hr).2
  unfold jV has1
  rw [gN (n:=r.X + r.W) (by have:=(h r hr).1; unfold Fine at this; omega),gN (n:=r.Y + r.H) (by have:=(h r hr).1; unfold Fine at this; omega)]
  cases decide (r.X≤p.X) <;> cases decide (p.X < r.X + r.W) <;> cases decide (r.Y≤p.Y) <;> rfl) (by omega)]
 rfl
theorem Gf {x:Alert} (h:RightA x) {p:Post} (hp:RightPo p):iy x p=some (hasB x.Areas p.X p.Y,0):=by
 unfold iy
 rw [EM (Fy h) (by decide) hp]
 simp only [Option.bind_some,bne_self_eq_false,cond_false]
 have:=h.alen
 rw [Bn h.areas (by omega)]; rfl
end Go.Proofs.YtjhcehhmdmbleaaGreatDoor.Law

open Go Go.Eng
namespace Go.Proofs.YtjhcehhmdmbleaaGreatDoor.Law
set_option linter.unusedVariables false
set_option linter.unusedSimpArgs false
set_option maxRecDepth 100000
def poL:List ByteArray := [⟨#[112,97]⟩,⟨#[112,98]⟩,⟨#[112,99]⟩]
theorem poL_key:∀ k∈poL,kit_IsKey k=some true:=by
 intro k hk
 simp only [poL,List.mem_cons,List.not_mem_nil,or_false]at hk
 rcases hk with rfl | rfl | rfl <;> rw [uZ _ (by decide)] <;> exact congrArg some (by kernel_rfl)
theorem KC:poL.Pairwise lt:=by
 unfold poL
 simp only [List.pairwise_cons,List.mem_cons,List.not_mem_nil,or_false,forall_eq_or_imp,forall_eq]
 exact⟨⟨fQ (by kernel_rfl),fQ (by kernel_rfl)⟩,fQ (by kernel_rfl),fun a h=>(by cases h),List.Pairwise.nil⟩
structure RPosts (l:List Post):Prop where
 right:∀ p∈l,RightPo p
 sub:(l.map (·.Player)).Sublist poL
theorem RPosts.rise {l:List Post} (h:RPosts l):(l.map (·.Player)).Pairwise lt:=KC.sublist h.sub
theorem RPosts.len {l:List Post} (h:RPosts l):l.length≤3:=by
 have h1:=h.sub.length_le
 rw [List.length_map]at h1
 exact h1
theorem GM (s:Stream) {b:Int} (hs:Ok s b) (hb:b≤800000):∃ l s',gQ s=some (l,s')∧RPosts l∧Ok s' (b + 20):=by
 obtain ⟨t,t1,t2,t3,t4⟩:=gL (body:=fun k x s=>dS k x s) (xs:=poL) (s:=(([]:List Post),s.L,s.f_at)) (fun k t=>(t.1.map (·.Player)).Sublist (poL.take k)∧(∀ p∈t.1,RightPo p)∧Ok ⟨t.2.1,t.2.2⟩ (b + 3 * k)) (by decide) (fun k x t hx ⟨i1,i2,i3⟩=>by
  have hk:k < 3:=(List.getElem?_eq_some_iff.1 hx).1
  have hlen:t.1.length≤3:=by
   have:=i1.length_le
   rw [List.length_map,List.length_take]at this
   exact Nat.le_trans this (Nat.min_le_right _ _)
  obtain ⟨n1,n2⟩:=J3 hx i1
  obtain ⟨f,s1,c1,c2⟩:=Dc _ 5 i3 (by omega) (by decide) (by decide)
  unfold dS
  simp only [c1,Option.bind_some]
  cases f with
  | true=>exact⟨_,rfl,n1,i2,c2.mono (by omega)⟩
  | false =>
   obtain ⟨px,s2,d1,d2,d3,d4⟩:=jW s1 (-2) 10 c2 (by omega) (by decide) (by decide) (by decide)
   obtain ⟨py,s3,e1,e2,e3,e4⟩:=jW s2 (-2) 10 d4 (by omega) (by decide) (by decide) (by decide)
   simp only [Bool.not_false,cond_true,d1,e1,Option.bind_some]
   rw [pK _ _ (by simp; omega)]
   refine⟨_,rfl,n2 ⟨x,px,py⟩ rfl,fun p hp => ?_,e4.mono (by omega)⟩
   rcases List.mem_append.1 hp with hp | hp
   ·exact i2 p hp
   ·rw [List.mem_singleton.1 hp]
    exact⟨poL_key x (List.mem_of_getElem? hx),by simp only []; omega,by simp only []; omega⟩) ⟨List.Sublist.refl _,fun p hp=>(by cases hp),hs.mono (by omega)⟩
 refine⟨t.1,⟨t.2.1,t.2.2⟩,?_,⟨t3,by rw [List.take_length]at t2; exact t2⟩,t4.mono (by show b + 3 * ((3:Nat):Int)≤b + 20; omega)⟩
 unfold gQ
 have t1':forL ([(⟨#[112,97]⟩:ByteArray),(⟨#[112,98]⟩:ByteArray),(⟨#[112,99]⟩:ByteArray)]:List ByteArray) (([]:List Post),s.L,s.f_at) (fun k x s=>dS k x s)=some (.go t):=t1
 rw [t1']; rfl
theorem DT {l:List Post} (h:RPosts l):eu l=some 0:=by
 have hl:=h.len
 unfold eu
 rw [decide_eq_false (by omega),cond_false]
 obtain ⟨u,e,_⟩:=gL (body:=fun k x s=>dn l k x s) (fun _ _=>True) (xs:=l) (s:=()) (by omega) (fun k p s hx _=>by
  refine⟨(),?_,trivial⟩
  have hp:=h.right p (List.mem_of_getElem? hx)
  have h1:=hp.x
  have h2:=hp.y
  unfold dn
  rw [hp.key]
  simp only [Option.bind_some,Bool.not_true,cond_false,qf,jQ (show (-100000:Int)≤p.X∧p.X≤100000 by omega),jQ (show (-100000:Int)≤p.Y∧p.Y≤100000 by omega)]
  rcases Nat.eq_zero_or_pos k with h0 | h0
  ·rw [decide_eq_false (by omega)]; rfl
  ·rw [decide_eq_true (by omega),cond_true]
   obtain ⟨z,q1,q2⟩:=xG hx h0 (by omega)
   have hz:lt z.Player p.Player:=by
    obtain ⟨l1,m1⟩:=List.getElem?_eq_some_iff.1 q2
    obtain ⟨l2,m2⟩:=List.getElem?_eq_some_iff.1 hx
    have:=List.pairwise_iff_getElem.1 h.rise (k - 1) k (by simpa using l1) (by simpa using l2) (by omega)
    rwa [List.getElem_map,List.getElem_map,m1,m2]at this
   have hle:sLe p.Player z.Player=false:=by rw [← Bool.not_eq_true,Ip]; exact fun k=>k hz
   rw [q1,Option.bind_some,hle]; rfl) trivial
 rw [e]; rfl
end Go.Proofs.YtjhcehhmdmbleaaGreatDoor.Law

open Go Go.Eng
namespace Go.Proofs.YtjhcehhmdmbleaaGreatDoor.Law
set_option linter.unusedVariables false
set_option linter.unusedSimpArgs false
set_option maxRecDepth 100000
def befRc (a b:Receipt):Prop:=lt a.Player b.Player∨a.Player=b.Player∧lt a.Alert b.Alert
theorem Cc {a b:Receipt} (h:befRc a b):∃ n,fZ a b=some n∧n < 0:=by
 have hf:∀ x,∃ n,iC x=some n:=fun x=>by unfold iC; cases x <;> exact⟨_,rfl⟩
 obtain ⟨n1,f1⟩:=hf a.Seen
 obtain ⟨n2,f2⟩:=hf b.Seen
 refine⟨_,by simp only [fZ,qp,f1,f2,y5,or3_eq,Option.bind_some]; rfl,?_⟩
 unfold or0
 rcases h with h | ⟨h,k⟩
 ·rw [Hm h]; show (-1:Int) < 0; decide
 ·rw [h,Ji,Hm k]; show (-1:Int) < 0; decide
structure RRc (l:List Receipt):Prop where
 rise:l.Pairwise befRc
 key:∀ x∈l,kit_IsKey x.Player=some true∧kit_IsKey x.Alert=some true
 mom:∀ x∈l,0≤x.At∧x.At≤1000
 len:l.length≤15
theorem IZ {l:List Receipt} (h:RRc l):iw l=some 0:=by
 have hl:=h.len
 unfold iw
 rw [decide_eq_false (by omega),cond_false]
 obtain ⟨u,e,_⟩:=gL (body:=fun k x s=>fM l k x s) (fun _ _=>True) (xs:=l) (s:=()) (by omega) (fun k p s hx _=>by
  refine⟨(),?_,trivial⟩
  have hm:=List.mem_of_getElem? hx
  have hk:=h.key p hm
  have h1:=h.mom p hm
  have k3:Fw p.At=true:=by unfold Fw; rw [jQ (by omega)]; rfl
  unfold fM
  simp only [hk.1,hk.2,Option.bind_some,Bool.not_true,cond_false,uL,k3]
  rcases Nat.eq_zero_or_pos k with h0 | h0
  ·rw [decide_eq_false (by omega)]; rfl
  ·rw [decide_eq_true (by omega),cond_true]
   obtain ⟨z,q1,q2⟩:=xG hx h0 (by omega)
   have hz:befRc z p:=by
    obtain ⟨l1,m1⟩:=List.getElem?_eq_some_iff.1 q2
    obtain ⟨l2,m2⟩:=List.getElem?_eq_some_iff.1 hx
    have:=List.pairwise_iff_getElem.1 h.rise (k - 1) k l1 l2 (by omega)
    rwa [m1,m2]at this
   obtain ⟨n,n1,n2⟩:=Cc hz
   rw [q1,Option.bind_some,n1,Option.bind_some,decide_eq_false (by omega)]; rfl) trivial
 rw [e]; rfl
end Go.Proofs.YtjhcehhmdmbleaaGreatDoor.Law

open Go Go.Eng
namespace Go.Proofs.YtjhcehhmdmbleaaGreatDoor.Law
set_option linter.unusedVariables false
set_option linter.unusedSimpArgs false
def oL (f : Int → ByteArray) (T : Int) : Int → List Slot_ → Prop
  | F, [] => F = T
  | F, x :: r => x.Time.From = F ∧ F < x.Time.To ∧ x.Time.To ≤ T ∧ (∀ t, F ≤ t → t < x.Time.To → f t = x.Entry) ∧ (∀ y, r.head? = some y → y.Entry ≠ x.Entry) ∧ oL f T x.Time.To r
def GR (id : ByteArray) (F T : Int) : List Slot_ → List Slot_
  | [] => [⟨⟨F, T⟩, id⟩]
  | [x] => if x.Entry = id then [⟨⟨x.Time.From, T⟩, x.Entry⟩] else [x, ⟨⟨F, T⟩, id⟩]
  | x :: y :: r => x :: GR id F T (y :: r)
theorem Jq (id : ByteArray) (F T : Int) : ∀ (y : Slot_) (r : List Slot_), ∃ z, (GR id F T (y :: r)).head? = some z ∧ z.Entry = y.Entry
  | y, [] => by
    unfold GR
    split
    · exact ⟨_, rfl, rfl⟩
    · exact ⟨_, rfl, rfl⟩
  | y, z :: r => ⟨y, rfl, rfl⟩
theorem oL.add {f : Int → ByteArray} {id : ByteArray} {F T : Int} (hT : F < T) (hf : ∀ t, F ≤ t → t < T → f t = id) : ∀ (out : List Slot_) (F0 : Int), oL f F F0 out → oL f T F0 (GR id F T out)
  | [], F0, h => by
    unfold oL at h
    subst h
    unfold GR oL
    exact ⟨rfl, hT, Int.le_refl _, hf, fun y hy => (by cases hy), (by unfold oL; rfl)⟩
  | [x], F0, h => by
    unfold oL at h
    obtain ⟨h1, h2, h3, h4, h5, h6⟩ := h
    unfold oL at h6
    unfold GR
    by_cases he : x.Entry = id
    · rw [if_pos he]
      unfold oL
      refine ⟨h1, (by show F0 < T; omega), Int.le_refl _, fun t t1 t2 => ?_, fun y hy => (by cases hy), (by unfold oL; rfl)⟩
      by_cases ht : t < F
      · exact h4 t t1 (by omega)
      · exact (hf t (by omega) t2).trans he.symm
    · rw [if_neg he]
      unfold oL
      refine ⟨h1, h2, by omega, h4, fun y hy => ?_, ?_⟩
      · rw [← Option.some.inj hy]; exact fun e => he e.symm
      · unfold oL
        exact ⟨h6.symm, (by show x.Time.To < T; omega), Int.le_refl _, fun t t1 t2 => hf t (by omega) t2, fun y hy => (by cases hy), (by unfold oL; rfl)⟩
  | x :: y :: r, F0, h => by
    unfold oL at h
    obtain ⟨h1, h2, h3, h4, h5, h6⟩ := h
    have ih := oL.add hT hf (y :: r) _ h6
    unfold GR
    unfold oL
    refine ⟨h1, h2, by omega, h4, fun z hz => ?_, ih⟩
    obtain ⟨z', e1, e2⟩ := Jq id F T y r
    rw [e1] at hz
    rw [← Option.some.inj hz, e2]
    exact h5 y rfl
end Go.Proofs.YtjhcehhmdmbleaaGreatDoor.Law

open Go Go.Eng
namespace Go.Proofs.YtjhcehhmdmbleaaGreatDoor.Law
set_option linter.unusedVariables false
set_option linter.unusedSimpArgs false
end Go.Proofs.YtjhcehhmdmbleaaGreatDoor.Law

open Go Go.Eng
namespace Go.Proofs.YtjhcehhmdmbleaaGreatDoor.Law
set_option linter.unusedVariables false
set_option linter.unusedSimpArgs false
instance (a b:Alert):Decidable (lt a.Id b.Id):=by unfold lt; exact inferInstance
instance (a b:Alert):Decidable (befA a b):=by unfold befA; exact inferInstance
instance (v:ByteArray) (l:List ByteArray):Decidable (v∈l):=decidable_of_iff (l.any (fun x=>decide (v=x))=true) (by simp)
def xn (a o:Alert) (r:ByteArray):Bool:=decide (o.Id=r) && (decide (o.Sender=a.Sender) && decide (befA o a))
def cutB (a z:Alert):Bool:=decide (z.Id∈a.Refs) && (decide (z.Sender=a.Sender) && decide (befA z a))
def rO (l:List Alert) (z:Alert):Int:=l.foldl (fun m a=>bif cutB a z then min m a.At else m) z.Until
end Go.Proofs.YtjhcehhmdmbleaaGreatDoor.Law

open Go Go.Eng
namespace Go.Proofs.YtjhcehhmdmbleaaGreatDoor.Law
set_option linter.unusedVariables false
set_option linter.unusedSimpArgs false
section
variable {K T:Type} {eq:K→K→Bool}
theorem Ko (k:K):mGet eq ([]:List (K×T)) k=none:=rfl
theorem vN (e:K×T) (es:List (K×T)) (k:K):mGet eq (e::es) k=if eq k e.1=true then some e.2 else mGet eq es k:=by
 unfold mGet
 rw [vU]
 by_cases h:eq k e.1=true
 ·rw [if_pos h,if_pos h]; rfl
 ·rw [if_neg h,if_neg h]
  cases vU eq k es with
  | none=>rfl
  | some j=>rfl
theorem KS (k:K) (v:T):wQ eq ([]:List (K×T)) k v = [(k,v)]:=rfl
theorem Jc (e:K×T) (es:List (K×T)) (k:K) (v:T):wQ eq (e::es) k v=if eq k e.1=true then (k,v)::es else e::wQ eq es k v:=by
 unfold wQ
 rw [vU]
 by_cases h:eq k e.1=true
 ·rw [if_pos h,if_pos h]; rfl
 ·rw [if_neg h,if_neg h]
  cases vU eq k es with
  | none=>rfl
  | some j=>rfl
theorem sJ (he:∀ a b,eq a b=true↔a=b) (k k':K) (v:T):∀ es:List (K×T),mGet eq (wQ eq es k v) k'=if eq k' k=true then some v else mGet eq es k'
 | []=>by rw [KS,vN]
 | e::es=>by
  rw [Jc,vN]
  by_cases h:eq k e.1=true
  ·rw [if_pos h,vN]
   have h1:=(he _ _).1 h
   rw [← h1]
   by_cases h2:eq k' k=true
   ·rw [if_pos h2,if_pos h2]
   ·rw [if_neg h2,if_neg h2,if_neg h2]
  ·rw [if_neg h,vN,sJ he k k' v es]
   by_cases h2:eq k' e.1=true
   ·have h3:=(he _ _).1 h2
    have:¬ eq k' k=true:=fun q=>h (by rw [← (he _ _).1 q]; exact h2)
    rw [if_pos h2,if_neg this,if_pos h2]
   ·rw [if_neg h2,if_neg h2]
end
theorem x9 (a b:ByteArray):eqS a b=true↔a=b:=⟨KH,fun h=>by
 subst h
 obtain ⟨x⟩:=a
 show (x == x)=true
 exact beq_self_eq_true x⟩
def E5 (s:List (ByteArray×Bool)) (sn:List ByteArray):Prop := ∀ k,mGet eqS s k=if k∈sn then some true else none
theorem E5.nil:E5 [] []:=fun k=>by rw [Ko,if_neg (by simp)]
theorem E5.set {s:List (ByteArray×Bool)} {sn:List ByteArray} (h:E5 s sn) (id:ByteArray):E5 (wQ eqS s id true) (sn ++ [id]):=fun k=>by
 rw [sJ x9,h k]
 by_cases h1:eqS k id=true
 ·rw [if_pos h1,if_pos (by rw [(x9 _ _).1 h1]; simp)]
 ·rw [if_neg h1]
  have:k∈sn ++ [id]↔k∈sn:=by
   rw [List.mem_append,List.mem_singleton]
   exact⟨fun q=>q.resolve_right (fun e=>h1 ((x9 _ _).2 e)),.inl⟩
  by_cases h2:k∈sn
  ·rw [if_pos h2,if_pos (this.2 h2)]
  ·rw [if_neg h2,if_neg (fun q=>h2 (this.1 q))]
end Go.Proofs.YtjhcehhmdmbleaaGreatDoor.Law

open Go Go.Eng
namespace Go.Proofs.YtjhcehhmdmbleaaGreatDoor.Law
set_option linter.unusedVariables false
set_option linter.unusedSimpArgs false
structure CA (l:List Alert):Prop where
 ids:(l.map (·.Id)).Nodup
 len:l.length≤12
 refs:∀ x∈l,x.Refs.length≤1000
 alen:∀ x∈l,x.Areas.length≤1000
 areas:∀ x∈l,∀ r∈x.Areas,Fine r
 at_:∀ x∈l,0≤x.At∧x.At≤1000000000000
 until_:∀ x∈l,0≤x.Until∧x.Until≤2000000000000
theorem RAlerts.ca {l:List Alert} {n:Nat} (h:RAlerts l n) (hn:n≤12):CA l:=by
 refine⟨h.ids,by have:=h.len; omega,fun x hx => ?_,fun x hx => ?_,fun x hx r hr=>((h.right x hx).areas r hr).1,fun x hx => ?_,fun x hx => ?_⟩
 ·have:=(h.right x hx).refsLen; omega
 ·have:=(h.right x hx).alen; omega
 ·have:=(h.right x hx).at_; omega
 ·have:=(h.right x hx).at_; have:=(h.right x hx).until_; omega
theorem F4 {l:List Alert} (h:(l.map (·.Id)).Nodup) {i j:Nat} {a b:Alert} (ha:l[i]? = some a) (hb:l[j]? = some b) (e:a.Id=b.Id):i=j:=by
 obtain ⟨h1,e1⟩:=List.getElem?_eq_some_iff.1 ha
 obtain ⟨h2,e2⟩:=List.getElem?_eq_some_iff.1 hb
 have hp:=List.pairwise_iff_getElem.1 h
 rcases Nat.lt_trichotomy i j with q | q | q
 ·exact absurd (by rw [List.getElem_map,List.getElem_map,e1,e2]; exact e) (hp i j (by simpa using h1) (by simpa using h2) q)
 ·exact q
 ·exact absurd (by rw [List.getElem_map,List.getElem_map,e1,e2]; exact e.symm) (hp j i (by simpa using h2) (by simpa using h1) q)
theorem I7 (l:List Alert) (a z:Alert):rO (l ++ [a]) z=bif cutB a z then min (rO l z) a.At else rO l z:=by
 unfold rO
 rw [List.foldl_append]; rfl
def FD (a:Alert) (j:Nat) (z:Alert):Bool:=decide (z.Id∈a.Refs.take j) && (decide (z.Sender=a.Sender) && decide (befA z a))
def tZ (l:List Alert) (k:Nat) (a:Alert) (j:Nat) (z:Alert):Int:=bif FD a j z then min (rO (l.take k) z) a.At else rO (l.take k) z
theorem endJ_0 (l:List Alert) (k:Nat) (a z:Alert):tZ l k a 0 z=rO (l.take k) z:=by
 unfold tZ FD
 rw [decide_eq_false (by simp)]; rfl
theorem K6 {l:List Alert} {k:Nat} {a:Alert} (h:l[k]? = some a) (z:Alert):tZ l k a a.Refs.length z=rO (l.take (k + 1)) z:=by
 have et:l.take (k + 1)=l.take k ++ [a]:=by rw [List.take_add_one,h]; rfl
 rw [et,I7]
 unfold tZ FD cutB
 rw [List.take_length]
theorem BQ {a o:Alert} {r:ByteArray}:xn a o r=true↔o.Id=r∧o.Sender=a.Sender∧befA o a:=by
 unfold xn
 simp only [Bool.and_eq_true,decide_eq_true_eq]
theorem Ff {a z:Alert} {j:Nat}:FD a j z=true↔z.Id∈a.Refs.take j∧z.Sender=a.Sender∧befA z a:=by
 unfold FD
 simp only [Bool.and_eq_true,decide_eq_true_eq]
theorem IU {a z:Alert} {j:Nat} {r:ByteArray} (hr:a.Refs[j]? = some r):FD a (j + 1) z=(FD a j z || xn a z r):=by
 have et:a.Refs.take (j + 1)=a.Refs.take j ++ [r]:=by rw [List.take_add_one,hr]; rfl
 rw [Bool.eq_iff_iff,Bool.or_eq_true,Ff,Ff,BQ,et,List.mem_append,List.mem_singleton]
 constructor
 ·rintro ⟨h | h,k⟩
  ·exact .inl ⟨h,k⟩
  ·exact .inr ⟨h,k⟩
 ·rintro (⟨h,k⟩ | ⟨h,k⟩)
  ·exact⟨.inl h,k⟩
  ·exact⟨.inr h,k⟩
theorem yA {l:List Alert} {k j:Nat} {a z:Alert} {r:ByteArray} (hr:a.Refs[j]? = some r):tZ l k a (j + 1) z=bif xn a z r then min (tZ l k a j z) a.At else tZ l k a j z:=by
 unfold tZ
 rw [IU hr]
 cases FD a j z <;> cases xn a z r <;> simp only [Bool.or_true,Bool.or_false,Bool.false_or,Bool.true_or,cond_true,cond_false]
 omega
theorem map_none {l:List Alert} {k j:Nat} {a:Alert} {r:ByteArray} (hr:a.Refs[j]? = some r) (h:l.any (fun o=>xn a o r)=false):l.map (tZ l k a (j + 1))=l.map (tZ l k a j):=by
 refine List.map_congr_left (fun z hz => ?_)
 have:xn a z r=false:=by
  rw [← Bool.not_eq_true]; intro e
  have:l.any (fun o=>xn a o r)=true:=List.any_eq_true.2 ⟨z,hz,e⟩
  rw [h]at this; cases this
 rw [yA hr,this,cond_false]
theorem map_one {l:List Alert} (hid:(l.map (·.Id)).Nodup) {k j i:Nat} {a z:Alert} {r:ByteArray} (hr:a.Refs[j]? = some r) (hz:l[i]? = some z) (h:xn a z r=true):l.map (tZ l k a (j + 1))=(l.map (tZ l k a j)).set i (min (tZ l k a j z) a.At):=by
 refine List.ext_getElem? (fun n => ?_)
 rw [List.getElem?_map,List.getElem?_set]
 by_cases hin:i=n
 ·subst hin
  obtain ⟨h1,_⟩:=List.getElem?_eq_some_iff.1 hz
  rw [if_pos rfl,if_pos (by simpa using h1),hz,Option.map_some,yA hr,h,cond_true]
 ·rw [if_neg hin,List.getElem?_map]
  cases hn:l[n]? with
  | none=>rfl
  | some y =>
   rw [Option.map_some,Option.map_some,yA hr]
   have:xn a y r=false:=by
    rw [← Bool.not_eq_true]; intro e
    exact hin (F4 hid hz hn ((BQ.1 h).1.trans (BQ.1 e).1.symm))
   rw [this,cond_false]
theorem BA {α:Type} {f:α→Option Bool} {p:α→Bool} {B:Nat→α→Unit→Option (Ctl Unit Int)} (hB:∀ k x,B k x ()=(f x).bind fun r=>bif r then some (.ret (k:Int))else some (.go ())):∀ (xs:List α) (k:Nat),(∀ x∈xs,f x=some (p x)) →
  (xs.any p=false∧forR B xs k ()=some (.go ())) ∨ ∃ (j:Nat) (x:α),xs[j]? = some x∧p x=true∧(∀ (i:Nat) (y:α),i < j→xs[i]? = some y→p y=false)∧forR B xs k ()=some (.ret ((k + j:Nat):Int))∧xs.any p=true
 | [],k,h => .inl ⟨rfl,rfl⟩
 | x::xs,k,h=>by
  have hx:=h x (by simp)
  cases hp:p x with
  | true =>
   refine .inr ⟨0,x,rfl,hp,fun i y hi=>absurd hi (Nat.not_lt_zero _),?_,by rw [List.any_cons,hp]; rfl⟩
   rw [forR,hB,hx,hp]; rfl
  | false =>
   have e1:forR B (x::xs) k ()=forR B xs (k + 1) ():=by rw [forR,hB,hx,hp]; rfl
   rw [e1,List.any_cons,hp,Bool.false_or]
   rcases BA hB xs (k + 1) (fun y hy=>h y (by simp [hy]))with⟨h1,h2⟩ | ⟨j,y,h1,h2,h3,h4,h5⟩
   ·exact .inl ⟨h1,h2⟩
   ·refine .inr ⟨j + 1,y,h1,h2,fun i z hi hz => ?_,by rw [h4]; congr 3; omega,h5⟩
    cases i with
    | zero=>rw [List.getElem?_cons_zero,Option.some.injEq]at hz; rw [← hz]; exact hp
    | succ i=>exact h3 i z (by omega) (by simpa using hz)
theorem minI_m (a b:Int):uX a b=min a b:=by unfold uX; split <;> omega
theorem FH (a b:Alert):∃ n,gJ a b=some n∧(n < 0↔befA a b):=by
 refine⟨_,by simp only [gJ,qp,y5,GQ,Option.bind_some]; rfl,?_⟩
 rw [Hq,Kv,Jt,Ad]; rfl
theorem Kk (a o:Alert) (r:ByteArray):jS o r a=some (xn a o r):=by
 obtain ⟨n,n1,n2⟩:=FH o a
 unfold jS xn
 rw [yh,yh,n1]
 have:decide (n < 0)=decide (befA o a):=by rw [decide_eq_decide]; exact n2
 cases decide (o.Id=r) <;> cases decide (o.Sender=a.Sender) <;> simp [this]
theorem find_eq {l:List Alert} (hl:l.length≤1000) (a:Alert) (r:ByteArray):(nX l a r=some (-1)∧l.any (fun o=>xn a o r)=false) ∨ ∃ (j:Nat) (z:Alert),nX l a r=some (j:Int)∧l[j]? = some z∧xn a z r=true:=by
 unfold nX bE
 rw [qP (by omega)]
 rcases BA (f:=fun x0=>jS x0 r a) (p:=fun o=>xn a o r) (B:=fun k x s=>bP (fun x0=>jS x0 r a) k x s) (fun k x=>rfl) l 0 (fun x _=>Kk a x r)with⟨h1,h2⟩ | ⟨j,x,h1,h2,_,h4,_⟩
 ·rw [h2]; exact .inl ⟨rfl,h1⟩
 ·rw [h4]; exact .inr ⟨j,x,by simp only [Option.bind_some,thenC,Nat.zero_add],h1,h2⟩
theorem IQ {l:List Alert} (h:CA l) {k j:Nat} {a:Alert} {r:ByteArray} (hr:a.Refs[j]? = some r):kg l a j r (l.map (tZ l k a j))=some (.go (l.map (tZ l k a (j + 1)))):=by
 have hl:=h.len
 unfold kg
 rcases find_eq (Nat.le_trans hl (by decide)) a r with⟨h1,h2⟩ | ⟨i,z,h1,h2,h3⟩
 ·rw [h1,Option.bind_some,decide_eq_false (by decide),cond_false,Option.bind_some,map_none hr h2]
 ·obtain ⟨hi,_⟩:=List.getElem?_eq_some_iff.1 h2
  have e1:(l.map (tZ l k a j))[(0 + ((i:Int)).toNat)]? = some (tZ l k a j z):=by
   rw [show 0 + ((i:Int)).toNat=i by omega,List.getElem?_map,h2]; rfl
  have hin:inR (i:Int) (l.map (tZ l k a j))=some ():=inR_ok (by omega) (by rw [List.length_map]; omega)
  rw [h1,Option.bind_some,decide_eq_true (by omega),cond_true,hin,e1]
  simp only [Option.bind_some]
  rw [map_one h.ids hr h2 h3,minI_m,show 0 + ((i:Int)).toNat=i by omega]
theorem ends_eq {l:List Alert} (h:CA l):qK l=some (l.map (rO l)):=by
 have hl:=h.len
 unfold qK
 obtain ⟨t,t1,t2⟩:=gL (body:=fun k x s=>l8 k x s) (fun k s=>s=(l.take k).map (·.Until)) (xs:=l) (s:=([]:List Int)) (by omega) (fun k x s hx hs=>by
  have et:l.take (k + 1)=l.take k ++ [x]:=by rw [List.take_add_one,hx]; rfl
  have hk:(l.take k).length≤l.length:=by rw [List.length_take]; exact Nat.min_le_right _ _
  unfold l8
  rw [hs,pK _ _ (by simp only [List.length_map,List.length_cons,List.length_nil]; omega)]
  exact⟨_,rfl,by rw [et,List.map_append]; rfl⟩) rfl
 rw [t1,t2,List.take_length]
 simp only [Option.bind_some,thenC]
 obtain ⟨u,u1,u2⟩:=gL (body:=fun k x s=>lZ l k x s) (fun k s=>s=l.map (rO (l.take k))) (xs:=l) (s:=l.map (·.Until)) (by omega) (fun k x s hx hs=>by
  have hrl:=h.refs x (List.mem_of_getElem? hx)
  obtain ⟨v,v1,v2⟩:=gL (body:=fun j r s=>kg l x j r s) (fun j s=>s=l.map (tZ l k x j)) (xs:=x.Refs) (s:=s) (by omega) (fun j r s hr hs=>by
   rw [hs]
   exact⟨_,IQ h hr,rfl⟩) (by rw [hs]; exact List.map_congr_left (fun z _=>(endJ_0 l k x z).symm))
  unfold lZ
  rw [v1]
  exact⟨v,rfl,by rw [v2]; exact List.map_congr_left (fun z _=>K6 hx z)⟩) rfl
 rw [u1,u2,List.take_length]
 rfl
end Go.Proofs.YtjhcehhmdmbleaaGreatDoor.Law

open Go Go.Eng
namespace Go.Proofs.YtjhcehhmdmbleaaGreatDoor.Law
set_option linter.unusedVariables false
set_option linter.unusedSimpArgs false
theorem idx_map {α β:Type} {l:List α} {f:α→β} {k:Nat} {x:α} (hx:l[k]? = some x):idx (l.map f) (k:Int)=some (f x):=by
 rw [zW,List.getElem?_map,hx]; rfl
end Go.Proofs.YtjhcehhmdmbleaaGreatDoor.Law

open Go Go.Eng
namespace Go.Proofs.YtjhcehhmdmbleaaGreatDoor.Law
set_option linter.unusedVariables false
set_option linter.unusedSimpArgs false
def Ju (x:Int):List Int→List Int
 | [] => [x]
 | y::l=>bif decide (x≤y)then x::y::l else y::Ju x l
def Bw:List Int→List Int
 | [] => []
 | x::l=>Ju x (Bw l)
theorem yT (x:Int):∀ l,(Ju x l).Perm (x::l)
 | [] => .refl _
 | y::l=>by
  unfold Ju
  cases decide (x≤y)with
  | true=>exact .refl _
  | false=>exact ((yT x l).cons y).trans (List.Perm.swap x y l)
theorem zb:∀ l,(Bw l).Perm l
 | [] => .refl _
 | x::l=>(yT x _).trans ((zb l).cons x)
theorem zg (x:Int):∀ l:List Int,l.Pairwise (· ≤ ·)→(Ju x l).Pairwise (· ≤ ·)
 | [],_=>List.pairwise_singleton _ _
 | y::l,h=>by
  obtain ⟨h1,h2⟩:=List.pairwise_cons.1 h
  unfold Ju
  by_cases hx:x≤y
  ·rw [decide_eq_true hx,cond_true]
   exact List.pairwise_cons.2 ⟨fun z hz=>by
    rcases List.mem_cons.1 hz with rfl | hz
    ·exact hx
    ·exact Int.le_trans hx (h1 z hz),h⟩
  ·rw [decide_eq_false hx,cond_false]
   exact List.pairwise_cons.2 ⟨fun z hz=>by
    rcases List.mem_cons.1 ((yT x l).mem_iff.1 hz)with rfl | hz
    ·omega
    ·exact h1 z hz,zg x l h2⟩
theorem wI:∀ l,(Bw l).Pairwise (· ≤ ·)
 | [] => .nil
 | x::l=>zg x _ (wI l)
theorem Jg (l:List Int):l.mergeSort (fun x y=>decide (x≤y))=Bw l:=by
 refine List.Perm.eq_of_pairwise (le:=(· ≤ ·)) (fun a b _ _ h1 h2=>Int.le_antisymm h1 h2) ?_ (wI l) ((List.mergeSort_perm l _).trans (zb l).symm)
 have:=List.pairwise_mergeSort (le:=fun (x y:Int)=>decide (x≤y)) (fun a b c=>by simp; omega) (fun a b=>by simp; omega) l
 exact this.imp (by simp)
def wF (l:List Int):Option (List Int):=bif Nat.ble l.length 1000 then some (Bw l)else none
theorem KZ (l:List Int):Le (wF l) (dG l):=fun r h=>by
 unfold wF at h
 cases hb:Nat.ble l.length 1000 with
 | false=>rw [hb]at h; cases h
 | true =>
  rw [hb,cond_true]at h
  have:=Nat.le_of_ble_eq_true hb
  unfold dG ES
  rw [if_pos (by omega),Jg]; exact h
end Go.Proofs.YtjhcehhmdmbleaaGreatDoor.Law

