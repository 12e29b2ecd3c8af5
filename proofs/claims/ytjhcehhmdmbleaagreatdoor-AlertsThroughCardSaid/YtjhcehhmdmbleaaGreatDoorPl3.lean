/-
  THE PLAIN LAW (part 3).
-/
import Derived.Test.YtjhcehhmdmbleaaGreatDoorPl2
import Derived.Test.YtjhcehhmdmbleaaGreatDoorDefs
open Go Go.Eng
namespace Go.Proofs.YtjhcehhmdmbleaaGreatDoor.Law
set_option linter.unusedVariables false
set_option linter.unusedSimpArgs false
theorem Fw (s:Stream) {b:Int} (hs:Ok s b) (hb:b≤900000):∃ r s',cO s=some (r,s')∧Fine r∧(-2≤r.X∧r.X≤8 ∧ -2≤r.Y∧r.Y≤8∧r.W≤5∧r.H≤5)∧Ok s' (b + 4):=by
 unfold cO
 obtain ⟨X,q1,c1,c2,c3,c4⟩:=ig s (-2) 8 hs (by omega) (by decide) (by decide) (by decide)
 obtain ⟨Y,q2,d1,d2,d3,d4⟩:=ig q1 (-2) 8 c4 (by omega) (by decide) (by decide) (by decide)
 obtain ⟨U,q3,e1,e2,e3,e4⟩:=ig q2 1 5 d4 (by omega) (by decide) (by decide) (by decide)
 obtain ⟨V,q4,f1,f2,f3,f4⟩:=ig q3 1 5 e4 (by omega) (by decide) (by decide) (by decide)
 simp only [c1,d1,e1,f1,Option.bind_some]
 refine⟨_,_,rfl,?_,by simp only []; omega,f4.mono (by omega)⟩
 unfold Fine
 simp only []; omega
theorem E5 (f:Rect→Option Bool) (p:Rect→Bool):∀ (l:List Rect) (k:Nat),(∀ r∈l,f r=some (p r))→(forR (fun k z s=>aP f k z s) l k ()=some (.go ())∧l.any p=false) ∨ ∃ j:Nat,forR (fun k z s=>aP f k z s) l k ()=some (.ret (j:Int))∧l.any p=true
 | [],k,_ => .inl ⟨rfl,rfl⟩
 | r::l,k,h=>by
  have hB:aP f k r ()=some (bif p r then .ret (k:Int)else .go ()):=by
   unfold aP
   rw [h r (by simp),Option.bind_some]
   cases p r <;> rfl
  rw [forR,hB,Option.bind_some,List.any_cons]
  cases p r with
  | true=>exact .inr ⟨k,rfl,rfl⟩
  | false=>exact E5 f p l (k + 1) (fun r hr=>h r (by simp [hr]))
theorem JV (f:Rect→Option Bool) (p:Rect→Bool) {l:List Rect} (h:∀ r∈l,f r=some (p r)) (hl:l.length≤1000000):bf l f=some (l.any p):=by
 unfold bf dG
 rw [iI (by omega)]
 rcases E5 f p l 0 h with⟨h1,h2⟩ | ⟨j,h1,h2⟩
 ·rw [h1,h2]; rfl
 ·rw [h1,h2]
  simp only [Option.bind_some,thenC]
  have:decide ((j:Int)≥0)=true:=by simp
  rw [this]
end Go.Proofs.YtjhcehhmdmbleaaGreatDoor.Law

open Go Go.Eng
namespace Go.Proofs.YtjhcehhmdmbleaaGreatDoor.Law
set_option linter.unusedVariables false
set_option linter.unusedSimpArgs false
def EU {σ ρ:Type} (s:σ) (body:σ→Option (Ctl σ ρ)):Option (Ctl σ ρ):=iterN body 300 s
def Le {α:Type} (a b:Option α):Prop := ∀ r,a=some r→b=some r
theorem Le.refl {α:Type} (a:Option α):Le a a:=fun _ h=>h
theorem Le.bind {α β:Type} {a b:Option α} {f g:α→Option β} (h:Le a b) (k:∀ x,Le (f x) (g x)):Le (a.bind f) (b.bind g):=fun r e=>by
 obtain ⟨x,h1,h2⟩:=Option.bind_eq_some_iff.1 e
 rw [h x h1]; exact k x r h2
theorem Le.cond {α:Type} {a b c d:Option α} {t:Bool} (h:Le a c) (k:Le b d):Le (bif t then a else b) (bif t then c else d):=by
 cases t
 ·exact k
 ·exact h
theorem Le.thenC {σ ρ τ:Type} {o:Ctl σ ρ} {f f':σ→Option τ} {g g':ρ→Option τ} (h:∀ x,Le (f x) (f' x)) (k:∀ x,Le (g x) (g' x)):Le (Go.Eng.thenC o f g) (Go.Eng.thenC o f' g'):=by
 cases o
 ·exact h _
 ·exact Le.refl _
 ·exact k _
theorem Le.forR {α σ ρ:Type} {b b':Nat→α→σ→Option (Ctl σ ρ)} (h:∀ k x s,Le (b k x s) (b' k x s)):∀ (xs:List α) (k:Nat) (s:σ),Le (Go.Eng.forR b xs k s) (Go.Eng.forR b' xs k s)
 | [],k,s=>Le.refl _
 | x::xs,k,s=>Le.bind (h k x s) (fun c=>by
   cases c with
   | go s'=>exact Le.forR h xs _ _
   | brk s'=>exact Le.refl _
   | ret r=>exact Le.refl _)
theorem Le.forL {α σ ρ:Type} {xs:List α} {s:σ} {b b':Nat→α→σ→Option (Ctl σ ρ)} (h:∀ k x s,Le (b k x s) (b' k x s)):Le (Go.Eng.forL xs s b) (Go.Eng.forL xs s b'):=by
 unfold Go.Eng.forL
 split
 ·exact Le.forR h xs 0 s
 ·exact Le.refl _
theorem Le.iterN {σ ρ:Type} {b b':σ→Option (Ctl σ ρ)} (h:∀ s,Le (b s) (b' s)):∀ (n:Nat) (s:σ),Le (Go.Eng.iterN b n s) (Go.Eng.iterN b' n s)
 | 0,s=>Le.refl _
 | n + 1,s=>Le.bind (h s) (fun c=>by
   cases c with
   | go s'=>exact Le.iterN h n s'
   | brk s'=>exact Le.refl _
   | ret r=>exact Le.refl _)
theorem Le.loop {σ ρ:Type} {s:σ} {b b':σ→Option (Ctl σ ρ)} (h:∀ s,Le (b s) (b' s)):Le (EU s b) (ic s b'):=fun r e=>iV (Le.iterN h _ _ r e)
end Go.Proofs.YtjhcehhmdmbleaaGreatDoor.Law

open Go Go.Eng
namespace Go.Proofs.YtjhcehhmdmbleaaGreatDoor.Law
set_option linter.unusedVariables false
set_option linter.unusedSimpArgs false
set_option maxRecDepth 100000
def jA (s_1:ByteArray) (c_2:Int):Option (ByteArray) :=
 (EU s_1 (fun s=>gM c_2 s)).bind fun o_11=>thenC o_11 (fun s_8=>some s_8) (fun _=>none)
theorem pX (s_1:ByteArray) (c_2:Int):Le (jA s_1 c_2) (strings_trimRightByte s_1 c_2):=by
 unfold jA strings_trimRightByte
 repeat' (with_reducible first | exact Le.refl _ | refine Le.loop (fun _ => ?_) | refine Le.forL (fun _ _ _ => ?_) | refine Le.thenC (fun _ => ?_) (fun _ => ?_) | refine Le.cond ?_ ?_ | refine Le.bind ?_ (fun _ => ?_))
def kg (s_1:ByteArray) (c_2:Int):Option (ByteArray) :=
 (EU s_1 (fun s=>gW c_2 s)).bind fun o_11=>thenC o_11 (fun s_8=>some s_8) (fun _=>none)
theorem qw (s_1:ByteArray) (c_2:Int):Le (kg s_1 c_2) (strings_trimLeftByte s_1 c_2):=by
 unfold kg strings_trimLeftByte
 repeat' (with_reducible first | exact Le.refl _ | refine Le.loop (fun _ => ?_) | refine Le.forL (fun _ _ _ => ?_) | refine Le.thenC (fun _ => ?_) (fun _ => ?_) | refine Le.cond ?_ ?_ | refine Le.bind ?_ (fun _ => ?_))
def nC (s_1:ByteArray) (cutset_2:ByteArray):Option (ByteArray) :=
 (bif (sEq s_1 (⟨#[]⟩:ByteArray))then some true else some (sEq cutset_2 (⟨#[]⟩:ByteArray))).bind fun v_3=>bif v_3 then some s_1 else (bif ((cutset_2.size:Int) == 1)then (su cutset_2 0).bind fun b_10=>some (decide ((b_10.toNat:Int) < 128))else some false).bind fun v_7=>bif v_7 then (su cutset_2 0).bind fun b_13=>(jA s_1 (b_13.toNat:Int)).bind fun r_15=>(su cutset_2 0).bind fun b_17=>(kg r_15 (b_17.toNat:Int)).bind fun r_19=>some r_19 else none
theorem rM (s_1:ByteArray) (cutset_2:ByteArray):Le (nC s_1 cutset_2) (lh s_1 cutset_2):=by
 unfold nC lh
 repeat' (with_reducible first | exact Le.refl _ | exact pX _ _ | exact qw _ _ | refine Le.loop (fun _ => ?_) | refine Le.forL (fun _ _ _ => ?_) | refine Le.thenC (fun _ => ?_) (fun _ => ?_) | refine Le.cond ?_ ?_ | refine Le.bind ?_ (fun _ => ?_))
def fu (s_1:ByteArray):Option (Bool) :=
 (EU 0 (fun s=>mh s_1 s)).bind fun o_10=>thenC o_10 (fun s_7=>((fo s_1).bind fun r_23=>bif r_23 then (nC s_1 (⟨#[32]⟩:ByteArray)).bind fun r_26=>bif (sEq r_26 s_1)then (strings_Contains s_1 (⟨#[32,32]⟩:ByteArray)).bind fun r_29=>some (!r_29)else some false else some false).bind fun v_21=>some v_21) (fun r=>some r)
theorem fq (s_1:ByteArray):Le (fu s_1) (kL s_1):=by
 unfold fu kL
 repeat' (with_reducible first | exact Le.refl _ | exact rM _ _ | refine Le.loop (fun _ => ?_) | refine Le.forL (fun _ _ _ => ?_) | refine Le.thenC (fun _ => ?_) (fun _ => ?_) | refine Le.cond ?_ ?_ | refine Le.bind ?_ (fun _ => ?_))
theorem yC (s:ByteArray):Le (fu s) (kL s):=fq s
end Go.Proofs.YtjhcehhmdmbleaaGreatDoor.Law

open Go Go.Eng
namespace Go.Proofs.YtjhcehhmdmbleaaGreatDoor.Law
set_option linter.unusedVariables false
set_option linter.unusedSimpArgs false
set_option maxRecDepth 100000
def idL:List ByteArray := [⟨#[97,97]⟩,⟨#[97,98]⟩,⟨#[97,99]⟩,⟨#[97,100]⟩,⟨#[97,101]⟩,⟨#[97,102]⟩]
def refL:List ByteArray := [⟨#[97,97]⟩,⟨#[97,98]⟩,⟨#[97,99]⟩,⟨#[97,100]⟩,⟨#[122,122]⟩]
def zyS:ByteArray:=⟨#[122,121]⟩
def wxS:ByteArray:=⟨#[119,120]⟩
def fireS:ByteArray:=⟨#[102,105,114,101]⟩
def floodS:ByteArray:=⟨#[102,108,111,111,100]⟩
def mallS:ByteArray:=⟨#[102,105,114,101,32,105,110,32,116,104,101,32,109,97,108,108]⟩
def overS:ByteArray:=⟨#[111,118,101,114]⟩
def SmallR (r:Rect):Prop:=Fine r∧(-2≤r.X∧r.X≤8 ∧ -2≤r.Y∧r.Y≤8∧r.W≤5∧r.H≤5)
structure RightA (x:Alert):Prop where
 id:x.Id∈idL
 sender:x.Sender=wxS∨x.Sender=fireS
 kind:1≤x.Kind∧x.Kind≤3
 refs:x.Refs.Sublist refL∨x.Refs = [zyS]
 noId:∀ r∈x.Refs,r≠x.Id
 new:x.Kind=1↔x.Refs = []
 at_:0≤x.At∧x.At≤30
 until_:x.At + 1≤x.Until∧x.Until≤x.At + 50
 weight:1≤x.Weight∧x.Weight≤9
 areas:∀ r∈x.Areas,SmallR r
 alen:x.Areas.length≤2
 cancel:x.Kind=3↔x.Areas = []
 text:x.Text=floodS∨x.Text=mallS∨x.Kind=3∧(x.Text=⟨#[]⟩∨x.Text=overS)
theorem idL_key:∀ k∈idL,kG k=true∧Nat.ble k.size 1000=true:=by
 intro k hk
 simp only [idL,List.mem_cons,List.not_mem_nil,or_false]at hk
 rcases hk with rfl | rfl | rfl | rfl | rfl | rfl <;> exact⟨by kernel_rfl,rfl⟩
theorem KE:∀ k∈idL,gz k 0=97:=by
 intro k hk
 simp only [idL,List.mem_cons,List.not_mem_nil,or_false]at hk
 rcases hk with rfl | rfl | rfl | rfl | rfl | rfl <;> rfl
theorem Ki:∀ k∈refL,kG k=true∧Nat.ble k.size 1000=true:=by
 intro k hk
 simp only [refL,List.mem_cons,List.not_mem_nil,or_false]at hk
 rcases hk with rfl | rfl | rfl | rfl | rfl <;> exact⟨by kernel_rfl,rfl⟩
theorem Jk:idL.Pairwise lt:=by
 unfold idL
 simp only [List.pairwise_cons,List.mem_cons,List.not_mem_nil,or_false,forall_eq_or_imp,forall_eq]
 refine⟨⟨lZ (by kernel_rfl),lZ (by kernel_rfl),lZ (by kernel_rfl),lZ (by kernel_rfl),lZ (by kernel_rfl)⟩,⟨lZ (by kernel_rfl),lZ (by kernel_rfl),lZ (by kernel_rfl),lZ (by kernel_rfl)⟩,⟨lZ (by kernel_rfl),lZ (by kernel_rfl),lZ (by kernel_rfl)⟩,⟨lZ (by kernel_rfl),lZ (by kernel_rfl)⟩,lZ (by kernel_rfl),fun a h=>(by cases h),List.Pairwise.nil⟩
theorem RightA.refsLen {x:Alert} (h:RightA x):x.Refs.length≤5:=by
 rcases h.refs with hs | hs
 ·exact hs.length_le
 ·rw [hs]; decide
theorem KG (id:ByteArray) (s:Stream) {b:Int} (hs:Ok s b) (hb:b≤800000) :
  ∃ l s',forL ([(⟨#[97,97]⟩:ByteArray),(⟨#[97,98]⟩:ByteArray),(⟨#[97,99]⟩:ByteArray),(⟨#[97,100]⟩:ByteArray),(⟨#[122,122]⟩:ByteArray)]:List ByteArray) (([]:List ByteArray),s.L,s.f_at) (fun k x s=>cz id k x s)=some (.go (l,s'.L,s'.f_at))∧l.Sublist refL∧(∀ r∈l,r≠id)∧Ok s' (b + 10):=by
 obtain ⟨t,t1,t2,t3,t4⟩:=kW (body:=fun k x s=>cz id k x s) (xs:=refL) (s:=(([]:List ByteArray),s.L,s.f_at)) (fun k t=>t.1.Sublist (refL.take k)∧(∀ r∈t.1,r≠id)∧Ok ⟨t.2.1,t.2.2⟩ (b + k)) (by decide) (fun k x t hx ⟨i1,i2,i3⟩=>by
  have hk:k < refL.length:=(List.getElem?_eq_some_iff.1 hx).1
  have hk5:k < 5:=hk
  have et:refL.take (k + 1)=refL.take k ++ [x]:=by rw [List.take_add_one,hx]; rfl
  have hlen:t.1.length≤5:=Nat.le_trans i1.length_le (by rw [List.length_take]; exact Nat.min_le_right _ _)
  unfold cz
  rw [HV]
  by_cases he:x=id
  ·rw [decide_eq_true he]
   exact⟨_,rfl,by rw [et]; exact i1.trans (List.sublist_append_left _ _),i2,i3.mono (by omega)⟩
  ·obtain ⟨f,s1,c1,c2⟩:=ou _ 3 i3 (by omega) (by decide) (by decide)
   rw [decide_eq_false he]
   simp only [Bool.not_false,cond_true,c1,Option.bind_some]
   cases f with
   | true =>
    rw [cond_true,lN _ _ (by simp; omega)]
    refine⟨_,rfl,by rw [et]; exact i1.append (List.Sublist.refl _),fun r hr => ?_,c2.mono (by omega)⟩
    rcases List.mem_append.1 hr with hr | hr
    ·exact i2 r hr
    ·rw [List.mem_singleton.1 hr]; exact he
   | false=>exact⟨_,rfl,by rw [et]; exact i1.trans (List.sublist_append_left _ _),i2,c2.mono (by omega)⟩) ⟨List.Sublist.refl _,fun r hr=>(by cases hr),hs.mono (by omega)⟩
 exact⟨t.1,⟨t.2.1,t.2.2⟩,t1,by simpa using t2,t3,t4.mono (by show b + ((5:Nat):Int)≤b + 10; omega)⟩
theorem Iz (n:Int) (hn:1≤n∧n≤2) (s:Stream) {b:Int} (hs:Ok s b) (hb:b≤800000) :
  ∃ l s',forL (List.range n.toNat) (([]:List Rect),s.L,s.f_at) (fun k x s=>cB k x s)=some (.go (l,s'.L,s'.f_at))∧(l.length:Int)=n∧(∀ r∈l,SmallR r)∧Ok s' (b + 10):=by
 obtain ⟨t,t1,t2,t3,t4⟩:=Ef (body:=fun k x s=>cB k x s) (s:=(([]:List Rect),s.L,s.f_at)) (xs:=List.range n.toNat) (fun j t=>t.1.length=j∧(∀ r∈t.1,SmallR r)∧Ok ⟨t.2.1,t.2.2⟩ (b + 4 * j)) (by simp; omega) (fun j x t hx hj ⟨i1,i2,i3⟩=>by
  simp only [List.length_range]at hj
  obtain ⟨r,s1,c1,c2,c3,c4⟩:=Fw _ i3 (by omega)
  unfold cB
  rw [c1,Option.bind_some,lN _ _ (by simp; omega)]
  refine⟨_,rfl,by simp [i1],fun q hq => ?_,c4.mono (by omega)⟩
  rcases List.mem_append.1 hq with hq | hq
  ·exact i2 q hq
  ·rw [List.mem_singleton.1 hq]; exact⟨c2,c3⟩) ⟨rfl,fun r hr=>(by cases hr),hs.mono (by omega)⟩
 rw [List.length_range]at t2 t4
 exact⟨t.1,⟨t.2.1,t.2.2⟩,t1,by omega,t3,t4.mono (by omega)⟩
theorem Iy (id:ByteArray) (hid:id∈idL) (k:Nat) (l0:List Alert) (hl:l0.length≤100) (s:Stream) {b:Int} (hs:Ok s b) (hb:b≤700000) :
  ∃ x s',dM k id (l0,s.L,s.f_at)=some (.go (l0 ++ [x],s'.L,s'.f_at))∧RightA x∧x.Id=id∧Ok s' (b + 40):=by
 obtain ⟨sd,s1,a1,a2,a3⟩:=rD s [(⟨#[119,120]⟩:ByteArray),(⟨#[119,120]⟩:ByteArray),(⟨#[102,105,114,101]⟩:ByteArray)] hs (by omega) (by simp) (by simp)
 obtain ⟨kd,s2,b1,b2,b3⟩:=oq s1 [1,1,2,2,3] a3 (by omega) (by simp) (by simp)
 obtain ⟨n5,s3,c1,c2,c3,c4⟩:=ig s2 0 6 b3 (by omega) (by decide) (by decide) (by decide)
 obtain ⟨wt,s4,d1,d2,d3⟩:=oq s3 [1,5,5,9] c4 (by omega) (by simp) (by simp)
 obtain ⟨tx,s5,e1,e2,e3⟩:=rD s4 [(⟨#[102,108,111,111,100]⟩:ByteArray),(⟨#[102,105,114,101,32,105,110,32,116,104,101,32,109,97,108,108]⟩:ByteArray)] d3 (by omega) (by simp) (by simp)
 obtain ⟨un,s6,f1,f2,f3⟩:=oq s5 [1,10,20,50] e3 (by omega) (by simp) (by simp)
 have hsd:sd=wxS∨sd=fireS:=by
  simp only [List.mem_cons,List.not_mem_nil,or_false]at a2
  rcases a2 with h | h | h
  ·exact .inl h
  ·exact .inl h
  ·exact .inr h
 have hkd:kd=1∨kd=2∨kd=3:=by
  simp only [List.mem_cons,List.not_mem_nil,or_false]at b2; omega
 have hwt:1≤wt∧wt≤9:=by
  simp only [List.mem_cons,List.not_mem_nil,or_false]at d2; omega
 have hun:1≤un∧un≤50:=by
  simp only [List.mem_cons,List.not_mem_nil,or_false]at f2; omega
 have htx:tx=floodS∨tx=mallS:=by
  simp only [List.mem_cons,List.not_mem_nil,or_false]at e2; exact e2
 obtain ⟨rf,s7,g1,g2,g3,g4,g5⟩:∃ rf s7,(bif kd != 1 then (forL ([(⟨#[97,97]⟩:ByteArray),(⟨#[97,98]⟩:ByteArray),(⟨#[97,99]⟩:ByteArray),(⟨#[97,100]⟩:ByteArray),(⟨#[122,122]⟩:ByteArray)]:List ByteArray) (([]:List ByteArray),s6.L,s6.f_at) (fun k x s=>cz id k x s)).bind fun o_56=>thenC o_56 (fun s_50=>bif ((s_50.1.length:Int) == 0)then some (s_50.2.1,s_50.2.2,([(⟨#[122,121]⟩:ByteArray)]:List ByteArray))else some (s_50.2.1,s_50.2.2,s_50.1)) (fun _=>none)else some (s6.L,s6.f_at,([]:List ByteArray)))=some (Stream.L s7,Stream.f_at s7,rf)∧(rf.Sublist refL∨rf = [zyS])∧(∀ r∈rf,r≠id)∧(kd=1↔rf = [])∧Ok s7 (b + 20):=by
  by_cases h1:kd=1
  ·rw [h1]
   exact⟨[],s6,rfl,.inl (List.nil_sublist _),fun r hr=>(by cases hr),⟨fun _=>rfl,fun _=>rfl⟩,f3.mono (by omega)⟩
  ·have:(kd != 1)=true:=by simpa using h1
   rw [this,cond_true]
   obtain ⟨l,s7,g1,g2,g3,g4⟩:=KG id s6 f3 (by omega)
   rw [g1]
   simp only [Option.bind_some,thenC]
   by_cases hl0:l = []
   ·subst hl0
    refine⟨[zyS],s7,rfl,.inr rfl,fun r hr e => ?_,⟨fun h=>absurd h h1,fun h=>(by cases h)⟩,g4.mono (by omega)⟩
    rw [List.mem_singleton.1 hr]at e
    rw [← e]at hid
    have:=KE _ hid
    exact absurd this (by decide)
   ·have:((l.length:Int) == 0)=false:=by
     rw [beq_eq_false_iff_ne]
     intro e; exact hl0 (List.eq_nil_of_length_eq_zero (by omega))
    rw [this,cond_false]
    exact⟨l,s7,rfl,.inl g2,g3,⟨fun h=>absurd h h1,fun h=>absurd h hl0⟩,g4.mono (by omega)⟩
 obtain ⟨ar,tx2,s8,j1,j2,j3,j4,j5,j6⟩:∃ ar tx2 s8,(bif kd == 3 then (dH (⟨Stream.L s7,Stream.f_at s7⟩:Stream) ([(⟨#[]⟩:ByteArray),(⟨#[111,118,101,114]⟩:ByteArray)]:List ByteArray)).bind fun r_79=>some (([]:List Rect),r_79.2.L,r_79.2.f_at,r_79.1)else (bA (⟨Stream.L s7,Stream.f_at s7⟩:Stream) 1 2).bind fun r_82=>(forL (List.range (r_82.1).toNat) (([]:List Rect),r_82.2.L,r_82.2.f_at) (fun k x s=>cB k x s)).bind fun o_95=>thenC o_95 (fun s_90=>some (s_90.1,s_90.2.1,s_90.2.2,tx)) (fun _=>none))=some (ar,Stream.L s8,Stream.f_at s8,tx2)∧(∀ r∈ar,SmallR r)∧ar.length≤2∧(kd=3↔ar = [])∧(tx2=floodS∨tx2=mallS∨kd=3∧(tx2=⟨#[]⟩∨tx2=overS))∧Ok s8 (b + 40):=by
  have e7:(⟨Stream.L s7,Stream.f_at s7⟩:Stream)=s7:=rfl
  rw [e7]
  by_cases h3:kd=3
  ·have:(kd == 3)=true:=by simpa using h3
   rw [this,cond_true]
   obtain ⟨t2,s8,q1,q2,q3⟩:=rD s7 [(⟨#[]⟩:ByteArray),(⟨#[111,118,101,114]⟩:ByteArray)] g5 (by omega) (by simp) (by simp)
   rw [q1]
   simp only [List.mem_cons,List.not_mem_nil,or_false]at q2
   exact⟨[],t2,s8,rfl,fun r hr=>(by cases hr),by decide,⟨fun _=>rfl,fun _=>h3⟩,.inr (.inr ⟨h3,q2⟩),q3.mono (by omega)⟩
  ·have:(kd == 3)=false:=by simpa using h3
   rw [this,cond_false]
   obtain ⟨m,s8,q1,q2,q3,q4⟩:=ig s7 1 2 g5 (by omega) (by decide) (by decide) (by decide)
   obtain ⟨ar,s9,r1,r2,r3,r4⟩:=Iz m ⟨q2,q3⟩ s8 q4 (by omega)
   rw [q1,Option.bind_some,r1]
   refine⟨ar,tx,s9,rfl,r3,by omega,⟨fun h=>absurd h h3,fun h => ?_⟩,htx.imp (fun h=>h) .inl,r4.mono (by omega)⟩
   rw [h]at r2; simp at r2; omega
 refine⟨⟨id,sd,kd,rf,n5 * 5,n5 * 5 + un,wt,ar,tx2⟩,s8,?_,⟨hid,hsd,by simp only []; omega,g2,g3,g4,by simp only []; omega,by simp only []; omega,hwt,j2,j3,j4,j5⟩,rfl,j6⟩
 unfold dM
 have e0:(⟨s.L,s.f_at⟩:Stream)=s:=rfl
 simp only [e0,a1,b1,c1,d1,e1,f1,g1,j1,Option.bind_some]
 rw [lN _ _ (by simp; omega),dC (n:=n5 * 5) (by omega),dC (n:=n5 * 5 + un) (by omega)]; rfl
def befA (a b:Alert):Prop:=a.At < b.At∨a.At=b.At∧lt a.Id b.Id
open Classical in
theorem Kh {a b:Alert} (ha:RightA a) (hb:RightA b):jY a b=some (bif a.At != b.At then a.At - b.At else bif sLt a.Id b.Id then -1 else 1):=by
 have h1:=ha.at_
 have h2:=hb.at_
 unfold jY
 cases a.At != b.At with
 | true=>rw [cond_true,cond_true,dC (by omega)]
 | false =>
  rw [cond_false,cond_false]
  cases sLt a.Id b.Id <;> rfl
theorem ow {a b:Alert}:(bif a.At != b.At then a.At - b.At else bif sLt a.Id b.Id then (-1:Int)else 1) < 0↔befA a b:=by
 unfold befA
 by_cases h:a.At=b.At
 ·have:(a.At != b.At)=false:=by simpa using h
  rw [this,cond_false]
  cases hl:sLt a.Id b.Id with
  | true =>
   rw [cond_true]
   exact⟨fun _ => .inr ⟨h,(yR _ _).1 hl⟩,fun _=>by decide⟩
  | false =>
   rw [cond_false]
   refine⟨fun h=>absurd h (by decide),fun hb => ?_⟩
   rcases hb with hb | hb
   ·omega
   ·rw [(yR _ _).2 hb.2]at hl; cases hl
 ·have:(a.At != b.At)=true:=by simpa using h
  rw [this,cond_true]
  refine⟨fun k => .inl (by omega),fun hb => ?_⟩
  rcases hb with hb | hb
  ·omega
  ·exact absurd hb.1 h
theorem JI (a:Alert):¬ befA a a:=fun h=>by
 rcases h with h | h
 ·omega
 ·exact sP _ h.2
theorem FW {a b c:Alert} (h:befA a b) (k:befA b c):befA a c:=by
 rcases h with h | h <;> rcases k with k | k
 ·exact .inl (by omega)
 ·exact .inl (by omega)
 ·exact .inl (by omega)
 ·exact .inr ⟨h.1.trans k.1,lt_trans h.2 k.2⟩
theorem KC (a b:Alert) (hid:a.Id≠b.Id):befA a b∨befA b a:=by
 rcases Int.lt_trichotomy a.At b.At with h | h | h
 ·exact .inl (.inl h)
 ·rcases xB a.Id b.Id with k | k | k
  ·exact .inl (.inr ⟨h,k⟩)
  ·exact absurd k hid
  ·exact .inr (.inr ⟨h.symm,k⟩)
 ·exact .inr (.inl h)
theorem Fh {a b c:Alert} (h:¬ befA a b) (k:¬ befA b c):¬ befA a c:=fun hc=>by
 unfold befA at *
 simp only [not_or,not_and]at h k
 rcases hc with hc | hc
 ·rcases Int.lt_trichotomy a.At b.At with q | q | q
  ·exact h.1 q
  ·rcases Int.lt_trichotomy b.At c.At with r | r | r
   ·exact k.1 r
   ·omega
   ·omega
  ·have:=k.1; omega
 ·have h1:=h.1
  have k1:=k.1
  have e1:a.At=b.At:=by omega
  have e2:b.At=c.At:=by omega
  have h2:=h.2 e1
  have k2:=k.2 e2
  rcases xB a.Id b.Id with q | q | q
  ·exact h2 q
  ·rw [q]at hc; exact k2 hc.2
  ·rcases xB b.Id c.Id with r | r | r
   ·exact k2 r
   ·rw [← r]at hc; exact h2 hc.2
   ·exact sP _ (lt_trans (lt_trans hc.2 r) q)
structure RAlerts (l:List Alert) (n:Nat):Prop where
 right:∀ x∈l,RightA x
 rise:l.Pairwise befA
 ids:(l.map (·.Id)).Nodup
 len:l.length≤n
theorem Dn (most:Int) (hm:0≤most∧most≤6) (s:Stream) {b:Int} (hs:Ok s b) (hb:b≤600000):∃ l s',eZ s most=some (l,s')∧(RAlerts l most.toNat ∧ ∀ x∈l,x.Id∈idL.take most.toNat)∧Ok s' (b + 250):=by
 obtain ⟨n,s1,a1,a2,a3,a4⟩:=ig s 0 most hs (by omega) (by omega) (by decide) (by omega)
 have hsub:Cq idL 0 n=some (idL.take n.toNat):=by
  unfold Cq
  have h6:idL.length=6:=rfl
  rw [if_pos (by rw [h6]; omega)]
  simp
 obtain ⟨t,t1,t2,t3,t4⟩:=kW (body:=fun k x s=>dM k x s) (xs:=idL.take n.toNat) (s:=(([]:List Alert),s1.L,s1.f_at)) (fun k t=>t.1.map (·.Id)=idL.take k∧(∀ x∈t.1,RightA x)∧Ok ⟨t.2.1,t.2.2⟩ (b + 1 + 40 * k)) (by rw [List.length_take]; show min n.toNat 6≤_; omega) (fun k x t hx ⟨i1,i2,i3⟩=>by
  have hk:k < (idL.take n.toNat).length:=(List.getElem?_eq_some_iff.1 hx).1
  rw [List.length_take]at hk
  have hk6:k < 6:=by have:idL.length=6:=rfl; omega
  have hx':idL[k]? = some x:=by rw [List.getElem?_take_of_lt (by omega)]at hx; exact hx
  have hlen:t.1.length≤6:=by
   have:=congrArg List.length i1
   rw [List.length_map,List.length_take]at this
   omega
  obtain ⟨y,s2,c1,c2,c3,c4⟩:=Iy x (List.mem_of_getElem? hx') k t.1 (by omega) ⟨t.2.1,t.2.2⟩ i3 (by omega)
  refine⟨_,c1,?_,fun z hz => ?_,c4.mono (by omega)⟩
  ·rw [List.map_append,i1,List.take_add_one,hx']
   simp [c3]
  ·rcases List.mem_append.1 hz with hz | hz
   ·exact i2 z hz
   ·rw [List.mem_singleton.1 hz]; exact c2) ⟨rfl,fun x hx=>(by cases hx),a4.mono (by omega)⟩
 have hnd:(t.1.map (·.Id)).Nodup:=by
  rw [t2]
  exact (Jk.sublist (List.take_sublist _ _)).imp (fun h e=>by rw [e]at h; exact sP _ h)
 have hlen:t.1.length≤most.toNat:=by
  have:=congrArg List.length t2
  rw [List.length_map,List.length_take,List.length_take]at this
  omega
 obtain ⟨r,r1,r2,r3⟩:=Gv (cmp:=jY) (S:=bG) (fun a b=>bif a.At != b.At then a.At - b.At else bif sLt a.Id b.Id then -1 else 1) (fun _=>rfl) (xs:=t.1) (by omega) (fun x hx y hy=>Kh (t3 x hx) (t3 y hy))
  (fun x y h k=>JI x (FW (ow.1 h) (ow.1 k))) (fun x y z h k q=>Fh (fun e=>h (ow.2 e)) (fun e=>k (ow.2 e)) (ow.1 q))
 have hrl:r.length=t.1.length:=r2.length_eq
 have hids:(r.map (·.Id)).Nodup:=(r2.map (·.Id)).nodup_iff.2 hnd
 have hin:∀ x∈r,x.Id∈idL.take most.toNat:=fun x hx=>by
  have h1:x.Id∈t.1.map (·.Id):=List.mem_map.2 ⟨x,r2.mem_iff.1 hx,rfl⟩
  rw [t2]at h1
  have h2:(idL.take n.toNat).length≤most.toNat:=by rw [List.length_take]; omega
  have h3:idL.take (idL.take n.toNat).length=(idL.take most.toNat).take (idL.take n.toNat).length:=by rw [List.take_take,Nat.min_eq_left h2]
  rw [h3]at h1
  exact List.mem_of_mem_take h1
 refine⟨r,⟨t.2.1,t.2.2⟩,?_,⟨⟨fun x hx=>t3 x (r2.mem_iff.1 hx),?_,hids,by omega⟩,hin⟩,t4.mono (by
  have:(idL.take n.toNat).length≤6:=by rw [List.length_take]; exact Nat.min_le_right _ _
  omega)⟩
 ·unfold eZ
  have e1:Cq ([(⟨#[97,97]⟩:ByteArray),(⟨#[97,98]⟩:ByteArray),(⟨#[97,99]⟩:ByteArray),(⟨#[97,100]⟩:ByteArray),(⟨#[97,101]⟩:ByteArray),(⟨#[97,102]⟩:ByteArray)]:List ByteArray) 0 n=some (idL.take n.toNat):=hsub
  simp only [a1,Option.bind_some,e1,t1,thenC]
  have e2:bG t.1=some r:=r1
  have e3:iO r t.1=some ():=by unfold iO; rw [if_pos hrl]
  rw [e2,Option.bind_some,e3]; rfl
 ·refine List.pairwise_iff_getElem.2 (fun i j hi hj hij => ?_)
  have h1:=List.pairwise_iff_getElem.1 r3 i j hi hj hij
  have h2:r[i].Id≠r[j].Id:=fun e=>by
   have:=List.pairwise_iff_getElem.1 hids i j (by simpa using hi) (by simpa using hj) hij
   rw [List.getElem_map,List.getElem_map]at this
   exact this e
  rcases KC r[i] r[j] h2 with h | h
  ·exact h
  ·exact absurd (ow.2 h) h1
theorem Fq (most:Int) (hm:0≤most∧most≤6) (s:Stream) {b:Int} (hs:Ok s b) (hb:b≤600000):∃ l s',eZ s most=some (l,s')∧RAlerts l most.toNat∧Ok s' (b + 250):=by
 obtain ⟨l,s',h1,h2,h3⟩:=Dn most hm s hs hb
 exact⟨l,s',h1,h2.1,h3⟩
end Go.Proofs.YtjhcehhmdmbleaaGreatDoor.Law

open Go Go.Eng
namespace Go.Proofs.YtjhcehhmdmbleaaGreatDoor.Law
set_option linter.unusedVariables false
set_option linter.unusedSimpArgs false
theorem eqS_eq {a b:ByteArray} (h:(a == b)=true):a=b:=by
 obtain ⟨x⟩:=a
 obtain ⟨y⟩:=b
 have h1:(x == y)=true:=h
 rw [eq_of_beq h1]
structure RightPo (p:Post):Prop where
 key:kit_IsKey p.Player=some true
 x : -1000≤p.X∧p.X≤1000
 y : -1000≤p.Y∧p.Y≤1000
end Go.Proofs.YtjhcehhmdmbleaaGreatDoor.Law

open Go Go.Eng
namespace Go.Proofs.YtjhcehhmdmbleaaGreatDoor.Law
set_option linter.unusedVariables false
set_option linter.unusedSimpArgs false
set_option maxRecDepth 100000
def poL:List ByteArray := [⟨#[112,97]⟩,⟨#[112,98]⟩,⟨#[112,99]⟩]
theorem poL_key:∀ k∈poL,kit_IsKey k=some true:=by
 intro k hk
 simp only [poL,List.mem_cons,List.not_mem_nil,or_false]at hk
 rcases hk with rfl | rfl | rfl <;> rw [tN _ (by decide)] <;> exact congrArg some (by kernel_rfl)
structure RPosts (l:List Post):Prop where
 right:∀ p∈l,RightPo p
 sub:(l.map (·.Player)).Sublist poL
theorem RPosts.len {l:List Post} (h:RPosts l):l.length≤3:=by
 have h1:=h.sub.length_le
 rw [List.length_map]at h1
 exact h1
theorem FD (s:Stream) {b:Int} (hs:Ok s b) (hb:b≤800000):∃ l s',gP s=some (l,s')∧RPosts l∧Ok s' (b + 20):=by
 obtain ⟨t,t1,t2,t3,t4⟩:=kW (body:=fun k x s=>dX k x s) (xs:=poL) (s:=(([]:List Post),s.L,s.f_at)) (fun k t=>(t.1.map (·.Player)).Sublist (poL.take k)∧(∀ p∈t.1,RightPo p)∧Ok ⟨t.2.1,t.2.2⟩ (b + 3 * k)) (by decide) (fun k x t hx ⟨i1,i2,i3⟩=>by
  have hk:k < 3:=(List.getElem?_eq_some_iff.1 hx).1
  have hlen:t.1.length≤3:=by
   have:=i1.length_le
   rw [List.length_map,List.length_take]at this
   exact Nat.le_trans this (Nat.min_le_right _ _)
  obtain ⟨n1,n2⟩:=KS hx i1
  obtain ⟨f,s1,c1,c2⟩:=ou _ 5 i3 (by omega) (by decide) (by decide)
  unfold dX
  simp only [c1,Option.bind_some]
  cases f with
  | true=>exact⟨_,rfl,n1,i2,c2.mono (by omega)⟩
  | false =>
   obtain ⟨px,s2,d1,d2,d3,d4⟩:=ig s1 (-2) 10 c2 (by omega) (by decide) (by decide) (by decide)
   obtain ⟨py,s3,e1,e2,e3,e4⟩:=ig s2 (-2) 10 d4 (by omega) (by decide) (by decide) (by decide)
   simp only [Bool.not_false,cond_true,d1,e1,Option.bind_some]
   rw [lN _ _ (by simp; omega)]
   refine⟨_,rfl,n2 ⟨x,px,py⟩ rfl,fun p hp => ?_,e4.mono (by omega)⟩
   rcases List.mem_append.1 hp with hp | hp
   ·exact i2 p hp
   ·rw [List.mem_singleton.1 hp]
    exact⟨poL_key x (List.mem_of_getElem? hx),by simp only []; omega,by simp only []; omega⟩) ⟨List.Sublist.refl _,fun p hp=>(by cases hp),hs.mono (by omega)⟩
 refine⟨t.1,⟨t.2.1,t.2.2⟩,?_,⟨t3,by rw [List.take_length]at t2; exact t2⟩,t4.mono (by show b + 3 * ((3:Nat):Int)≤b + 20; omega)⟩
 unfold gP
 have t1':forL ([(⟨#[112,97]⟩:ByteArray),(⟨#[112,98]⟩:ByteArray),(⟨#[112,99]⟩:ByteArray)]:List ByteArray) (([]:List Post),s.L,s.f_at) (fun k x s=>dX k x s)=some (.go t):=t1
 rw [t1']; rfl
end Go.Proofs.YtjhcehhmdmbleaaGreatDoor.Law

open Go Go.Eng
namespace Go.Proofs.YtjhcehhmdmbleaaGreatDoor.Law
set_option linter.unusedVariables false
set_option linter.unusedSimpArgs false
theorem wo (s:Stream) {b:Int} (hs:Ok s b) (hb:b≤900000):∃ r s',cO s=some (r,s')∧Ok s' (b + 4):=by
 unfold cO
 obtain ⟨x,s1,a1,a2,a3,a4⟩:=ig s (-2) 8 hs (by omega) (by omega) (by omega) (by omega)
 obtain ⟨y,s2,b1,b2,b3,b4⟩:=ig s1 (-2) 8 a4 (by omega) (by omega) (by omega) (by omega)
 obtain ⟨w,s3,c1,c2,c3,c4⟩:=ig s2 1 5 b4 (by omega) (by omega) (by omega) (by omega)
 obtain ⟨h,s4,d1,d2,d3,d4⟩:=ig s3 1 5 c4 (by omega) (by omega) (by omega) (by omega)
 simp only [a1,b1,c1,d1,Option.bind_some]
 exact⟨_,_,rfl,d4.mono (by omega)⟩
theorem rect_ok (s:Stream) {b:Int} (hs:Ok s b) (hb:b≤800000):∃ r s',kP s=some (r,s')∧Ok s' (b + 10):=by
 unfold kP
 obtain ⟨r,s1,a1,a2⟩:=wo s hs (by omega)
 obtain ⟨c,s2,b1,b2⟩:=ou s1 20 a2 (by omega) (by decide) (by decide)
 simp only [a1,b1,Option.bind_some]
 cases c with
 | false=>exact⟨_,_,rfl,b2.mono (by omega)⟩
 | true =>
  obtain ⟨k,s3,c1,c2,c3,c4⟩:=om s2 3 b2 (by omega) (by decide) (by decide)
  simp only [cond_true,c1,Option.bind_some]
  cases h0:k == 0 with
  | true =>
   obtain ⟨v,s4,d1,d2⟩:=Fz s3 (-100000) 99999 c4 (by omega) (by decide) (by decide) (by decide)
   simp only [cond_true,d1,Option.bind_some]
   exact⟨_,_,rfl,d2.mono (by omega)⟩
  | false =>
   cases h1:k == 1 with
   | true =>
    obtain ⟨v,s4,d1,d2⟩:=Fz s3 1 200000 c4 (by omega) (by decide) (by decide) (by decide)
    obtain ⟨u,s5,e1,e2⟩:=Fz s4 1 5 d2 (by omega) (by decide) (by decide) (by decide)
    simp only [cond_true,cond_false,d1,e1,Option.bind_some]
    exact⟨_,_,rfl,e2.mono (by omega)⟩
   | false =>
    obtain ⟨v,s4,d1,_,d2⟩:=oq s3 [(-100000),99999] c4 (by omega) (by simp) (by simp)
    obtain ⟨u,s5,e1,_,e2⟩:=oq s4 [1,2,200000] d2 (by omega) (by simp) (by simp)
    simp only [cond_false,d1,e1,Option.bind_some]
    exact⟨_,_,rfl,e2.mono (by omega)⟩
end Go.Proofs.YtjhcehhmdmbleaaGreatDoor.Law

open Go Go.Eng
namespace Go.Proofs.YtjhcehhmdmbleaaGreatDoor.Law
set_option linter.unusedVariables false
set_option linter.unusedSimpArgs false
set_option maxRecDepth 100000
theorem vP (s:Stream) (lo hi:Int) {b:Int} (hs:Ok s b) (hb:b≤900000) (h:lo≤hi) (h1 : -1000000000000≤lo) (h2:hi≤1000000000000):∃ r s',bQ s lo hi=some (r,s')∧(-1100000000000≤r∧r≤1100000000000)∧Ok s' (b + 2):=by
 unfold bQ
 obtain ⟨c,s1,a1,a2⟩:=ou s 12 hs (by omega) (by decide) (by decide)
 simp only [a1,Option.bind_some]
 cases c with
 | true =>
  obtain ⟨k,s2,b1,b2,b3⟩:=oq s1 [(w64 (lo - 1)),(w64 (hi + 1)),lo,hi,(-1099511627776),1099511627776] a2 (by omega) (by simp) (by simp)
  rw [dC (n:=lo - 1) (by omega),dC (n:=hi + 1) (by omega)]at b1 b2
  rw [cond_true,dC (n:=lo - 1) (by omega),dC (n:=hi + 1) (by omega),b1,Option.bind_some]
  refine⟨k,s2,rfl,?_,b3.mono (by omega)⟩
  simp only [List.mem_cons,List.not_mem_nil,or_false]at b2
  omega
 | false =>
  obtain ⟨k,s2,b1,b2,b3,b4⟩:=ig s1 lo hi a2 (by omega) h h1 h2
  rw [cond_false,b1,Option.bind_some]
  exact⟨k,s2,rfl,by omega,b4.mono (by omega)⟩
theorem IW (s:Stream) {b:Int} (hs:Ok s b) (hb:b≤500000):∃ l s',jK s 2=some (l,s')∧l.length≤2∧Ok s' (b + 50):=by
 unfold jK
 obtain ⟨k,s1,a1,a2,a3,a4⟩:=ig s 0 2 hs (by omega) (by decide) (by decide) (by decide)
 rw [a1,Option.bind_some]
 have hlr:(List.range k.toNat).length=k.toNat:=by simp
 obtain ⟨t,t1,t2,t3⟩:=Ef (body:=fun k x s=>iH k x s) (s:=(([]:List Rect),s1.L,s1.f_at)) (fun j t=>t.1.length=j∧Ok ⟨t.2.1,t.2.2⟩ (b + 1 + 20 * j)) (xs:=List.range k.toNat) (by rw [hlr]; omega) (fun j x t _ hj ⟨i1,i2⟩=>by
  rw [hlr]at hj
  unfold iH
  obtain ⟨r,s2,c1,c2⟩:=wo _ i2 (by omega)
  obtain ⟨f,s3,d1,d2⟩:=ou s2 60 c2 (by omega) (by decide) (by decide)
  simp only [c1,d1,Option.bind_some]
  cases f with
  | false =>
   simp only [cond_false,Option.bind_some]
   rw [lN _ _ (by simp; omega)]
   exact⟨_,rfl,by simp [i1],d2.mono (by omega)⟩
  | true =>
   obtain ⟨q,s4,e1,e2⟩:=rect_ok s3 d2 (by omega)
   simp only [cond_true,e1,Option.bind_some]
   rw [lN _ _ (by simp; omega)]
   exact⟨_,rfl,by simp [i1],e2.mono (by omega)⟩) ⟨rfl,a4.mono (by omega)⟩
 rw [hlr]at t2 t3
 rw [t1]
 exact⟨t.1,⟨t.2.1,t.2.2⟩,rfl,by omega,t3.mono (by omega)⟩
def ShA (s:ByteArray):Prop:=s.size≤1000
theorem kV {s:ByteArray} (h:Nat.ble s.size 1000=true):ShA s:=Nat.le_of_ble_eq_true h
def txtL:List ByteArray := [⟨#[]⟩,overS,floodS,mallS,⟨#[32,120]⟩,⟨#[97,32,32,98]⟩,⟨#[10]⟩,⟨#[255]⟩]
structure GA (x:Alert):Prop where
 id:ShA x.Id
 sender:ShA x.Sender
 refs:∀ r∈x.Refs,ShA r
 rlen:x.Refs.length≤5
 alen:x.Areas.length≤2
 at_ : -1100000000000≤x.At∧x.At≤1100000000000
 until_ : -1100000000000≤x.Until∧x.Until≤1100000000000
 text:x.Text∈txtL
theorem RightA.ga {x:Alert} (h:RightA x):GA x:=by
 have h1:=h.at_
 have h2:=h.until_
 refine⟨(idL_key _ h.id).2 |> kV,?_,fun r hr => ?_,h.refsLen,h.alen,by omega,by omega,?_⟩
 ·rcases h.sender with e | e <;> rw [e] <;> exact kV rfl
 ·rcases h.refs with hs | hs
  ·exact kV (Ki r (hs.subset hr)).2
  ·rw [hs]at hr; rw [List.mem_singleton.1 hr]; exact kV rfl
 ·unfold txtL
  rcases h.text with e | e | ⟨_,e | e⟩ <;> rw [e] <;> simp
theorem Ch {α:Type} {p:α→Prop} {xs:List α} {i:Nat} {a:α} (h:∀ x∈xs,p x) (ha:p a):∀ x∈xs.set i a,p x:=fun x hx=>by
 rcases List.mem_or_eq_of_mem_set hx with h1 | h1
 ·exact h x h1
 ·rw [h1]; exact ha
theorem lQ {α:Type} {xs:List α} {i:Nat} {a:α} (h:i < xs.length):(xs.set i a)[i]? = some a:=by simp [h]
def GAs (l:List Alert):Prop:=(∀ x∈l,GA x)∧l.length≤6
theorem FO (s:Stream) {b:Int} (hs:Ok s b) (hb:b≤100000):∃ l s',jo s 6=some (l,s')∧GAs l∧Ok s' (b + 400):=by
 obtain ⟨l,s1,a1,a2,a3⟩:=Fq 6 (by decide) s hs (by omega)
 have hl:l.length≤6:=a2.len
 have hg:∀ x∈l,GA x:=fun x hx=>(a2.right x hx).ga
 unfold jo
 rw [a1,Option.bind_some]
 simp only []
 by_cases h0:(l.length:Int) > 0
 ·obtain ⟨f,s2,b1,b2⟩:=ou s1 10 a3 (by omega) (by decide) (by decide)
  rw [decide_eq_true h0,cond_true,b1,Option.bind_some,Option.bind_some]
  simp only []
  cases f with
  | false=>exact⟨l,s2,rfl,⟨hg,hl⟩,b2.mono (by omega)⟩
  | true =>
   rw [cond_true]
   obtain ⟨i,s3,c1,c2,c3,c4⟩:=om s2 (l.length:Int) b2 (by omega) (by omega) (by omega)
   have e0:(⟨s2.L,s2.f_at⟩:Stream)=s2:=rfl
   rw [e0,c1,Option.bind_some]
   simp only []
   rw [Cr (by omega) (by omega),Option.bind_some]
   obtain ⟨k,s4,d1,d2,d3,d4⟩:=om s3 6 c4 (by omega) (by decide) (by decide)
   rw [d1,Option.bind_some]
   simp only []
   have hi:0 + i.toNat < l.length:=by omega
   have hx:l[0 + i.toNat]? = some l[0 + i.toNat]:=List.getElem?_eq_getElem hi
   have hgx:=hg _ (List.getElem_mem hi)
   generalize l[0 + i.toNat]=x at hx hgx
   have two:∀ (y z:Alert) (s:Stream) {c:Int},GA z→Ok s c→c≤b + 400 → ∃ l' s',some ((l.set (0 + i.toNat) y).set (0 + i.toNat) z,(⟨s.L,s.f_at⟩:Stream))=some (l',s')∧GAs l'∧Ok s' (b + 400):=fun y z s c hz hs hc=>by
    refine⟨_,_,rfl,?_,hs.mono hc⟩
    rw [List.set_set]
    exact⟨Ch hg hz,by rw [List.length_set]; exact hl⟩
   have one:∀ (z:Alert) (s:Stream) {c:Int},GA z→Ok s c→c≤b + 400 → ∃ l' s',some (l.set (0 + i.toNat) z,(⟨s.L,s.f_at⟩:Stream))=some (l',s')∧GAs l'∧Ok s' (b + 400):=fun z s c hz hs hc =>
    ⟨_,_,rfl,⟨Ch hg hz,by rw [List.length_set]; exact hl⟩,hs.mono hc⟩
   cases k0:k == 0 with
   | true =>
    rw [cond_true,hx,Option.bind_some]
    obtain ⟨u,s5,e1,e2,e3⟩:=rD s4 [x.Id,(⟨#[]⟩:ByteArray),(⟨#[97,97]⟩:ByteArray)] d4 (by omega) (by simp) (by simp)
    obtain ⟨v,s6,f1,f2,f3⟩:=rD s5 [(⟨#[119,120]⟩:ByteArray),(⟨#[65]⟩:ByteArray)] e3 (by omega) (by simp) (by simp)
    rw [e1,Option.bind_some]
    simp only []
    rw [f1]
    simp only [Option.bind_some]
    rw [lQ hi]
    simp only [Option.bind_some]
    refine two _ _ s6 ⟨?_,?_,hgx.refs,hgx.rlen,hgx.alen,hgx.at_,hgx.until_,hgx.text⟩ f3 (by omega)
    ·simp only [List.mem_cons,List.not_mem_nil,or_false]at e2
     rcases e2 with rfl | rfl | rfl
     ·exact hgx.id
     ·exact kV rfl
     ·exact kV rfl
    ·simp only [List.mem_cons,List.not_mem_nil,or_false]at f2
     rcases f2 with rfl | rfl <;> exact kV rfl
   | false =>
   rw [cond_false]
   cases k1:k == 1 with
   | true =>
    obtain ⟨u,s5,e1,e2,e3⟩:=vP s4 1 3 d4 (by omega) (by decide) (by decide) (by decide)
    rw [cond_true,e1,hx]
    simp only [Option.bind_some]
    exact one _ s5 ⟨hgx.id,hgx.sender,hgx.refs,hgx.rlen,hgx.alen,hgx.at_,hgx.until_,hgx.text⟩ e3 (by omega)
   | false =>
   rw [cond_false]
   cases k2:k == 2 with
   | true =>
    rw [cond_true,hx,Option.bind_some]
    obtain ⟨u,s5,e1,e2,e3,e4⟩:=om s4 5 d4 (by omega) (by decide) (by decide)
    rw [e1,Option.bind_some]
    simp only []
    obtain ⟨y,y1,y2⟩:=Cj (l:=([([]:List ByteArray),([(⟨#[97,98]⟩:ByteArray),(⟨#[97,97]⟩:ByteArray)]:List ByteArray),([x.Id]:List ByteArray),([(⟨#[65]⟩:ByteArray)]:List ByteArray),([(⟨#[97,97]⟩:ByteArray),(⟨#[122,122]⟩:ByteArray)]:List ByteArray)]:List (List ByteArray))) (r:=u) e2 (by simp; omega)
    rw [y1]
    simp only [Option.bind_some]
    have hy:(∀ r∈y,ShA r)∧y.length≤5:=by
     simp only [List.mem_cons,List.not_mem_nil,or_false]at y2
     rcases y2 with rfl | rfl | rfl | rfl | rfl
     ·exact⟨fun r hr=>(by cases hr),by simp⟩
     ·refine⟨fun r hr => ?_,by simp⟩
      simp only [List.mem_cons,List.not_mem_nil,or_false]at hr
      rcases hr with rfl | rfl <;> exact kV rfl
     ·refine⟨fun r hr => ?_,by simp⟩
      rw [List.mem_singleton.1 hr]; exact hgx.id
     ·refine⟨fun r hr => ?_,by simp⟩
      rw [List.mem_singleton.1 hr]; exact kV rfl
     ·refine⟨fun r hr => ?_,by simp⟩
      simp only [List.mem_cons,List.not_mem_nil,or_false]at hr
      rcases hr with rfl | rfl <;> exact kV rfl
    exact one _ s5 ⟨hgx.id,hgx.sender,hy.1,hy.2,hgx.alen,hgx.at_,hgx.until_,hgx.text⟩ e4 (by omega)
   | false =>
   rw [cond_false]
   cases k3:k == 3 with
   | true =>
    obtain ⟨u,s5,e1,e2,e3⟩:=vP s4 0 30 d4 (by omega) (by decide) (by decide) (by decide)
    obtain ⟨v,s6,f1,f2,f3⟩:=vP s5 0 60 e3 (by omega) (by decide) (by decide) (by decide)
    rw [cond_true,e1,Option.bind_some]
    simp only []
    rw [f1,hx]
    simp only [Option.bind_some]
    rw [lQ hi]
    simp only [Option.bind_some]
    exact two _ _ s6 ⟨hgx.id,hgx.sender,hgx.refs,hgx.rlen,hgx.alen,e2,f2,hgx.text⟩ f3 (by omega)
   | false =>
   rw [cond_false]
   cases k4:k == 4 with
   | true =>
    obtain ⟨u,s5,e1,e2,e3⟩:=IW s4 d4 (by omega)
    obtain ⟨v,s6,f1,f2,f3⟩:=vP s5 1 9 e3 (by omega) (by decide) (by decide) (by decide)
    rw [cond_true,e1,Option.bind_some]
    simp only []
    rw [f1,hx]
    simp only [Option.bind_some]
    rw [lQ hi]
    simp only [Option.bind_some]
    exact two _ _ s6 ⟨hgx.id,hgx.sender,hgx.refs,hgx.rlen,e2,hgx.at_,hgx.until_,hgx.text⟩ f3 (by omega)
   | false =>
    obtain ⟨u,s5,e1,e2,e3⟩:=rD s4 [(⟨#[]⟩:ByteArray),(⟨#[32,120]⟩:ByteArray),(⟨#[97,32,32,98]⟩:ByteArray),(⟨#[10]⟩:ByteArray),(⟨#[255]⟩:ByteArray)] d4 (by omega) (by simp) (by simp)
    rw [cond_false,e1,hx]
    simp only [Option.bind_some]
    refine one _ s5 ⟨hgx.id,hgx.sender,hgx.refs,hgx.rlen,hgx.alen,hgx.at_,hgx.until_,?_⟩ e3 (by omega)
    simp only [List.mem_cons,List.not_mem_nil,or_false]at e2
    unfold txtL
    rcases e2 with rfl | rfl | rfl | rfl | rfl <;> simp
 ·rw [decide_eq_false h0,cond_false,Option.bind_some]
  exact⟨l,s1,rfl,⟨hg,hl⟩,a3.mono (by omega)⟩
structure GP (p:Post):Prop where
 player:ShA p.Player
def GPs (l:List Post):Prop:=(∀ x∈l,GP x)∧l.length≤3
theorem IY (s:Stream) {b:Int} (hs:Ok s b) (hb:b≤200000):∃ l s',iL s=some (l,s')∧GPs l∧Ok s' (b + 50):=by
 obtain ⟨l,s1,a1,a2,a3⟩:=FD s hs (by omega)
 have hl:l.length≤3:=a2.len
 have hg:∀ x∈l,GP x:=fun x hx=>⟨by
  have:x.Player∈poL:=a2.sub.subset (List.mem_map.2 ⟨x,hx,rfl⟩)
  simp only [poL,List.mem_cons,List.not_mem_nil,or_false]at this
  rcases this with e | e | e <;> rw [e] <;> exact kV rfl⟩
 unfold iL
 rw [a1,Option.bind_some]
 simp only []
 by_cases h0:(l.length:Int) > 0
 ·obtain ⟨f,s2,b1,b2⟩:=ou s1 15 a3 (by omega) (by decide) (by decide)
  rw [decide_eq_true h0,cond_true,b1,Option.bind_some,Option.bind_some]
  simp only []
  cases f with
  | false=>exact⟨l,s2,rfl,⟨hg,hl⟩,b2.mono (by omega)⟩
  | true =>
   rw [cond_true]
   obtain ⟨i,s3,c1,c2,c3,c4⟩:=om s2 (l.length:Int) b2 (by omega) (by omega) (by omega)
   have e0:(⟨s2.L,s2.f_at⟩:Stream)=s2:=rfl
   rw [e0,c1,Option.bind_some]
   simp only []
   rw [Cr (by omega) (by omega),Option.bind_some]
   have hi:0 + i.toNat < l.length:=by omega
   have hx:l[0 + i.toNat]? = some l[0 + i.toNat]:=List.getElem?_eq_getElem hi
   have hgx:=hg _ (List.getElem_mem hi)
   generalize l[0 + i.toNat]=x at hx hgx
   obtain ⟨u,s5,e1,e2,e3⟩:=rD s3 [x.Player,(⟨#[]⟩:ByteArray),(⟨#[112,97]⟩:ByteArray)] c4 (by omega) (by simp) (by simp)
   obtain ⟨v,s6,f1,f2,f3⟩:=vP s5 (-100000) 100000 e3 (by omega) (by decide) (by decide) (by decide)
   rw [hx,Option.bind_some,e1,Option.bind_some]
   simp only []
   rw [f1]
   simp only [Option.bind_some]
   rw [lQ hi]
   simp only [Option.bind_some]
   refine⟨_,_,rfl,?_,f3.mono (by omega)⟩
   rw [List.set_set]
   refine⟨Ch hg ⟨?_⟩,by rw [List.length_set]; exact hl⟩
   simp only [List.mem_cons,List.not_mem_nil,or_false]at e2
   rcases e2 with rfl | rfl | rfl
   ·exact hgx.player
   ·exact kV rfl
   ·exact kV rfl
 ·rw [decide_eq_false h0,cond_false,Option.bind_some]
  exact⟨l,s1,rfl,⟨hg,hl⟩,a3.mono (by omega)⟩
end Go.Proofs.YtjhcehhmdmbleaaGreatDoor.Law

open Go Go.Eng
namespace Go.Proofs.YtjhcehhmdmbleaaGreatDoor.Law
set_option linter.unusedVariables false
set_option linter.unusedSimpArgs false
theorem BS {σ ρ : Type} {body : σ → Option (Ctl σ ρ)} (I : Nat → σ → Prop) (N : Nat) (hgo : ∀ k s, k < N → I k s → ∃ s', body s = some (.go s') ∧ I (k + 1) s') (hbrk : ∀ s, I N s → body s = some (.brk s)) {s : σ} (h0 : I 0 s) : ∃ s', ic s body = some (.go s') ∧ I N s' := by
  have key : ∀ (n k : Nat) (s : σ), k + n = N → I k s → ∃ s', iterN body (n + 1) s = some (.go s') ∧ I N s' := by
    intro n
    induction n with
    | zero => intro k s hk hI
              have e : k = N := by omega
              subst e
              exact ⟨s, by simp only [iterN, hbrk s hI, Option.bind_some], hI⟩
    | succ n ih => intro k s hk hI
                   obtain ⟨s', e, hI'⟩ := hgo k s (by omega) hI
                   obtain ⟨r, er, hr⟩ := ih (k + 1) s' (by omega) hI'
                   refine ⟨r, ?_, hr⟩
                   rw [iterN, e, Option.bind_some]; exact er
  obtain ⟨s', e, hI⟩ := key N 0 s (by omega) h0
  exact ⟨s', iV e, hI⟩
def fK (f : Int → ByteArray) (T : Int) : Int → List Slot_ → Prop
  | F, [] => F = T
  | F, x :: r => x.Time.From = F ∧ F < x.Time.To ∧ x.Time.To ≤ T ∧ (∀ t, F ≤ t → t < x.Time.To → f t = x.Entry) ∧ (∀ y, r.head? = some y → y.Entry ≠ x.Entry) ∧ fK f T x.Time.To r
theorem fK.uniq {f : Int → ByteArray} {T : Int} : ∀ {a b : List Slot_} {F : Int}, fK f T F a → fK f T F b → a = b
  | [], [], _, _, _ => rfl
  | [], y :: b, F, h, k => by unfold fK at h k; omega
  | x :: a, [], F, h, k => by unfold fK at h k; omega
  | x :: a, y :: b, F, h, k => by
    unfold fK at h k
    obtain ⟨h1, h2, h3, h4, h5, h6⟩ := h
    obtain ⟨k1, k2, k3, k4, k5, k6⟩ := k
    have he : x.Entry = y.Entry := (h4 F (Int.le_refl _) h2).symm.trans (k4 F (Int.le_refl _) k2)
    have ht : x.Time.To = y.Time.To := by
      rcases Int.lt_trichotomy x.Time.To y.Time.To with q | q | q
      · cases a with
        | nil => unfold fK at h6; omega
        | cons z a =>
          unfold fK at h6
          have e1 := h6.2.2.2.1 x.Time.To (Int.le_refl _) h6.2.1
          have e2 := k4 x.Time.To (by omega) q
          exact absurd (e1.symm.trans (e2.trans he.symm)) (h5 z rfl)
      · exact q
      · cases b with
        | nil => unfold fK at k6; omega
        | cons z b =>
          unfold fK at k6
          have e1 := k6.2.2.2.1 y.Time.To (Int.le_refl _) k6.2.1
          have e2 := h4 y.Time.To (by omega) q
          exact absurd (e1.symm.trans (e2.trans he)) (k5 z rfl)
    have hx : x = y := by
      obtain ⟨⟨xf, xt⟩, xe⟩ := x
      obtain ⟨⟨yf, yt⟩, ye⟩ := y
      simp only at h1 k1 he ht
      rw [h1, k1, he, ht]
    rw [ht] at h6
    rw [hx, fK.uniq h6 k6]
def r9 (id : ByteArray) (F T : Int) : List Slot_ → List Slot_
  | [] => [⟨⟨F, T⟩, id⟩]
  | [x] => if x.Entry = id then [⟨⟨x.Time.From, T⟩, x.Entry⟩] else [x, ⟨⟨F, T⟩, id⟩]
  | x :: y :: r => x :: r9 id F T (y :: r)
theorem Je (id : ByteArray) (F T : Int) : ∀ (y : Slot_) (r : List Slot_), ∃ z, (r9 id F T (y :: r)).head? = some z ∧ z.Entry = y.Entry
  | y, [] => by
    unfold r9
    split
    · exact ⟨_, rfl, rfl⟩
    · exact ⟨_, rfl, rfl⟩
  | y, z :: r => ⟨y, rfl, rfl⟩
theorem fK.add {f : Int → ByteArray} {id : ByteArray} {F T : Int} (hT : F < T) (hf : ∀ t, F ≤ t → t < T → f t = id) : ∀ (out : List Slot_) (F0 : Int), fK f F F0 out → fK f T F0 (r9 id F T out)
  | [], F0, h => by
    unfold fK at h
    subst h
    unfold r9 fK
    exact ⟨rfl, hT, Int.le_refl _, hf, fun y hy => (by cases hy), (by unfold fK; rfl)⟩
  | [x], F0, h => by
    unfold fK at h
    obtain ⟨h1, h2, h3, h4, h5, h6⟩ := h
    unfold fK at h6
    unfold r9
    by_cases he : x.Entry = id
    · rw [if_pos he]
      unfold fK
      refine ⟨h1, (by show F0 < T; omega), Int.le_refl _, fun t t1 t2 => ?_, fun y hy => (by cases hy), (by unfold fK; rfl)⟩
      by_cases ht : t < F
      · exact h4 t t1 (by omega)
      · exact (hf t (by omega) t2).trans he.symm
    · rw [if_neg he]
      unfold fK
      refine ⟨h1, h2, by omega, h4, fun y hy => ?_, ?_⟩
      · rw [← Option.some.inj hy]; exact fun e => he e.symm
      · unfold fK
        exact ⟨h6.symm, (by show x.Time.To < T; omega), Int.le_refl _, fun t t1 t2 => hf t (by omega) t2, fun y hy => (by cases hy), (by unfold fK; rfl)⟩
  | x :: y :: r, F0, h => by
    unfold fK at h
    obtain ⟨h1, h2, h3, h4, h5, h6⟩ := h
    have ih := fK.add hT hf (y :: r) _ h6
    unfold r9
    unfold fK
    refine ⟨h1, h2, by omega, h4, fun z hz => ?_, ih⟩
    obtain ⟨z', e1, e2⟩ := Je id F T y r
    rw [e1] at hz
    rw [← Option.some.inj hz, e2]
    exact h5 y rfl
theorem DU (id : ByteArray) (F T : Int) : ∀ (out : List Slot_) (n : Nat) (x : Slot_), out.length = n + 1 → out[n]? = some x → x.Entry = id → r9 id F T out = out.set n ⟨⟨x.Time.From, T⟩, x.Entry⟩
  | [], n, x, h, _, _ => by simp at h
  | [y], 0, x, _, hx, he => by
    simp only [List.getElem?_cons_zero, Option.some.injEq] at hx
    subst hx
    unfold r9
    rw [if_pos he]; rfl
  | [y], n + 1, x, h, _, _ => by simp at h
  | y :: z :: r, 0, x, h, _, _ => by simp at h
  | y :: z :: r, n + 1, x, h, hx, he => by
    unfold r9
    rw [DU id F T (z :: r) n x (by simpa using h) (by simpa using hx) he]; rfl
theorem Fg (id : ByteArray) (F T : Int) : ∀ (out : List Slot_), (∀ (n : Nat) (x : Slot_), out.length = n + 1 → out[n]? = some x → x.Entry ≠ id) → r9 id F T out = out ++ [⟨⟨F, T⟩, id⟩]
  | [], _ => rfl
  | [y], h => by
    unfold r9
    rw [if_neg (h 0 y rfl rfl)]; rfl
  | y :: z :: r, h => by
    unfold r9
    rw [Fg id F T (z :: r) (fun n x h1 h2 => h (n + 1) x (by simp only [List.length_cons] at *; omega) (by simpa using h2))]; rfl
theorem zU (id : ByteArray) (F T : Int) : ∀ (out : List Slot_), (r9 id F T out).length ≤ out.length + 1
  | [] => by simp [r9]
  | [y] => by unfold r9; split <;> simp
  | y :: z :: r => by
    have := zU id F T (z :: r)
    unfold r9
    simp only [List.length_cons] at *; omega
theorem JU {E : List Int} (hE : E.Pairwise (· < ·)) {i : Nat} {a b : Int} (ha : E[i]? = some a) (hb : E[i + 1]? = some b) {x : Int} (hx : x ∈ E) : x ≤ a ∨ b ≤ x := by
  obtain ⟨j, hj, rfl⟩ := List.getElem_of_mem hx
  obtain ⟨h1, e1⟩ := List.getElem?_eq_some_iff.1 ha
  obtain ⟨h2, e2⟩ := List.getElem?_eq_some_iff.1 hb
  have hp := List.pairwise_iff_getElem.1 hE
  by_cases hji : j < i
  · left; have := hp j i hj h1 hji; omega
  · by_cases hji2 : j = i
    · subst hji2; left; omega
    · by_cases hj3 : j = i + 1
      · subst hj3; right; omega
      · right; have := hp (i + 1) j h2 hj (by omega); omega
theorem BU {E : List Int} (hE : E.Pairwise (· < ·)) {i : Nat} {a b : Int} (ha : E[i]? = some a) (hb : E[i + 1]? = some b) : a < b := by
  obtain ⟨h1, e1⟩ := List.getElem?_eq_some_iff.1 ha
  obtain ⟨h2, e2⟩ := List.getElem?_eq_some_iff.1 hb
  have := List.pairwise_iff_getElem.1 hE i (i + 1) h1 h2 (by omega)
  omega
theorem BJ {E : List Int} (hE : E.Pairwise (· < ·)) {F T : Int} (hF : F ∈ E) (hT : T ∈ E) (hin : ∀ x ∈ E, F ≤ x ∧ x ≤ T) : E[0]? = some F ∧ E[E.length - 1]? = some T := by
  have hp := List.pairwise_iff_getElem.1 hE
  obtain ⟨i, hi, ei⟩ := List.getElem_of_mem hF
  obtain ⟨j, hj, ej⟩ := List.getElem_of_mem hT
  constructor
  · rw [List.getElem?_eq_getElem (by omega)]
    by_cases h0 : i = 0
    · subst h0; rw [ei]
    · have h1 := hp 0 i (by omega) hi (by omega)
      have h2 := (hin E[0] (List.getElem_mem _)).1
      omega
  · rw [List.getElem?_eq_getElem (by omega)]
    by_cases h0 : j = E.length - 1
    · subst h0; rw [ej]
    · have h1 := hp j (E.length - 1) hj (by omega) (by omega)
      have h2 := (hin E[E.length - 1] (List.getElem_mem _)).2
      omega
theorem Ig {α : Type} {R : α → α → Prop} (has : ∀ a b, R a b → ¬ R b a) {a b : List α} (h : a.Perm b) (ha : a.Pairwise R) (hb : b.Pairwise R) : a = b :=
  List.Perm.eq_of_pairwise (fun x y _ _ h1 h2 => absurd h2 (has x y h1)) ha hb h
end Go.Proofs.YtjhcehhmdmbleaaGreatDoor.Law

open Go Go.Eng
namespace Go.Proofs.YtjhcehhmdmbleaaGreatDoor.Law
set_option linter.unusedVariables false
set_option linter.unusedSimpArgs false
def I7 {α:Type} (r:α→α→Bool) (x:α):List α→List α
 | [] => [x]
 | y::l=>bif r x y then x::y::l else y::I7 r x l
def JM {α:Type} (r:α→α→Bool):List α→List α
 | [] => []
 | x::l=>I7 r x (JM r l)
theorem xN {α:Type} (r:α→α→Bool) (x:α):∀ l,(I7 r x l).Perm (x::l)
 | [] => .refl _
 | y::l=>by
  unfold I7
  cases r x y with
  | true=>exact .refl _
  | false=>exact ((xN r x l).cons y).trans (List.Perm.swap x y l)
theorem uu {α:Type} (r:α→α→Bool):∀ l,(JM r l).Perm l
 | [] => .refl _
 | x::l=>(xN r x _).trans ((uu r l).cons x)
theorem yn {α:Type} {r:α→α→Bool} (htr:∀ a b c,r a b=true→r b c=true→r a c=true) {x:α}:∀ {l:List α},(∀ y∈l,r x y=true∨r y x=true)→l.Pairwise (fun a b=>r a b=true)→(I7 r x l).Pairwise (fun a b=>r a b=true)
 | [],_,_=>List.pairwise_singleton _ _
 | y::l,h,hp=>by
  obtain ⟨p1,p2⟩:=List.pairwise_cons.1 hp
  unfold I7
  cases hxy:r x y with
  | true =>
   refine List.pairwise_cons.2 ⟨fun z hz => ?_,hp⟩
   rcases List.mem_cons.1 hz with rfl | hz
   ·exact hxy
   ·exact htr _ _ _ hxy (p1 z hz)
  | false =>
   refine List.pairwise_cons.2 ⟨fun z hz => ?_,yn htr (fun z hz=>h z (List.mem_cons_of_mem _ hz)) p2⟩
   rcases List.mem_cons.1 ((xN r x l).mem_iff.1 hz)with rfl | hz
   ·exact (h y List.mem_cons_self).resolve_left (by rw [hxy]; exact Bool.false_ne_true)
   ·exact p1 z hz
theorem yl {α:Type} {r:α→α→Bool} (htr:∀ a b c,r a b=true→r b c=true→r a c=true):∀ {l:List α},l.Pairwise (fun a b=>r a b=true∨r b a=true)→(JM r l).Pairwise (fun a b=>r a b=true)
 | [],_ => .nil
 | x::l,h=>by
  obtain ⟨p1,p2⟩:=List.pairwise_cons.1 h
  exact yn htr (fun y hy=>p1 y ((uu r l).mem_iff.1 hy)) (yl htr p2)
theorem srtG_is {α:Type} {r:α→α→Bool} (hir:∀ a,r a a=false) (htr:∀ a b c,r a b=true→r b c=true→r a c=true) {l s:List α} (ht:l.Pairwise (fun a b=>r a b=true∨r b a=true)) (hp:s.Perm l) (hs:s.Pairwise (fun a b=>r b a=false)):s=JM r l:=by
 have hsy:∀ {x y:α},(r x y=true∨r y x=true)→(r y x=true∨r x y=true):=fun h=>h.symm
 have h2:s.Pairwise (fun a b=>r a b=true∨r b a=true):=(hp.pairwise_iff (fun h=>h.symm)).2 ht
 have h3:s.Pairwise (fun a b=>r a b=true):=by
  refine List.Pairwise.imp₂ (fun a b h k => ?_) hs h2
  rcases k with k | k
  ·exact k
  ·rw [h]at k; cases k
 exact Ig (R:=fun a b=>r a b=true) (fun a b h k=>by have:=htr a b a h k; rw [hir]at this; cases this) (hp.trans (uu r l).symm) h3 (yl htr ht)
end Go.Proofs.YtjhcehhmdmbleaaGreatDoor.Law

open Go Go.Eng
namespace Go.Proofs.YtjhcehhmdmbleaaGreatDoor.Law
set_option linter.unusedVariables false
set_option linter.unusedSimpArgs false
instance (a b:Alert):Decidable (lt a.Id b.Id):=by unfold lt; exact inferInstance
instance (a b:Alert):Decidable (befA a b):=by unfold befA; exact inferInstance
instance (v:ByteArray) (l:List ByteArray):Decidable (v∈l):=decidable_of_iff (l.any (fun x=>decide (v=x))=true) (by simp)
def og (a o:Alert) (r:ByteArray):Bool:=decide (o.Id=r) && (decide (o.Sender=a.Sender) && decide (befA o a))
def xz (a z:Alert):Bool:=decide (z.Id∈a.Refs) && (decide (z.Sender=a.Sender) && decide (befA z a))
def endV (l:List Alert) (z:Alert):Int:=l.foldl (fun m a=>bif xz a z then min m a.At else m) z.Until
def onB (l:List Alert) (t:Int) (z:Alert):Bool:=decide (z.Kind≠3) && (decide (z.At≤t) && decide (t < endV l z))
def qp (a b:Alert):Bool:=decide (b.Weight < a.Weight) || (decide (a.Weight=b.Weight) && (decide (b.At < a.At) || (decide (a.At=b.At) && decide (lt a.Id b.Id))))
theorem Af (a:Alert):qp a a=false:=by
 unfold qp
 rw [← Bool.not_eq_true]
 simp only [Bool.or_eq_true,Bool.and_eq_true,decide_eq_true_eq,not_or,not_and]
 exact⟨Int.lt_irrefl _,fun _=>⟨Int.lt_irrefl _,fun _=>sP _⟩⟩
theorem tQ {a b:Alert}:qp a b=true↔b.Weight < a.Weight∨a.Weight=b.Weight∧(b.At < a.At∨a.At=b.At∧lt a.Id b.Id):=by
 unfold qp
 simp only [Bool.or_eq_true,Bool.and_eq_true,decide_eq_true_eq]
theorem u7 (a b c:Alert) (h:qp a b=true) (k:qp b c=true):qp a c=true:=by
 rw [tQ]at *
 rcases h with h | ⟨h,h2⟩ <;> rcases k with k | ⟨k,k2⟩
 ·exact .inl (by omega)
 ·exact .inl (by omega)
 ·exact .inl (by omega)
 ·refine .inr ⟨by omega,?_⟩
  rcases h2 with h2 | ⟨h2,h3⟩ <;> rcases k2 with k2 | ⟨k2,k3⟩
  ·exact .inl (by omega)
  ·exact .inl (by omega)
  ·exact .inl (by omega)
  ·exact .inr ⟨by omega,lt_trans h3 k3⟩
theorem JP {a b:Alert} (h:a.Id≠b.Id):qp a b=true∨qp b a=true:=by
 rw [tQ,tQ]
 rcases Int.lt_trichotomy a.Weight b.Weight with q | q | q
 ·exact .inr (.inl q)
 ·rcases Int.lt_trichotomy a.At b.At with w | w | w
  ·exact .inr (.inr ⟨q.symm,.inl w⟩)
  ·rcases xB a.Id b.Id with e | e | e
   ·exact .inl (.inr ⟨q,.inr ⟨w,e⟩⟩)
   ·exact absurd e h
   ·exact .inr (.inr ⟨q.symm,.inr ⟨w.symm,e⟩⟩)
  ·exact .inl (.inr ⟨q,.inl w⟩)
 ·exact .inl (.inl q)
theorem IQ {l:List Alert} (h:(l.map (·.Id)).Nodup):l.Pairwise (fun a b=>qp a b=true∨qp b a=true):=by
 have h2:l.Pairwise (fun a b=>a.Id≠b.Id):=by
  have:=h
  unfold List.Nodup at this
  rwa [List.pairwise_map]at this
 exact h2.imp JP
def mP (l:List Alert) (px py t:Int):List Alert:=l.filter fun z=>onB l t z && hasB z.Areas px py
def nK (l:List Alert) (px py t:Int):List Alert:=JM qp (mP l px py t)
def mY (l:List Alert) (px py t:Int):ByteArray:=match nK l px py t with | []=>⟨#[]⟩ | z::_=>z.Id
theorem DT {l:List Alert} (h:(l.map (·.Id)).Nodup) (px py t:Int):((mP l px py t).map (·.Id)).Nodup:=h.sublist ((List.filter_sublist (l:=l)).map _)
theorem Hr {l:List Alert} (h:(l.map (·.Id)).Nodup) (px py t:Int) {s:List Alert} (hp:s.Perm (mP l px py t)) (hs:s.Pairwise (fun a b=>qp b a=false)):s=nK l px py t :=
 srtG_is Af u7 (IQ (DT h px py t)) hp hs
theorem Jg {l:List Alert} {px py e t:Int} (h:∀ z∈l,(z.At≤e∨t < z.At)∧(endV l z≤e∨t < endV l z)) (het:e≤t):mY l px py t=mY l px py e:=by
 have:mP l px py t=mP l px py e:=by
  unfold mP
  refine List.filter_congr (fun z hz => ?_)
  have h1:onB l t z=onB l e z:=by
   obtain ⟨h1,h2⟩:=h z hz
   unfold onB
   have e1:decide (z.At≤t)=decide (z.At≤e):=by rw [decide_eq_decide]; omega
   have e2:decide (t < endV l z)=decide (e < endV l z):=by rw [decide_eq_decide]; omega
   rw [e1,e2]
  rw [h1]
 unfold mY nK
 rw [this]
theorem sU (z:Alert):∀ (l:List Alert) (m:Int),l.foldl (fun m a=>bif xz a z then min m a.At else m) m=m ∨ ∃ a∈l,l.foldl (fun m a=>bif xz a z then min m a.At else m) m=a.At
 | [],m => .inl rfl
 | a::l,m=>by
  show l.foldl (fun m a=>bif xz a z then min m a.At else m) (bif xz a z then min m a.At else m)=m ∨ ∃ a'∈a::l,l.foldl (fun m a=>bif xz a z then min m a.At else m) (bif xz a z then min m a.At else m)=a'.At
  rcases sU z l (bif xz a z then min m a.At else m)with h | ⟨b,hb,h⟩
  ·cases hc:xz a z with
   | false=>rw [hc,cond_false]at h; exact .inl h
   | true =>
    rw [hc,cond_true]at h
    rw [cond_true,h]
    by_cases hm:m≤a.At
    ·left; omega
    ·right; exact⟨a,List.mem_cons_self,by omega⟩
  ·exact .inr ⟨b,List.mem_cons_of_mem _ hb,h⟩
theorem Gz (l:List Alert) (z:Alert):endV l z=z.Until ∨ ∃ a∈l,endV l z=a.At:=sU z l _
end Go.Proofs.YtjhcehhmdmbleaaGreatDoor.Law

open Go Go.Eng
namespace Go.Proofs.YtjhcehhmdmbleaaGreatDoor.Law
set_option linter.unusedVariables false
set_option linter.unusedSimpArgs false
structure CA (l:List Alert):Prop where
 ids:(l.map (·.Id)).Nodup
 len:l.length≤12
 refs:∀ x∈l,x.Refs.length≤1000
 alen:∀ x∈l,x.Areas.length≤1000
 areas:∀ x∈l,∀ r∈x.Areas,Fine r
 at_:∀ x∈l,0≤x.At∧x.At≤1000000000000
 until_:∀ x∈l,0≤x.Until∧x.Until≤2000000000000
theorem EZ {l:List Alert} (h:(l.map (·.Id)).Nodup) {i j:Nat} {a b:Alert} (ha:l[i]? = some a) (hb:l[j]? = some b) (e:a.Id=b.Id):i=j:=by
 obtain ⟨h1,e1⟩:=List.getElem?_eq_some_iff.1 ha
 obtain ⟨h2,e2⟩:=List.getElem?_eq_some_iff.1 hb
 have hp:=List.pairwise_iff_getElem.1 h
 rcases Nat.lt_trichotomy i j with q | q | q
 ·exact absurd (by rw [List.getElem_map,List.getElem_map,e1,e2]; exact e) (hp i j (by simpa using h1) (by simpa using h2) q)
 ·exact q
 ·exact absurd (by rw [List.getElem_map,List.getElem_map,e1,e2]; exact e.symm) (hp j i (by simpa using h2) (by simpa using h1) q)
theorem BZ (l:List Alert) (a z:Alert):endV (l ++ [a]) z=bif xz a z then min (endV l z) a.At else endV l z:=by
 unfold endV
 rw [List.foldl_append]; rfl
def DV (a:Alert) (j:Nat) (z:Alert):Bool:=decide (z.Id∈a.Refs.take j) && (decide (z.Sender=a.Sender) && decide (befA z a))
def qZ (l:List Alert) (k:Nat) (a:Alert) (j:Nat) (z:Alert):Int:=bif DV a j z then min (endV (l.take k) z) a.At else endV (l.take k) z
theorem endJ_0 (l:List Alert) (k:Nat) (a z:Alert):qZ l k a 0 z=endV (l.take k) z:=by
 unfold qZ DV
 rw [decide_eq_false (by simp)]; rfl
theorem JA {l:List Alert} {k:Nat} {a:Alert} (h:l[k]? = some a) (z:Alert):qZ l k a a.Refs.length z=endV (l.take (k + 1)) z:=by
 have et:l.take (k + 1)=l.take k ++ [a]:=by rw [List.take_add_one,h]; rfl
 rw [et,BZ]
 unfold qZ DV xz
 rw [List.take_length]
theorem wS {a o:Alert} {r:ByteArray}:og a o r=true↔o.Id=r∧o.Sender=a.Sender∧befA o a:=by
 unfold og
 simp only [Bool.and_eq_true,decide_eq_true_eq]
theorem Fb {a z:Alert} {j:Nat}:DV a j z=true↔z.Id∈a.Refs.take j∧z.Sender=a.Sender∧befA z a:=by
 unfold DV
 simp only [Bool.and_eq_true,decide_eq_true_eq]
theorem Ik {a z:Alert} {j:Nat} {r:ByteArray} (hr:a.Refs[j]? = some r):DV a (j + 1) z=(DV a j z || og a z r):=by
 have et:a.Refs.take (j + 1)=a.Refs.take j ++ [r]:=by rw [List.take_add_one,hr]; rfl
 rw [Bool.eq_iff_iff,Bool.or_eq_true,Fb,Fb,wS,et,List.mem_append,List.mem_singleton]
 constructor
 ·rintro ⟨h | h,k⟩
  ·exact .inl ⟨h,k⟩
  ·exact .inr ⟨h,k⟩
 ·rintro (⟨h,k⟩ | ⟨h,k⟩)
  ·exact⟨.inl h,k⟩
  ·exact⟨.inr h,k⟩
theorem xS {l:List Alert} {k j:Nat} {a z:Alert} {r:ByteArray} (hr:a.Refs[j]? = some r):qZ l k a (j + 1) z=bif og a z r then min (qZ l k a j z) a.At else qZ l k a j z:=by
 unfold qZ
 rw [Ik hr]
 cases DV a j z <;> cases og a z r <;> simp only [Bool.or_true,Bool.or_false,Bool.false_or,Bool.true_or,cond_true,cond_false]
 omega
theorem map_none {l:List Alert} {k j:Nat} {a:Alert} {r:ByteArray} (hr:a.Refs[j]? = some r) (h:l.any (fun o=>og a o r)=false):l.map (qZ l k a (j + 1))=l.map (qZ l k a j):=by
 refine List.map_congr_left (fun z hz => ?_)
 have:og a z r=false:=by
  rw [← Bool.not_eq_true]; intro e
  have:l.any (fun o=>og a o r)=true:=List.any_eq_true.2 ⟨z,hz,e⟩
  rw [h]at this; cases this
 rw [xS hr,this,cond_false]
theorem map_one {l:List Alert} (hid:(l.map (·.Id)).Nodup) {k j i:Nat} {a z:Alert} {r:ByteArray} (hr:a.Refs[j]? = some r) (hz:l[i]? = some z) (h:og a z r=true):l.map (qZ l k a (j + 1))=(l.map (qZ l k a j)).set i (min (qZ l k a j z) a.At):=by
 refine List.ext_getElem? (fun n => ?_)
 rw [List.getElem?_map,List.getElem?_set]
 by_cases hin:i=n
 ·subst hin
  obtain ⟨h1,_⟩:=List.getElem?_eq_some_iff.1 hz
  rw [if_pos rfl,if_pos (by simpa using h1),hz,Option.map_some,xS hr,h,cond_true]
 ·rw [if_neg hin,List.getElem?_map]
  cases hn:l[n]? with
  | none=>rfl
  | some y =>
   rw [Option.map_some,Option.map_some,xS hr]
   have:og a y r=false:=by
    rw [← Bool.not_eq_true]; intro e
    exact hin (EZ hid hz hn ((wS.1 h).1.trans (wS.1 e).1.symm))
   rw [this,cond_false]
theorem wN {α:Type} {f:α→Option Bool} {p:α→Bool} {B:Nat→α→Unit→Option (Ctl Unit Int)} (hB:∀ k x,B k x ()=(f x).bind fun r=>bif r then some (.ret (k:Int))else some (.go ())):∀ (xs:List α) (k:Nat),(∀ x∈xs,f x=some (p x)) →
  (xs.any p=false∧forR B xs k ()=some (.go ())) ∨ ∃ (j:Nat) (x:α),xs[j]? = some x∧p x=true∧(∀ (i:Nat) (y:α),i < j→xs[i]? = some y→p y=false)∧forR B xs k ()=some (.ret ((k + j:Nat):Int))∧xs.any p=true
 | [],k,h => .inl ⟨rfl,rfl⟩
 | x::xs,k,h=>by
  have hx:=h x (by simp)
  cases hp:p x with
  | true =>
   refine .inr ⟨0,x,rfl,hp,fun i y hi=>absurd hi (Nat.not_lt_zero _),?_,by rw [List.any_cons,hp]; rfl⟩
   rw [forR,hB,hx,hp]; rfl
  | false =>
   have e1:forR B (x::xs) k ()=forR B xs (k + 1) ():=by rw [forR,hB,hx,hp]; rfl
   rw [e1,List.any_cons,hp,Bool.false_or]
   rcases wN hB xs (k + 1) (fun y hy=>h y (by simp [hy]))with⟨h1,h2⟩ | ⟨j,y,h1,h2,h3,h4,h5⟩
   ·exact .inl ⟨h1,h2⟩
   ·refine .inr ⟨j + 1,y,h1,h2,fun i z hi hz => ?_,by rw [h4]; congr 3; omega,h5⟩
    cases i with
    | zero=>rw [List.getElem?_cons_zero,Option.some.injEq]at hz; rw [← hz]; exact hp
    | succ i=>exact h3 i z (by omega) (by simpa using hz)
theorem J2 (a b:Int):zl a b=min a b:=by unfold zl; split <;> omega
theorem yc (a b:Alert):∃ n,ik a b=some n∧(n < 0↔befA a b):=by
 refine⟨_,by simp only [ik,qY,ul,or2_eq,Option.bind_some]; rfl,?_⟩
 rw [uh,zJ,xu,y9]; rfl
theorem J8 (a o:Alert) (r:ByteArray):jH o r a=some (og a o r):=by
 obtain ⟨n,n1,n2⟩:=yc o a
 unfold jH og
 rw [uw,uw,n1]
 have:decide (n < 0)=decide (befA o a):=by rw [decide_eq_decide]; exact n2
 cases decide (o.Id=r) <;> cases decide (o.Sender=a.Sender) <;> simp [this]
theorem find_eq {l:List Alert} (hl:l.length≤1000) (a:Alert) (r:ByteArray):(mU l a r=some (-1)∧l.any (fun o=>og a o r)=false) ∨ ∃ (j:Nat) (z:Alert),mU l a r=some (j:Int)∧l[j]? = some z∧og a z r=true:=by
 unfold mU bg
 rw [iI (by omega)]
 rcases wN (f:=fun x0=>jH x0 r a) (p:=fun o=>og a o r) (B:=fun k x s=>bz (fun x0=>jH x0 r a) k x s) (fun k x=>rfl) l 0 (fun x _=>J8 a x r)with⟨h1,h2⟩ | ⟨j,x,h1,h2,_,h4,_⟩
 ·rw [h2]; exact .inl ⟨rfl,h1⟩
 ·rw [h4]; exact .inr ⟨j,x,by simp only [Option.bind_some,thenC,Nat.zero_add],h1,h2⟩
theorem I4 {l:List Alert} (h:CA l) {k j:Nat} {a:Alert} {r:ByteArray} (hr:a.Refs[j]? = some r):jX l a j r (l.map (qZ l k a j))=some (.go (l.map (qZ l k a (j + 1)))):=by
 have hl:=h.len
 unfold jX
 rcases find_eq (Nat.le_trans hl (by decide)) a r with⟨h1,h2⟩ | ⟨i,z,h1,h2,h3⟩
 ·rw [h1,Option.bind_some,decide_eq_false (by decide),cond_false,Option.bind_some,map_none hr h2]
 ·obtain ⟨hi,_⟩:=List.getElem?_eq_some_iff.1 h2
  have e1:(l.map (qZ l k a j))[(0 + ((i:Int)).toNat)]? = some (qZ l k a j z):=by
   rw [show 0 + ((i:Int)).toNat=i by omega,List.getElem?_map,h2]; rfl
  have hin:inR (i:Int) (l.map (qZ l k a j))=some ():=Cr (by omega) (by rw [List.length_map]; omega)
  rw [h1,Option.bind_some,decide_eq_true (by omega),cond_true,hin,e1]
  simp only [Option.bind_some]
  rw [map_one h.ids hr h2 h3,J2,show 0 + ((i:Int)).toNat=i by omega]
theorem ends_eq {l:List Alert} (h:CA l):pg l=some (l.map (endV l)):=by
 have hl:=h.len
 unfold pg
 obtain ⟨t,t1,t2⟩:=kW (body:=fun k x s=>lD k x s) (fun k s=>s=(l.take k).map (·.Until)) (xs:=l) (s:=([]:List Int)) (by omega) (fun k x s hx hs=>by
  have et:l.take (k + 1)=l.take k ++ [x]:=by rw [List.take_add_one,hx]; rfl
  have hk:(l.take k).length≤l.length:=by rw [List.length_take]; exact Nat.min_le_right _ _
  unfold lD
  rw [hs,lN _ _ (by simp only [List.length_map,List.length_cons,List.length_nil]; omega)]
  exact⟨_,rfl,by rw [et,List.map_append]; rfl⟩) rfl
 rw [t1,t2,List.take_length]
 simp only [Option.bind_some,thenC]
 obtain ⟨u,u1,u2⟩:=kW (body:=fun k x s=>lu l k x s) (fun k s=>s=l.map (endV (l.take k))) (xs:=l) (s:=l.map (·.Until)) (by omega) (fun k x s hx hs=>by
  have hrl:=h.refs x (List.mem_of_getElem? hx)
  obtain ⟨v,v1,v2⟩:=kW (body:=fun j r s=>jX l x j r s) (fun j s=>s=l.map (qZ l k x j)) (xs:=x.Refs) (s:=s) (by omega) (fun j r s hr hs=>by
   rw [hs]
   exact⟨_,I4 h hr,rfl⟩) (by rw [hs]; exact List.map_congr_left (fun z _=>(endJ_0 l k x z).symm))
  unfold lu
  rw [v1]
  exact⟨v,rfl,by rw [v2]; exact List.map_congr_left (fun z _=>JA hx z)⟩) rfl
 rw [u1,u2,List.take_length]
 rfl
theorem isOn_eq (l:List Alert) (a:Alert) (t:Int):o7 a (endV l a) t=some (onB l t a):=by
 unfold o7 onB
 have e:(a.Kind != 3)=decide (a.Kind≠3):=by rw [Bool.eq_iff_iff]; simp
 rw [e]
 cases decide (a.Kind≠3) <;> cases decide (a.At≤t) <;> rfl
end Go.Proofs.YtjhcehhmdmbleaaGreatDoor.Law

