/-
  THE PLAIN LAW (part 3).
-/
import Derived.Test.YtekmkepojbhafaeGreatDoorPl2
import Derived.Test.YtekmkepojbhafaeGreatDoorDefs
open Go Go.Eng
namespace Go.Proofs.YtekmkepojbhafaeGreatDoor.Law
set_option linter.unusedVariables false
set_option linter.unusedSimpArgs false
theorem GD (s:Stream) {b:Int} (hs:Ok s b) (hb:b<=900000):∃r s',cB s=some (r,s')/\Fine r/\(-2<=r.X/\r.X<=8 /\ -2<=r.Y/\r.Y<=8/\r.W<=5/\r.H<=5)/\Ok s' (b+4):=by
 unfold cB
 obtain ⟨X,q1,c1,c2,c3,c4⟩:=iK s (-2) 8 hs (by omega) (by decide) (by decide) (by decide)
 obtain ⟨Y,q2,d1,d2,d3,d4⟩:=iK q1 (-2) 8 c4 (by omega) (by decide) (by decide) (by decide)
 obtain ⟨U,q3,e1,e2,e3,e4⟩:=iK q2 1 5 d4 (by omega) (by decide) (by decide) (by decide)
 obtain ⟨V,q4,f1,f2,f3,f4⟩:=iK q3 1 5 e4 (by omega) (by decide) (by decide) (by decide)
 simp only [c1,d1,e1,f1,ob_]
 refine⟨_,_,rfl,?_,by simp only [];omega,f4.mono (by omega)⟩
 unfold Fine
 simp only [];omega
def E9 {σ ρ:Type} (s:σ) (body:σ->Option (Ctl σ ρ)):Option (Ctl σ ρ):=iterN body 300 s
def Le {α:Type} (a b:Option α):Prop:=∀r,a=some r->b=some r
theorem Le.refl {α:Type} (a:Option α):Le a a:=λ_ h=>h
theorem Le.bind {α β:Type} {a b:Option α} {f g:α->Option β} (h:Le a b) (k:∀x,Le (f x) (g x)):Le (a.bind f) (b.bind g):=λr e=>by
 obtain ⟨x,h1,h2⟩:=Option.bind_eq_some_iff.1 e
 rw [h x h1];exact k x r h2
theorem Le.cond {α:Type} {a b c d:Option α} {t:Bool} (h:Le a c) (k:Le b d):Le (bif t then a else b) (bif t then c else d):=by
 cases t
 ·exact k
 ·exact h
theorem Le.thenC {σ ρ τ:Type} {o:Ctl σ ρ} {f f':σ->Option τ} {g g':ρ->Option τ} (h:∀x,Le (f x) (f' x)) (k:∀x,Le (g x) (g' x)):Le (Go.Eng.thenC o f g) (Go.Eng.thenC o f' g'):=by
 cases o
 ·exact h _
 ·exact Le.refl _
 ·exact k _
theorem Le.forR {α σ ρ:Type} {b b':Nat->α->σ->Option (Ctl σ ρ)} (h:∀k x s,Le (b k x s) (b' k x s)):∀(xs:List α) (k:Nat) (s:σ),Le (Go.Eng.forR b xs k s) (Go.Eng.forR b' xs k s)
 | [],k,s=>Le.refl _
 | x::xs,k,s=>Le.bind (h k x s) (λc=>by
   cases c with
   | go s'=>exact Le.forR h xs _ _
   | brk s'=>exact Le.refl _
   | ret r=>exact Le.refl _)
theorem Le.forL {α σ ρ:Type} {xs:List α} {s:σ} {b b':Nat->α->σ->Option (Ctl σ ρ)} (h:∀k x s,Le (b k x s) (b' k x s)):Le (Go.Eng.forL xs s b) (Go.Eng.forL xs s b'):=by
 unfold Go.Eng.forL
 split
 ·exact Le.forR h xs 0 s
 ·exact Le.refl _
theorem Le.iterN {σ ρ:Type} {b b':σ->Option (Ctl σ ρ)} (h:∀s,Le (b s) (b' s)):∀(n:Nat) (s:σ),Le (Go.Eng.iterN b n s) (Go.Eng.iterN b' n s)
 | 0,s=>Le.refl _
 | n+1,s=>Le.bind (h s) (λc=>by
   cases c with
   | go s'=>exact Le.iterN h n s'
   | brk s'=>exact Le.refl _
   | ret r=>exact Le.refl _)
theorem Le.loop {σ ρ:Type} {s:σ} {b b':σ->Option (Ctl σ ρ)} (h:∀s,Le (b s) (b' s)):Le (E9 s b) (iT s b'):=λr e=>lu (Le.iterN h _ _ r e)
set_option maxRecDepth 100000
def jr (s_1:ByteArray) (c_2:Int):Option (ByteArray) :=
 (E9 s_1 (λs=>fT c_2 s)).bind λo_11=>thenC o_11 (λs_8=>some s_8) (λ_=>none)
theorem p8 (s_1:ByteArray) (c_2:Int):Le (jr s_1 c_2) (strings_trimRightByte s_1 c_2):=by
 unfold jr strings_trimRightByte
 repeat' (with_reducible first | exact Le.refl _ | refine Le.loop (λ_ => ?_) | refine Le.forL (λ_ _ _ => ?_) | refine Le.thenC (λ_ => ?_) (λ_ => ?_) | refine Le.cond ?_ ?_ | refine Le.bind ?_ (λ_ => ?_))
def jK (s_1:ByteArray) (c_2:Int):Option (ByteArray) :=
 (E9 s_1 (λs=>gy c_2 s)).bind λo_11=>thenC o_11 (λs_8=>some s_8) (λ_=>none)
theorem qz (s_1:ByteArray) (c_2:Int):Le (jK s_1 c_2) (strings_trimLeftByte s_1 c_2):=by
 unfold jK strings_trimLeftByte
 repeat' (with_reducible first | exact Le.refl _ | refine Le.loop (λ_ => ?_) | refine Le.forL (λ_ _ _ => ?_) | refine Le.thenC (λ_ => ?_) (λ_ => ?_) | refine Le.cond ?_ ?_ | refine Le.bind ?_ (λ_ => ?_))
def mY (s_1:ByteArray) (cutset_2:ByteArray):Option (ByteArray) :=
 (bif (sEq s_1 (⟨#[]⟩:ByteArray))then some true else some (sEq cutset_2 (⟨#[]⟩:ByteArray))).bind λv_3=>bif v_3 then some s_1 else (bif ((cutset_2.size:Int)==1)then (tQ cutset_2 0).bind λb_10=>some (decide ((b_10.toNat:Int)<128))else some false).bind λv_7=>bif v_7 then (tQ cutset_2 0).bind λb_13=>(jr s_1 (b_13.toNat:Int)).bind λr_15=>(tQ cutset_2 0).bind λb_17=>(jK r_15 (b_17.toNat:Int)).bind λr_19=>some r_19 else none
theorem su (s_1:ByteArray) (cutset_2:ByteArray):Le (mY s_1 cutset_2) (kL s_1 cutset_2):=by
 unfold mY kL
 repeat' (with_reducible first | exact Le.refl _ | exact p8 _ _ | exact qz _ _ | refine Le.loop (λ_ => ?_) | refine Le.forL (λ_ _ _ => ?_) | refine Le.thenC (λ_ => ?_) (λ_ => ?_) | refine Le.cond ?_ ?_ | refine Le.bind ?_ (λ_ => ?_))
def eH (s_1:ByteArray):Option (Bool) :=
 (E9 0 (λs=>mF s_1 s)).bind λo_10=>thenC o_10 (λs_7=>((eF s_1).bind λr_23=>bif r_23 then (mY s_1 (⟨#[32]⟩:ByteArray)).bind λr_26=>bif (sEq r_26 s_1)then (strings_Contains s_1 (⟨#[32,32]⟩:ByteArray)).bind λr_29=>some (!r_29)else some false else some false).bind λv_21=>some v_21) (λr=>some r)
theorem eG (s_1:ByteArray):Le (eH s_1) (kC s_1):=by
 unfold eH kC
 repeat' (with_reducible first | exact Le.refl _ | exact su _ _ | refine Le.loop (λ_ => ?_) | refine Le.forL (λ_ _ _ => ?_) | refine Le.thenC (λ_ => ?_) (λ_ => ?_) | refine Le.cond ?_ ?_ | refine Le.bind ?_ (λ_ => ?_))
theorem yK (s:ByteArray):Le (eH s) (kC s):=eG s
def idL:List ByteArray:=[⟨#[97,97]⟩,⟨#[97,98]⟩,⟨#[97,99]⟩,⟨#[97,100]⟩,⟨#[97,101]⟩,⟨#[97,102]⟩]
def refL:List ByteArray:=[⟨#[97,97]⟩,⟨#[97,98]⟩,⟨#[97,99]⟩,⟨#[97,100]⟩,⟨#[122,122]⟩]
def zyS:ByteArray:=⟨#[122,121]⟩
def wxS:ByteArray:=⟨#[119,120]⟩
def fireS:ByteArray:=⟨#[102,105,114,101]⟩
def floodS:ByteArray:=⟨#[102,108,111,111,100]⟩
def mallS:ByteArray:=⟨#[102,105,114,101,32,105,110,32,116,104,101,32,109,97,108,108]⟩
def overS:ByteArray:=⟨#[111,118,101,114]⟩
def SmallR (r:Rect):Prop:=Fine r/\(-2<=r.X/\r.X<=8 /\ -2<=r.Y/\r.Y<=8/\r.W<=5/\r.H<=5)
structure RightA (x:Alert):Prop where
 id:x.Id∈idL
 sender:x.Sender=wxS\/x.Sender=fireS
 kind:1<=x.Kind/\x.Kind<=3
 refs:x.Refs.Sublist refL\/x.Refs=[zyS]
 noId:∀r∈x.Refs,r≠x.Id
 new:x.Kind=1↔x.Refs=[]
 at_:0<=x.At/\x.At<=30
 until_:x.At+1<=x.Until/\x.Until<=x.At+50
 weight:1<=x.Weight/\x.Weight<=9
 areas:∀r∈x.Areas,SmallR r
 alen:x.Areas.length<=2
 cancel:x.Kind=3↔x.Areas=[]
 text:x.Text=floodS\/x.Text=mallS\/x.Kind=3/\(x.Text=⟨#[]⟩\/x.Text=overS)
theorem idL_key:∀k∈idL,lQ k=true/\Nat.ble k.size 1000=true:=by
 intro k hk
 simp only [idL,List.mem_cons,List.not_mem_nil,or_false]at hk
 rcases hk with rfl|rfl|rfl|rfl|rfl|rfl <;> exact⟨by kernel_rfl,rfl⟩
theorem JD:∀k∈idL,fO k 0=97:=by
 intro k hk
 simp only [idL,List.mem_cons,List.not_mem_nil,or_false]at hk
 rcases hk with rfl|rfl|rfl|rfl|rfl|rfl <;> rfl
theorem Ju:∀k∈refL,lQ k=true/\Nat.ble k.size 1000=true:=by
 intro k hk
 simp only [refL,List.mem_cons,List.not_mem_nil,or_false]at hk
 rcases hk with rfl|rfl|rfl|rfl|rfl <;> exact⟨by kernel_rfl,rfl⟩
theorem JH:idL.Pairwise lt:=by
 unfold idL
 simp only [List.pairwise_cons,List.mem_cons,List.not_mem_nil,or_false,forall_eq_or_imp,forall_eq]
 refine⟨⟨lC (by kernel_rfl),lC (by kernel_rfl),lC (by kernel_rfl),lC (by kernel_rfl),lC (by kernel_rfl)⟩,⟨lC (by kernel_rfl),lC (by kernel_rfl),lC (by kernel_rfl),lC (by kernel_rfl)⟩,⟨lC (by kernel_rfl),lC (by kernel_rfl),lC (by kernel_rfl)⟩,⟨lC (by kernel_rfl),lC (by kernel_rfl)⟩,lC (by kernel_rfl),λa h=>(by cases h),List.Pairwise.nil⟩
theorem RightA.refsLen {x:Alert} (h:RightA x):x.Refs.length<=5:=by
 rcases h.refs with hs|hs
 ·exact hs.length_le
 ·rw [hs];decide
theorem Jr (id:ByteArray) (s:Stream) {b:Int} (hs:Ok s b) (hb:b<=800000) :
  ∃l s',forL ([(⟨#[97,97]⟩:ByteArray),(⟨#[97,98]⟩:ByteArray),(⟨#[97,99]⟩:ByteArray),(⟨#[97,100]⟩:ByteArray),(⟨#[122,122]⟩:ByteArray)]:List ByteArray) (([]:List ByteArray),s.L,s.f_at) (λk x s=>bU id k x s)=some (.go (l,s'.L,s'.f_at))/\l.Sublist refL/\(∀r∈l,r≠id)/\Ok s' (b+10):=by
 obtain ⟨t,t1,t2,t3,t4⟩:=q8 (body:=λk x s=>bU id k x s) (xs:=refL) (s:=(([]:List ByteArray),s.L,s.f_at)) (λk t=>t.1.Sublist (refL.take k)/\(∀r∈t.1,r≠id)/\Ok ⟨t.2.1,t.2.2⟩ (b+k)) (by decide) (λk x t hx ⟨i1,i2,i3⟩=>by
  have hk:k<refL.length:=(List.getElem?_eq_some_iff.1 hx).1
  have hk5:k<5:=hk
  have et:refL.take (k+1)=refL.take k++[x]:=by rw [List.take_add_one,hx];rfl
  have hlen:t.1.length<=5:=Nat.le_trans i1.length_le (by rw [List.length_take];exact Nat.min_le_right _ _)
  unfold bU
  rw [DJ]
  by_cases he:x=id
  ·rw [decide_eq_true he]
   exact⟨_,rfl,by rw [et];exact i1.trans (List.sublist_append_left _ _),i2,i3.mono (by omega)⟩
  ·obtain ⟨f,s1,c1,c2⟩:=uq _ 3 i3 (by omega) (by decide) (by decide)
   rw [decide_eq_false he]
   simp only [Bool.not_false,cond_true,c1,ob_]
   cases f with
   | true =>
    rw [cond_true,jM _ _ (by simp;omega)]
    refine⟨_,rfl,by rw [et];exact i1.append (List.Sublist.refl _),λr hr => ?_,c2.mono (by omega)⟩
    rcases List.mem_append.1 hr with hr|hr
    ·exact i2 r hr
    ·rw [List.mem_singleton.1 hr];exact he
   | false=>exact⟨_,rfl,by rw [et];exact i1.trans (List.sublist_append_left _ _),i2,c2.mono (by omega)⟩) ⟨List.Sublist.refl _,λr hr=>(by cases hr),hs.mono (by omega)⟩
 exact⟨t.1,⟨t.2.1,t.2.2⟩,t1,by simpa using t2,t3,t4.mono (by show b+((5:Nat):Int)<=b+10;omega)⟩
theorem Ip (n:Int) (hn:1<=n/\n<=2) (s:Stream) {b:Int} (hs:Ok s b) (hb:b<=800000) :
  ∃l s',forL (List.range n.toNat) (([]:List Rect),s.L,s.f_at) (λk x s=>bW k x s)=some (.go (l,s'.L,s'.f_at))/\(l.length:Int)=n/\(∀r∈l,SmallR r)/\Ok s' (b+10):=by
 obtain ⟨t,t1,t2,t3,t4⟩:=EE (body:=λk x s=>bW k x s) (s:=(([]:List Rect),s.L,s.f_at)) (xs:=List.range n.toNat) (λj t=>t.1.length=j/\(∀r∈t.1,SmallR r)/\Ok ⟨t.2.1,t.2.2⟩ (b+4*j)) (by simp;omega) (λj x t hx hj ⟨i1,i2,i3⟩=>by
  simp only [List.length_range]at hj
  obtain ⟨r,s1,c1,c2,c3,c4⟩:=GD _ i3 (by omega)
  unfold bW
  rw [c1,ob_,jM _ _ (by simp;omega)]
  refine⟨_,rfl,by simp [i1],λq hq => ?_,c4.mono (by omega)⟩
  rcases List.mem_append.1 hq with hq|hq
  ·exact i2 q hq
  ·rw [List.mem_singleton.1 hq];exact⟨c2,c3⟩) ⟨rfl,λr hr=>(by cases hr),hs.mono (by omega)⟩
 rw [List.length_range]at t2 t4
 exact⟨t.1,⟨t.2.1,t.2.2⟩,t1,by omega,t3,t4.mono (by omega)⟩
theorem IL (id:ByteArray) (hid:id∈idL) (k:Nat) (l0:List Alert) (hl:l0.length<=100) (s:Stream) {b:Int} (hs:Ok s b) (hb:b<=700000) :
  ∃x s',dG k id (l0,s.L,s.f_at)=some (.go (l0++[x],s'.L,s'.f_at))/\RightA x/\x.Id=id/\Ok s' (b+40):=by
 obtain ⟨sd,s1,a1,a2,a3⟩:=rM s [(⟨#[119,120]⟩:ByteArray),(⟨#[119,120]⟩:ByteArray),(⟨#[102,105,114,101]⟩:ByteArray)] hs (by omega) (by simp) (by simp)
 obtain ⟨kd,s2,b1,b2,b3⟩:=pU s1 [1,1,2,2,3] a3 (by omega) (by simp) (by simp)
 obtain ⟨n5,s3,c1,c2,c3,c4⟩:=iK s2 0 6 b3 (by omega) (by decide) (by decide) (by decide)
 obtain ⟨wt,s4,d1,d2,d3⟩:=pU s3 [1,5,5,9] c4 (by omega) (by simp) (by simp)
 obtain ⟨tx,s5,e1,e2,e3⟩:=rM s4 [(⟨#[102,108,111,111,100]⟩:ByteArray),(⟨#[102,105,114,101,32,105,110,32,116,104,101,32,109,97,108,108]⟩:ByteArray)] d3 (by omega) (by simp) (by simp)
 obtain ⟨un,s6,f1,f2,f3⟩:=pU s5 [1,10,20,50] e3 (by omega) (by simp) (by simp)
 have hsd:sd=wxS\/sd=fireS:=by
  simp only [List.mem_cons,List.not_mem_nil,or_false]at a2
  rcases a2 with h|h|h
  ·exact .inl h
  ·exact .inl h
  ·exact .inr h
 have hkd:kd=1\/kd=2\/kd=3:=by
  simp only [List.mem_cons,List.not_mem_nil,or_false]at b2;omega
 have hwt:1<=wt/\wt<=9:=by
  simp only [List.mem_cons,List.not_mem_nil,or_false]at d2;omega
 have hun:1<=un/\un<=50:=by
  simp only [List.mem_cons,List.not_mem_nil,or_false]at f2;omega
 have htx:tx=floodS\/tx=mallS:=by
  simp only [List.mem_cons,List.not_mem_nil,or_false]at e2;exact e2
 obtain ⟨rf,s7,g1,g2,g3,g4,g5⟩:∃rf s7,(bif kd != 1 then (forL ([(⟨#[97,97]⟩:ByteArray),(⟨#[97,98]⟩:ByteArray),(⟨#[97,99]⟩:ByteArray),(⟨#[97,100]⟩:ByteArray),(⟨#[122,122]⟩:ByteArray)]:List ByteArray) (([]:List ByteArray),s6.L,s6.f_at) (λk x s=>bU id k x s)).bind λo_56=>thenC o_56 (λs_50=>bif ((s_50.1.length:Int)==0)then some (s_50.2.1,s_50.2.2,([(⟨#[122,121]⟩:ByteArray)]:List ByteArray))else some (s_50.2.1,s_50.2.2,s_50.1)) (λ_=>none)else some (s6.L,s6.f_at,([]:List ByteArray)))=some (Stream.L s7,Stream.f_at s7,rf)/\(rf.Sublist refL\/rf=[zyS])/\(∀r∈rf,r≠id)/\(kd=1↔rf=[])/\Ok s7 (b+20):=by
  by_cases h1:kd=1
  ·rw [h1]
   exact⟨[],s6,rfl,.inl (List.nil_sublist _),λr hr=>(by cases hr),⟨λ_=>rfl,λ_=>rfl⟩,f3.mono (by omega)⟩
  ·have:(kd != 1)=true:=by simpa using h1
   rw [this,cond_true]
   obtain ⟨l,s7,g1,g2,g3,g4⟩:=Jr id s6 f3 (by omega)
   rw [g1]
   simp only [ob_,thenC]
   by_cases hl0:l=[]
   ·subst hl0
    refine⟨[zyS],s7,rfl,.inr rfl,λr hr e => ?_,⟨λh=>absurd h h1,λh=>(by cases h)⟩,g4.mono (by omega)⟩
    rw [List.mem_singleton.1 hr]at e
    rw [<- e]at hid
    have:=JD _ hid
    exact absurd this (by decide)
   ·have:((l.length:Int)==0)=false:=by
     rw [beq_eq_false_iff_ne]
     intro e;exact hl0 (List.eq_nil_of_length_eq_zero (by omega))
    rw [this,cond_false]
    exact⟨l,s7,rfl,.inl g2,g3,⟨λh=>absurd h h1,λh=>absurd h hl0⟩,g4.mono (by omega)⟩
 obtain ⟨ar,tx2,s8,j1,j2,j3,j4,j5,j6⟩:∃ar tx2 s8,(bif kd==3 then (dz (⟨Stream.L s7,Stream.f_at s7⟩:Stream) ([(⟨#[]⟩:ByteArray),(⟨#[111,118,101,114]⟩:ByteArray)]:List ByteArray)).bind λr_79=>some (([]:List Rect),r_79.2.L,r_79.2.f_at,r_79.1)else (bP (⟨Stream.L s7,Stream.f_at s7⟩:Stream) 1 2).bind λr_82=>(forL (List.range (r_82.1).toNat) (([]:List Rect),r_82.2.L,r_82.2.f_at) (λk x s=>bW k x s)).bind λo_95=>thenC o_95 (λs_90=>some (s_90.1,s_90.2.1,s_90.2.2,tx)) (λ_=>none))=some (ar,Stream.L s8,Stream.f_at s8,tx2)/\(∀r∈ar,SmallR r)/\ar.length<=2/\(kd=3↔ar=[])/\(tx2=floodS\/tx2=mallS\/kd=3/\(tx2=⟨#[]⟩\/tx2=overS))/\Ok s8 (b+40):=by
  have e7:(⟨Stream.L s7,Stream.f_at s7⟩:Stream)=s7:=rfl
  rw [e7]
  by_cases h3:kd=3
  ·have:(kd==3)=true:=by simpa using h3
   rw [this,cond_true]
   obtain ⟨t2,s8,q1,q2,q3⟩:=rM s7 [(⟨#[]⟩:ByteArray),(⟨#[111,118,101,114]⟩:ByteArray)] g5 (by omega) (by simp) (by simp)
   rw [q1]
   simp only [List.mem_cons,List.not_mem_nil,or_false]at q2
   exact⟨[],t2,s8,rfl,λr hr=>(by cases hr),by decide,⟨λ_=>rfl,λ_=>h3⟩,.inr (.inr ⟨h3,q2⟩),q3.mono (by omega)⟩
  ·have:(kd==3)=false:=by simpa using h3
   rw [this,cond_false]
   obtain ⟨m,s8,q1,q2,q3,q4⟩:=iK s7 1 2 g5 (by omega) (by decide) (by decide) (by decide)
   obtain ⟨ar,s9,r1,r2,r3,r4⟩:=Ip m ⟨q2,q3⟩ s8 q4 (by omega)
   rw [q1,ob_,r1]
   refine⟨ar,tx,s9,rfl,r3,by omega,⟨λh=>absurd h h3,λh => ?_⟩,htx.imp (λh=>h) .inl,r4.mono (by omega)⟩
   rw [h]at r2;simp at r2;omega
 refine⟨⟨id,sd,kd,rf,n5*5,n5*5+un,wt,ar,tx2⟩,s8,?_,⟨hid,hsd,by simp only [];omega,g2,g3,g4,by simp only [];omega,by simp only [];omega,hwt,j2,j3,j4,j5⟩,rfl,j6⟩
 unfold dG
 have e0:(⟨s.L,s.f_at⟩:Stream)=s:=rfl
 simp only [e0,a1,b1,c1,d1,e1,f1,g1,j1,ob_]
 rw [jM _ _ (by simp;omega),gW (n:=n5*5) (by omega),gW (n:=n5*5+un) (by omega)];rfl
def befA (a b:Alert):Prop:=a.At<b.At\/a.At=b.At/\lt a.Id b.Id
open Classical in
theorem K3 {a b:Alert} (ha:RightA a) (hb:RightA b):jG a b=some (bif a.At != b.At then a.At-b.At else bif sLt a.Id b.Id then -1 else 1):=by
 have h1:=ha.at_
 have h2:=hb.at_
 unfold jG
 cases a.At != b.At with
 | true=>rw [cond_true,cond_true,gW (by omega)]
 | false =>
  rw [cond_false,cond_false]
  cases sLt a.Id b.Id <;> rfl
theorem oC {a b:Alert}:(bif a.At != b.At then a.At-b.At else bif sLt a.Id b.Id then (-1:Int)else 1)<0↔befA a b:=by
 unfold befA
 by_cases h:a.At=b.At
 ·have:(a.At != b.At)=false:=by simpa using h
  rw [this,cond_false]
  cases hl:sLt a.Id b.Id with
  | true =>
   rw [cond_true]
   exact⟨λ_ => .inr ⟨h,(wy _ _).1 hl⟩,λ_=>by decide⟩
  | false =>
   rw [cond_false]
   refine⟨λh=>absurd h (by decide),λhb => ?_⟩
   rcases hb with hb|hb
   ·omega
   ·rw [(wy _ _).2 hb.2]at hl;cases hl
 ·have:(a.At != b.At)=true:=by simpa using h
  rw [this,cond_true]
  refine⟨λk => .inl (by omega),λhb => ?_⟩
  rcases hb with hb|hb
  ·omega
  ·exact absurd hb.1 h
theorem ER (a:Alert):¬befA a a:=λh=>by
 rcases h with h|h
 ·omega
 ·exact xq _ h.2
theorem FW {a b c:Alert} (h:befA a b) (k:befA b c):befA a c:=by
 rcases h with h|h <;> rcases k with k|k
 ·exact .inl (by omega)
 ·exact .inl (by omega)
 ·exact .inl (by omega)
 ·exact .inr ⟨h.1.trans k.1,lt_trans h.2 k.2⟩
theorem J7 (a b:Alert) (hid:a.Id≠b.Id):befA a b\/befA b a:=by
 rcases Int.lt_trichotomy a.At b.At with h|h|h
 ·exact .inl (.inl h)
 ·rcases zz a.Id b.Id with k|k|k
  ·exact .inl (.inr ⟨h,k⟩)
  ·exact absurd k hid
  ·exact .inr (.inr ⟨h.symm,k⟩)
 ·exact .inr (.inl h)
theorem FE {a b c:Alert} (h:¬befA a b) (k:¬befA b c):¬befA a c:=λhc=>by
 unfold befA at *
 simp only [not_or,not_and]at h k
 rcases hc with hc|hc
 ·rcases Int.lt_trichotomy a.At b.At with q|q|q
  ·exact h.1 q
  ·rcases Int.lt_trichotomy b.At c.At with r|r|r
   ·exact k.1 r
   ·omega
   ·omega
  ·have:=k.1;omega
 ·have h1:=h.1
  have k1:=k.1
  have e1:a.At=b.At:=by omega
  have e2:b.At=c.At:=by omega
  have h2:=h.2 e1
  have k2:=k.2 e2
  rcases zz a.Id b.Id with q|q|q
  ·exact h2 q
  ·rw [q]at hc;exact k2 hc.2
  ·rcases zz b.Id c.Id with r|r|r
   ·exact k2 r
   ·rw [<- r]at hc;exact h2 hc.2
   ·exact xq _ (lt_trans (lt_trans hc.2 r) q)
structure RAlerts (l:List Alert) (n:Nat):Prop where
 right:∀x∈l,RightA x
 rise:l.Pairwise befA
 ids:(l.map (·.Id)).Nodup
 len:l.length<=n
theorem CR (most:Int) (hm:0<=most/\most<=6) (s:Stream) {b:Int} (hs:Ok s b) (hb:b<=600000):∃l s',eu s most=some (l,s')/\(RAlerts l most.toNat/\∀x∈l,x.Id∈idL.take most.toNat)/\Ok s' (b+250):=by
 obtain ⟨n,s1,a1,a2,a3,a4⟩:=iK s 0 most hs (by omega) (by omega) (by decide) (by omega)
 have hsub:CU idL 0 n=some (idL.take n.toNat):=by
  unfold CU
  have h6:idL.length=6:=rfl
  rw [if_pos (by rw [h6];omega)]
  simp
 obtain ⟨t,t1,t2,t3,t4⟩:=q8 (body:=λk x s=>dG k x s) (xs:=idL.take n.toNat) (s:=(([]:List Alert),s1.L,s1.f_at)) (λk t=>t.1.map (·.Id)=idL.take k/\(∀x∈t.1,RightA x)/\Ok ⟨t.2.1,t.2.2⟩ (b+1+40*k)) (by rw [List.length_take];show min n.toNat 6<=_;omega) (λk x t hx ⟨i1,i2,i3⟩=>by
  have hk:k<(idL.take n.toNat).length:=(List.getElem?_eq_some_iff.1 hx).1
  rw [List.length_take]at hk
  have hk6:k<6:=by have:idL.length=6:=rfl;omega
  have hx':idL[k]? = some x:=by rw [List.getElem?_take_of_lt (by omega)]at hx;exact hx
  have hlen:t.1.length<=6:=by
   have:=congrArg List.length i1
   rw [List.length_map,List.length_take]at this
   omega
  obtain ⟨y,s2,c1,c2,c3,c4⟩:=IL x (List.mem_of_getElem? hx') k t.1 (by omega) ⟨t.2.1,t.2.2⟩ i3 (by omega)
  refine⟨_,c1,?_,λz hz => ?_,c4.mono (by omega)⟩
  ·rw [List.map_append,i1,List.take_add_one,hx']
   simp [c3]
  ·rcases List.mem_append.1 hz with hz|hz
   ·exact i2 z hz
   ·rw [List.mem_singleton.1 hz];exact c2) ⟨rfl,λx hx=>(by cases hx),a4.mono (by omega)⟩
 have hnd:(t.1.map (·.Id)).Nodup:=by
  rw [t2]
  exact (JH.sublist (List.take_sublist _ _)).imp (λh e=>by rw [e]at h;exact xq _ h)
 have hlen:t.1.length<=most.toNat:=by
  have:=congrArg List.length t2
  rw [List.length_map,List.length_take,List.length_take]at this
  omega
 obtain ⟨r,r1,r2,r3⟩:=sort12 (cmp:=jG) (S:=bE) (λa b=>bif a.At != b.At then a.At-b.At else bif sLt a.Id b.Id then -1 else 1) (λ_=>rfl) (xs:=t.1) (by omega) (λx hx y hy=>K3 (t3 x hx) (t3 y hy))
  (λx y h k=>ER x (FW (oC.1 h) (oC.1 k))) (λx y z h k q=>FE (λe=>h (oC.2 e)) (λe=>k (oC.2 e)) (oC.1 q))
 have hrl:r.length=t.1.length:=r2.length_eq
 have hids:(r.map (·.Id)).Nodup:=(r2.map (·.Id)).nodup_iff.2 hnd
 have hin:∀x∈r,x.Id∈idL.take most.toNat:=λx hx=>by
  have h1:x.Id∈t.1.map (·.Id):=List.mem_map.2 ⟨x,r2.mem_iff.1 hx,rfl⟩
  rw [t2]at h1
  have h2:(idL.take n.toNat).length<=most.toNat:=by rw [List.length_take];omega
  have h3:idL.take (idL.take n.toNat).length=(idL.take most.toNat).take (idL.take n.toNat).length:=by rw [List.take_take,Nat.min_eq_left h2]
  rw [h3]at h1
  exact List.mem_of_mem_take h1
 refine⟨r,⟨t.2.1,t.2.2⟩,?_,⟨⟨λx hx=>t3 x (r2.mem_iff.1 hx),?_,hids,by omega⟩,hin⟩,t4.mono (by
  have:(idL.take n.toNat).length<=6:=by rw [List.length_take];exact Nat.min_le_right _ _
  omega)⟩
 ·unfold eu
  have e1:CU ([(⟨#[97,97]⟩:ByteArray),(⟨#[97,98]⟩:ByteArray),(⟨#[97,99]⟩:ByteArray),(⟨#[97,100]⟩:ByteArray),(⟨#[97,101]⟩:ByteArray),(⟨#[97,102]⟩:ByteArray)]:List ByteArray) 0 n=some (idL.take n.toNat):=hsub
  simp only [a1,ob_,e1,t1,thenC]
  have e2:bE t.1=some r:=r1
  have e3:kF r t.1=some ():=by unfold kF;rw [if_pos hrl]
  rw [e2,ob_,e3];rfl
 ·refine List.pairwise_iff_getElem.2 (λi j hi hj hij => ?_)
  have h1:=List.pairwise_iff_getElem.1 r3 i j hi hj hij
  have h2:r[i].Id≠r[j].Id:=λe=>by
   have:=List.pairwise_iff_getElem.1 hids i j (by simpa using hi) (by simpa using hj) hij
   rw [List.getElem_map,List.getElem_map]at this
   exact this e
  rcases J7 r[i] r[j] h2 with h|h
  ·exact h
  ·exact absurd (oC.2 h) h1
theorem DX (most:Int) (hm:0<=most/\most<=6) (s:Stream) {b:Int} (hs:Ok s b) (hb:b<=600000):∃l s',eu s most=some (l,s')/\RAlerts l most.toNat/\Ok s' (b+250):=by
 obtain ⟨l,s',h1,h2,h3⟩:=CR most hm s hs hb
 exact⟨l,s',h1,h2.1,h3⟩
theorem eqS_eq {a b:ByteArray} (h:(a==b)=true):a=b:=by
 obtain ⟨x⟩:=a
 obtain ⟨y⟩:=b
 have h1:(x==y)=true:=h
 rw [eq_of_beq h1]
structure RightPo (p:Post):Prop where
 key:kit_IsKey p.Player=some true
 x : -1000<=p.X/\p.X<=1000
 y : -1000<=p.Y/\p.Y<=1000
def poL:List ByteArray:=[⟨#[112,97]⟩,⟨#[112,98]⟩,⟨#[112,99]⟩]
structure RPosts (l:List Post):Prop where
 right:∀p∈l,RightPo p
 sub:(l.map (·.Player)).Sublist poL
theorem RPosts.len {l:List Post} (h:RPosts l):l.length<=3:=by
 have h1:=h.sub.length_le
 rw [List.length_map]at h1
 exact h1
theorem vZ (s:Stream) {b:Int} (hs:Ok s b) (hb:b<=900000):∃r s',cB s=some (r,s')/\Ok s' (b+4):=by
 unfold cB
 obtain ⟨x,s1,a1,a2,a3,a4⟩:=iK s (-2) 8 hs (by omega) (by omega) (by omega) (by omega)
 obtain ⟨y,s2,b1,b2,b3,b4⟩:=iK s1 (-2) 8 a4 (by omega) (by omega) (by omega) (by omega)
 obtain ⟨w,s3,c1,c2,c3,c4⟩:=iK s2 1 5 b4 (by omega) (by omega) (by omega) (by omega)
 obtain ⟨h,s4,d1,d2,d3,d4⟩:=iK s3 1 5 c4 (by omega) (by omega) (by omega) (by omega)
 simp only [a1,b1,c1,d1,ob_]
 exact⟨_,_,rfl,d4.mono (by omega)⟩
theorem rect_ok (s:Stream) {b:Int} (hs:Ok s b) (hb:b<=800000):∃r s',ku s=some (r,s')/\Ok s' (b+10):=by
 unfold ku
 obtain ⟨r,s1,a1,a2⟩:=vZ s hs (by omega)
 obtain ⟨c,s2,b1,b2⟩:=uq s1 20 a2 (by omega) (by decide) (by decide)
 simp only [a1,b1,ob_]
 cases c with
 | false=>exact⟨_,_,rfl,b2.mono (by omega)⟩
 | true =>
  obtain ⟨k,s3,c1,c2,c3,c4⟩:=pV s2 3 b2 (by omega) (by decide) (by decide)
  simp only [cond_true,c1,ob_]
  cases h0:k==0 with
  | true =>
   obtain ⟨v,s4,d1,d2⟩:=Gt s3 (-100000) 99999 c4 (by omega) (by decide) (by decide) (by decide)
   simp only [cond_true,d1,ob_]
   exact⟨_,_,rfl,d2.mono (by omega)⟩
  | false =>
   cases h1:k==1 with
   | true =>
    obtain ⟨v,s4,d1,d2⟩:=Gt s3 1 200000 c4 (by omega) (by decide) (by decide) (by decide)
    obtain ⟨u,s5,e1,e2⟩:=Gt s4 1 5 d2 (by omega) (by decide) (by decide) (by decide)
    simp only [cond_true,cond_false,d1,e1,ob_]
    exact⟨_,_,rfl,e2.mono (by omega)⟩
   | false =>
    obtain ⟨v,s4,d1,_,d2⟩:=pU s3 [(-100000),99999] c4 (by omega) (by simp) (by simp)
    obtain ⟨u,s5,e1,_,e2⟩:=pU s4 [1,2,200000] d2 (by omega) (by simp) (by simp)
    simp only [cond_false,d1,e1,ob_]
    exact⟨_,_,rfl,e2.mono (by omega)⟩
theorem CL (s:Stream) (lo hi:Int) {b:Int} (hs:Ok s b) (hb:b<=900000) (h:lo<=hi) (h1 : -1000000000000<=lo) (h2:hi<=1000000000000):∃r s',dE s lo hi=some (r,s')/\(-1100000000000<=r/\r<=1100000000000)/\Ok s' (b+2):=by
 unfold dE
 obtain ⟨c,s1,a1,a2⟩:=uq s 12 hs (by omega) (by decide) (by decide)
 simp only [a1,ob_]
 cases c with
 | true =>
  obtain ⟨k,s2,b1,b2,b3⟩:=pU s1 [(w64 (lo-1)),(w64 (hi+1)),lo,hi,(-1099511627776),1099511627776] a2 (by omega) (by simp) (by simp)
  rw [gW (n:=lo-1) (by omega),gW (n:=hi+1) (by omega)]at b1 b2
  rw [cond_true,gW (n:=lo-1) (by omega),gW (n:=hi+1) (by omega),b1,ob_]
  refine⟨k,s2,rfl,?_,b3.mono (by omega)⟩
  simp only [List.mem_cons,List.not_mem_nil,or_false]at b2
  omega
 | false =>
  obtain ⟨k,s2,b1,b2,b3,b4⟩:=iK s1 lo hi a2 (by omega) h h1 h2
  rw [cond_false,b1,ob_]
  exact⟨k,s2,rfl,by omega,b4.mono (by omega)⟩
theorem IM (s:Stream) {b:Int} (hs:Ok s b) (hb:b<=500000):∃l s',jB s 2=some (l,s')/\l.length<=2/\Ok s' (b+50):=by
 unfold jB
 obtain ⟨k,s1,a1,a2,a3,a4⟩:=iK s 0 2 hs (by omega) (by decide) (by decide) (by decide)
 rw [a1,ob_]
 have hlr:(List.range k.toNat).length=k.toNat:=by simp
 obtain ⟨t,t1,t2,t3⟩:=EE (body:=λk x s=>gZ k x s) (s:=(([]:List Rect),s1.L,s1.f_at)) (λj t=>t.1.length=j/\Ok ⟨t.2.1,t.2.2⟩ (b+1+20*j)) (xs:=List.range k.toNat) (by rw [hlr];omega) (λj x t _ hj ⟨i1,i2⟩=>by
  rw [hlr]at hj
  unfold gZ
  obtain ⟨r,s2,c1,c2⟩:=vZ _ i2 (by omega)
  obtain ⟨f,s3,d1,d2⟩:=uq s2 60 c2 (by omega) (by decide) (by decide)
  simp only [c1,d1,ob_]
  cases f with
  | false =>
   simp only [cond_false,ob_]
   rw [jM _ _ (by simp;omega)]
   exact⟨_,rfl,by simp [i1],d2.mono (by omega)⟩
  | true =>
   obtain ⟨q,s4,e1,e2⟩:=rect_ok s3 d2 (by omega)
   simp only [cond_true,e1,ob_]
   rw [jM _ _ (by simp;omega)]
   exact⟨_,rfl,by simp [i1],e2.mono (by omega)⟩) ⟨rfl,a4.mono (by omega)⟩
 rw [hlr]at t2 t3
 rw [t1]
 exact⟨t.1,⟨t.2.1,t.2.2⟩,rfl,by omega,t3.mono (by omega)⟩
def ShA (s:ByteArray):Prop:=s.size<=1000
theorem nz {s:ByteArray} (h:Nat.ble s.size 1000=true):ShA s:=Nat.le_of_ble_eq_true h
def txtL:List ByteArray:=[⟨#[]⟩,overS,floodS,mallS,⟨#[32,120]⟩,⟨#[97,32,32,98]⟩,⟨#[10]⟩,⟨#[255]⟩]
structure GA (x:Alert):Prop where
 id:ShA x.Id
 sender:ShA x.Sender
 refs:∀r∈x.Refs,ShA r
 rlen:x.Refs.length<=5
 alen:x.Areas.length<=2
 at_ : -1100000000000<=x.At/\x.At<=1100000000000
 until_ : -1100000000000<=x.Until/\x.Until<=1100000000000
 text:x.Text∈txtL
theorem RightA.ga {x:Alert} (h:RightA x):GA x:=by
 have h1:=h.at_
 have h2:=h.until_
 refine⟨(idL_key _ h.id).2 |> nz,?_,λr hr => ?_,h.refsLen,h.alen,by omega,by omega,?_⟩
 ·rcases h.sender with e|e <;> rw [e] <;> exact nz rfl
 ·rcases h.refs with hs|hs
  ·exact nz (Ju r (hs.subset hr)).2
  ·rw [hs]at hr;rw [List.mem_singleton.1 hr];exact nz rfl
 ·unfold txtL
  rcases h.text with e|e|⟨_,e|e⟩ <;> rw [e] <;> simp
theorem H9 {α:Type} {p:α->Prop} {xs:List α} {i:Nat} {a:α} (h:∀x∈xs,p x) (ha:p a):∀x∈xs.set i a,p x:=λx hx=>by
 rcases List.mem_or_eq_of_mem_set hx with h1|h1
 ·exact h x h1
 ·rw [h1];exact ha
theorem mD {α:Type} {xs:List α} {i:Nat} {a:α} (h:i<xs.length):(xs.set i a)[i]? = some a:=by simp [h]
def GAs (l:List Alert):Prop:=(∀x∈l,GA x)/\l.length<=6
theorem FR (s:Stream) {b:Int} (hs:Ok s b) (hb:b<=100000):∃l s',jb s 6=some (l,s')/\GAs l/\Ok s' (b+400):=by
 obtain ⟨l,s1,a1,a2,a3⟩:=DX 6 (by decide) s hs (by omega)
 have hl:l.length<=6:=a2.len
 have hg:∀x∈l,GA x:=λx hx=>(a2.right x hx).ga
 unfold jb
 rw [a1,ob_]
 simp only []
 by_cases h0:(l.length:Int)>0
 ·obtain ⟨f,s2,b1,b2⟩:=uq s1 10 a3 (by omega) (by decide) (by decide)
  rw [decide_eq_true h0,cond_true,b1,ob_,ob_]
  simp only []
  cases f with
  | false=>exact⟨l,s2,rfl,⟨hg,hl⟩,b2.mono (by omega)⟩
  | true =>
   rw [cond_true]
   obtain ⟨i,s3,c1,c2,c3,c4⟩:=pV s2 (l.length:Int) b2 (by omega) (by omega) (by omega)
   have e0:(⟨s2.L,s2.f_at⟩:Stream)=s2:=rfl
   rw [e0,c1,ob_]
   simp only []
   rw [KO (by omega) (by omega),ob_]
   obtain ⟨k,s4,d1,d2,d3,d4⟩:=pV s3 6 c4 (by omega) (by decide) (by decide)
   rw [d1,ob_]
   simp only []
   have hi:0+i.toNat<l.length:=by omega
   have hx:l[0+i.toNat]? = some l[0+i.toNat]:=List.getElem?_eq_getElem hi
   have hgx:=hg _ (List.getElem_mem hi)
   generalize l[0+i.toNat]=x at hx hgx
   have two:∀(y z:Alert) (s:Stream) {c:Int},GA z->Ok s c->c<=b+400->∃l' s',some ((l.set (0+i.toNat) y).set (0+i.toNat) z,(⟨s.L,s.f_at⟩:Stream))=some (l',s')/\GAs l'/\Ok s' (b+400):=λy z s c hz hs hc=>by
    refine⟨_,_,rfl,?_,hs.mono hc⟩
    rw [List.set_set]
    exact⟨H9 hg hz,by rw [List.length_set];exact hl⟩
   have one:∀(z:Alert) (s:Stream) {c:Int},GA z->Ok s c->c<=b+400->∃l' s',some (l.set (0+i.toNat) z,(⟨s.L,s.f_at⟩:Stream))=some (l',s')/\GAs l'/\Ok s' (b+400):=λz s c hz hs hc =>
    ⟨_,_,rfl,⟨H9 hg hz,by rw [List.length_set];exact hl⟩,hs.mono hc⟩
   cases k0:k==0 with
   | true =>
    rw [cond_true,hx,ob_]
    obtain ⟨u,s5,e1,e2,e3⟩:=rM s4 [x.Id,(⟨#[]⟩:ByteArray),(⟨#[97,97]⟩:ByteArray)] d4 (by omega) (by simp) (by simp)
    obtain ⟨v,s6,f1,f2,f3⟩:=rM s5 [(⟨#[119,120]⟩:ByteArray),(⟨#[65]⟩:ByteArray)] e3 (by omega) (by simp) (by simp)
    rw [e1,ob_]
    simp only []
    rw [f1]
    simp only [ob_]
    rw [mD hi]
    simp only [ob_]
    refine two _ _ s6 ⟨?_,?_,hgx.refs,hgx.rlen,hgx.alen,hgx.at_,hgx.until_,hgx.text⟩ f3 (by omega)
    ·simp only [List.mem_cons,List.not_mem_nil,or_false]at e2
     rcases e2 with rfl|rfl|rfl
     ·exact hgx.id
     ·exact nz rfl
     ·exact nz rfl
    ·simp only [List.mem_cons,List.not_mem_nil,or_false]at f2
     rcases f2 with rfl|rfl <;> exact nz rfl
   | false =>
   rw [cond_false]
   cases k1:k==1 with
   | true =>
    obtain ⟨u,s5,e1,e2,e3⟩:=CL s4 1 3 d4 (by omega) (by decide) (by decide) (by decide)
    rw [cond_true,e1,hx]
    simp only [ob_]
    exact one _ s5 ⟨hgx.id,hgx.sender,hgx.refs,hgx.rlen,hgx.alen,hgx.at_,hgx.until_,hgx.text⟩ e3 (by omega)
   | false =>
   rw [cond_false]
   cases k2:k==2 with
   | true =>
    rw [cond_true,hx,ob_]
    obtain ⟨u,s5,e1,e2,e3,e4⟩:=pV s4 5 d4 (by omega) (by decide) (by decide)
    rw [e1,ob_]
    simp only []
    obtain ⟨y,y1,y2⟩:=Da (l:=([([]:List ByteArray),([(⟨#[97,98]⟩:ByteArray),(⟨#[97,97]⟩:ByteArray)]:List ByteArray),([x.Id]:List ByteArray),([(⟨#[65]⟩:ByteArray)]:List ByteArray),([(⟨#[97,97]⟩:ByteArray),(⟨#[122,122]⟩:ByteArray)]:List ByteArray)]:List (List ByteArray))) (r:=u) e2 (by simp;omega)
    rw [y1]
    simp only [ob_]
    have hy:(∀r∈y,ShA r)/\y.length<=5:=by
     simp only [List.mem_cons,List.not_mem_nil,or_false]at y2
     rcases y2 with rfl|rfl|rfl|rfl|rfl
     ·exact⟨λr hr=>(by cases hr),by simp⟩
     ·refine⟨λr hr => ?_,by simp⟩
      simp only [List.mem_cons,List.not_mem_nil,or_false]at hr
      rcases hr with rfl|rfl <;> exact nz rfl
     ·refine⟨λr hr => ?_,by simp⟩
      rw [List.mem_singleton.1 hr];exact hgx.id
     ·refine⟨λr hr => ?_,by simp⟩
      rw [List.mem_singleton.1 hr];exact nz rfl
     ·refine⟨λr hr => ?_,by simp⟩
      simp only [List.mem_cons,List.not_mem_nil,or_false]at hr
      rcases hr with rfl|rfl <;> exact nz rfl
    exact one _ s5 ⟨hgx.id,hgx.sender,hy.1,hy.2,hgx.alen,hgx.at_,hgx.until_,hgx.text⟩ e4 (by omega)
   | false =>
   rw [cond_false]
   cases k3:k==3 with
   | true =>
    obtain ⟨u,s5,e1,e2,e3⟩:=CL s4 0 30 d4 (by omega) (by decide) (by decide) (by decide)
    obtain ⟨v,s6,f1,f2,f3⟩:=CL s5 0 60 e3 (by omega) (by decide) (by decide) (by decide)
    rw [cond_true,e1,ob_]
    simp only []
    rw [f1,hx]
    simp only [ob_]
    rw [mD hi]
    simp only [ob_]
    exact two _ _ s6 ⟨hgx.id,hgx.sender,hgx.refs,hgx.rlen,hgx.alen,e2,f2,hgx.text⟩ f3 (by omega)
   | false =>
   rw [cond_false]
   cases k4:k==4 with
   | true =>
    obtain ⟨u,s5,e1,e2,e3⟩:=IM s4 d4 (by omega)
    obtain ⟨v,s6,f1,f2,f3⟩:=CL s5 1 9 e3 (by omega) (by decide) (by decide) (by decide)
    rw [cond_true,e1,ob_]
    simp only []
    rw [f1,hx]
    simp only [ob_]
    rw [mD hi]
    simp only [ob_]
    exact two _ _ s6 ⟨hgx.id,hgx.sender,hgx.refs,hgx.rlen,e2,hgx.at_,hgx.until_,hgx.text⟩ f3 (by omega)
   | false =>
    obtain ⟨u,s5,e1,e2,e3⟩:=rM s4 [(⟨#[]⟩:ByteArray),(⟨#[32,120]⟩:ByteArray),(⟨#[97,32,32,98]⟩:ByteArray),(⟨#[10]⟩:ByteArray),(⟨#[255]⟩:ByteArray)] d4 (by omega) (by simp) (by simp)
    rw [cond_false,e1,hx]
    simp only [ob_]
    refine one _ s5 ⟨hgx.id,hgx.sender,hgx.refs,hgx.rlen,hgx.alen,hgx.at_,hgx.until_,?_⟩ e3 (by omega)
    simp only [List.mem_cons,List.not_mem_nil,or_false]at e2
    unfold txtL
    rcases e2 with rfl|rfl|rfl|rfl|rfl <;> simp
 ·rw [decide_eq_false h0,cond_false,ob_]
  exact⟨l,s1,rfl,⟨hg,hl⟩,a3.mono (by omega)⟩
structure GP (p:Post):Prop where
 player:ShA p.Player
instance (a b:Alert):Decidable (lt a.Id b.Id):=by unfold lt;exact inferInstance
instance (a b:Alert):Decidable (befA a b):=by unfold befA;exact inferInstance
instance (v:ByteArray) (l:List ByteArray):Decidable (v∈l):=decidable_of_iff (l.any (λx=>decide (v=x))=true) (by simp)
def kN (a o:Alert) (r:ByteArray):Bool:=decide (o.Id=r)&&(decide (o.Sender=a.Sender)&&decide (befA o a))
def JE (a z:Alert):Bool:=decide (z.Id∈a.Refs)&&(decide (z.Sender=a.Sender)&&decide (befA z a))
def vE (l:List Alert) (z:Alert):Int:=l.foldl (λm a=>bif JE a z then min m a.At else m) z.Until
def onB (l:List Alert) (t:Int) (z:Alert):Bool:=decide (z.Kind≠3)&&(decide (z.At<=t)&&decide (t<vE l z))
structure CA (l:List Alert):Prop where
 ids:(l.map (·.Id)).Nodup
 len:l.length<=12
 refs:∀x∈l,x.Refs.length<=1000
 alen:∀x∈l,x.Areas.length<=1000
 areas:∀x∈l,∀r∈x.Areas,Fine r
 at_:∀x∈l,0<=x.At/\x.At<=1000000000000
 until_:∀x∈l,0<=x.Until/\x.Until<=2000000000000
theorem wM {l:List Alert} (h:(l.map (·.Id)).Nodup) {i j:Nat} {a b:Alert} (ha:l[i]? = some a) (hb:l[j]? = some b) (e:a.Id=b.Id):i=j:=by
 obtain ⟨h1,e1⟩:=List.getElem?_eq_some_iff.1 ha
 obtain ⟨h2,e2⟩:=List.getElem?_eq_some_iff.1 hb
 have hp:=List.pairwise_iff_getElem.1 h
 rcases Nat.lt_trichotomy i j with q|q|q
 ·exact absurd (by rw [List.getElem_map,List.getElem_map,e1,e2];exact e) (hp i j (by simpa using h1) (by simpa using h2) q)
 ·exact q
 ·exact absurd (by rw [List.getElem_map,List.getElem_map,e1,e2];exact e.symm) (hp j i (by simpa using h2) (by simpa using h1) q)
theorem Ci (l:List Alert) (a z:Alert):vE (l++[a]) z=bif JE a z then min (vE l z) a.At else vE l z:=by
 unfold vE
 rw [List.foldl_append];rfl
def EO (a:Alert) (j:Nat) (z:Alert):Bool:=decide (z.Id∈a.Refs.take j)&&(decide (z.Sender=a.Sender)&&decide (befA z a))
def rU (l:List Alert) (k:Nat) (a:Alert) (j:Nat) (z:Alert):Int:=bif EO a j z then min (vE (l.take k) z) a.At else vE (l.take k) z
theorem endJ_0 (l:List Alert) (k:Nat) (a z:Alert):rU l k a 0 z=vE (l.take k) z:=by
 unfold rU EO
 rw [decide_eq_false (by simp)];rfl
theorem JA {l:List Alert} {k:Nat} {a:Alert} (h:l[k]? = some a) (z:Alert):rU l k a a.Refs.length z=vE (l.take (k+1)) z:=by
 have et:l.take (k+1)=l.take k++[a]:=by rw [List.take_add_one,h];rfl
 rw [et,Ci]
 unfold rU EO JE
 rw [List.take_length]
theorem jZ {a o:Alert} {r:ByteArray}:kN a o r=true↔o.Id=r/\o.Sender=a.Sender/\befA o a:=by
 unfold kN
 simp only [Bool.and_eq_true,decide_eq_true_eq]
theorem D6 {a z:Alert} {j:Nat}:EO a j z=true↔z.Id∈a.Refs.take j/\z.Sender=a.Sender/\befA z a:=by
 unfold EO
 simp only [Bool.and_eq_true,decide_eq_true_eq]
theorem Ii {a z:Alert} {j:Nat} {r:ByteArray} (hr:a.Refs[j]? = some r):EO a (j+1) z=(EO a j z||kN a z r):=by
 have et:a.Refs.take (j+1)=a.Refs.take j++[r]:=by rw [List.take_add_one,hr];rfl
 rw [Bool.eq_iff_iff,Bool.or_eq_true,D6,D6,jZ,et,List.mem_append,List.mem_singleton]
 constructor
 ·rintro ⟨h|h,k⟩
  ·exact .inl ⟨h,k⟩
  ·exact .inr ⟨h,k⟩
 ·rintro (⟨h,k⟩|⟨h,k⟩)
  ·exact⟨.inl h,k⟩
  ·exact⟨.inr h,k⟩
theorem xH {l:List Alert} {k j:Nat} {a z:Alert} {r:ByteArray} (hr:a.Refs[j]? = some r):rU l k a (j+1) z=bif kN a z r then min (rU l k a j z) a.At else rU l k a j z:=by
 unfold rU
 rw [Ii hr]
 cases EO a j z <;> cases kN a z r <;> simp only [Bool.or_true,Bool.or_false,Bool.false_or,Bool.true_or,cond_true,cond_false]
 omega
theorem map_none {l:List Alert} {k j:Nat} {a:Alert} {r:ByteArray} (hr:a.Refs[j]? = some r) (h:l.any (λo=>kN a o r)=false):l.map (rU l k a (j+1))=l.map (rU l k a j):=by
 refine List.map_congr_left (λz hz => ?_)
 have:kN a z r=false:=by
  rw [<- Bool.not_eq_true];intro e
  have:l.any (λo=>kN a o r)=true:=List.any_eq_true.2 ⟨z,hz,e⟩
  rw [h]at this;cases this
 rw [xH hr,this,cond_false]
theorem map_one {l:List Alert} (hid:(l.map (·.Id)).Nodup) {k j i:Nat} {a z:Alert} {r:ByteArray} (hr:a.Refs[j]? = some r) (hz:l[i]? = some z) (h:kN a z r=true):l.map (rU l k a (j+1))=(l.map (rU l k a j)).set i (min (rU l k a j z) a.At):=by
 refine List.ext_getElem? (λn => ?_)
 rw [List.getElem?_map,List.getElem?_set]
 by_cases hin:i=n
 ·subst hin
  obtain ⟨h1,_⟩:=List.getElem?_eq_some_iff.1 hz
  rw [if_pos rfl,if_pos (by simpa using h1),hz,Option.map_some,xH hr,h,cond_true]
 ·rw [if_neg hin,List.getElem?_map]
  cases hn:l[n]? with
  | none=>rfl
  | some y =>
   rw [Option.map_some,Option.map_some,xH hr]
   have:kN a y r=false:=by
    rw [<- Bool.not_eq_true];intro e
    exact hin (wM hid hz hn ((jZ.1 h).1.trans (jZ.1 e).1.symm))
   rw [this,cond_false]
theorem qE {α:Type} {f:α->Option Bool} {p:α->Bool} {B:Nat->α->Unit->Option (Ctl Unit Int)} (hB:∀k x,B k x ()=(f x).bind λr=>bif r then some (.ret (k:Int))else some (.go ())):∀(xs:List α) (k:Nat),(∀x∈xs,f x=some (p x)) ->
  (xs.any p=false/\forR B xs k ()=some (.go ()))\/∃(j:Nat) (x:α),xs[j]? = some x/\p x=true/\(∀(i:Nat) (y:α),i<j->xs[i]? = some y->p y=false)/\forR B xs k ()=some (.ret ((k+j:Nat):Int))/\xs.any p=true
 | [],k,h => .inl ⟨rfl,rfl⟩
 | x::xs,k,h=>by
  have hx:=h x (by simp)
  cases hp:p x with
  | true =>
   refine .inr ⟨0,x,rfl,hp,λi y hi=>absurd hi (Nat.not_lt_zero _),?_,by rw [List.any_cons,hp];rfl⟩
   rw [forR,hB,hx,hp];rfl
  | false =>
   have e1:forR B (x::xs) k ()=forR B xs (k+1) ():=by rw [forR,hB,hx,hp];rfl
   rw [e1,List.any_cons,hp,Bool.false_or]
   rcases qE hB xs (k+1) (λy hy=>h y (by simp [hy]))with⟨h1,h2⟩|⟨j,y,h1,h2,h3,h4,h5⟩
   ·exact .inl ⟨h1,h2⟩
   ·refine .inr ⟨j+1,y,h1,h2,λi z hi hz => ?_,by rw [h4];congr 3;omega,h5⟩
    cases i with
    | zero=>rw [List.getElem?_cons_zero,so_]at hz;rw [<- hz];exact hp
    | succ i=>exact h3 i z (by omega) (by simpa using hz)
theorem La (a b:Int):Ay a b=min a b:=by unfold Ay;split <;> omega
theorem yu (a b:Alert):∃n,gN a b=some n/\(n<0↔befA a b):=by
 refine⟨_,by simp only [gN,zf,IV,or2_eq,ob_];rfl,?_⟩
 rw [or0_neg,JV,Il,EP];rfl
theorem Lc (a o:Alert) (r:ByteArray):jk o r a=some (kN a o r):=by
 obtain ⟨n,n1,n2⟩:=yu o a
 unfold jk kN
 rw [wL,wL,n1]
 have:decide (n<0)=decide (befA o a):=by rw [decide_eq_decide];exact n2
 cases decide (o.Id=r) <;> cases decide (o.Sender=a.Sender) <;> simp [this]
theorem CO {l:List Alert} (hl:l.length<=1000) (a:Alert) (r:ByteArray):(kE l a r=some (-1)/\l.any (λo=>kN a o r)=false)\/∃(j:Nat) (z:Alert),kE l a r=some (j:Int)/\l[j]? = some z/\kN a z r=true:=by
 unfold kE aJ
 rw [iX (by omega)]
 rcases qE (f:=λx0=>jk x0 r a) (p:=λo=>kN a o r) (B:=λk x s=>aX (λx0=>jk x0 r a) k x s) (λk x=>rfl) l 0 (λx _=>Lc a x r)with⟨h1,h2⟩|⟨j,x,h1,h2,_,h4,_⟩
 ·rw [h2];exact .inl ⟨rfl,h1⟩
 ·rw [h4];exact .inr ⟨j,x,by simp only [ob_,thenC,Nat.zero_add],h1,h2⟩
theorem Jh {l:List Alert} (h:CA l) {k j:Nat} {a:Alert} {r:ByteArray} (hr:a.Refs[j]? = some r):jH l a j r (l.map (rU l k a j))=some (.go (l.map (rU l k a (j+1)))):=by
 have hl:=h.len
 unfold jH
 rcases CO (Nat.le_trans hl (by decide)) a r with⟨h1,h2⟩|⟨i,z,h1,h2,h3⟩
 ·rw [h1,ob_,decide_eq_false (by decide),cond_false,ob_,map_none hr h2]
 ·obtain ⟨hi,_⟩:=List.getElem?_eq_some_iff.1 h2
  have e1:(l.map (rU l k a j))[(0+((i:Int)).toNat)]? = some (rU l k a j z):=by
   rw [show 0+((i:Int)).toNat=i by omega,List.getElem?_map,h2];rfl
  have hin:inR (i:Int) (l.map (rU l k a j))=some ():=KO (by omega) (by rw [List.length_map];omega)
  rw [h1,ob_,decide_eq_true (by omega),cond_true,hin,e1]
  simp only [ob_]
  rw [map_one h.ids hr h2 h3,La,show 0+((i:Int)).toNat=i by omega]
theorem ends_eq {l:List Alert} (h:CA l):oV l=some (l.map (vE l)):=by
 have hl:=h.len
 unfold oV
 obtain ⟨t,t1,t2⟩:=q8 (body:=λk x s=>kV k x s) (λk s=>s=(l.take k).map (·.Until)) (xs:=l) (s:=([]:List Int)) (by omega) (λk x s hx hs=>by
  have et:l.take (k+1)=l.take k++[x]:=by rw [List.take_add_one,hx];rfl
  have hk:(l.take k).length<=l.length:=by rw [List.length_take];exact Nat.min_le_right _ _
  unfold kV
  rw [hs,jM _ _ (by simp only [List.length_map,List.length_cons,List.length_nil];omega)]
  exact⟨_,rfl,by rw [et,List.map_append];rfl⟩) rfl
 rw [t1,t2,List.take_length]
 simp only [ob_,thenC]
 obtain ⟨u,u1,u2⟩:=q8 (body:=λk x s=>kZ l k x s) (λk s=>s=l.map (vE (l.take k))) (xs:=l) (s:=l.map (·.Until)) (by omega) (λk x s hx hs=>by
  have hrl:=h.refs x (List.mem_of_getElem? hx)
  obtain ⟨v,v1,v2⟩:=q8 (body:=λj r s=>jH l x j r s) (λj s=>s=l.map (rU l k x j)) (xs:=x.Refs) (s:=s) (by omega) (λj r s hr hs=>by
   rw [hs]
   exact⟨_,Jh h hr,rfl⟩) (by rw [hs];exact List.map_congr_left (λz _=>(endJ_0 l k x z).symm))
  unfold kZ
  rw [v1]
  exact⟨v,rfl,by rw [v2];exact List.map_congr_left (λz _=>JA hx z)⟩) rfl
 rw [u1,u2,List.take_length]
 rfl
theorem isOn_eq (l:List Alert) (a:Alert) (t:Int):pz a (vE l a) t=some (onB l t a):=by
 unfold pz onB
 have e:(a.Kind != 3)=decide (a.Kind≠3):=by rw [Bool.eq_iff_iff];simp
 rw [e]
 cases decide (a.Kind≠3) <;> cases decide (a.At<=t) <;> rfl
def chA {α:Type} (stp:Option α->α->Int):Option α->List α->Int
 | _,[]=>0
 | p,x::l=>bif stp p x==0 then chA stp (some x) l else stp p x
def kr {α:Type} (l:List α) (k:Nat):Option α:=if k=0 then none else l[k-1]?
theorem Ef {α:Type} {stp:Option α->α->Int} {body:Nat->α->Unit->Option (Ctl Unit Int)} (l:List α):∀(xs:List α) (k:Nat),l.drop k=xs->(∀k x,l[k]? = some x->body k x ()=some (rF (stp (kr l k) x)))->forR body xs k ()=some (rF (chA stp (kr l k) xs))
 | [],k,_,_=>rfl
 | x::xs,k,hd,h=>by
  have hx:=sW hd
  have hp:kr l (k+1)=some x:=by unfold kr;rw [if_neg (by omega)];exact hx
  rw [forR,h k x hx,ob_,chA]
  cases hs:stp (kr l k) x==0 with
  | true =>
   have e:rF (stp (kr l k) x) = .go ():=by unfold rF;rw [hs];rfl
   rw [e,cond_true,<- hp]
   exact Ef l xs (k+1) (aS hd) h
  | false =>
   have e:rF (stp (kr l k) x) = .ret (stp (kr l k) x):=by unfold rF;rw [hs];rfl
   rw [e,cond_false,e]
theorem uC {α:Type} {stp:Option α->α->Int} {body:Nat->α->Unit->Option (Ctl Unit Int)} {l:List α} (hl:l.length<=1000000) (h:∀k x,l[k]? = some x->body k x ()=some (rF (stp (kr l k) x))):forL l () body=some (rF (chA stp none l)):=by
 rw [iX (by omega)]
 exact Ef l l 0 rfl h
theorem J2 {α:Type} {stp:Option α->α->Int}:∀{l:List α} {p:Option α},chA stp p l=0->∀(i:Nat) (x:α),l[i]? = some x->∃q,stp q x=0/\(i=0->q=p)/\(0<i->q=l[i-1]?)
 | [],p,_,i,x,hx=>by simp at hx
 | y::l,p,h,i,x,hx=>by
  rw [chA]at h
  cases hs:stp p y==0 with
  | false=>rw [hs,cond_false]at h;rw [h]at hs;exact absurd hs (by decide)
  | true =>
   rw [hs,cond_true]at h
   cases i with
   | zero =>
    rw [List.getElem?_cons_zero,so_]at hx
    exact⟨p,by rw [<- hx];exact eq_of_beq hs,λ_=>rfl,λh=>absurd h (Nat.lt_irrefl _)⟩
   | succ i =>
    rw [List.getElem?_cons_succ]at hx
    obtain ⟨q,q1,q2,q3⟩:=J2 h i x hx
    refine⟨q,q1,λh=>absurd h (by omega),λ_ => ?_⟩
    cases i with
    | zero=>rw [q2 rfl];rfl
    | succ i=>rw [q3 (by omega)];simp
theorem mI (e:Int):(e=0/\rF e = .go ())\/(e≠0/\rF e = .ret e):=by
 unfold rF
 by_cases h:e=0
 ·subst h;exact .inl ⟨rfl,rfl⟩
 ·have:(e==0)=false:=by simpa using h
  rw [this];exact .inr ⟨h,rfl⟩
theorem Ja (n:Nat):nJ (n:Int)=some (decide ((n:Int)<32)||((n:Int)==127)):=by
 unfold nJ
 cases decide ((n:Int)<32) <;> rfl
def runeB (n:Nat):Bool:=decide ((n:Int)<32)||((n:Int)==127)
theorem jh (s:ByteArray) {t:ByteArray} {v c k r:Bool} (h1:eF s=some v) (h2:decide (0<=Lib.idxFunc runeB true s)=c) (h3:mY s ⟨#[32]⟩=some t) (h4:strings_Contains s ⟨#[32,32]⟩=some k) (h5:(v&&(!c&&(sEq t s && !k)))=r):oz s=some r:=by
 subst h5
 unfold oz ic
 rw [h1,Be (p:=runeB) (λn=>Ja n),h2,su _ _ _ h3,h4]
 cases v with
 | false=>rfl
 | true =>
  cases c with
  | true=>rfl
  | false =>
   simp only [ob_,cond_true,Bool.not_false]
   cases sEq t s <;> rfl
def lw (s:ByteArray):Bool:=decide (s=⟨#[]⟩)||(decide (s=overS)||(decide (s=floodS)||decide (s=mallS)))
theorem Ce:∀s∈txtL,kC s=some (lw s)/\oz s=some (lw s):=by
 intro s hs
 unfold txtL at hs
 simp only [List.mem_cons,List.not_mem_nil,or_false]at hs
 rcases hs with rfl|rfl|rfl|rfl|rfl|rfl|rfl|rfl
 ·exact⟨eG _ _ (show eH ⟨#[]⟩=some (lw ⟨#[]⟩) by kernel_rfl),jh ⟨#[]⟩ (v:=true) (c:=false) (t:=⟨#[]⟩) (k:=false) (by kernel_rfl) (by kernel_rfl) (by kernel_rfl) (by kernel_rfl) (by kernel_rfl)⟩
 ·exact⟨eG _ _ (show eH overS=some (lw overS) by kernel_rfl),jh overS (v:=true) (c:=false) (t:=overS) (k:=false) (by kernel_rfl) (by kernel_rfl) (by kernel_rfl) (by kernel_rfl) (by kernel_rfl)⟩
 ·exact⟨eG _ _ (show eH floodS=some (lw floodS) by kernel_rfl),jh floodS (v:=true) (c:=false) (t:=floodS) (k:=false) (by kernel_rfl) (by kernel_rfl) (by kernel_rfl) (by kernel_rfl) (by kernel_rfl)⟩
 ·exact⟨eG _ _ (show eH mallS=some (lw mallS) by kernel_rfl),jh mallS (v:=true) (c:=false) (t:=mallS) (k:=false) (by kernel_rfl) (by kernel_rfl) (by kernel_rfl) (by kernel_rfl) (by kernel_rfl)⟩
 ·exact⟨eG _ _ (show eH ⟨#[32,120]⟩=some (lw ⟨#[32,120]⟩) by kernel_rfl),jh ⟨#[32,120]⟩ (v:=true) (c:=false) (t:=⟨#[120]⟩) (k:=false) (by kernel_rfl) (by kernel_rfl) (by kernel_rfl) (by kernel_rfl) (by kernel_rfl)⟩
 ·exact⟨eG _ _ (show eH ⟨#[97,32,32,98]⟩=some (lw ⟨#[97,32,32,98]⟩) by kernel_rfl),jh ⟨#[97,32,32,98]⟩ (v:=true) (c:=false) (t:=⟨#[97,32,32,98]⟩) (k:=true) (by kernel_rfl) (by kernel_rfl) (by kernel_rfl) (by kernel_rfl) (by kernel_rfl)⟩
 ·exact⟨eG _ _ (show eH ⟨#[10]⟩=some (lw ⟨#[10]⟩) by kernel_rfl),jh ⟨#[10]⟩ (v:=true) (c:=true) (t:=⟨#[10]⟩) (k:=false) (by kernel_rfl) (by kernel_rfl) (by kernel_rfl) (by kernel_rfl) (by kernel_rfl)⟩
 ·exact⟨eG _ _ (show eH ⟨#[255]⟩=some (lw ⟨#[255]⟩) by kernel_rfl),jh ⟨#[255]⟩ (v:=false) (c:=false) (t:=⟨#[255]⟩) (k:=false) (by kernel_rfl) (by kernel_rfl) (by kernel_rfl) (by kernel_rfl) (by kernel_rfl)⟩
theorem Em:∀s∈txtL,s.size<=16:=by
 intro s hs
 unfold txtL at hs
 simp only [List.mem_cons,List.not_mem_nil,or_false]at hs
 rcases hs with rfl|rfl|rfl|rfl|rfl|rfl|rfl|rfl <;> decide
def yz {α:Type} (f:α->Bool):Option α->Bool
 | some y=>f y
 | none=>false
def oJ (id:ByteArray) (p:Option ByteArray) (r:ByteArray):Int:=bif !lQ r then 5 else bif yz (λq=>sLe r q) p then 7 else bif sEq r id then 14 else 0
def ll (_:Option Rect) (r:Rect):Int:=bif AZ r then 1 else 0
theorem BK {α β:Type} {l:List α} {k:Nat} {x:α} (h:l[k]? = some x) (hl:l.length<=1000000) (g:α->Option Bool) (f:α->Bool) (hg:∀y,g y=some (f y)):(bif (decide ((k:Int)>0))then (idx l (w64 ((k:Int)-1))).bind g else some false)=some (yz f (kr l k)):=by
 rcases Nat.eq_zero_or_pos k with h0|h0
 ·subst h0
  rw [decide_eq_false (by omega)];rfl
 ·obtain ⟨y,q1,q2⟩:=Fe h h0 (by omega)
  rw [decide_eq_true (by omega),cond_true,q1,ob_,hg]
  unfold kr
  rw [if_neg (by omega),q2];rfl
theorem GH (x:Alert) (h:GA x):∀k r,x.Refs[k]? = some r->dM x k r ()=some (rF (oJ x.Id (kr x.Refs k) r)):=λk r hr=>by
 have hl:=h.rlen
 have hs:=h.refs r (List.mem_of_getElem? hr)
 unfold ShA at hs
 unfold dM
 rw [zy r (by omega),BK (β:=Unit) hr (by omega) (λy_20=>some (sLe r y_20)) (λy=>sLe r y) (λ_=>rfl),ob_,ob_]
 unfold oJ
 cases lQ r with
 | false=>rfl
 | true =>
  cases yz (λq=>sLe r q) (kr x.Refs k)with
  | true=>rfl
  | false=>cases sEq r x.Id <;> rfl
theorem F9 (x:Alert) (h:GA x):∀k r,x.Refs[k]? = some r->gq x k r ()=some (rF (oJ x.Id (kr x.Refs k) r)):=λk r hr=>by
 have hl:=h.rlen
 have hs:=h.refs r (List.mem_of_getElem? hr)
 unfold ShA at hs
 unfold gq
 rw [xK r (by omega),BK (β:=Unit) hr (by omega) (λy_20=>some (sLe r y_20)) (λy=>sLe r y) (λ_=>rfl),ob_,ob_]
 unfold oJ
 cases lQ r with
 | false=>rfl
 | true =>
  cases yz (λq=>sLe r q) (kr x.Refs k)with
  | true=>rfl
  | false=>cases sEq r x.Id <;> rfl
theorem F7 (x:Alert):∀k r,x.Areas[k]? = some r->dY k r ()=some (rF (ll (kr x.Areas k) r)):=λk r hr=>by
 unfold dY ll
 rw [Dh]
 cases AZ r <;> rfl
theorem FL (x:Alert):∀k r,x.Areas[k]? = some r->gz k r ()=some (rF (ll (kr x.Areas k) r)):=λk r hr=>by
 unfold gz ll
 rw [CF]
 cases AZ r <;> rfl
def rfV (x:Alert):Int:=chA (oJ x.Id) none x.Refs
def arV (x:Alert):Int:=chA ll none x.Areas
def fmV (x:Alert):Bool := !((x.Kind==1)==((x.Refs.length:Int)==0))
def agV (x:Alert):Bool := !qb x.At||(jX x.Until (x.At+1) (x.At+2592000000)||jX x.Weight 1 9)
def txV (x:Alert):Bool := !lw x.Text||(sEq x.Text ⟨#[]⟩ && !(x.Kind==3))
def cnV (x:Alert):Bool := !((x.Kind==3)==((x.Areas.length:Int)==0))
def alF (x:Alert):Int:=bif !lQ x.Id || !lQ x.Sender then 5 else bif jX x.Kind 1 3 then 4 else bif rfV x==0 then (bif fmV x then 3 else bif agV x then 1 else bif arV x==0 then (bif cnV x then 3 else bif txV x then 3 else 0)else arV x)else rfV x
theorem alF_K {x:Alert} (h:GA x):fK x=some (alF x):=by
 have h1:=h.id
 have h2:=h.sender
 have h3:=h.at_
 have h4:=h.rlen
 have h5:=h.alen
 have h6:=Em _ h.text
 unfold ShA at h1 h2
 have hrf:gG x=some (bif rfV x==0 then (bif fmV x then 3 else 0)else rfV x):=by
  unfold gG
  rw [decide_eq_false (by omega),cond_false,uC (stp:=oJ x.Id) (body:=λk r s=>dM x k r s) (by omega) (GH x h)]
  unfold rfV fmV
  rcases mI (chA (oJ x.Id) none x.Refs)with⟨e1,e2⟩|⟨e1,e2⟩
  ·rw [e2,e1]
   simp only [ob_,thenC]
   cases (!((x.Kind==1)==((x.Refs.length:Int)==0))) <;> rfl
  ·have:(chA (oJ x.Id) none x.Refs==0)=false:=by simpa using e1
   rw [e2,this];rfl
 unfold fK alF
 rw [zy _ (by omega),zy _ (by omega),hrf,rH,yf,gW (n:=x.At+1) (by omega),gW (n:=x.At+2592000000) (by omega),rH,rH,(Ce _ h.text).1,decide_eq_false (show ¬(x.Areas.length:Int)>20 by omega),decide_eq_false (show ¬(x.Text.size:Int)>500 by omega)]
 rw [uC (stp:=ll) (body:=λk r s=>dY k r s) (by omega) (F7 x)]
 have ek:(bif !lQ x.Id then some true else some (!lQ x.Sender))=some (!lQ x.Id || !lQ x.Sender):=by cases lQ x.Id <;> rfl
 have ea:((some (qb x.At)).bind λr_19=>bif (!r_19)then some true else (some (jX x.Until (x.At+1) (x.At+2592000000))).bind λr_22=>bif r_22 then some true else (some (jX x.Weight 1 9)).bind λr_25=>some r_25)=some (agV x):=by
  unfold agV
  cases qb x.At <;> cases jX x.Until (x.At+1) (x.At+2592000000) <;> rfl
 have et:((some (lw x.Text)).bind λr_47=>bif (!r_47)then some true else bif (sEq x.Text (⟨#[]⟩:ByteArray))then some (!(x.Kind==3))else some false)=some (txV x):=by
  unfold txV
  cases lw x.Text <;> cases sEq x.Text ⟨#[]⟩ <;> rfl
 have ec:(!((x.Kind==3)==((x.Areas.length:Int)==0)))=cnV x:=rfl
 rw [ea,et,ec]
 simp only [ob_]
 rw [ek]
 simp only [ob_]
 cases (!lQ x.Id || !lQ x.Sender)with
 | true=>rfl
 | false =>
 cases jX x.Kind 1 3 with
 | true=>rfl
 | false =>
 simp only [cond_false]
 cases hr:rfV x==0 with
 | false =>
  have:(rfV x != 0)=true:=by simp [bne,hr]
  simp only [cond_false,this,cond_true]
 | true =>
  simp only [cond_true]
  cases fmV x with
  | true=>rfl
  | false =>
   cases agV x with
   | true=>rfl
   | false =>
    simp only [cond_false,bne_self_eq_false]
    unfold arV
    rcases mI (chA ll none x.Areas)with⟨e1,e2⟩|⟨e1,e2⟩
    ·rw [e2,e1]
     simp only [thenC]
     cases cnV x with
     | true=>rfl
     | false=>cases txV x <;> rfl
    ·have:(chA ll none x.Areas==0)=false:=by simpa using e1
     rw [e2,this];rfl
theorem alF_R {x:Alert} (h:GA x):jS x=some (alF x):=by
 have h1:=h.id
 have h2:=h.sender
 have h3:=h.at_
 have h4:=h.rlen
 have h5:=h.alen
 have h6:=Em _ h.text
 unfold ShA at h1 h2
 have hm:jV x.At=some (qb x.At):=by unfold jV qb;rw [BC];rfl
 unfold jS alF
 rw [xK _ (by omega),xK _ (by omega),hm,BC,gW (n:=x.At+1) (by omega),gW (n:=x.At+2592000000) (by omega),BC,BC,(Ce _ h.text).2,decide_eq_false (show ¬(x.Refs.length:Int)>20 by omega),decide_eq_false (show ¬(x.Areas.length:Int)>20 by omega),decide_eq_false (show ¬(x.Text.size:Int)>500 by omega)]
 rw [uC (stp:=ll) (body:=λk r s=>gz k r s) (by omega) (FL x),uC (stp:=oJ x.Id) (body:=λk r s=>gq x k r s) (by omega) (F9 x h)]
 have ek:(bif !lQ x.Id then some true else some (!lQ x.Sender))=some (!lQ x.Id || !lQ x.Sender):=by cases lQ x.Id <;> rfl
 have ea:((some (qb x.At)).bind λr_38=>bif (!r_38)then some true else (some (!jX x.Until (x.At+1) (x.At+2592000000))).bind λr_41=>bif (!r_41)then some true else (some (!jX x.Weight 1 9)).bind λr_44=>some (!r_44))=some (agV x):=by
  unfold agV
  cases qb x.At <;> cases jX x.Until (x.At+1) (x.At+2592000000) <;> cases jX x.Weight 1 9 <;> rfl
 have et:((some (lw x.Text)).bind λr_66=>bif (!r_66)then some true else bif (sEq x.Text (⟨#[]⟩:ByteArray))then some (x.Kind != 3)else some false)=some (txV x):=by
  unfold txV
  cases lw x.Text <;> cases sEq x.Text ⟨#[]⟩ <;> rfl
 have ec:(!((x.Kind==3)==((x.Areas.length:Int)==0)))=cnV x:=rfl
 have ef:(!((x.Kind==1)==((x.Refs.length:Int)==0)))=fmV x:=rfl
 rw [ea,et,ec,ef]
 simp only [ob_]
 rw [ek]
 simp only [ob_]
 cases (!lQ x.Id || !lQ x.Sender)with
 | true=>rfl
 | false =>
 cases jX x.Kind 1 3 with
 | true=>rfl
 | false =>
 simp only [cond_false,Bool.not_false]
 unfold rfV arV
 rcases mI (chA (oJ x.Id) none x.Refs)with⟨e1,e2⟩|⟨e1,e2⟩
 ·rw [e2,e1]
  simp only [thenC]
  cases fmV x with
  | true=>rfl
  | false =>
   cases agV x with
   | true=>rfl
   | false =>
    simp only [cond_false]
    rcases mI (chA ll none x.Areas)with⟨k1,k2⟩|⟨k1,k2⟩
    ·rw [k2,k1]
     simp only [thenC]
     cases cnV x with
     | true=>rfl
     | false=>cases txV x <;> rfl
    ·have:(chA ll none x.Areas==0)=false:=by simpa using k1
     rw [k2,this];rfl
 ·have:(chA (oJ x.Id) none x.Refs==0)=false:=by simpa using e1
  rw [e2,this];rfl
end Go.Proofs.YtekmkepojbhafaeGreatDoor.Law

