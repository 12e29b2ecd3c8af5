/-
  THE PLAIN LAW (part 3).
-/
import Derived.Test.YtpmokglbipebcaaGreatDoorPl2
import Derived.Test.YtpmokglbipebcaaGreatDoorDefs
open Go Go.Eng
namespace Go.Proofs.YtpmokglbipebcaaGreatDoor.Law
set_option linter.unusedVariables false
set_option linter.unusedSimpArgs false
theorem EF (s:Stream) {b:Int} (hs:Ok s b) (hb:b<=900000):∃r s',bZ s=some (r,s')/\Fine r/\(-2<=r.X/\r.X<=8 /\ -2<=r.Y/\r.Y<=8/\r.W<=5/\r.H<=5)/\Ok s' (b+4):=by
 unfold bZ
 obtain ⟨X,q1,c1,c2,c3,c4⟩:=gW s (-2) 8 hs (by omega) (by decide) (by decide) (by decide)
 obtain ⟨Y,q2,d1,d2,d3,d4⟩:=gW q1 (-2) 8 c4 (by omega) (by decide) (by decide) (by decide)
 obtain ⟨U,q3,e1,e2,e3,e4⟩:=gW q2 1 5 d4 (by omega) (by decide) (by decide) (by decide)
 obtain ⟨V,q4,f1,f2,f3,f4⟩:=gW q3 1 5 e4 (by omega) (by decide) (by decide) (by decide)
 simp only [c1,d1,e1,f1,ob_]
 refine⟨_,_,rfl,?_,by simp only [];omega,f4.mono (by omega)⟩
 unfold Fine
 simp only [];omega
def DU {σ ρ:Type} (s:σ) (body:σ->Option (Ctl σ ρ)):Option (Ctl σ ρ):=iterN body 300 s
def Le {α:Type} (a b:Option α):Prop:=∀r,a=some r->b=some r
theorem Le.refl {α:Type} (a:Option α):Le a a:=λ_ h=>h
theorem Le.bind {α β:Type} {a b:Option α} {f g:α->Option β} (h:Le a b) (k:∀x,Le (f x) (g x)):Le (a.bind f) (b.bind g):=λr e=>by
 obtain ⟨x,h1,h2⟩:=Option.bind_eq_some_iff.1 e
 rw [h x h1];exact k x r h2
theorem Le.cond {α:Type} {a b c d:Option α} {t:Bool} (h:Le a c) (k:Le b d):Le (bif t then a else b) (bif t then c else d):=by
 cases t
 ·exact k
 ·exact h
theorem Le.thenC {σ ρ τ:Type} {o:Ctl σ ρ} {f f':σ->Option τ} {g g':ρ->Option τ} (h:∀x,Le (f x) (f' x)) (k:∀x,Le (g x) (g' x)):Le (Go.Eng.thenC o f g) (Go.Eng.thenC o f' g'):=by
 cases o
 ·exact h _
 ·exact Le.refl _
 ·exact k _
theorem Le.forR {α σ ρ:Type} {b b':Nat->α->σ->Option (Ctl σ ρ)} (h:∀k x s,Le (b k x s) (b' k x s)):∀(xs:List α) (k:Nat) (s:σ),Le (Go.Eng.forR b xs k s) (Go.Eng.forR b' xs k s)
 | [],k,s=>Le.refl _
 | x::xs,k,s=>Le.bind (h k x s) (λc=>by
   cases c with
   | go s'=>exact Le.forR h xs _ _
   | brk s'=>exact Le.refl _
   | ret r=>exact Le.refl _)
theorem Le.forL {α σ ρ:Type} {xs:List α} {s:σ} {b b':Nat->α->σ->Option (Ctl σ ρ)} (h:∀k x s,Le (b k x s) (b' k x s)):Le (Go.Eng.forL xs s b) (Go.Eng.forL xs s b'):=by
 unfold Go.Eng.forL
 split
 ·exact Le.forR h xs 0 s
 ·exact Le.refl _
theorem Le.iterN {σ ρ:Type} {b b':σ->Option (Ctl σ ρ)} (h:∀s,Le (b s) (b' s)):∀(n:Nat) (s:σ),Le (Go.Eng.iterN b n s) (Go.Eng.iterN b' n s)
 | 0,s=>Le.refl _
 | n+1,s=>Le.bind (h s) (λc=>by
   cases c with
   | go s'=>exact Le.iterN h n s'
   | brk s'=>exact Le.refl _
   | ret r=>exact Le.refl _)
theorem Le.loop {σ ρ:Type} {s:σ} {b b':σ->Option (Ctl σ ρ)} (h:∀s,Le (b s) (b' s)):Le (DU s b) (jF s b'):=λr e=>mr (Le.iterN h _ _ r e)
set_option maxRecDepth 100000
def jc (s_1:ByteArray) (c_2:Int):Option (ByteArray) :=
 (DU s_1 (λs=>fM c_2 s)).bind λo_11=>thenC o_11 (λs_8=>some s_8) (λ_=>none)
theorem pG (s_1:ByteArray) (c_2:Int):Le (jc s_1 c_2) (strings_trimRightByte s_1 c_2):=by
 unfold jc strings_trimRightByte
 repeat' (with_reducible first | exact Le.refl _ | refine Le.loop (λ_ => ?_) | refine Le.forL (λ_ _ _ => ?_) | refine Le.thenC (λ_ => ?_) (λ_ => ?_) | refine Le.cond ?_ ?_ | refine Le.bind ?_ (λ_ => ?_))
def jE (s_1:ByteArray) (c_2:Int):Option (ByteArray) :=
 (DU s_1 (λs=>gm c_2 s)).bind λo_11=>thenC o_11 (λs_8=>some s_8) (λ_=>none)
theorem qb (s_1:ByteArray) (c_2:Int):Le (jE s_1 c_2) (strings_trimLeftByte s_1 c_2):=by
 unfold jE strings_trimLeftByte
 repeat' (with_reducible first | exact Le.refl _ | refine Le.loop (λ_ => ?_) | refine Le.forL (λ_ _ _ => ?_) | refine Le.thenC (λ_ => ?_) (λ_ => ?_) | refine Le.cond ?_ ?_ | refine Le.bind ?_ (λ_ => ?_))
def mG (s_1:ByteArray) (cutset_2:ByteArray):Option (ByteArray) :=
 (bif (sEq s_1 (⟨#[]⟩:ByteArray))then some true else some (sEq cutset_2 (⟨#[]⟩:ByteArray))).bind λv_3=>bif v_3 then some s_1 else (bif ((cutset_2.size:Int)==1)then (rO cutset_2 0).bind λb_10=>some (decide ((b_10.toNat:Int)<128))else some false).bind λv_7=>bif v_7 then (rO cutset_2 0).bind λb_13=>(jc s_1 (b_13.toNat:Int)).bind λr_15=>(rO cutset_2 0).bind λb_17=>(jE r_15 (b_17.toNat:Int)).bind λr_19=>some r_19 else none
theorem qW (s_1:ByteArray) (cutset_2:ByteArray):Le (mG s_1 cutset_2) (kw s_1 cutset_2):=by
 unfold mG kw
 repeat' (with_reducible first | exact Le.refl _ | exact pG _ _ | exact qb _ _ | refine Le.loop (λ_ => ?_) | refine Le.forL (λ_ _ _ => ?_) | refine Le.thenC (λ_ => ?_) (λ_ => ?_) | refine Le.cond ?_ ?_ | refine Le.bind ?_ (λ_ => ?_))
def eQ (s_1:ByteArray):Option (Bool) :=
 (DU 0 (λs=>lH s_1 s)).bind λo_10=>thenC o_10 (λs_7=>((eP s_1).bind λr_23=>bif r_23 then (mG s_1 (⟨#[32]⟩:ByteArray)).bind λr_26=>bif (sEq r_26 s_1)then (strings_Contains s_1 (⟨#[32,32]⟩:ByteArray)).bind λr_29=>some (!r_29)else some false else some false).bind λv_21=>some v_21) (λr=>some r)
theorem eO (s_1:ByteArray):Le (eQ s_1) (jZ s_1):=by
 unfold eQ jZ
 repeat' (with_reducible first | exact Le.refl _ | exact qW _ _ | refine Le.loop (λ_ => ?_) | refine Le.forL (λ_ _ _ => ?_) | refine Le.thenC (λ_ => ?_) (λ_ => ?_) | refine Le.cond ?_ ?_ | refine Le.bind ?_ (λ_ => ?_))
theorem xK (s:ByteArray):Le (eQ s) (jZ s):=eO s
def idL:List ByteArray:=[⟨#[97,97]⟩,⟨#[97,98]⟩,⟨#[97,99]⟩,⟨#[97,100]⟩,⟨#[97,101]⟩,⟨#[97,102]⟩]
def refL:List ByteArray:=[⟨#[97,97]⟩,⟨#[97,98]⟩,⟨#[97,99]⟩,⟨#[97,100]⟩,⟨#[122,122]⟩]
def zyS:ByteArray:=⟨#[122,121]⟩
def wxS:ByteArray:=⟨#[119,120]⟩
def fireS:ByteArray:=⟨#[102,105,114,101]⟩
def floodS:ByteArray:=⟨#[102,108,111,111,100]⟩
def mallS:ByteArray:=⟨#[102,105,114,101,32,105,110,32,116,104,101,32,109,97,108,108]⟩
def overS:ByteArray:=⟨#[111,118,101,114]⟩
def SmallR (r:Rect):Prop:=Fine r/\(-2<=r.X/\r.X<=8 /\ -2<=r.Y/\r.Y<=8/\r.W<=5/\r.H<=5)
structure RightA (x:Alert):Prop where
 id:x.Id∈idL
 sender:x.Sender=wxS\/x.Sender=fireS
 kind:1<=x.Kind/\x.Kind<=3
 refs:x.Refs.Sublist refL\/x.Refs=[zyS]
 noId:∀r∈x.Refs,r≠x.Id
 new:x.Kind=1↔x.Refs=[]
 at_:0<=x.At/\x.At<=30
 until_:x.At+1<=x.Until/\x.Until<=x.At+50
 weight:1<=x.Weight/\x.Weight<=9
 areas:∀r∈x.Areas,SmallR r
 alen:x.Areas.length<=2
 cancel:x.Kind=3↔x.Areas=[]
 text:x.Text=floodS\/x.Text=mallS\/x.Kind=3/\(x.Text=⟨#[]⟩\/x.Text=overS)
theorem idL_key:∀k∈idL,keyB k=true/\Nat.ble k.size 1000=true:=by
 intro k hk
 simp only [idL,List.mem_cons,List.not_mem_nil,or_false]at hk
 rcases hk with rfl|rfl|rfl|rfl|rfl|rfl <;> exact⟨by kernel_rfl,rfl⟩
theorem Jj:∀k∈idL,fw k 0=97:=by
 intro k hk
 simp only [idL,List.mem_cons,List.not_mem_nil,or_false]at hk
 rcases hk with rfl|rfl|rfl|rfl|rfl|rfl <;> rfl
theorem Jf:∀k∈refL,keyB k=true/\Nat.ble k.size 1000=true:=by
 intro k hk
 simp only [refL,List.mem_cons,List.not_mem_nil,or_false]at hk
 rcases hk with rfl|rfl|rfl|rfl|rfl <;> exact⟨by kernel_rfl,rfl⟩
theorem Jc:idL.Pairwise lt:=by
 unfold idL
 simp only [List.pairwise_cons,List.mem_cons,List.not_mem_nil,or_false,forall_eq_or_imp,forall_eq]
 refine⟨⟨lc (by kernel_rfl),lc (by kernel_rfl),lc (by kernel_rfl),lc (by kernel_rfl),lc (by kernel_rfl)⟩,⟨lc (by kernel_rfl),lc (by kernel_rfl),lc (by kernel_rfl),lc (by kernel_rfl)⟩,⟨lc (by kernel_rfl),lc (by kernel_rfl),lc (by kernel_rfl)⟩,⟨lc (by kernel_rfl),lc (by kernel_rfl)⟩,lc (by kernel_rfl),λa h=>(by cases h),List.Pairwise.nil⟩
theorem RightA.refsLen {x:Alert} (h:RightA x):x.Refs.length<=5:=by
 rcases h.refs with hs|hs
 ·exact hs.length_le
 ·rw [hs];decide
theorem IM (id:ByteArray) (s:Stream) {b:Int} (hs:Ok s b) (hb:b<=800000) :
  ∃l s',forL ([(⟨#[97,97]⟩:ByteArray),(⟨#[97,98]⟩:ByteArray),(⟨#[97,99]⟩:ByteArray),(⟨#[97,100]⟩:ByteArray),(⟨#[122,122]⟩:ByteArray)]:List ByteArray) (([]:List ByteArray),s.L,s.f_at) (λk x s=>bR id k x s)=some (.go (l,s'.L,s'.f_at))/\l.Sublist refL/\(∀r∈l,r≠id)/\Ok s' (b+10):=by
 obtain ⟨t,t1,t2,t3,t4⟩:=Cf (body:=λk x s=>bR id k x s) (xs:=refL) (s:=(([]:List ByteArray),s.L,s.f_at)) (λk t=>t.1.Sublist (refL.take k)/\(∀r∈t.1,r≠id)/\Ok ⟨t.2.1,t.2.2⟩ (b+k)) (by decide) (λk x t hx ⟨i1,i2,i3⟩=>by
  have hk:k<refL.length:=(List.getElem?_eq_some_iff.1 hx).1
  have hk5:k<5:=hk
  have et:refL.take (k+1)=refL.take k++[x]:=by rw [List.take_add_one,hx];rfl
  have hlen:t.1.length<=5:=Nat.le_trans i1.length_le (by rw [List.length_take];exact Nat.min_le_right _ _)
  unfold bR
  rw [sj]
  by_cases he:x=id
  ·rw [decide_eq_true he]
   exact⟨_,rfl,by rw [et];exact i1.trans (List.sublist_append_left _ _),i2,i3.mono (by omega)⟩
  ·obtain ⟨f,s1,c1,c2⟩:=o6 _ 3 i3 (by omega) (by decide) (by decide)
   rw [decide_eq_false he]
   simp only [Bool.not_false,cond_true,c1,ob_]
   cases f with
   | true =>
    rw [cond_true,jJ _ _ (by simp;omega)]
    refine⟨_,rfl,by rw [et];exact i1.append (List.Sublist.refl _),λr hr => ?_,c2.mono (by omega)⟩
    rcases List.mem_append.1 hr with hr|hr
    ·exact i2 r hr
    ·rw [List.mem_singleton.1 hr];exact he
   | false=>exact⟨_,rfl,by rw [et];exact i1.trans (List.sublist_append_left _ _),i2,c2.mono (by omega)⟩) ⟨List.Sublist.refl _,λr hr=>(by cases hr),hs.mono (by omega)⟩
 exact⟨t.1,⟨t.2.1,t.2.2⟩,t1,by simpa using t2,t3,t4.mono (by show b+((5:Nat):Int)<=b+10;omega)⟩
theorem Hl (n:Int) (hn:1<=n/\n<=2) (s:Stream) {b:Int} (hs:Ok s b) (hb:b<=800000) :
  ∃l s',forL (List.range n.toNat) (([]:List Rect),s.L,s.f_at) (λk x s=>bT k x s)=some (.go (l,s'.L,s'.f_at))/\(l.length:Int)=n/\(∀r∈l,SmallR r)/\Ok s' (b+10):=by
 obtain ⟨t,t1,t2,t3,t4⟩:=DF (body:=λk x s=>bT k x s) (s:=(([]:List Rect),s.L,s.f_at)) (xs:=List.range n.toNat) (λj t=>t.1.length=j/\(∀r∈t.1,SmallR r)/\Ok ⟨t.2.1,t.2.2⟩ (b+4*j)) (by simp;omega) (λj x t hx hj ⟨i1,i2,i3⟩=>by
  simp only [List.length_range]at hj
  obtain ⟨r,s1,c1,c2,c3,c4⟩:=EF _ i3 (by omega)
  unfold bT
  rw [c1,ob_,jJ _ _ (by simp;omega)]
  refine⟨_,rfl,by simp [i1],λq hq => ?_,c4.mono (by omega)⟩
  rcases List.mem_append.1 hq with hq|hq
  ·exact i2 q hq
  ·rw [List.mem_singleton.1 hq];exact⟨c2,c3⟩) ⟨rfl,λr hr=>(by cases hr),hs.mono (by omega)⟩
 rw [List.length_range]at t2 t4
 exact⟨t.1,⟨t.2.1,t.2.2⟩,t1,by omega,t3,t4.mono (by omega)⟩
theorem Gw (id:ByteArray) (hid:id∈idL) (k:Nat) (l0:List Alert) (hl:l0.length<=100) (s:Stream) {b:Int} (hs:Ok s b) (hb:b<=700000) :
  ∃x s',dE k id (l0,s.L,s.f_at)=some (.go (l0++[x],s'.L,s'.f_at))/\RightA x/\x.Id=id/\Ok s' (b+40):=by
 obtain ⟨sd,s1,a1,a2,a3⟩:=sI s [(⟨#[119,120]⟩:ByteArray),(⟨#[119,120]⟩:ByteArray),(⟨#[102,105,114,101]⟩:ByteArray)] hs (by omega) (by simp) (by simp)
 obtain ⟨kd,s2,b1,b2,b3⟩:=qK s1 [1,1,2,2,3] a3 (by omega) (by simp) (by simp)
 obtain ⟨n5,s3,c1,c2,c3,c4⟩:=gW s2 0 6 b3 (by omega) (by decide) (by decide) (by decide)
 obtain ⟨wt,s4,d1,d2,d3⟩:=qK s3 [1,5,5,9] c4 (by omega) (by simp) (by simp)
 obtain ⟨tx,s5,e1,e2,e3⟩:=sI s4 [(⟨#[102,108,111,111,100]⟩:ByteArray),(⟨#[102,105,114,101,32,105,110,32,116,104,101,32,109,97,108,108]⟩:ByteArray)] d3 (by omega) (by simp) (by simp)
 obtain ⟨un,s6,f1,f2,f3⟩:=qK s5 [1,10,20,50] e3 (by omega) (by simp) (by simp)
 have hsd:sd=wxS\/sd=fireS:=by
  simp only [List.mem_cons,List.not_mem_nil,or_false]at a2
  rcases a2 with h|h|h
  ·exact .inl h
  ·exact .inl h
  ·exact .inr h
 have hkd:kd=1\/kd=2\/kd=3:=by
  simp only [List.mem_cons,List.not_mem_nil,or_false]at b2;omega
 have hwt:1<=wt/\wt<=9:=by
  simp only [List.mem_cons,List.not_mem_nil,or_false]at d2;omega
 have hun:1<=un/\un<=50:=by
  simp only [List.mem_cons,List.not_mem_nil,or_false]at f2;omega
 have htx:tx=floodS\/tx=mallS:=by
  simp only [List.mem_cons,List.not_mem_nil,or_false]at e2;exact e2
 obtain ⟨rf,s7,g1,g2,g3,g4,g5⟩:∃rf s7,(bif kd != 1 then (forL ([(⟨#[97,97]⟩:ByteArray),(⟨#[97,98]⟩:ByteArray),(⟨#[97,99]⟩:ByteArray),(⟨#[97,100]⟩:ByteArray),(⟨#[122,122]⟩:ByteArray)]:List ByteArray) (([]:List ByteArray),s6.L,s6.f_at) (λk x s=>bR id k x s)).bind λo_56=>thenC o_56 (λs_50=>bif ((s_50.1.length:Int)==0)then some (s_50.2.1,s_50.2.2,([(⟨#[122,121]⟩:ByteArray)]:List ByteArray))else some (s_50.2.1,s_50.2.2,s_50.1)) (λ_=>none)else some (s6.L,s6.f_at,([]:List ByteArray)))=some (Stream.L s7,Stream.f_at s7,rf)/\(rf.Sublist refL\/rf=[zyS])/\(∀r∈rf,r≠id)/\(kd=1↔rf=[])/\Ok s7 (b+20):=by
  by_cases h1:kd=1
  ·rw [h1]
   exact⟨[],s6,rfl,.inl (List.nil_sublist _),λr hr=>(by cases hr),⟨λ_=>rfl,λ_=>rfl⟩,f3.mono (by omega)⟩
  ·have:(kd != 1)=true:=by simpa using h1
   rw [this,cond_true]
   obtain ⟨l,s7,g1,g2,g3,g4⟩:=IM id s6 f3 (by omega)
   rw [g1]
   simp only [ob_,thenC]
   by_cases hl0:l=[]
   ·subst hl0
    refine⟨[zyS],s7,rfl,.inr rfl,λr hr e => ?_,⟨λh=>absurd h h1,λh=>(by cases h)⟩,g4.mono (by omega)⟩
    rw [List.mem_singleton.1 hr]at e
    rw [<- e]at hid
    have:=Jj _ hid
    exact absurd this (by decide)
   ·have:((l.length:Int)==0)=false:=by
     rw [beq_eq_false_iff_ne]
     intro e;exact hl0 (List.eq_nil_of_length_eq_zero (by omega))
    rw [this,cond_false]
    exact⟨l,s7,rfl,.inl g2,g3,⟨λh=>absurd h h1,λh=>absurd h hl0⟩,g4.mono (by omega)⟩
 obtain ⟨ar,tx2,s8,j1,j2,j3,j4,j5,j6⟩:∃ar tx2 s8,(bif kd==3 then (dR (⟨Stream.L s7,Stream.f_at s7⟩:Stream) ([(⟨#[]⟩:ByteArray),(⟨#[111,118,101,114]⟩:ByteArray)]:List ByteArray)).bind λr_79=>some (([]:List Rect),r_79.2.L,r_79.2.f_at,r_79.1)else (bg (⟨Stream.L s7,Stream.f_at s7⟩:Stream) 1 2).bind λr_82=>(forL (List.range (r_82.1).toNat) (([]:List Rect),r_82.2.L,r_82.2.f_at) (λk x s=>bT k x s)).bind λo_95=>thenC o_95 (λs_90=>some (s_90.1,s_90.2.1,s_90.2.2,tx)) (λ_=>none))=some (ar,Stream.L s8,Stream.f_at s8,tx2)/\(∀r∈ar,SmallR r)/\ar.length<=2/\(kd=3↔ar=[])/\(tx2=floodS\/tx2=mallS\/kd=3/\(tx2=⟨#[]⟩\/tx2=overS))/\Ok s8 (b+40):=by
  have e7:(⟨Stream.L s7,Stream.f_at s7⟩:Stream)=s7:=rfl
  rw [e7]
  by_cases h3:kd=3
  ·have:(kd==3)=true:=by simpa using h3
   rw [this,cond_true]
   obtain ⟨t2,s8,q1,q2,q3⟩:=sI s7 [(⟨#[]⟩:ByteArray),(⟨#[111,118,101,114]⟩:ByteArray)] g5 (by omega) (by simp) (by simp)
   rw [q1]
   simp only [List.mem_cons,List.not_mem_nil,or_false]at q2
   exact⟨[],t2,s8,rfl,λr hr=>(by cases hr),by decide,⟨λ_=>rfl,λ_=>h3⟩,.inr (.inr ⟨h3,q2⟩),q3.mono (by omega)⟩
  ·have:(kd==3)=false:=by simpa using h3
   rw [this,cond_false]
   obtain ⟨m,s8,q1,q2,q3,q4⟩:=gW s7 1 2 g5 (by omega) (by decide) (by decide) (by decide)
   obtain ⟨ar,s9,r1,r2,r3,r4⟩:=Hl m ⟨q2,q3⟩ s8 q4 (by omega)
   rw [q1,ob_,r1]
   refine⟨ar,tx,s9,rfl,r3,by omega,⟨λh=>absurd h h3,λh => ?_⟩,htx.imp (λh=>h) .inl,r4.mono (by omega)⟩
   rw [h]at r2;simp at r2;omega
 refine⟨⟨id,sd,kd,rf,n5*5,n5*5+un,wt,ar,tx2⟩,s8,?_,⟨hid,hsd,by simp only [];omega,g2,g3,g4,by simp only [];omega,by simp only [];omega,hwt,j2,j3,j4,j5⟩,rfl,j6⟩
 unfold dE
 have e0:(⟨s.L,s.f_at⟩:Stream)=s:=rfl
 simp only [e0,a1,b1,c1,d1,e1,f1,g1,j1,ob_]
 rw [jJ _ _ (by simp;omega),fF (n:=n5*5) (by omega),fF (n:=n5*5+un) (by omega)];rfl
def befA (a b:Alert):Prop:=a.At<b.At\/a.At=b.At/\lt a.Id b.Id
open Classical in
theorem Im {a b:Alert} (ha:RightA a) (hb:RightA b):jy a b=some (bif a.At != b.At then a.At-b.At else bif sLt a.Id b.Id then -1 else 1):=by
 have h1:=ha.at_
 have h2:=hb.at_
 unfold jy
 cases a.At != b.At with
 | true=>rw [cond_true,cond_true,fF (by omega)]
 | false =>
  rw [cond_false,cond_false]
  cases sLt a.Id b.Id <;> rfl
theorem nS {a b:Alert}:(bif a.At != b.At then a.At-b.At else bif sLt a.Id b.Id then (-1:Int)else 1)<0↔befA a b:=by
 unfold befA
 by_cases h:a.At=b.At
 ·have:(a.At != b.At)=false:=by simpa using h
  rw [this,cond_false]
  cases hl:sLt a.Id b.Id with
  | true =>
   rw [cond_true]
   exact⟨λ_ => .inr ⟨h,(Cb _ _).1 hl⟩,λ_=>by decide⟩
  | false =>
   rw [cond_false]
   refine⟨λh=>absurd h (by decide),λhb => ?_⟩
   rcases hb with hb|hb
   ·omega
   ·rw [(Cb _ _).2 hb.2]at hl;cases hl
 ·have:(a.At != b.At)=true:=by simpa using h
  rw [this,cond_true]
  refine⟨λk => .inl (by omega),λhb => ?_⟩
  rcases hb with hb|hb
  ·omega
  ·exact absurd hb.1 h
theorem Cx (a:Alert):¬befA a a:=λh=>by
 rcases h with h|h
 ·omega
 ·exact zy _ h.2
theorem yE {a b c:Alert} (h:befA a b) (k:befA b c):befA a c:=by
 rcases h with h|h <;> rcases k with k|k
 ·exact .inl (by omega)
 ·exact .inl (by omega)
 ·exact .inl (by omega)
 ·exact .inr ⟨h.1.trans k.1,lt_trans h.2 k.2⟩
theorem Dp (a b:Alert) (hid:a.Id≠b.Id):befA a b\/befA b a:=by
 rcases Int.lt_trichotomy a.At b.At with h|h|h
 ·exact .inl (.inl h)
 ·rcases EZ a.Id b.Id with k|k|k
  ·exact .inl (.inr ⟨h,k⟩)
  ·exact absurd k hid
  ·exact .inr (.inr ⟨h.symm,k⟩)
 ·exact .inr (.inl h)
theorem ry {a b c:Alert} (h:¬befA a b) (k:¬befA b c):¬befA a c:=λhc=>by
 unfold befA at *
 simp only [not_or,not_and]at h k
 rcases hc with hc|hc
 ·rcases Int.lt_trichotomy a.At b.At with q|q|q
  ·exact h.1 q
  ·rcases Int.lt_trichotomy b.At c.At with r|r|r
   ·exact k.1 r
   ·omega
   ·omega
  ·have:=k.1;omega
 ·have h1:=h.1
  have k1:=k.1
  have e1:a.At=b.At:=by omega
  have e2:b.At=c.At:=by omega
  have h2:=h.2 e1
  have k2:=k.2 e2
  rcases EZ a.Id b.Id with q|q|q
  ·exact h2 q
  ·rw [q]at hc;exact k2 hc.2
  ·rcases EZ b.Id c.Id with r|r|r
   ·exact k2 r
   ·rw [<- r]at hc;exact h2 hc.2
   ·exact zy _ (lt_trans (lt_trans hc.2 r) q)
structure RAlerts (l:List Alert) (n:Nat):Prop where
 right:∀x∈l,RightA x
 rise:l.Pairwise befA
 ids:(l.map (·.Id)).Nodup
 len:l.length<=n
theorem Ca (most:Int) (hm:0<=most/\most<=6) (s:Stream) {b:Int} (hs:Ok s b) (hb:b<=600000):∃l s',eD s most=some (l,s')/\(RAlerts l most.toNat/\∀x∈l,x.Id∈idL.take most.toNat)/\Ok s' (b+250):=by
 obtain ⟨n,s1,a1,a2,a3,a4⟩:=gW s 0 most hs (by omega) (by omega) (by decide) (by omega)
 have hsub:uY idL 0 n=some (idL.take n.toNat):=by
  unfold uY
  have h6:idL.length=6:=rfl
  rw [if_pos (by rw [h6];omega)]
  simp
 obtain ⟨t,t1,t2,t3,t4⟩:=Cf (body:=λk x s=>dE k x s) (xs:=idL.take n.toNat) (s:=(([]:List Alert),s1.L,s1.f_at)) (λk t=>t.1.map (·.Id)=idL.take k/\(∀x∈t.1,RightA x)/\Ok ⟨t.2.1,t.2.2⟩ (b+1+40*k)) (by rw [List.length_take];show min n.toNat 6<=_;omega) (λk x t hx ⟨i1,i2,i3⟩=>by
  have hk:k<(idL.take n.toNat).length:=(List.getElem?_eq_some_iff.1 hx).1
  rw [List.length_take]at hk
  have hk6:k<6:=by have:idL.length=6:=rfl;omega
  have hx':idL[k]? = some x:=by rw [List.getElem?_take_of_lt (by omega)]at hx;exact hx
  have hlen:t.1.length<=6:=by
   have:=congrArg List.length i1
   rw [List.length_map,List.length_take]at this
   omega
  obtain ⟨y,s2,c1,c2,c3,c4⟩:=Gw x (List.mem_of_getElem? hx') k t.1 (by omega) ⟨t.2.1,t.2.2⟩ i3 (by omega)
  refine⟨_,c1,?_,λz hz => ?_,c4.mono (by omega)⟩
  ·rw [List.map_append,i1,List.take_add_one,hx']
   simp [c3]
  ·rcases List.mem_append.1 hz with hz|hz
   ·exact i2 z hz
   ·rw [List.mem_singleton.1 hz];exact c2) ⟨rfl,λx hx=>(by cases hx),a4.mono (by omega)⟩
 have hnd:(t.1.map (·.Id)).Nodup:=by
  rw [t2]
  exact (Jc.sublist (List.take_sublist _ _)).imp (λh e=>by rw [e]at h;exact zy _ h)
 have hlen:t.1.length<=most.toNat:=by
  have:=congrArg List.length t2
  rw [List.length_map,List.length_take,List.length_take]at this
  omega
 obtain ⟨r,r1,r2,r3⟩:=sort12 (cmp:=jy) (S:=bB) (λa b=>bif a.At != b.At then a.At-b.At else bif sLt a.Id b.Id then -1 else 1) (λ_=>rfl) (xs:=t.1) (by omega) (λx hx y hy=>Im (t3 x hx) (t3 y hy))
  (λx y h k=>Cx x (yE (nS.1 h) (nS.1 k))) (λx y z h k q=>ry (λe=>h (nS.2 e)) (λe=>k (nS.2 e)) (nS.1 q))
 have hrl:r.length=t.1.length:=r2.length_eq
 have hids:(r.map (·.Id)).Nodup:=(r2.map (·.Id)).nodup_iff.2 hnd
 have hin:∀x∈r,x.Id∈idL.take most.toNat:=λx hx=>by
  have h1:x.Id∈t.1.map (·.Id):=List.mem_map.2 ⟨x,r2.mem_iff.1 hx,rfl⟩
  rw [t2]at h1
  have h2:(idL.take n.toNat).length<=most.toNat:=by rw [List.length_take];omega
  have h3:idL.take (idL.take n.toNat).length=(idL.take most.toNat).take (idL.take n.toNat).length:=by rw [List.take_take,Nat.min_eq_left h2]
  rw [h3]at h1
  exact List.mem_of_mem_take h1
 refine⟨r,⟨t.2.1,t.2.2⟩,?_,⟨⟨λx hx=>t3 x (r2.mem_iff.1 hx),?_,hids,by omega⟩,hin⟩,t4.mono (by
  have:(idL.take n.toNat).length<=6:=by rw [List.length_take];exact Nat.min_le_right _ _
  omega)⟩
 ·unfold eD
  have e1:uY ([(⟨#[97,97]⟩:ByteArray),(⟨#[97,98]⟩:ByteArray),(⟨#[97,99]⟩:ByteArray),(⟨#[97,100]⟩:ByteArray),(⟨#[97,101]⟩:ByteArray),(⟨#[97,102]⟩:ByteArray)]:List ByteArray) 0 n=some (idL.take n.toNat):=hsub
  simp only [a1,ob_,e1,t1,thenC]
  have e2:bB t.1=some r:=r1
  have e3:jH r t.1=some ():=by unfold jH;rw [if_pos hrl]
  rw [e2,ob_,e3];rfl
 ·refine List.pairwise_iff_getElem.2 (λi j hi hj hij => ?_)
  have h1:=List.pairwise_iff_getElem.1 r3 i j hi hj hij
  have h2:r[i].Id≠r[j].Id:=λe=>by
   have:=List.pairwise_iff_getElem.1 hids i j (by simpa using hi) (by simpa using hj) hij
   rw [List.getElem_map,List.getElem_map]at this
   exact this e
  rcases Dp r[i] r[j] h2 with h|h
  ·exact h
  ·exact absurd (nS.2 h) h1
theorem DD (most:Int) (hm:0<=most/\most<=6) (s:Stream) {b:Int} (hs:Ok s b) (hb:b<=600000):∃l s',eD s most=some (l,s')/\RAlerts l most.toNat/\Ok s' (b+250):=by
 obtain ⟨l,s',h1,h2,h3⟩:=Ca most hm s hs hb
 exact⟨l,s',h1,h2.1,h3⟩
theorem eqS_eq {a b:ByteArray} (h:(a==b)=true):a=b:=by
 obtain ⟨x⟩:=a
 obtain ⟨y⟩:=b
 have h1:(x==y)=true:=h
 rw [eq_of_beq h1]
structure RightPo (p:Post):Prop where
 key:kit_IsKey p.Player=some true
 x : -1000<=p.X/\p.X<=1000
 y : -1000<=p.Y/\p.Y<=1000
def poL:List ByteArray:=[⟨#[112,97]⟩,⟨#[112,98]⟩,⟨#[112,99]⟩]
structure RPosts (l:List Post):Prop where
 right:∀p∈l,RightPo p
 sub:(l.map (·.Player)).Sublist poL
theorem RPosts.len {l:List Post} (h:RPosts l):l.length<=3:=by
 have h1:=h.sub.length_le
 rw [List.length_map]at h1
 exact h1
theorem vk (s:Stream) {b:Int} (hs:Ok s b) (hb:b<=900000):∃r s',bZ s=some (r,s')/\Ok s' (b+4):=by
 unfold bZ
 obtain ⟨x,s1,a1,a2,a3,a4⟩:=gW s (-2) 8 hs (by omega) (by omega) (by omega) (by omega)
 obtain ⟨y,s2,b1,b2,b3,b4⟩:=gW s1 (-2) 8 a4 (by omega) (by omega) (by omega) (by omega)
 obtain ⟨w,s3,c1,c2,c3,c4⟩:=gW s2 1 5 b4 (by omega) (by omega) (by omega) (by omega)
 obtain ⟨h,s4,d1,d2,d3,d4⟩:=gW s3 1 5 c4 (by omega) (by omega) (by omega) (by omega)
 simp only [a1,b1,c1,d1,ob_]
 exact⟨_,_,rfl,d4.mono (by omega)⟩
theorem rect_ok (s:Stream) {b:Int} (hs:Ok s b) (hb:b<=800000):∃r s',jS s=some (r,s')/\Ok s' (b+10):=by
 unfold jS
 obtain ⟨r,s1,a1,a2⟩:=vk s hs (by omega)
 obtain ⟨c,s2,b1,b2⟩:=o6 s1 20 a2 (by omega) (by decide) (by decide)
 simp only [a1,b1,ob_]
 cases c with
 | false=>exact⟨_,_,rfl,b2.mono (by omega)⟩
 | true =>
  obtain ⟨k,s3,c1,c2,c3,c4⟩:=nO s2 3 b2 (by omega) (by decide) (by decide)
  simp only [cond_true,c1,ob_]
  cases h0:k==0 with
  | true =>
   obtain ⟨v,s4,d1,d2⟩:=Fq s3 (-100000) 99999 c4 (by omega) (by decide) (by decide) (by decide)
   simp only [cond_true,d1,ob_]
   exact⟨_,_,rfl,d2.mono (by omega)⟩
  | false =>
   cases h1:k==1 with
   | true =>
    obtain ⟨v,s4,d1,d2⟩:=Fq s3 1 200000 c4 (by omega) (by decide) (by decide) (by decide)
    obtain ⟨u,s5,e1,e2⟩:=Fq s4 1 5 d2 (by omega) (by decide) (by decide) (by decide)
    simp only [cond_true,cond_false,d1,e1,ob_]
    exact⟨_,_,rfl,e2.mono (by omega)⟩
   | false =>
    obtain ⟨v,s4,d1,_,d2⟩:=qK s3 [(-100000),99999] c4 (by omega) (by simp) (by simp)
    obtain ⟨u,s5,e1,_,e2⟩:=qK s4 [1,2,200000] d2 (by omega) (by simp) (by simp)
    simp only [cond_false,d1,e1,ob_]
    exact⟨_,_,rfl,e2.mono (by omega)⟩
theorem Bg (s:Stream) (lo hi:Int) {b:Int} (hs:Ok s b) (hb:b<=900000) (h:lo<=hi) (h1 : -1000000000000<=lo) (h2:hi<=1000000000000):∃r s',dD s lo hi=some (r,s')/\(-1100000000000<=r/\r<=1100000000000)/\Ok s' (b+2):=by
 unfold dD
 obtain ⟨c,s1,a1,a2⟩:=o6 s 12 hs (by omega) (by decide) (by decide)
 simp only [a1,ob_]
 cases c with
 | true =>
  obtain ⟨k,s2,b1,b2,b3⟩:=qK s1 [(w64 (lo-1)),(w64 (hi+1)),lo,hi,(-1099511627776),1099511627776] a2 (by omega) (by simp) (by simp)
  rw [fF (n:=lo-1) (by omega),fF (n:=hi+1) (by omega)]at b1 b2
  rw [cond_true,fF (n:=lo-1) (by omega),fF (n:=hi+1) (by omega),b1,ob_]
  refine⟨k,s2,rfl,?_,b3.mono (by omega)⟩
  simp only [List.mem_cons,List.not_mem_nil,or_false]at b2
  omega
 | false =>
  obtain ⟨k,s2,b1,b2,b3,b4⟩:=gW s1 lo hi a2 (by omega) h h1 h2
  rw [cond_false,b1,ob_]
  exact⟨k,s2,rfl,by omega,b4.mono (by omega)⟩
theorem G6 (s:Stream) {b:Int} (hs:Ok s b) (hb:b<=500000):∃l s',jg s 2=some (l,s')/\l.length<=2/\Ok s' (b+50):=by
 unfold jg
 obtain ⟨k,s1,a1,a2,a3,a4⟩:=gW s 0 2 hs (by omega) (by decide) (by decide) (by decide)
 rw [a1,ob_]
 have hlr:(List.range k.toNat).length=k.toNat:=by simp
 obtain ⟨t,t1,t2,t3⟩:=DF (body:=λk x s=>gU k x s) (s:=(([]:List Rect),s1.L,s1.f_at)) (λj t=>t.1.length=j/\Ok ⟨t.2.1,t.2.2⟩ (b+1+20*j)) (xs:=List.range k.toNat) (by rw [hlr];omega) (λj x t _ hj ⟨i1,i2⟩=>by
  rw [hlr]at hj
  unfold gU
  obtain ⟨r,s2,c1,c2⟩:=vk _ i2 (by omega)
  obtain ⟨f,s3,d1,d2⟩:=o6 s2 60 c2 (by omega) (by decide) (by decide)
  simp only [c1,d1,ob_]
  cases f with
  | false =>
   simp only [cond_false,ob_]
   rw [jJ _ _ (by simp;omega)]
   exact⟨_,rfl,by simp [i1],d2.mono (by omega)⟩
  | true =>
   obtain ⟨q,s4,e1,e2⟩:=rect_ok s3 d2 (by omega)
   simp only [cond_true,e1,ob_]
   rw [jJ _ _ (by simp;omega)]
   exact⟨_,rfl,by simp [i1],e2.mono (by omega)⟩) ⟨rfl,a4.mono (by omega)⟩
 rw [hlr]at t2 t3
 rw [t1]
 exact⟨t.1,⟨t.2.1,t.2.2⟩,rfl,by omega,t3.mono (by omega)⟩
def ShA (s:ByteArray):Prop:=s.size<=1000
theorem mI {s:ByteArray} (h:Nat.ble s.size 1000=true):ShA s:=Nat.le_of_ble_eq_true h
def txtL:List ByteArray:=[⟨#[]⟩,overS,floodS,mallS,⟨#[32,120]⟩,⟨#[97,32,32,98]⟩,⟨#[10]⟩,⟨#[255]⟩]
structure GA (x:Alert):Prop where
 id:ShA x.Id
 sender:ShA x.Sender
 refs:∀r∈x.Refs,ShA r
 rlen:x.Refs.length<=5
 alen:x.Areas.length<=2
 at_ : -1100000000000<=x.At/\x.At<=1100000000000
 until_ : -1100000000000<=x.Until/\x.Until<=1100000000000
 text:x.Text∈txtL
theorem RightA.ga {x:Alert} (h:RightA x):GA x:=by
 have h1:=h.at_
 have h2:=h.until_
 refine⟨(idL_key _ h.id).2 |> mI,?_,λr hr => ?_,h.refsLen,h.alen,by omega,by omega,?_⟩
 ·rcases h.sender with e|e <;> rw [e] <;> exact mI rfl
 ·rcases h.refs with hs|hs
  ·exact mI (Jf r (hs.subset hr)).2
  ·rw [hs]at hr;rw [List.mem_singleton.1 hr];exact mI rfl
 ·unfold txtL
  rcases h.text with e|e|⟨_,e|e⟩ <;> rw [e] <;> simp
theorem BO {α:Type} {p:α->Prop} {xs:List α} {i:Nat} {a:α} (h:∀x∈xs,p x) (ha:p a):∀x∈xs.set i a,p x:=λx hx=>by
 rcases List.mem_or_eq_of_mem_set hx with h1|h1
 ·exact h x h1
 ·rw [h1];exact ha
theorem lU {α:Type} {xs:List α} {i:Nat} {a:α} (h:i<xs.length):(xs.set i a)[i]? = some a:=by simp [h]
def GAs (l:List Alert):Prop:=(∀x∈l,GA x)/\l.length<=6
structure GP (p:Post):Prop where
 player:ShA p.Player
theorem GU {α : Type} {R : α->α->Prop} (has : ∀a b, R a b->¬R b a) {a b : List α} (h : a.Perm b) (ha : a.Pairwise R) (hb : b.Pairwise R) : a=b :=
  List.Perm.eq_of_pairwise (λx y _ _ h1 h2=>absurd h2 (has x y h1)) ha hb h
instance (a b:Alert):Decidable (lt a.Id b.Id):=by unfold lt;exact inferInstance
instance (a b:Alert):Decidable (befA a b):=by unfold befA;exact inferInstance
instance (v:ByteArray) (l:List ByteArray):Decidable (v∈l):=decidable_of_iff (l.any (λx=>decide (v=x))=true) (by simp)
end Go.Proofs.YtpmokglbipebcaaGreatDoor.Law

