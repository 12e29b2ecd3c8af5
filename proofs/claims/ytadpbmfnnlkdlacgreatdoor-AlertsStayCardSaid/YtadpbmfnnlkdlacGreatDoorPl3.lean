/-
  THE PLAIN LAW (part 3).
-/
import Derived.Test.YtadpbmfnnlkdlacGreatDoorPl2
import Derived.Test.YtadpbmfnnlkdlacGreatDoorDefs
open Go Go.Eng
namespace Go.Proofs.YtadpbmfnnlkdlacGreatDoor.Law
set_option linter.unusedVariables false
set_option linter.unusedSimpArgs false
theorem QQ {r:Rect} (h:Fine r):Ky r=false:=by
 unfold Fine at h
 unfold Ky
 rw [eD (n:=100000-r.X) (by omega),eD (n:=100000-r.Y) (by omega),tq (by omega),tq (by omega),tq (by omega),tq (by omega)];rfl
theorem NM (s:Stream) {b:Int} (hs:Ok s b) (hb:b<=900000):∃r h,ko s=some (r,h)/\Fine r/\(-2<=r.X/\r.X<=8 /\ -2<=r.Y/\r.Y<=8/\r.W<=5/\r.H<=5)/\Ok h (b+4):=by
 unfold ko
 obtain ⟨X,B,J,Z,c3,F⟩:=mE s (-2) 8 hs (by omega) (by decide) (by decide) (by decide)
 obtain ⟨Y,R,A,d2,d3,M⟩:=mE B (-2) 8 F (by omega) (by decide) (by decide) (by decide)
 obtain ⟨U,L,O,e2,e3,N⟩:=mE R 1 5 M (by omega) (by decide) (by decide) (by decide)
 obtain ⟨V,q4,o,f2,f3,I⟩:=mE L 1 5 N (by omega) (by decide) (by decide) (by decide)
 simp only [J,A,O,o,ob_]
 refine⟨_,_,rfl,?_,by simp only [];omega,I.mono (by omega)⟩
 unfold Fine
 simp only [];omega
theorem MN (f:Rect->Option Bool) (p:Rect->Bool):∀(l:List Rect) (k:Nat),(∀r∈l,f r=some (p r))->(forR (λk z s=>bO f k z s) l k ()=some (.go ())/\l.any p=false)\/∃j:Nat,forR (λk z s=>bO f k z s) l k ()=some (.ret (j:Int))/\l.any p=true
 | [],k,_ => .inl ⟨rfl,rfl⟩
 | r::l,k,h=>by
  have A:bO f k r ()=some (bif p r then .ret (k:Int)else .go ()):=by
   unfold bO
   rw [h r (by simp),ob_]
   cases p r <;> rfl
  rw [forR,A,ob_,List.any_cons]
  cases p r with
  | true=>exact .inr ⟨k,rfl,rfl⟩
  | false=>exact MN f p l (k+1) (λr o=>h r (by simp [o]))
theorem any_eq (f:Rect->Option Bool) (p:Rect->Bool) {l:List Rect} (h:∀r∈l,f r=some (p r)) (hl:l.length<=1000000):dF l f=some (l.any p):=by
 unfold dF fI
 rw [ja (by omega)]
 rcases MN f p l 0 h with⟨h1,h2⟩|⟨j,h1,h2⟩
 ·rw [h1,h2];rfl
 ·rw [h1,h2]
  simp only [ob_,thenC]
  have:decide ((j:Int)>=0)=true:=by simp
  rw [this]
def vO {σ ρ:Type} (s:σ) (body:σ->Option (Ctl σ ρ)):Option (Ctl σ ρ):=iterN body 300 s
def Le {α:Type} (a b:Option α):Prop:=∀r,a=some r->b=some r
theorem Le.refl {α:Type} (a:Option α):Le a a:=λ_ h=>h
theorem Le.bind {α β:Type} {a b:Option α} {f g:α->Option β} (h:Le a b) (k:∀x,Le (f x) (g x)):Le (a.bind f) (b.bind g):=λr e=>by
 obtain ⟨x,h1,h2⟩:=Option.bind_eq_some_iff.1 e
 rw [h x h1];exact k x r h2
theorem Le.cond {α:Type} {a b c d:Option α} {t:Bool} (h:Le a c) (k:Le b d):Le (bif t then a else b) (bif t then c else d):=by
 cases t
 ·exact k
 ·exact h
theorem Le.thenC {σ ρ τ:Type} {o:Ctl σ ρ} {f B:σ->Option τ} {g A:ρ->Option τ} (h:∀x,Le (f x) (B x)) (k:∀x,Le (g x) (A x)):Le (Go.Eng.thenC o f g) (Go.Eng.thenC o B A):=by
 cases o
 ·exact h _
 ·exact Le.refl _
 ·exact k _
theorem Le.forR {α σ ρ:Type} {b b':Nat->α->σ->Option (Ctl σ ρ)} (h:∀k x s,Le (b k x s) (b' k x s)):∀(xs:List α) (k:Nat) (s:σ),Le (Go.Eng.forR b xs k s) (Go.Eng.forR b' xs k s)
 | [],k,s=>Le.refl _
 | x::xs,k,s=>Le.bind (h k x s) (λc=>by
   cases c with
   | go o=>exact Le.forR h xs _ _
   | brk o=>exact Le.refl _
   | ret r=>exact Le.refl _)
theorem Le.forL {α σ ρ:Type} {xs:List α} {s:σ} {b b':Nat->α->σ->Option (Ctl σ ρ)} (h:∀k x s,Le (b k x s) (b' k x s)):Le (Go.Eng.forL xs s b) (Go.Eng.forL xs s b'):=by
 unfold Go.Eng.forL
 split
 ·exact Le.forR h xs 0 s
 ·exact Le.refl _
theorem Le.iterN {σ ρ:Type} {b b':σ->Option (Ctl σ ρ)} (h:∀s,Le (b s) (b' s)):∀(n:Nat) (s:σ),Le (Go.Eng.iterN b n s) (Go.Eng.iterN b' n s)
 | 0,s=>Le.refl _
 | n+1,s=>Le.bind (h s) (λc=>by
   cases c with
   | go o=>exact Le.iterN h n o
   | brk o=>exact Le.refl _
   | ret r=>exact Le.refl _)
theorem Le.loop {σ ρ:Type} {s:σ} {b b':σ->Option (Ctl σ ρ)} (h:∀s,Le (b s) (b' s)):Le (vO s b) (jk s b'):=λr e=>jZ (Le.iterN h _ _ r e)
set_option maxRecDepth 100000
def ng (A:ByteArray) (o:Int):Option (ByteArray) :=
 (vO A (λs=>jM o s)).bind λh=>thenC h (λB=>some B) (λ_=>none)
theorem xe (h:ByteArray) (o:Int):Le (ng h o) (strings_trimRightByte h o):=by
 unfold ng strings_trimRightByte
 repeat' (with_reducible first | exact Le.refl _ | refine Le.loop (λ_ => ?_) | refine Le.forL (λ_ _ _ => ?_) | refine Le.thenC (λ_ => ?_) (λ_ => ?_) | refine Le.cond ?_ ?_ | refine Le.bind ?_ (λ_ => ?_))
def nL (A:ByteArray) (o:Int):Option (ByteArray) :=
 (vO A (λs=>jU o s)).bind λh=>thenC h (λB=>some B) (λ_=>none)
theorem x9 (h:ByteArray) (o:Int):Le (nL h o) (strings_trimLeftByte h o):=by
 unfold nL strings_trimLeftByte
 repeat' (with_reducible first | exact Le.refl _ | refine Le.loop (λ_ => ?_) | refine Le.forL (λ_ _ _ => ?_) | refine Le.thenC (λ_ => ?_) (λ_ => ?_) | refine Le.cond ?_ ?_ | refine Le.bind ?_ (λ_ => ?_))
def xy (o:ByteArray) (h:ByteArray):Option (ByteArray) :=
 (bif (sEq o (⟨#[]⟩:ByteArray))then some true else some (sEq h (⟨#[]⟩:ByteArray))).bind λM=>bif M then some o else (bif ((h.size:Int)==1)then (AX h 0).bind λI=>some (decide ((I.toNat:Int)<128))else some false).bind λL=>bif L then (AX h 0).bind λJ=>(ng o (J.toNat:Int)).bind λF=>(AX h 0).bind λB=>(nL F (B.toNat:Int)).bind λA=>some A else none
theorem Fz (o:ByteArray) (h:ByteArray):Le (xy o h) (rG o h):=by
 unfold xy rG
 repeat' (with_reducible first | exact Le.refl _ | exact xe _ _ | exact x9 _ _ | refine Le.loop (λ_ => ?_) | refine Le.forL (λ_ _ _ => ?_) | refine Le.thenC (λ_ => ?_) (λ_ => ?_) | refine Le.cond ?_ ?_ | refine Le.bind ?_ (λ_ => ?_))
def eU (h:ByteArray):Option (Bool) :=
 (vO 0 (λs=>ry h s)).bind λB=>thenC B (λJ=>((lU h).bind λo=>bif o then (xy h (⟨#[32]⟩:ByteArray)).bind λA=>bif (sEq A h)then (strings_Contains h (⟨#[32,32]⟩:ByteArray)).bind λF=>some (!F)else some false else some false).bind λI=>some I) (λr=>some r)
theorem eu (h:ByteArray):Le (eU h) (mU h):=by
 unfold eU mU
 repeat' (with_reducible first | exact Le.refl _ | exact Fz _ _ | refine Le.loop (λ_ => ?_) | refine Le.forL (λ_ _ _ => ?_) | refine Le.thenC (λ_ => ?_) (λ_ => ?_) | refine Le.cond ?_ ?_ | refine Le.bind ?_ (λ_ => ?_))
theorem FD (s:ByteArray):Le (eU s) (mU s):=eu s
def idL:List ByteArray:=[⟨#[97,97]⟩,⟨#[97,98]⟩,⟨#[97,99]⟩,⟨#[97,100]⟩,⟨#[97,101]⟩,⟨#[97,102]⟩]
def refL:List ByteArray:=[⟨#[97,97]⟩,⟨#[97,98]⟩,⟨#[97,99]⟩,⟨#[97,100]⟩,⟨#[122,122]⟩]
def zyS:ByteArray:=⟨#[122,121]⟩
def wxS:ByteArray:=⟨#[119,120]⟩
def fireS:ByteArray:=⟨#[102,105,114,101]⟩
def floodS:ByteArray:=⟨#[102,108,111,111,100]⟩
def mallS:ByteArray:=⟨#[102,105,114,101,32,105,110,32,116,104,101,32,109,97,108,108]⟩
def overS:ByteArray:=⟨#[111,118,101,114]⟩
theorem PZ:eU ⟨#[]⟩=some true/\eU floodS=some true/\eU mallS=some true/\eU overS=some true :=
 ⟨by kernel_rfl,by kernel_rfl,by kernel_rfl,by kernel_rfl⟩
def SmallR (r:Rect):Prop:=Fine r/\(-2<=r.X/\r.X<=8 /\ -2<=r.Y/\r.Y<=8/\r.W<=5/\r.H<=5)
structure RightA (x:Alert):Prop where
 id:x.Id∈idL
 sender:x.Sender=wxS\/x.Sender=fireS
 kind:1<=x.Kind/\x.Kind<=3
 refs:x.Refs.Sublist refL\/x.Refs=[zyS]
 noId:∀r∈x.Refs,r≠x.Id
 new:x.Kind=1↔x.Refs=[]
 at_:0<=x.At/\x.At<=30
 until_:x.At+1<=x.Until/\x.Until<=x.At+50
 weight:1<=x.Weight/\x.Weight<=9
 areas:∀r∈x.Areas,SmallR r
 alen:x.Areas.length<=2
 cancel:x.Kind=3↔x.Areas=[]
 text:x.Text=floodS\/x.Text=mallS\/x.Kind=3/\(x.Text=⟨#[]⟩\/x.Text=overS)
theorem PQ:∀k∈idL,keyB k=true/\Nat.ble k.size 1000=true:=by
 intro k h
 simp only [idL,List.mem_cons,List.not_mem_nil,or_false]at h
 rcases h with rfl|rfl|rfl|rfl|rfl|rfl <;> exact⟨by kernel_rfl,rfl⟩
theorem TH:∀k∈idL,ut k 0=97:=by
 intro k h
 simp only [idL,List.mem_cons,List.not_mem_nil,or_false]at h
 rcases h with rfl|rfl|rfl|rfl|rfl|rfl <;> rfl
theorem Mo:∀k∈refL,keyB k=true/\Nat.ble k.size 1000=true:=by
 intro k h
 simp only [refL,List.mem_cons,List.not_mem_nil,or_false]at h
 rcases h with rfl|rfl|rfl|rfl|rfl <;> exact⟨by kernel_rfl,rfl⟩
theorem Qy:refL.Pairwise lt:=by
 unfold refL
 simp only [List.pairwise_cons,List.mem_cons,List.not_mem_nil,or_false,forall_eq_or_imp,forall_eq]
 refine⟨⟨jl (by kernel_rfl),jl (by kernel_rfl),jl (by kernel_rfl),jl (by kernel_rfl)⟩,⟨jl (by kernel_rfl),jl (by kernel_rfl),jl (by kernel_rfl)⟩,⟨jl (by kernel_rfl),jl (by kernel_rfl)⟩,jl (by kernel_rfl),λa h=>(by cases h),List.Pairwise.nil⟩
theorem MU:idL.Pairwise lt:=by
 unfold idL
 simp only [List.pairwise_cons,List.mem_cons,List.not_mem_nil,or_false,forall_eq_or_imp,forall_eq]
 refine⟨⟨jl (by kernel_rfl),jl (by kernel_rfl),jl (by kernel_rfl),jl (by kernel_rfl),jl (by kernel_rfl)⟩,⟨jl (by kernel_rfl),jl (by kernel_rfl),jl (by kernel_rfl),jl (by kernel_rfl)⟩,⟨jl (by kernel_rfl),jl (by kernel_rfl),jl (by kernel_rfl)⟩,⟨jl (by kernel_rfl),jl (by kernel_rfl)⟩,jl (by kernel_rfl),λa h=>(by cases h),List.Pairwise.nil⟩
theorem RightA.refsKey {x:Alert} (h:RightA x):∀r∈x.Refs,kit_IsKey r=some true:=λr o=>by
 have:keyB r=true/\Nat.ble r.size 1000=true:=by
  rcases h.refs with hs|hs
  ·exact Mo r (hs.subset o)
  ·rw [hs]at o
   rw [List.mem_singleton.1 o];exact⟨by kernel_rfl,rfl⟩
 rw [rD r (by have:=Nat.le_of_ble_eq_true this.2;omega),this.1]
theorem RightA.refsRise {x:Alert} (h:RightA x):x.Refs.Pairwise lt:=by
 rcases h.refs with hs|hs
 ·exact Qy.sublist hs
 ·rw [hs];exact List.pairwise_singleton _ _
theorem RightA.refsLen {x:Alert} (h:RightA x):x.Refs.length<=5:=by
 rcases h.refs with hs|hs
 ·exact hs.length_le
 ·rw [hs];decide
theorem RightA.plain {x:Alert} (h:RightA x):mU x.Text=some true:=by
 obtain ⟨o,B,F,A⟩:=PZ
 rcases h.text with e|e|⟨_,e|e⟩ <;> rw [e]
 ·exact eu _ _ B
 ·exact eu _ _ F
 ·exact eu _ _ o
 ·exact eu _ _ A
theorem Lr {x:Alert} (h:RightA x):iM x=some 0:=by
 have hl:=h.refsLen
 unfold iM
 rw [decide_eq_false (by omega),cond_false]
 obtain ⟨u,e,_⟩:=lc (body:=λk y s=>eO x k y s) (λ_ _=>True) (xs:=x.Refs) (s:=()) (by omega) (λk y s B _=>by
  refine⟨(),?_,trivial⟩
  have hm:=List.mem_of_getElem? B
  unfold eO
  rw [h.refsKey y hm]
  simp only [ob_,Bool.not_true,cond_false]
  have o:sEq y x.Id=false:=by rw [ym];exact decide_eq_false (h.noId y hm)
  rcases Nat.eq_zero_or_pos k with F|F
  ·rw [decide_eq_false (by omega),cond_false,ob_,cond_false,o];rfl
  ·rw [decide_eq_true (by omega),cond_true]
   obtain ⟨z,I,L⟩:=zW B F (by omega)
   have R:lt z y:=by
    obtain ⟨J,O⟩:=List.getElem?_eq_some_iff.1 L
    obtain ⟨M,N⟩:=List.getElem?_eq_some_iff.1 B
    rw [<- O,<- N]
    exact List.pairwise_iff_getElem.1 h.refsRise _ _ J M (by omega)
   have A:sLe y z=false:=by rw [<- Bool.not_eq_true,O4];exact λk=>k R
   rw [I,ob_,A,ob_,cond_false,o];rfl) trivial
 rw [e]
 simp only [ob_,thenC]
 have:((x.Kind==1)==((x.Refs.length:Int)==0))=true:=by
  rw [beq_iff_eq,Bool.eq_iff_iff,beq_iff_eq,beq_iff_eq,h.new]
  constructor
  ·intro e;rw [e];rfl
  ·intro e;exact List.eq_nil_of_length_eq_zero (by omega)
 rw [this];rfl
theorem Ot {r:Rect} (h:Fine r):jI r=some 0:=by rw [Cx,QQ h];rfl
theorem C8 {x:Alert} (h:RightA x):gX x=some 0:=by
 have o:=PQ _ h.id
 have M:kit_IsKey x.Id=some true:=by rw [rD _ (by have:=Nat.le_of_ble_eq_true o.2;omega),o.1]
 have I:kit_IsKey x.Sender=some true:=by
  rcases h.sender with e|e <;> rw [e,rD _ (by decide)] <;> exact congrArg some (by kernel_rfl)
 have h1:=h.at_
 have h2:=h.until_
 have L:=h.weight
 have O:=h.alen
 have B:CP x.At=true:=by unfold CP;rw [tq (by omega)];rfl
 unfold gX
 rw [M,I,Lr h]
 simp only [ob_,Bool.not_true,cond_false,rW,tq h.kind,bne_self_eq_false,z8,B,eD (n:=x.At+1) (by omega),eD (n:=x.At+2592000000) (by omega),tq (show x.At+1<=x.Until/\x.Until<=x.At+2592000000 by omega),tq L,decide_eq_false (show ¬(x.Areas.length:Int)>20 by omega)]
 obtain ⟨u,e,_⟩:=lc (body:=λk y s=>eZ k y s) (λ_ _=>True) (xs:=x.Areas) (s:=()) (by omega) (λk y s A _=>by
  refine⟨(),?_,trivial⟩
  unfold eZ
  rw [Ot (h.areas y (List.mem_of_getElem? A)).1];rfl) trivial
 rw [e]
 simp only [ob_,thenC,h.plain,Bool.not_true,cond_false]
 have F:((x.Kind==3)==((x.Areas.length:Int)==0))=true:=by
  rw [beq_iff_eq,Bool.eq_iff_iff,beq_iff_eq,beq_iff_eq,h.cancel]
  constructor
  ·intro e;rw [e];rfl
  ·intro e;exact List.eq_nil_of_length_eq_zero (by omega)
 rw [F]
 have N:x.Text.size<=16:=by
  rcases h.text with e|e|⟨_,e|e⟩ <;> rw [e] <;> decide
 rw [decide_eq_false (show ¬(x.Text.size:Int)>500 by omega)]
 have J:(bif sEq x.Text ⟨#[]⟩then some (!(x.Kind==3))else some false)=some false:=by
  rw [ym]
  rcases h.text with e|e|⟨k,_⟩
  ·rw [e,decide_eq_false (by decide)];rfl
  ·rw [e,decide_eq_false (by decide)];rfl
  ·rw [k]
   cases decide (x.Text=⟨#[]⟩) <;> rfl
 rw [J];rfl
theorem SC (id:ByteArray) (s:Stream) {b:Int} (hs:Ok s b) (hb:b<=800000) :
  ∃l A,forL ([(⟨#[97,97]⟩:ByteArray),(⟨#[97,98]⟩:ByteArray),(⟨#[97,99]⟩:ByteArray),(⟨#[97,100]⟩:ByteArray),(⟨#[122,122]⟩:ByteArray)]:List ByteArray) (([]:List ByteArray),s.L,s.f_at) (λk x s=>eH id k x s)=some (.go (l,A.L,A.f_at))/\l.Sublist refL/\(∀r∈l,r≠id)/\Ok A (b+10):=by
 obtain ⟨t,O,t2,t3,t4⟩:=lc (body:=λk x s=>eH id k x s) (xs:=refL) (s:=(([]:List ByteArray),s.L,s.f_at)) (λk t=>t.1.Sublist (refL.take k)/\(∀r∈t.1,r≠id)/\Ok ⟨t.2.1,t.2.2⟩ (b+k)) (by decide) (λk x t B ⟨o,i2,i3⟩=>by
  have M:k<refL.length:=(List.getElem?_eq_some_iff.1 B).1
  have J:k<5:=M
  have et:refL.take (k+1)=refL.take k++[x]:=by rw [List.take_add_one,B];rfl
  have I:t.1.length<=5:=Nat.le_trans o.length_le (by rw [List.length_take];exact Nat.min_le_right _ _)
  unfold eH
  rw [uY]
  by_cases he:x=id
  ·rw [decide_eq_true he]
   exact⟨_,rfl,by rw [et];exact o.trans (List.sublist_append_left _ _),i2,i3.mono (by omega)⟩
  ·obtain ⟨f,R,N,F⟩:=Dv _ 3 i3 (by omega) (by decide) (by decide)
   rw [decide_eq_false he]
   simp only [Bool.not_false,cond_true,N,ob_]
   cases f with
   | true =>
    rw [cond_true,kU _ _ (by simp;omega)]
    refine⟨_,rfl,by rw [et];exact o.append (List.Sublist.refl _),λr h => ?_,F.mono (by omega)⟩
    rcases List.mem_append.1 h with h|h
    ·exact i2 r h
    ·rw [List.mem_singleton.1 h];exact he
   | false=>exact⟨_,rfl,by rw [et];exact o.trans (List.sublist_append_left _ _),i2,F.mono (by omega)⟩) ⟨List.Sublist.refl _,λr h=>(by cases h),hs.mono (by omega)⟩
 exact⟨t.1,⟨t.2.1,t.2.2⟩,O,by simpa using t2,t3,t4.mono (by show b+((5:Nat):Int)<=b+10;omega)⟩
theorem Qw (n:Int) (W:1<=n/\n<=2) (s:Stream) {b:Int} (hs:Ok s b) (hb:b<=800000) :
  ∃l o,forL (List.range n.toNat) (([]:List Rect),s.L,s.f_at) (λk x s=>eG k x s)=some (.go (l,o.L,o.f_at))/\(l.length:Int)=n/\(∀r∈l,SmallR r)/\Ok o (b+10):=by
 obtain ⟨t,N,t2,t3,t4⟩:=RL (body:=λk x s=>eG k x s) (s:=(([]:List Rect),s.L,s.f_at)) (xs:=List.range n.toNat) (λj t=>t.1.length=j/\(∀r∈t.1,SmallR r)/\Ok ⟨t.2.1,t.2.2⟩ (b+4*j)) (by simp;omega) (λj x t O hj ⟨J,i2,i3⟩=>by
  simp only [List.length_range]at hj
  obtain ⟨r,R,F,A,I,B⟩:=NM _ i3 (by omega)
  unfold eG
  rw [F,ob_,kU _ _ (by simp;omega)]
  refine⟨_,rfl,by simp [J],λq h => ?_,B.mono (by omega)⟩
  rcases List.mem_append.1 h with h|h
  ·exact i2 q h
  ·rw [List.mem_singleton.1 h];exact⟨A,I⟩) ⟨rfl,λr M=>(by cases M),hs.mono (by omega)⟩
 rw [List.length_range]at t2 t4
 exact⟨t.1,⟨t.2.1,t.2.2⟩,N,by omega,t3,t4.mono (by omega)⟩
theorem Qe (id:ByteArray) (R:id∈idL) (k:Nat) (l0:List Alert) (hl:l0.length<=100) (s:Stream) {b:Int} (hs:Ok s b) (hb:b<=700000) :
  ∃x s',fU k id (l0,s.L,s.f_at)=some (.go (l0++[x],s'.L,s'.f_at))/\RightA x/\x.Id=id/\Ok s' (b+40):=by
 obtain ⟨sd,s1,a1,a2,a3⟩:=CB s [(⟨#[119,120]⟩:ByteArray),(⟨#[119,120]⟩:ByteArray),(⟨#[102,105,114,101]⟩:ByteArray)] hs (by omega) (by simp) (by simp)
 obtain ⟨F,s2,b1,b2,b3⟩:=FT s1 [1,1,2,2,3] a3 (by omega) (by simp) (by simp)
 obtain ⟨n5,s3,c1,c2,c3,c4⟩:=mE s2 0 6 b3 (by omega) (by decide) (by decide) (by decide)
 obtain ⟨wt,s4,d1,d2,d3⟩:=FT s3 [1,5,5,9] c4 (by omega) (by simp) (by simp)
 obtain ⟨tx,s5,e1,e2,e3⟩:=CB s4 [(⟨#[102,108,111,111,100]⟩:ByteArray),(⟨#[102,105,114,101,32,105,110,32,116,104,101,32,109,97,108,108]⟩:ByteArray)] d3 (by omega) (by simp) (by simp)
 obtain ⟨un,W,f1,f2,f3⟩:=FT s5 [1,10,20,50] e3 (by omega) (by simp) (by simp)
 have hsd:sd=wxS\/sd=fireS:=by
  simp only [List.mem_cons,List.not_mem_nil,or_false]at a2
  rcases a2 with h|h|h
  ·exact .inl h
  ·exact .inl h
  ·exact .inr h
 have hkd:F=1\/F=2\/F=3:=by
  simp only [List.mem_cons,List.not_mem_nil,or_false]at b2;omega
 have hwt:1<=wt/\wt<=9:=by
  simp only [List.mem_cons,List.not_mem_nil,or_false]at d2;omega
 have hun:1<=un/\un<=50:=by
  simp only [List.mem_cons,List.not_mem_nil,or_false]at f2;omega
 have htx:tx=floodS\/tx=mallS:=by
  simp only [List.mem_cons,List.not_mem_nil,or_false]at e2;exact e2
 obtain ⟨rf,A,g1,g2,g3,g4,g5⟩:∃rf A,(bif F != 1 then (forL ([(⟨#[97,97]⟩:ByteArray),(⟨#[97,98]⟩:ByteArray),(⟨#[97,99]⟩:ByteArray),(⟨#[97,100]⟩:ByteArray),(⟨#[122,122]⟩:ByteArray)]:List ByteArray) (([]:List ByteArray),W.L,W.f_at) (λk x s=>eH id k x s)).bind λY=>thenC Y (λo=>bif ((o.1.length:Int)==0)then some (o.2.1,o.2.2,([(⟨#[122,121]⟩:ByteArray)]:List ByteArray))else some (o.2.1,o.2.2,o.1)) (λ_=>none)else some (W.L,W.f_at,([]:List ByteArray)))=some (Stream.L A,Stream.f_at A,rf)/\(rf.Sublist refL\/rf=[zyS])/\(∀r∈rf,r≠id)/\(F=1↔rf=[])/\Ok A (b+20):=by
  by_cases h1:F=1
  ·rw [h1]
   exact⟨[],W,rfl,.inl (List.nil_sublist _),λr X=>(by cases X),⟨λ_=>rfl,λ_=>rfl⟩,f3.mono (by omega)⟩
  ·have:(F != 1)=true:=by simpa using h1
   rw [this,cond_true]
   obtain ⟨l,A,g1,g2,g3,g4⟩:=SC id W f3 (by omega)
   rw [g1]
   simp only [ob_,thenC]
   by_cases hl0:l=[]
   ·subst hl0
    refine⟨[zyS],A,rfl,.inr rfl,λr X e => ?_,⟨λh=>absurd h h1,λh=>(by cases h)⟩,g4.mono (by omega)⟩
    rw [List.mem_singleton.1 X]at e
    rw [<- e]at R
    have:=TH _ R
    exact absurd this (by decide)
   ·have:((l.length:Int)==0)=false:=by
     rw [beq_eq_false_iff_ne]
     intro e;exact hl0 (List.eq_nil_of_length_eq_zero (by omega))
    rw [this,cond_false]
    exact⟨l,A,rfl,.inl g2,g3,⟨λh=>absurd h h1,λh=>absurd h hl0⟩,g4.mono (by omega)⟩
 obtain ⟨O,B,N,j1,j2,j3,j4,j5,j6⟩:∃O B N,(bif F==3 then (iH (⟨Stream.L A,Stream.f_at A⟩:Stream) ([(⟨#[]⟩:ByteArray),(⟨#[111,118,101,114]⟩:ByteArray)]:List ByteArray)).bind λJ=>some (([]:List Rect),J.2.L,J.2.f_at,J.1)else (dn (⟨Stream.L A,Stream.f_at A⟩:Stream) 1 2).bind λM=>(forL (List.range (M.1).toNat) (([]:List Rect),M.2.L,M.2.f_at) (λk x s=>eG k x s)).bind λZ=>thenC Z (λI=>some (I.1,I.2.1,I.2.2,tx)) (λ_=>none))=some (O,Stream.L N,Stream.f_at N,B)/\(∀r∈O,SmallR r)/\O.length<=2/\(F=3↔O=[])/\(B=floodS\/B=mallS\/F=3/\(B=⟨#[]⟩\/B=overS))/\Ok N (b+40):=by
  have e7:(⟨Stream.L A,Stream.f_at A⟩:Stream)=A:=rfl
  rw [e7]
  by_cases h3:F=3
  ·have:(F==3)=true:=by simpa using h3
   rw [this,cond_true]
   obtain ⟨t2,N,q1,q2,q3⟩:=CB A [(⟨#[]⟩:ByteArray),(⟨#[111,118,101,114]⟩:ByteArray)] g5 (by omega) (by simp) (by simp)
   rw [q1]
   simp only [List.mem_cons,List.not_mem_nil,or_false]at q2
   exact⟨[],t2,N,rfl,λr X=>(by cases X),by decide,⟨λ_=>rfl,λ_=>h3⟩,.inr (.inr ⟨h3,q2⟩),q3.mono (by omega)⟩
  ·have:(F==3)=false:=by simpa using h3
   rw [this,cond_false]
   obtain ⟨m,N,q1,q2,q3,q4⟩:=mE A 1 2 g5 (by omega) (by decide) (by decide) (by decide)
   obtain ⟨O,s9,r1,r2,r3,r4⟩:=Qw m ⟨q2,q3⟩ N q4 (by omega)
   rw [q1,ob_,r1]
   refine⟨O,tx,s9,rfl,r3,by omega,⟨λh=>absurd h h3,λh => ?_⟩,htx.imp (λh=>h) .inl,r4.mono (by omega)⟩
   rw [h]at r2;simp at r2;omega
 refine⟨⟨id,sd,F,rf,n5*5,n5*5+un,wt,O,B⟩,N,?_,⟨R,hsd,by simp only [];omega,g2,g3,g4,by simp only [];omega,by simp only [];omega,hwt,j2,j3,j4,j5⟩,rfl,j6⟩
 unfold fU
 have e0:(⟨s.L,s.f_at⟩:Stream)=s:=rfl
 simp only [e0,a1,b1,c1,d1,e1,f1,g1,j1,ob_]
 rw [kU _ _ (by simp;omega),eD (n:=n5*5) (by omega),eD (n:=n5*5+un) (by omega)];rfl
def befA (a b:Alert):Prop:=a.At<b.At\/a.At=b.At/\lt a.Id b.Id
open Classical in
theorem TP {a b:Alert} (h:RightA a) (hb:RightA b):nJ a b=some (bif a.At != b.At then a.At-b.At else bif sLt a.Id b.Id then -1 else 1):=by
 have h1:=h.at_
 have h2:=hb.at_
 unfold nJ
 cases a.At != b.At with
 | true=>rw [cond_true,cond_true,eD (by omega)]
 | false =>
  rw [cond_false,cond_false]
  cases sLt a.Id b.Id <;> rfl
theorem vk {a b:Alert}:(bif a.At != b.At then a.At-b.At else bif sLt a.Id b.Id then (-1:Int)else 1)<0↔befA a b:=by
 unfold befA
 by_cases h:a.At=b.At
 ·have:(a.At != b.At)=false:=by simpa using h
  rw [this,cond_false]
  cases hl:sLt a.Id b.Id with
  | true =>
   rw [cond_true]
   exact⟨λ_ => .inr ⟨h,(FY _ _).1 hl⟩,λ_=>by decide⟩
  | false =>
   rw [cond_false]
   refine⟨λh=>absurd h (by decide),λhb => ?_⟩
   rcases hb with hb|hb
   ·omega
   ·rw [(FY _ _).2 hb.2]at hl;cases hl
 ·have:(a.At != b.At)=true:=by simpa using h
  rw [this,cond_true]
  refine⟨λk => .inl (by omega),λhb => ?_⟩
  rcases hb with hb|hb
  ·omega
  ·exact absurd hb.1 h
theorem LW (a:Alert):¬befA a a:=λh=>by
 rcases h with h|h
 ·omega
 ·exact gG _ h.2
theorem G6 {a b c:Alert} (h:befA a b) (k:befA b c):befA a c:=by
 rcases h with h|h <;> rcases k with k|k
 ·exact .inl (by omega)
 ·exact .inl (by omega)
 ·exact .inl (by omega)
 ·exact .inr ⟨h.1.trans k.1,lt_trans h.2 k.2⟩
theorem L6 (a b:Alert) (o:a.Id≠b.Id):befA a b\/befA b a:=by
 rcases Int.lt_trichotomy a.At b.At with h|h|h
 ·exact .inl (.inl h)
 ·rcases vT a.Id b.Id with k|k|k
  ·exact .inl (.inr ⟨h,k⟩)
  ·exact absurd k o
  ·exact .inr (.inr ⟨h.symm,k⟩)
 ·exact .inr (.inl h)
theorem E9 {a b c:Alert} (h:¬befA a b) (k:¬befA b c):¬befA a c:=λhc=>by
 unfold befA at *
 simp only [not_or,not_and]at h k
 rcases hc with hc|hc
 ·rcases Int.lt_trichotomy a.At b.At with q|q|q
  ·exact h.1 q
  ·rcases Int.lt_trichotomy b.At c.At with r|r|r
   ·exact k.1 r
   ·omega
   ·omega
  ·have:=k.1;omega
 ·have h1:=h.1
  have F:=k.1
  have B:a.At=b.At:=by omega
  have A:b.At=c.At:=by omega
  have h2:=h.2 B
  have o:=k.2 A
  rcases vT a.Id b.Id with q|q|q
  ·exact h2 q
  ·rw [q]at hc;exact o hc.2
  ·rcases vT b.Id c.Id with r|r|r
   ·exact o r
   ·rw [<- r]at hc;exact h2 hc.2
   ·exact gG _ (lt_trans (lt_trans hc.2 r) q)
structure RAlerts (l:List Alert) (n:Nat):Prop where
 right:∀x∈l,RightA x
 rise:l.Pairwise befA
 ids:(l.map (·.Id)).Nodup
 len:l.length<=n
theorem Lj (o:Int) (hm:0<=o/\o<=6) (s:Stream) {b:Int} (hs:Ok s b) (hb:b<=600000):∃l s',gu s o=some (l,s')/\(RAlerts l o.toNat/\∀x∈l,x.Id∈idL.take o.toNat)/\Ok s' (b+250):=by
 obtain ⟨n,Z,a1,a2,a3,a4⟩:=mE s 0 o hs (by omega) (by omega) (by decide) (by omega)
 have I:KP idL 0 n=some (idL.take n.toNat):=by
  unfold KP
  have h6:idL.length=6:=rfl
  rw [if_pos (by rw [h6];omega)]
  simp
 obtain ⟨t,t1,t2,t3,t4⟩:=lc (body:=λk x s=>fU k x s) (xs:=idL.take n.toNat) (s:=(([]:List Alert),Z.L,Z.f_at)) (λk t=>t.1.map (·.Id)=idL.take k/\(∀x∈t.1,RightA x)/\Ok ⟨t.2.1,t.2.2⟩ (b+1+40*k)) (by rw [List.length_take];show min n.toNat 6<=_;omega) (λk x t A ⟨Y,i2,i3⟩=>by
  have hk:k<(idL.take n.toNat).length:=(List.getElem?_eq_some_iff.1 A).1
  rw [List.length_take]at hk
  have hk6:k<6:=by have:idL.length=6:=rfl;omega
  have F:idL[k]? = some x:=by rw [List.getElem?_take_of_lt (by omega)]at A;exact A
  have J:t.1.length<=6:=by
   have:=congrArg List.length Y
   rw [List.length_map,List.length_take]at this
   omega
  obtain ⟨y,s2,c1,c2,c3,c4⟩:=Qe x (List.mem_of_getElem? F) k t.1 (by omega) ⟨t.2.1,t.2.2⟩ i3 (by omega)
  refine⟨_,c1,?_,λz N => ?_,c4.mono (by omega)⟩
  ·rw [List.map_append,Y,List.take_add_one,F]
   simp [c3]
  ·rcases List.mem_append.1 N with N|N
   ·exact i2 z N
   ·rw [List.mem_singleton.1 N];exact c2) ⟨rfl,λx A=>(by cases A),a4.mono (by omega)⟩
 have X:(t.1.map (·.Id)).Nodup:=by
  rw [t2]
  exact (MU.sublist (List.take_sublist _ _)).imp (λh e=>by rw [e]at h;exact gG _ h)
 have J:t.1.length<=o.toNat:=by
  have:=congrArg List.length t2
  rw [List.length_map,List.length_take,List.length_take]at this
  omega
 obtain ⟨r,r1,O,r3⟩:=Tn (cmp:=nJ) (S:=dx) (λa b=>bif a.At != b.At then a.At-b.At else bif sLt a.Id b.Id then -1 else 1) (λ_=>rfl) (xs:=t.1) (by omega) (λx A y hy=>TP (t3 x A) (t3 y hy))
  (λx y h k=>LW x (G6 (vk.1 h) (vk.1 k))) (λx y z h k q=>E9 (λe=>h (vk.2 e)) (λe=>k (vk.2 e)) (vk.1 q))
 have R:r.length=t.1.length:=O.length_eq
 have B:(r.map (·.Id)).Nodup:=(O.map (·.Id)).nodup_iff.2 X
 have W:∀x∈r,x.Id∈idL.take o.toNat:=λx A=>by
  have h1:x.Id∈t.1.map (·.Id):=List.mem_map.2 ⟨x,O.mem_iff.1 A,rfl⟩
  rw [t2]at h1
  have h2:(idL.take n.toNat).length<=o.toNat:=by rw [List.length_take];omega
  have h3:idL.take (idL.take n.toNat).length=(idL.take o.toNat).take (idL.take n.toNat).length:=by rw [List.take_take,Nat.min_eq_left h2]
  rw [h3]at h1
  exact List.mem_of_mem_take h1
 refine⟨r,⟨t.2.1,t.2.2⟩,?_,⟨⟨λx A=>t3 x (O.mem_iff.1 A),?_,B,by omega⟩,W⟩,t4.mono (by
  have:(idL.take n.toNat).length<=6:=by rw [List.length_take];exact Nat.min_le_right _ _
  omega)⟩
 ·unfold gu
  have e1:KP ([(⟨#[97,97]⟩:ByteArray),(⟨#[97,98]⟩:ByteArray),(⟨#[97,99]⟩:ByteArray),(⟨#[97,100]⟩:ByteArray),(⟨#[97,101]⟩:ByteArray),(⟨#[97,102]⟩:ByteArray)]:List ByteArray) 0 n=some (idL.take n.toNat):=I
  simp only [a1,ob_,e1,t1,thenC]
  have e2:dx t.1=some r:=r1
  have e3:iQ r t.1=some ():=by unfold iQ;rw [if_pos R]
  rw [e2,ob_,e3];rfl
 ·refine List.pairwise_iff_getElem.2 (λi j hi hj M => ?_)
  have h1:=List.pairwise_iff_getElem.1 r3 i j hi hj M
  have h2:r[i].Id≠r[j].Id:=λe=>by
   have:=List.pairwise_iff_getElem.1 B i j (by simpa using hi) (by simpa using hj) M
   rw [List.getElem_map,List.getElem_map]at this
   exact this e
  rcases L6 r[i] r[j] h2 with h|h
  ·exact h
  ·exact absurd (vk.2 h) h1
theorem Ni (h:Int) (hm:0<=h/\h<=6) (s:Stream) {b:Int} (hs:Ok s b) (hb:b<=600000):∃l o,gu s h=some (l,o)/\RAlerts l h.toNat/\Ok o (b+250):=by
 obtain ⟨l,o,h1,h2,A⟩:=Lj h hm s hs hb
 exact⟨l,o,h1,h2.1,A⟩
theorem KG {a b:Alert} (h:befA a b):∃n,jc a b=some n/\n<0:=by
 refine⟨_,by simp only [jc,sH,yl,Lb,ob_];rfl,?_⟩
 unfold or0 Fs
 rcases h with h|⟨h,k⟩
 ·simp [h]
 ·rw [h]
  rcases Ec a.Id b.Id with⟨_,e⟩|⟨e,_⟩|⟨e,_⟩
  ·rw [e];simp
  ·rw [e]at k;exact absurd k (gG _)
  ·exact absurd (lt_trans k e) (gG _)
theorem Jg {K T:Type} {eq:K->K->Bool} {k:K}:∀{es:List (K×T)},(∀e∈es,eq k e.1=false)->Bf eq k es=none
 | [],_=>rfl
 | e::es,h=>by
  have h1:=h e (by simp)
  have h2:=Jg (es:=es) (λx o=>h x (by simp [o]))
  rw [Bf,h1,h2];rfl
theorem Q8 {a b:ByteArray} (h:(a==b)=true):a=b:=by
 obtain ⟨x⟩:=a
 obtain ⟨y⟩:=b
 have h1:(x==y)=true:=h
 rw [eq_of_beq h1]
theorem idsLoop (l:List Alert) (o:(l.map (·.Id)).Nodup) (hl:l.length<=1000):∃s,forL l ([]:List (ByteArray×Bool)) (λk x s=>gN k x s)=some (.go s):=by
 obtain ⟨s,e,_⟩:=lc (body:=λk x s=>gN k x s) (λk s=>s=(l.take k).map λa=>(a.Id,true)) (xs:=l) (s:=([]:List (ByteArray×Bool))) (by omega) (λk x s A hs=>by
  have et:l.take (k+1)=l.take k++[x]:=by rw [List.take_add_one,A];rfl
  have J:Bf eqS x.Id s=none:=Jg (λe B=>by
   rw [hs]at B
   obtain ⟨a,F,rfl⟩:=List.mem_map.1 B
   obtain ⟨i,hi,rfl⟩:=List.getElem_of_mem F
   rw [List.length_take]at hi
   obtain ⟨I,h⟩:=List.getElem?_eq_some_iff.1 A
   rw [<- Bool.not_eq_true]
   intro e
   replace e:=Q8 e
   have:=List.pairwise_iff_getElem.1 o i k (by simp;omega) (by simpa using I) (by omega)
   rw [List.getElem_map,List.getElem_map,h]at this
   rw [List.getElem_take]at e
   exact this e.symm)
  unfold gN mGet zK
  rw [J]
  refine⟨_,rfl,?_⟩
  rw [et,List.map_append,hs];rfl) rfl
 exact⟨s,e⟩
theorem xg {l:List Alert} {n:Nat} (h:RAlerts l n) (O:n<=300):iC l=some 0:=by
 have hl:=h.len
 unfold iC
 rw [decide_eq_false (by omega),cond_false]
 obtain ⟨u,e,_⟩:=lc (body:=λk x s=>gM l k x s) (λ_ _=>True) (xs:=l) (s:=()) (by omega) (λk x s o _=>by
  refine⟨(),?_,trivial⟩
  have hm:=List.mem_of_getElem? o
  unfold gM
  rw [C8 (h.right x hm)]
  simp only [ob_,bne_self_eq_false,cond_false]
  rcases Nat.eq_zero_or_pos k with F|F
  ·rw [decide_eq_false (by omega)];rfl
  ·rw [decide_eq_true (by omega),cond_true]
   obtain ⟨y,L,N⟩:=zW o F (by omega)
   have hb:befA y x:=by
    obtain ⟨M,A⟩:=List.getElem?_eq_some_iff.1 N
    obtain ⟨I,B⟩:=List.getElem?_eq_some_iff.1 o
    rw [<- A,<- B]
    exact List.pairwise_iff_getElem.1 h.rise _ _ M I (by omega)
   obtain ⟨m,A,B⟩:=KG hb
   rw [L,ob_,A,ob_,decide_eq_false (by omega)];rfl) trivial
 rw [e]
 simp only [ob_,thenC]
 obtain ⟨s,J⟩:=idsLoop l h.ids (by omega)
 rw [J];rfl
structure RightPo (p:Post):Prop where
 key:kit_IsKey p.Player=some true
 x : -1000<=p.X/\p.X<=1000
 y : -1000<=p.Y/\p.Y<=1000
def poL:List ByteArray:=[⟨#[112,97]⟩,⟨#[112,98]⟩,⟨#[112,99]⟩]
theorem poL_key:∀k∈poL,kit_IsKey k=some true:=by
 intro k h
 simp only [poL,List.mem_cons,List.not_mem_nil,or_false]at h
 rcases h with rfl|rfl|rfl <;> rw [rD _ (by decide)] <;> exact congrArg some (by kernel_rfl)
theorem RD:poL.Pairwise lt:=by
 unfold poL
 simp only [List.pairwise_cons,List.mem_cons,List.not_mem_nil,or_false,forall_eq_or_imp,forall_eq]
 exact⟨⟨jl (by kernel_rfl),jl (by kernel_rfl)⟩,jl (by kernel_rfl),λa h=>(by cases h),List.Pairwise.nil⟩
structure RPosts (l:List Post):Prop where
 right:∀p∈l,RightPo p
 sub:(l.map (·.Player)).Sublist poL
theorem RPosts.rise {l:List Post} (h:RPosts l):(l.map (·.Player)).Pairwise lt:=RD.sublist h.sub
theorem RPosts.len {l:List Post} (h:RPosts l):l.length<=3:=by
 have h1:=h.sub.length_le
 rw [List.length_map]at h1
 exact h1
theorem NZ (s:Stream) {b:Int} (hs:Ok s b) (hb:b<=800000):∃l J,iZ s=some (l,J)/\RPosts l/\Ok J (b+20):=by
 obtain ⟨t,t1,t2,t3,t4⟩:=lc (body:=λk x s=>gJ k x s) (xs:=poL) (s:=(([]:List Post),s.L,s.f_at)) (λk t=>(t.1.map (·.Player)).Sublist (poL.take k)/\(∀p∈t.1,RightPo p)/\Ok ⟨t.2.1,t.2.2⟩ (b+3*k)) (by decide) (λk x t A ⟨F,i2,i3⟩=>by
  have hk:k<3:=(List.getElem?_eq_some_iff.1 A).1
  have I:t.1.length<=3:=by
   have:=F.length_le
   rw [List.length_map,List.length_take]at this
   exact Nat.le_trans this (Nat.min_le_right _ _)
  obtain ⟨n1,Z⟩:=RN A F
  obtain ⟨f,Y,R,B⟩:=Dv _ 5 i3 (by omega) (by decide) (by decide)
  unfold gJ
  simp only [R,ob_]
  cases f with
  | true=>exact⟨_,rfl,n1,i2,B.mono (by omega)⟩
  | false =>
   obtain ⟨X,M,O,d2,d3,d4⟩:=mE Y (-2) 10 B (by omega) (by decide) (by decide) (by decide)
   obtain ⟨N,s3,W,e2,e3,e4⟩:=mE M (-2) 10 d4 (by omega) (by decide) (by decide) (by decide)
   simp only [Bool.not_false,cond_true,O,W,ob_]
   rw [kU _ _ (by simp;omega)]
   refine⟨_,rfl,Z ⟨x,X,N⟩ rfl,λp h => ?_,e4.mono (by omega)⟩
   rcases List.mem_append.1 h with h|h
   ·exact i2 p h
   ·rw [List.mem_singleton.1 h]
    exact⟨poL_key x (List.mem_of_getElem? A),by simp only [];omega,by simp only [];omega⟩) ⟨List.Sublist.refl _,λp h=>(by cases h),hs.mono (by omega)⟩
 refine⟨t.1,⟨t.2.1,t.2.2⟩,?_,⟨t3,by rw [List.take_length]at t2;exact t2⟩,t4.mono (by show b+3*((3:Nat):Int)<=b+20;omega)⟩
 unfold iZ
 have o:forL ([(⟨#[112,97]⟩:ByteArray),(⟨#[112,98]⟩:ByteArray),(⟨#[112,99]⟩:ByteArray)]:List ByteArray) (([]:List Post),s.L,s.f_at) (λk x s=>gJ k x s)=some (.go t):=t1
 rw [o];rfl
theorem KR {l:List Post} (h:RPosts l):jL l=some 0:=by
 have hl:=h.len
 unfold jL
 rw [decide_eq_false (by omega),cond_false]
 obtain ⟨u,e,_⟩:=lc (body:=λk x s=>iB l k x s) (λ_ _=>True) (xs:=l) (s:=()) (by omega) (λk p s A _=>by
  refine⟨(),?_,trivial⟩
  have B:=h.right p (List.mem_of_getElem? A)
  have h1:=B.x
  have h2:=B.y
  unfold iB
  rw [B.key]
  simp only [ob_,Bool.not_true,cond_false,rW,tq (show (-100000:Int)<=p.X/\p.X<=100000 by omega),tq (show (-100000:Int)<=p.Y/\p.Y<=100000 by omega)]
  rcases Nat.eq_zero_or_pos k with F|F
  ·rw [decide_eq_false (by omega)];rfl
  ·rw [decide_eq_true (by omega),cond_true]
   obtain ⟨z,I,L⟩:=zW A F (by omega)
   have R:lt z.Player p.Player:=by
    obtain ⟨J,O⟩:=List.getElem?_eq_some_iff.1 L
    obtain ⟨M,N⟩:=List.getElem?_eq_some_iff.1 A
    have:=List.pairwise_iff_getElem.1 h.rise (k-1) k (by simpa using J) (by simpa using M) (by omega)
    rwa [List.getElem_map,List.getElem_map,O,N]at this
   have o:sLe p.Player z.Player=false:=by rw [<- Bool.not_eq_true,O4];exact λk=>k R
   rw [I,ob_,o];rfl) trivial
 rw [e];rfl
theorem odd_bd (s:Stream) (o hi:Int) {b:Int} (hs:Ok s b) (hb:b<=900000) (h:o<=hi) (h1 : -1000000000000<=o) (h2:hi<=1000000000000):∃r L,p8 s o hi=some (r,L)/\(-1100000000000<=r/\r<=1100000000000)/\Ok L (b+2):=by
 unfold p8
 obtain ⟨c,I,N,a2⟩:=Dv s 12 hs (by omega) (by decide) (by decide)
 simp only [N,ob_]
 cases c with
 | true =>
  obtain ⟨k,B,A,F,J⟩:=FT I [(w64 (o-1)),(w64 (hi+1)),o,hi,(-1099511627776),1099511627776] a2 (by omega) (by simp) (by simp)
  rw [eD (n:=o-1) (by omega),eD (n:=hi+1) (by omega)]at A F
  rw [cond_true,eD (n:=o-1) (by omega),eD (n:=hi+1) (by omega),A,ob_]
  refine⟨k,B,rfl,?_,J.mono (by omega)⟩
  simp only [List.mem_cons,List.not_mem_nil,or_false]at F
  omega
 | false =>
  obtain ⟨k,B,A,F,J,M⟩:=mE I o hi a2 (by omega) h h1 h2
  rw [cond_false,A,ob_]
  exact⟨k,B,rfl,by omega,M.mono (by omega)⟩
def ShA (s:ByteArray):Prop:=s.size<=1000
theorem o5 {s:ByteArray} (h:Nat.ble s.size 1000=true):ShA s:=Nat.le_of_ble_eq_true h
def txtL:List ByteArray:=[⟨#[]⟩,overS,floodS,mallS,⟨#[32,120]⟩,⟨#[97,32,32,98]⟩,⟨#[10]⟩,⟨#[255]⟩]
structure GA (x:Alert):Prop where
 id:ShA x.Id
 sender:ShA x.Sender
 refs:∀r∈x.Refs,ShA r
 rlen:x.Refs.length<=5
 alen:x.Areas.length<=2
 at_ : -1100000000000<=x.At/\x.At<=1100000000000
 until_ : -1100000000000<=x.Until/\x.Until<=1100000000000
 text:x.Text∈txtL
theorem RightA.ga {x:Alert} (h:RightA x):GA x:=by
 have h1:=h.at_
 have h2:=h.until_
 refine⟨(PQ _ h.id).2 |> o5,?_,λr o => ?_,h.refsLen,h.alen,by omega,by omega,?_⟩
 ·rcases h.sender with e|e <;> rw [e] <;> exact o5 rfl
 ·rcases h.refs with hs|hs
  ·exact o5 (Mo r (hs.subset o)).2
  ·rw [hs]at o;rw [List.mem_singleton.1 o];exact o5 rfl
 ·unfold txtL
  rcases h.text with e|e|⟨_,e|e⟩ <;> rw [e] <;> simp
theorem set_all {α:Type} {p:α->Prop} {xs:List α} {i:Nat} {a:α} (h:∀x∈xs,p x) (o:p a):∀x∈xs.set i a,p x:=λx A=>by
 rcases List.mem_or_eq_of_mem_set A with h1|h1
 ·exact h x h1
 ·rw [h1];exact o
theorem tu {α:Type} {xs:List α} {i:Nat} {a:α} (h:i<xs.length):(xs.set i a)[i]? = some a:=by simp [h]
structure GP (p:Post):Prop where
 player:ShA p.Player
theorem QV {α : Type} {R : α->α->Prop} (o : ∀a b, R a b->¬R b a) {a b : List α} (h : a.Perm b) (A : a.Pairwise R) (hb : b.Pairwise R) : a=b :=
  List.Perm.eq_of_pairwise (λx y _ _ h1 h2=>absurd h2 (o x y h1)) A hb h
def Qg {α:Type} (r:α->α->Bool) (x:α):List α->List α
 | []=>[x]
 | y::l=>bif r x y then x::y::l else y::Qg r x l
def Sg {α:Type} (r:α->α->Bool):List α->List α
 | []=>[]
 | x::l=>Qg r x (Sg r l)
theorem DV {α:Type} (r:α->α->Bool) (x:α):∀l,(Qg r x l).Perm (x::l)
 | [] => .refl _
 | y::l=>by
  unfold Qg
  cases r x y with
  | true=>exact .refl _
  | false=>exact ((DV r x l).cons y).trans (List.Perm.swap x y l)
theorem EC {α:Type} (r:α->α->Bool):∀l,(Sg r l).Perm l
 | [] => .refl _
 | x::l=>(DV r x _).trans ((EC r l).cons x)
theorem EM {α:Type} {r:α->α->Bool} (A:∀a b c,r a b=true->r b c=true->r a c=true) {x:α}:∀{l:List α},(∀y∈l,r x y=true\/r y x=true)->l.Pairwise (λa b=>r a b=true)->(Qg r x l).Pairwise (λa b=>r a b=true)
 | [],_,_=>List.pairwise_singleton _ _
 | y::l,h,B=>by
  obtain ⟨F,I⟩:=List.pairwise_cons.1 B
  unfold Qg
  cases hxy:r x y with
  | true =>
   refine List.pairwise_cons.2 ⟨λz o => ?_,B⟩
   rcases List.mem_cons.1 o with rfl|o
   ·exact hxy
   ·exact A _ _ _ hxy (F z o)
  | false =>
   refine List.pairwise_cons.2 ⟨λz o => ?_,EM A (λz o=>h z (List.mem_cons_of_mem _ o)) I⟩
   rcases List.mem_cons.1 ((DV r x l).mem_iff.1 o)with rfl|o
   ·exact (h y List.mem_cons_self).resolve_left (by rw [hxy];exact Bool.false_ne_true)
   ·exact F z o
theorem EY {α:Type} {r:α->α->Bool} (o:∀a b c,r a b=true->r b c=true->r a c=true):∀{l:List α},l.Pairwise (λa b=>r a b=true\/r b a=true)->(Sg r l).Pairwise (λa b=>r a b=true)
 | [],_ => .nil
 | x::l,h=>by
  obtain ⟨B,F⟩:=List.pairwise_cons.1 h
  exact EM o (λy A=>B y ((EC r l).mem_iff.1 A)) (EY o F)
theorem srtG_is {α:Type} {r:α->α->Bool} (A:∀a,r a a=false) (o:∀a b c,r a b=true->r b c=true->r a c=true) {l s:List α} (ht:l.Pairwise (λa b=>r a b=true\/r b a=true)) (B:s.Perm l) (hs:s.Pairwise (λa b=>r b a=false)):s=Sg r l:=by
 have F:∀{x y:α},(r x y=true\/r y x=true)->(r y x=true\/r x y=true):=λh=>h.symm
 have h2:s.Pairwise (λa b=>r a b=true\/r b a=true):=(B.pairwise_iff (λh=>h.symm)).2 ht
 have I:s.Pairwise (λa b=>r a b=true):=by
  refine List.Pairwise.imp₂ (λa b h k => ?_) hs h2
  rcases k with k|k
  ·exact k
  ·rw [h]at k;cases k
 exact QV (R:=λa b=>r a b=true) (λa b h k=>by have:=o a b a h k;rw [A]at this;cases this) (B.trans (EC r l).symm) I (EY o ht)
instance (a b:Alert):Decidable (lt a.Id b.Id):=by unfold lt;exact inferInstance
instance (a b:Alert):Decidable (befA a b):=by unfold befA;exact inferInstance
instance (v:ByteArray) (l:List ByteArray):Decidable (v∈l):=decidable_of_iff (l.any (λx=>decide (v=x))=true) (by simp)
def BQ (a o:Alert) (r:ByteArray):Bool:=decide (o.Id=r)&&(decide (o.Sender=a.Sender)&&decide (befA o a))
def cutB (a z:Alert):Bool:=decide (z.Id∈a.Refs)&&(decide (z.Sender=a.Sender)&&decide (befA z a))
def sP (l:List Alert) (z:Alert):Int:=l.foldl (λm a=>bif cutB a z then min m a.At else m) z.Until
def onB (l:List Alert) (t:Int) (z:Alert):Bool:=decide (z.Kind≠3)&&(decide (z.At<=t)&&decide (t<sP l z))
def zA (a b:Alert):Bool:=decide (b.Weight<a.Weight)||(decide (a.Weight=b.Weight)&&(decide (b.At<a.At)||(decide (a.At=b.At)&&decide (lt a.Id b.Id))))
theorem MX (a:Alert):zA a a=false:=by
 unfold zA
 rw [<- Bool.not_eq_true]
 simp only [Bool.or_eq_true,Bool.and_eq_true,decide_eq_true_eq,not_or,not_and]
 exact⟨Int.lt_irrefl _,λ_=>⟨Int.lt_irrefl _,λ_=>gG _⟩⟩
theorem Al {a b:Alert}:zA a b=true↔b.Weight<a.Weight\/a.Weight=b.Weight/\(b.At<a.At\/a.At=b.At/\lt a.Id b.Id):=by
 unfold zA
 simp only [Bool.or_eq_true,Bool.and_eq_true,decide_eq_true_eq]
theorem IB (a b c:Alert) (h:zA a b=true) (k:zA b c=true):zA a c=true:=by
 rw [Al]at *
 rcases h with h|⟨h,h2⟩ <;> rcases k with k|⟨k,k2⟩
 ·exact .inl (by omega)
 ·exact .inl (by omega)
 ·exact .inl (by omega)
 ·refine .inr ⟨by omega,?_⟩
  rcases h2 with h2|⟨h2,o⟩ <;> rcases k2 with k2|⟨k2,k3⟩
  ·exact .inl (by omega)
  ·exact .inl (by omega)
  ·exact .inl (by omega)
  ·exact .inr ⟨by omega,lt_trans o k3⟩
theorem RY {a b:Alert} (h:a.Id≠b.Id):zA a b=true\/zA b a=true:=by
 rw [Al,Al]
 rcases Int.lt_trichotomy a.Weight b.Weight with q|q|q
 ·exact .inr (.inl q)
 ·rcases Int.lt_trichotomy a.At b.At with w|w|w
  ·exact .inr (.inr ⟨q.symm,.inl w⟩)
  ·rcases vT a.Id b.Id with e|e|e
   ·exact .inl (.inr ⟨q,.inr ⟨w,e⟩⟩)
   ·exact absurd e h
   ·exact .inr (.inr ⟨q.symm,.inr ⟨w.symm,e⟩⟩)
  ·exact .inl (.inr ⟨q,.inl w⟩)
 ·exact .inl (.inl q)
theorem QR {l:List Alert} (h:(l.map (·.Id)).Nodup):l.Pairwise (λa b=>zA a b=true\/zA b a=true):=by
 have h2:l.Pairwise (λa b=>a.Id≠b.Id):=by
  have:=h
  unfold List.Nodup at this
  rwa [List.pairwise_map]at this
 exact h2.imp RY
def Db (l:List Alert) (h o t:Int):List Alert:=l.filter λz=>onB l t z&&hasB z.Areas h o
def Sd (l:List Alert) (h o t:Int):List Alert:=Sg zA (Db l h o t)
theorem MJ {l:List Alert} (h:(l.map (·.Id)).Nodup) (o A t:Int):((Db l o A t).map (·.Id)).Nodup:=h.sublist ((List.filter_sublist (l:=l)).map _)
theorem rank_is {l:List Alert} (h:(l.map (·.Id)).Nodup) (o A t:Int) {s:List Alert} (B:s.Perm (Db l o A t)) (hs:s.Pairwise (λa b=>zA b a=false)):s=Sd l o A t :=
 srtG_is MX IB (QR (MJ h o A t)) B hs
end Go.Proofs.YtadpbmfnnlkdlacGreatDoor.Law

