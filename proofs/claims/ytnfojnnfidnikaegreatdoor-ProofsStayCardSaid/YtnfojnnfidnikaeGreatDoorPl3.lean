/-
  THE PLAIN LAW (part 3).
-/
import Derived.Test.YtnfojnnfidnikaeGreatDoorPl2
open Go Go.Eng
namespace Go.Proofs.YtnfojnnfidnikaeGreatDoor.Law
set_option linter.unusedVariables false
set_option linter.unusedSimpArgs false
def gP (d:Dated):Placed:=⟨d.f_i,d.f_at⟩
theorem Nc {B:List Beat} (M:BOk B) {L:List Log_} {j:Nat} {to:Int} {x:Log_} (hj:L[j]? = some x) (W:(j:Int)<to) (N:inM x.Clock) (T:j<=1000000) (P:List Placed) (F:List Int) (hl:P.length+F.length<=100000) :
  gY to L (MB B x.Player) (P,F,(j:Int))=some (.go (P++(match atF B x with | some a=>[⟨(j:Int),a⟩] | none=>[]),F++(match atF B x with | some _=>[] | none=>[(j:Int)]),((j+1:Nat):Int))):=by
 obtain ⟨h2,J⟩:=TH M x N
 unfold gY atF
 have R:decide ((j:Int)<to)=true:=decide_eq_true W
 have O:w64 ((j:Int)+1)=((j+1:Nat):Int):=by rw [dh (by omega)];omega
 simp only [R,cond_true,l8,hj,ob_,h2,O]
 have I:∀d:Placed,kv P [d]=some (P++[d]):=λd=>gN _ _ (by simp;omega)
 have A:∀d:Int,kv F [d]=some (F++[d]):=λd=>gN _ _ (by simp;omega)
 rcases J with⟨f,_⟩|f|f|f
 ·have h:((plF B x).2==0)=true:=by rw [f];rfl
  simp only [h,cond_true,cond_false,ob_,I,List.append_nil]
 ·have o:((plF B x).2==8)=true:=by rw [f];rfl
  have h:((plF B x).2==0)=false:=by rw [f];rfl
  simp only [o,h,cond_true,cond_false,ob_,I,List.append_nil]
 ·have o:((plF B x).2==8)=false:=by rw [f];rfl
  have h:((plF B x).2==0)=false:=by rw [f];rfl
  simp only [o,h,cond_true,cond_false,ob_,A,List.append_nil]
 ·have o:((plF B x).2==8)=false:=by rw [f];rfl
  have h:((plF B x).2==0)=false:=by rw [f];rfl
  simp only [o,h,cond_true,cond_false,ob_,A,List.append_nil]
theorem FC {B:List Beat} (A:BOk B) {L post:List Log_} {p:ByteArray} {to:Nat} (O:L.length<=1000):∀(xs:List Log_) (j:Nat) (P:List Placed) (F:List Int),L.drop j=xs++post->j+xs.length=to->(∀x∈xs,x.Player=p/\inM x.Clock)->P.length+F.length+xs.length<=10000 ->
  iterN (λs=>gY (to:Int) L (MB B p) s) (xs.length+1) (P,F,(j:Int))=some (.go (P++(dts B j xs).map gP,F++lfs B j xs,(to:Int)))
 | [],j,P,F,o,f,h,hl=>by
  have hc:decide ((j:Int)<(to:Int))=false:=decide_eq_false (by simp at f;omega)
  simp only [List.length_nil,iterN,gY,hc,cond_false,ob_,dts,lfs,List.map_nil,List.append_nil]
  simp at f;rw [f]
 | x::xs,j,P,F,o,f,h,hl=>by
  simp only [List.length_cons]at hl f
  have I:L[j]? = some x:=yz (by rw [o];rfl)
  obtain ⟨M,hc⟩:=h x (by simp)
  have N:=(List.getElem?_eq_some_iff.1 I).1
  have hs:=Nc A (to:=(to:Int)) I (by omega) hc (by omega) P F (by omega)
  rw [M]at hs
  rw [List.length_cons,iterN,hs,ob_]
  simp only
  rw [FC A O xs (j+1) _ _ (show L.drop (j+1)=xs++post from aX (show L.drop j=x::(xs++post) from o)) (by omega) (λy J=>h y (List.mem_cons_of_mem _ J)) (by cases atF B x <;> simp <;> omega),dts,lfs,List.map_append,List.append_assoc,List.append_assoc]
  cases atF B x <;> rfl
def cP (a b:Placed):Int:=uC a.f_at b.f_at
def cD (a b:Dated):Int:=uC a.f_at b.f_at
def c2 (L:List Log_) (a b:Dated):Int:=zS (AB (yL L a).Player (yL L b).Player) (uC a.f_at b.f_at)
theorem stableP (l:List Placed) (hl:l.length<=19):bD l=some (nz cP l):=by
 unfold bD
 have h1:dU l (l.length:Int)=Pe mG l (l.length:Int):=rfl
 rw [h1,M3 (p:=λ_=>True) (c:=cP) (λa b _ _=>by unfold mG cP;rw [sU];rfl) l hl (λ_ _=>trivial),ob_]
 unfold fu;rw [if_pos (yJ cP l)];rfl
theorem Rt {a b:List Int} (h:a.Perm b) (hl:a.length<=100000):∃s,dw a=some s/\dw b=some s/\s.length=a.length:=by
 have f:b.length=a.length:=h.length_eq.symm
 have hs:∀l:List Int,(l.mergeSort (λx y=>decide (x<=y))).Pairwise (· <= ·):=λl=>by
  have:=List.pairwise_mergeSort (le:=λ(x y:Int)=>decide (x<=y)) (λa b c=>by simp;omega) (λa b=>by simp;omega) l
  exact this.imp (by simp)
 have e:a.mergeSort (λx y=>decide (x<=y))=b.mergeSort (λx y=>decide (x<=y)) :=
  List.Perm.eq_of_pairwise (le:=(· <= ·)) (λa b _ _ h1 h2=>Int.le_antisymm h1 h2) (hs a) (hs b) ((List.mergeSort_perm a _).trans (h.trans (List.mergeSort_perm b _).symm))
 refine⟨a.mergeSort (λx y=>decide (x<=y)),?_,?_,List.length_mergeSort a⟩
 ·unfold dw JL;rw [if_pos (by omega)]
 ·unfold dw JL;rw [if_pos (by omega),e]
theorem Tp {α:Type} (l:List α) (q:α):(l++[q]).getLast? = some q:=by simp
def Jd (pl:List Play) (p:ByteArray):Int:=match pl.getLast? with
 | some q=>bif decide (q.Player=p)then q.At+q.Long else 0
 | none=>0
theorem RF (pl:List Play) (q:Play) (p:ByteArray) (h:q.Player=p):Jd (pl++[q]) p=q.At+q.Long:=by
 unfold Jd;rw [Tp];simp only [decide_eq_true h,cond_true]
theorem Tk {L:List Log_} (k:Nat) {d:Dated} (A:VD L d) (F:List Int) (pl:List Play) (N:∀q∈pl,Ed q) (hl:F.length+pl.length<=10000) :
  mh L k (gP d) (pl,F,Jd pl (yL L d).Player)=some (.go (match stp L pl d with | some q=>(pl++[q],F,q.At+q.Long) | none=>(pl,F++[d.f_i],Jd pl (yL L d).Player))):=by
 have I:=A.at
 obtain ⟨h1,h2,Z,h4,h5,h6⟩:=A
 have key:jI d.f_at (Jd pl (yL L d).Player)=(vE L pl d).1/\d.f_at+(yL L d).Long-(vE L pl d).1=(vE L pl d).2/\(0<=(vE L pl d).1/\(vE L pl d).1<=345772799999):=by
  have o:jI d.f_at 0=d.f_at:=by unfold jI;rw [if_neg (by omega)]
  unfold Jd vE
  cases hg:pl.getLast? with
  | none=>show jI d.f_at 0=d.f_at/\d.f_at+(yL L d).Long-d.f_at=(yL L d).Long/\(0<=d.f_at/\d.f_at<=345772799999);exact⟨o,by omega,by omega,by omega⟩
  | some q =>
   obtain ⟨q1,Y,q3,q4⟩:=N q (List.mem_of_getLast? hg)
   show jI d.f_at (bif decide (q.Player=(yL L d).Player)then q.At+q.Long else 0)=(bif decide (q.Player=(yL L d).Player)&&decide (q.At+q.Long>d.f_at)then (q.At+q.Long,d.f_at+(yL L d).Long-(q.At+q.Long))else (d.f_at,(yL L d).Long)).1 /\
    d.f_at+(yL L d).Long-(bif decide (q.Player=(yL L d).Player)&&decide (q.At+q.Long>d.f_at)then (q.At+q.Long,d.f_at+(yL L d).Long-(q.At+q.Long))else (d.f_at,(yL L d).Long)).1=(bif decide (q.Player=(yL L d).Player)&&decide (q.At+q.Long>d.f_at)then (q.At+q.Long,d.f_at+(yL L d).Long-(q.At+q.Long))else (d.f_at,(yL L d).Long)).2 /\
    (0<=(bif decide (q.Player=(yL L d).Player)&&decide (q.At+q.Long>d.f_at)then (q.At+q.Long,d.f_at+(yL L d).Long-(q.At+q.Long))else (d.f_at,(yL L d).Long)).1/\(bif decide (q.Player=(yL L d).Player)&&decide (q.At+q.Long>d.f_at)then (q.At+q.Long,d.f_at+(yL L d).Long-(q.At+q.Long))else (d.f_at,(yL L d).Long)).1<=345772799999)
   cases hpl:decide (q.Player=(yL L d).Player)with
   | true =>
    cases f:decide (q.At+q.Long>d.f_at)with
    | true =>
     have f:=of_decide_eq_true f
     have j:jI d.f_at (q.At+q.Long)=q.At+q.Long:=by unfold jI;rw [if_pos f]
     show jI d.f_at (q.At+q.Long)=q.At+q.Long/\d.f_at+(yL L d).Long-(q.At+q.Long)=d.f_at+(yL L d).Long-(q.At+q.Long)/\(0<=q.At+q.Long/\q.At+q.Long<=345772799999)
     exact⟨j,rfl,by omega,by omega⟩
    | false =>
     have f:=of_decide_eq_false f
     have j:jI d.f_at (q.At+q.Long)=d.f_at:=by unfold jI;rw [if_neg f]
     show jI d.f_at (q.At+q.Long)=d.f_at/\d.f_at+(yL L d).Long-d.f_at=(yL L d).Long/\(0<=d.f_at/\d.f_at<=345772799999)
     exact⟨j,by omega,by omega,by omega⟩
   | false =>
    show jI d.f_at 0=d.f_at/\d.f_at+(yL L d).Long-d.f_at=(yL L d).Long/\(0<=d.f_at/\d.f_at<=345772799999)
    exact⟨o,by omega,by omega,by omega⟩
 obtain ⟨W,O,k3,k4⟩:=key
 have R:w64 (d.f_at+(yL L d).Long)=d.f_at+(yL L d).Long:=dh (by omega)
 have T:w64 (d.f_at+(yL L d).Long-(vE L pl d).1)=(vE L pl d).2:=by rw [dh (by omega)];exact O
 have M:decide ((vE L pl d).1>=d.f_at+(yL L d).Long)=decide ((vE L pl d).2<=0):=decide_eq_decide.2 (by omega)
 have B:kv F [d.f_i]=some (F++[d.f_i]):=gN _ _ (by simp;omega)
 have J:∀q:Play,kv pl [q]=some (pl++[q]):=λq=>gN _ _ (by simp;omega)
 have h:d.f_at+(yL L d).Long=(vE L pl d).1+(vE L pl d).2:=by omega
 unfold mh stp
 simp only [gP,I,ob_,W,R,M,T,uy]
 cases h7:decide ((vE L pl d).2<=0)with
 | true=>simp only [cond_true,ob_,Bool.true_or,B]
 | false =>
  cases h8:momB (vE L pl d).1 with
  | true=>simp only [cond_true,cond_false,ob_,Bool.or_self,Bool.not_true,J,h]
  | false=>simp only [cond_true,cond_false,ob_,Bool.false_or,Bool.not_false,B]
theorem Ec {L:List Log_} {p:ByteArray}:∀(ds:List Dated) (k:Nat) (F:List Int) (pl:List Play),(∀d∈ds,VD L d/\(yL L d).Player=p)->(∀q∈pl,Ed q)->F.length+pl.length+ds.length<=10000 ->
  forR (λk x s=>mh L k x s) (ds.map gP) k (pl,F,Jd pl p)=some (.go ((sZ L pl ds).1,F++(sZ L pl ds).2,Jd (sZ L pl ds).1 p))
 | [],k,F,pl,B,o,hl=>by simp only [sZ,List.append_nil];rfl
 | d::ds,k,F,pl,B,o,hl=>by
  simp only [List.length_cons]at hl
  obtain ⟨v,j⟩:=B d (by simp)
  have A:=Tk k v F pl o (by omega)
  rw [j]at A
  rw [List.map_cons,forR,A,ob_,sZ]
  cases hs:stp L pl d with
  | some q =>
   obtain ⟨g1,I⟩:=NF v o hs
   simp only
   rw [<- RF pl q p (I.trans j),Ec ds (k+1) F (pl++[q]) (λd f=>B d (List.mem_cons_of_mem _ f)) (λz h=>by
    rcases List.mem_append.1 h with h|h
    ·exact o z h
    ·rw [List.mem_singleton.1 h];exact g1) (by simp;omega)]
  | none =>
   simp only
   rw [Ec ds (k+1) (F++[d.f_i]) pl (λd f=>B d (List.mem_cons_of_mem _ f)) o (by simp;omega)]
   simp
def LeP (a b:Log_):Prop:=lt a.Player b.Player\/a.Player=b.Player
theorem Rj {a b c:Log_} (h:LeP a b) (k:LeP b c):LeP a c:=by
 rcases h with h|h
 ·rcases k with k|k
  ·exact .inl (lt_trans h k)
  ·exact .inl (k ▸ h)
 ·unfold LeP;rw [h];exact k
structure RightL (x:Log_):Prop where
 clock:inM x.Clock
 l0:1<=x.Long
 ll:x.Long<=86400000
theorem formF_0 {x:Log_} (h:wJ x=0):RightL x:=by
 unfold wJ at h
 cases h1:xn x.Player with
 | false=>rw [h1]at h;cases h
 | true =>
 cases h2:xn x.Item with
 | false=>rw [h1,h2]at h;cases h
 | true =>
 rw [h1,h2]at h
 simp only [Bool.not_true,cond_false]at h
 cases h3:(l7 x.No 1 1000000||(l7 x.Clock 0 345686399999||l7 x.Long 1 86400000))with
 | true=>rw [h3]at h;cases h
 | false =>
  rw [Bool.or_eq_false_iff,Bool.or_eq_false_iff]at h3
  have hl:=BF h3.2.2
  exact⟨BF h3.2.1,hl.1,hl.2⟩
theorem lStp_0 {p:Option Log_} {x:Log_} (h:L9 p x=0):RightL x/\∀o,p=some o->LeP o x:=by
 unfold L9 at h
 cases hf:(wJ x != 0)with
 | true=>rw [hf,cond_true]at h;rw [h]at hf;cases hf
 | false =>
 have f:wJ x=0:=by simpa using hf
 rw [hf,cond_false]at h
 refine⟨formF_0 f,λo ho => ?_⟩
 subst ho
 cases hm:ug x.Sum with
 | false=>rw [hm]at h;cases h
 | true =>
 rw [hm]at h
 simp only [Bool.not_true,cond_false]at h
 cases hc:decide (cmpL o x>=0)with
 | true=>rw [hc]at h;cases h
 | false =>
 have hc:=of_decide_eq_false hc
 rcases jK o.Player x.Player with⟨h1,_⟩|⟨h1,_⟩|⟨h1,h2⟩
 ·exact .inl h1
 ·exact .inr h1
 ·exfalso
  apply hc
  unfold cmpL zS
  rw [h2]
  show (1:Int)>=0
  omega
theorem Ff:∀{l:List Log_} {p:Option Log_},xy L9 p l=0->(∀o,p=some o->∀y∈l,LeP o y)/\l.Pairwise LeP/\∀x∈l,RightL x
 | [],_,_=>⟨λ_ _ y f=>(by cases f),List.Pairwise.nil,λx B=>(by cases B)⟩
 | x::xs,p,h=>by
  obtain ⟨h1,h2⟩:=Uq h
  obtain ⟨A,i2,i3⟩:=Ff h2
  obtain ⟨F,j⟩:=lStp_0 h1
  refine⟨λo ho y f => ?_,List.pairwise_cons.2 ⟨λy f=>A x rfl y f,i2⟩,λy f => ?_⟩
  ·rcases List.mem_cons.1 f with rfl|f
   ·exact j o ho
   ·exact Rj (j o ho) (A x rfl y f)
  ·rcases List.mem_cons.1 f with rfl|f
   ·exact F
   ·exact i3 y f
theorem logsF_0 {l:List Log_} (h:EU l=0):l.Pairwise LeP/\∀x∈l,RightL x:=by
 unfold EU at h
 cases hl:decide (l.length>2000)with
 | true=>rw [hl]at h;cases h
 | false=>rw [hl,cond_false]at h;exact (Ff h).2
theorem grp (p:ByteArray):∀xs:List Log_,(∀y∈xs,lt p y.Player\/p=y.Player)->xs.Pairwise LeP->∃g post,xs=g++post/\(∀y∈g,y.Player=p)/\∀b∈post,lt p b.Player
 | [],_,_=>⟨[],[],rfl,λy o=>(by cases o),λy o=>(by cases o)⟩
 | y::ys,h,F=>by
  obtain ⟨A,I⟩:=List.pairwise_cons.1 F
  by_cases o:y.Player=p
  ·obtain ⟨g,post,e,g1,B⟩:=grp p ys (λz f=>h z (List.mem_cons_of_mem _ f)) I
   refine⟨y::g,post,by rw [e];rfl,λz f => ?_,B⟩
   rcases List.mem_cons.1 f with rfl|f
   ·exact o
   ·exact g1 z f
  ·have j:lt p y.Player:=by
    rcases h y (by simp)with h|h
    ·exact h
    ·exact absurd h.symm o
   refine⟨[],y::ys,rfl,λz f=>(by cases f),λb hb => ?_⟩
   rcases List.mem_cons.1 hb with rfl|hb
   ·exact j
   ·rcases A b hb with k|k
    ·exact lt_trans j k
    ·exact k ▸ j
theorem Jw {L post:List Log_} {p:ByteArray} {st:List Play×List Int×Int} {O:Log_} (F:idx L st.2.2=some O) (o:O.Player=p) (W:L.length<=1000) (f:∀b∈post,lt p b.Player):∀(xs:List Log_) (j:Nat),L.drop j=xs++post->j<=L.length->(∀x∈xs,x.Player=p) ->
  iterN (λs=>jU L st s) (xs.length+1) (j:Int)=some (.go ((j+xs.length:Nat):Int))
 | [],j,B,hj,J=>by
  have h:jU L st (j:Int)=some (.brk (j:Int)):=by
   unfold jU
   cases post with
   | nil =>
    have N:L.length<=j:=List.drop_eq_nil_iff.1 (by simpa using B)
    have hc:decide ((j:Int)<(L.length:Int))=false:=decide_eq_false (by omega)
    simp only [hc,cond_false,ob_]
   | cons b post =>
    have A:L[j]? = some b:=yz (by rw [B];rfl)
    have M:=(List.getElem?_eq_some_iff.1 A).1
    have hc:decide ((j:Int)<(L.length:Int))=true:=decide_eq_true (by omega)
    have I:¬b.Player=p:=λe=>by have:=f b (by simp);rw [e]at this;exact eZ p this
    simp only [hc,cond_true,l8,A,F,ob_,Gi,o,decide_eq_false I,cond_false]
  simp only [List.length_nil,iterN,h,ob_,Nat.add_zero]
 | x::xs,j,B,hj,J=>by
  have A:L[j]? = some x:=yz (by rw [B];rfl)
  have M:=(List.getElem?_eq_some_iff.1 A).1
  have hc:decide ((j:Int)<(L.length:Int))=true:=decide_eq_true (by omega)
  have T:w64 ((j:Int)+1)=((j+1:Nat):Int):=by rw [dh (by omega)];omega
  have h:jU L st (j:Int)=some (.go ((j+1:Nat):Int)):=by
   unfold jU
   simp only [hc,cond_true,l8,A,F,ob_,Gi,o,J x (by simp),decide_true,T]
  rw [List.length_cons,iterN,h,ob_]
  simp only
  rw [Jw F o W f xs (j+1) (aX (show L.drop j=x::(xs++post) from B)) (by omega) (λy R=>J y (List.mem_cons_of_mem _ R)),show j+1+xs.length=j+(xs.length+1) by omega]
structure LOk (L:List Log_):Prop where
 sorted:L.Pairwise LeP
 right:∀x∈L,RightL x
 few:L.length<=19
theorem yL_at {L:List Log_} {d:Dated} {i:Nat} {x:Log_} (h:L[i]? = some x) (e:d.f_i=(i:Int)):yL L d=x:=by
 unfold yL;rw [e,List.getD_eq_getElem?_getD,Int.toNat_natCast,h];rfl
theorem Tu {B:List Beat} (I:BOk B) {L:List Log_} (O:LOk L) {pre g post:List Log_} (e:L=pre++(g++post)) {d:Dated} (M:d∈dts B pre.length g):VD L d/\yL L d∈g:=by
 obtain ⟨i,x,h1,h2,F⟩:=PR B g pre.length d M
 have h:=(List.getElem?_eq_some_iff.1 h1).1
 have j:L[pre.length+i]? = some x:=by
  rw [e,List.getElem?_append_right (by omega),show pre.length+i-pre.length=i by omega,List.getElem?_append_left h,h1]
 have f:=yL_at j h2
 have A:x∈L:=List.mem_of_getElem? j
 have J:=(List.getElem?_eq_some_iff.1 j).1
 have o:=O.right x A
 obtain ⟨N,a2⟩:=atF_in I o.clock F
 refine⟨⟨by omega,by omega,N,a2,by rw [f];exact o.l0,by rw [f];exact o.ll⟩,?_⟩
 rw [f];exact List.mem_of_getElem? h1
noncomputable def fnd (B:List Beat) (L pre:List Log_):List Play×List Int:=sZ L [] (nz (c2 L) (dts B 0 pre))
theorem Iy {B:List Beat} (hB:BOk B) {L:List Log_} (hL:LOk L):∀(m:Nat) (pre rest:List Log_) (F:List Int),rest.length<=m->L=pre++rest->(∀a∈pre,∀b∈rest,lt a.Player b.Player)->F.Perm (lfs B 0 pre++(fnd B L pre).2) ->
  ∃n F',iterN (λs=>jT L B s) n ((fnd B L pre).1,F,(pre.length:Int))=some (.go ((fnd B L L).1,F',(L.length:Int)))/\F'.Perm (lfs B 0 L++(fnd B L L).2)
 | m,pre,[],F,hm,e,A,hF=>by
  rw [List.append_nil]at e
  subst e
  refine⟨1,F,?_,hF⟩
  have hc:decide ((L.length:Int)<(L.length:Int))=false:=decide_eq_false (by omega)
  simp only [iterN,jT,hc,cond_false,ob_]
 | 0,pre,x::xs,F,hm,e,A,hF=>by simp at hm
 | m+1,pre,x::xs,F,hm,e,A,hF=>by
  have o:(x::xs).Pairwise LeP:=by have:=hL.sorted;rw [e]at this;exact (List.pairwise_append.1 this).2.1
  obtain ⟨g,post,e2,g1,g2⟩:=grp x.Player xs (λy T=>(List.pairwise_cons.1 o).1 y T) (List.pairwise_cons.1 o).2
  subst e2
  have few:=hL.few
  have hlen:L.length=pre.length+((x::g).length+post.length):=by rw [e];simp;omega
  have e3:L=pre++((x::g)++post):=e
  have J:∀y∈x::g,y.Player=x.Player:=λy T=>by
   rcases List.mem_cons.1 T with rfl|T
   ·rfl
   ·exact g1 y T
  have f:L.drop pre.length=(x::g)++post:=by rw [e3];simp
  have hx0:L[pre.length]? = some x:=yz (by rw [f];rfl)
  have Y:idx L (pre.length:Int)=some x:=by rw [l8,hx0]
  have N:∀y∈x::g,y.Player=x.Player/\inM y.Clock:=λy T=>⟨J y T,(hL.right y (by rw [e3];simp only [List.mem_append];exact .inr (.inl T))).clock⟩
  have M:∀d∈dts B pre.length (x::g),VD L d/\(yL L d).Player=x.Player:=λd I=>by
   obtain ⟨v,w⟩:=Tu hB hL e3 I
   exact⟨v,J _ w⟩
  have hV0:∀d∈dts B 0 pre,VD L d/\yL L d∈pre:=λd I=>Tu hB hL (pre:=[]) (g:=pre) (post:=x::(g++post)) (by rw [e];rfl) I
  have hgl:(x::g).length=g.length+1:=rfl
  have hdl:=KI B (x::g) pre.length
  have hdl0:=KI B pre 0
  have hsc:=dB (Jw (L:=L) (post:=post) (st:=((fnd B L pre).1,F,(pre.length:Int))) Y rfl (by omega) g2 (x::g) pre.length f (by omega) J)
  have hpl:=dB (FC hB (L:=L) (post:=post) (p:=x.Player) (to:=pre.length+(x::g).length) (by omega) (x::g) pre.length [] [] f rfl N (by simp;omega))
  simp only [List.nil_append]at hpl
  have j:o5 L (pre.length:Int) ((pre.length+(x::g).length:Nat):Int) B=some ((nz cD (dts B pre.length (x::g))).map gP,lfs B pre.length (x::g)):=by
   unfold o5
   rw [Y,ob_,Ob B x.Player false hB.few,ob_]
   show (dS _ (λs=>gY _ L (MB B x.Player) s)).bind _=_
   rw [hpl,ob_,jf]
   simp only
   rw [stableP _ (by rw [List.length_map];omega),ob_]
   have hsl:fu (nz cP ((dts B pre.length (x::g)).map gP)) ((dts B pre.length (x::g)).map gP)=some ():=by unfold fu;rw [if_pos (yJ _ _)]
   rw [hsl,ob_,RV gP (c:=cD) (λa b=>rfl)]
  have hcong:nz cD (dts B pre.length (x::g))=nz (c2 L) (dts B pre.length (x::g)):=O0 _ (λa O b hb=>by
   unfold cD c2
   rw [(M a O).2,(M b hb).2,QX];rfl)
  have hsp:nz (c2 L) (dts B 0 (pre++(x::g)))=nz (c2 L) (dts B 0 pre)++nz (c2 L) (dts B pre.length (x::g)):=by
   rw [Pm,Nat.zero_add]
   refine SH _ _ _ (λv hv a O => ?_)
   have hl:lt (yL L a).Player (yL L v).Player:=by
    rw [(M v hv).2]
    exact A _ (hV0 a O).2 x (by simp)
   have hc:AB (yL L v).Player (yL L a).Player=1:=by
    rcases jK (yL L v).Player (yL L a).Player with⟨h1,_⟩|⟨h1,_⟩|⟨_,h2⟩
    ·exact absurd (lt_trans hl h1) (eZ _)
    ·rw [h1]at hl;exact absurd hl (eZ _)
    ·exact h2
   unfold c2 zS
   rw [hc]
   show ¬(1:Int)<0
   omega
  have R:fnd B L (pre++(x::g))=((sZ L (fnd B L pre).1 (nz (c2 L) (dts B pre.length (x::g)))).1,(fnd B L pre).2++(sZ L (fnd B L pre).1 (nz (c2 L) (dts B pre.length (x::g)))).2):=by
   unfold fnd
   rw [hsp,Hw]
  obtain ⟨hg1,hg2⟩:=EC (L:=L) (nz (c2 L) (dts B 0 pre)) [] (λd I=>(hV0 d ((GZ _ _ _).1 I)).1) (λq hq=>by cases hq)
  have hend:Jd (fnd B L pre).1 x.Player=0:=by
   unfold Jd
   cases hq:(fnd B L pre).1.getLast? with
   | none=>rfl
   | some q =>
    simp only
    have hne:¬q.Player=x.Player:=λeq=>by
     rcases hg2 q (List.mem_of_getLast? hq)with h|⟨d,I,h⟩
     ·cases h
     ·have:=A _ (hV0 d ((GZ _ _ _).1 I)).2 x (by simp)
      rw [<- h,eq]at this
      exact eZ _ this
    rw [decide_eq_false hne];rfl
  have hrl:=Da (L:=L) (nz (c2 L) (dts B 0 pre)) []
  have hslen:=yJ (c2 L) (dts B 0 pre)
  have hslen2:=yJ (c2 L) (dts B pre.length (x::g))
  have hFl:=hF.length_eq
  simp only [List.length_append,List.length_nil]at hFl hrl
  have hFl':(fnd B L pre).1.length+(fnd B L pre).2.length=0+(nz (c2 L) (dts B 0 pre)).length:=hrl
  have W:=Ec (L:=L) (p:=x.Player) (nz (c2 L) (dts B pre.length (x::g))) 0 (F++lfs B pre.length (x::g)) (fnd B L pre).1 (λd I=>M d ((GZ _ _ _).1 I)) hg1 (by simp only [List.length_append];omega)
  rw [hend]at W
  have happ:kv F (lfs B pre.length (x::g))=some (F++lfs B pre.length (x::g)):=gN _ _ (by omega)
  have hc:decide ((pre.length:Int)<(L.length:Int))=true:=decide_eq_true (by rw [hlen];simp;omega)
  have Z:jT L B ((fnd B L pre).1,F,(pre.length:Int))=some (.go ((fnd B L (pre++(x::g))).1,F++lfs B pre.length (x::g)++(sZ L (fnd B L pre).1 (nz (c2 L) (dts B pre.length (x::g)))).2,(((pre++(x::g)).length:Nat):Int))):=by
   unfold jT
   simp only [hc,cond_true]
   rw [hsc,ob_,jf,j,ob_,happ,ob_,hcong]
   simp only
   rw [jX (by rw [List.length_map];omega),W,ob_,jf,R,List.length_append]
  obtain ⟨n,F',h1,h2⟩:=Iy hB hL m (pre++(x::g)) post (F++lfs B pre.length (x::g)++(sZ L (fnd B L pre).1 (nz (c2 L) (dts B pre.length (x::g)))).2) (by simp at hm;omega) (by rw [e3];simp) (λa O b hb=>by
   rcases List.mem_append.1 O with O|O
   ·exact A a O b (by simp [hb])
   ·rw [J a O];exact g2 b hb) (by
   rw [R,PD,Nat.zero_add]
   simp only
   have h1:(F++lfs B pre.length (x::g)).Perm (lfs B 0 pre++lfs B pre.length (x::g)++(fnd B L pre).2):=by
    refine (hF.append_right _).trans ?_
    rw [List.append_assoc,List.append_assoc]
    exact List.Perm.append_left _ List.perm_append_comm
   refine (h1.append_right _).trans ?_
   rw [List.append_assoc (lfs B 0 pre++lfs B pre.length (x::g))])
  exact⟨n+1,F',by rw [iterN,Z];exact h1,h2⟩
theorem Qf {α σ ρ:Type} {body:Nat->α->σ->Option (Ctl σ ρ)} (I:Nat->σ->Prop) (xs:List α):∀(l:List α) (k:Nat) (s:σ),xs.drop k=l->k<=xs.length->(∀k x s,xs[k]? = some x->I k s->∃j,body k x s=some (.go j)/\I (k+1) j)->I k s->∃j,forR body l k s=some (.go j)/\I xs.length j
 | [],k,s,f,J,h,hi=>by
  have:=List.drop_eq_nil_iff.1 f
  obtain rfl:k=xs.length:=by omega
  exact⟨s,rfl,hi⟩
 | x::l,k,s,f,J,h,hi=>by
  obtain ⟨F,h1,h2⟩:=h k x s (yz f) hi
  obtain ⟨A,o,B⟩:=Qf I xs l (k+1) F (aX f) (by have:=Ga f;omega) h h2
  exact⟨A,by rw [forR,h1,ob_];exact o,B⟩
theorem qA {α σ ρ:Type} {body:Nat->α->σ->Option (Ctl σ ρ)} (I:Nat->σ->Prop) {xs:List α} {s:σ} (hl:xs.length<=1000000000000) (h:∀k x s,xs[k]? = some x->I k s->∃f,body k x s=some (.go f)/\I (k+1) f) (j:I 0 s):∃f,forL xs s body=some (.go f)/\I xs.length f:=by
 rw [jX hl]
 exact Qf I xs xs 0 s rfl (Nat.zero_le _) h j
theorem lt_lit {a b:ByteArray} (h:sLt a b=true):lt a b:=(sLt_iff a b).1 h
theorem LU {α:Type} {stp:Option α->α->Int}:∀{l:List α} {p:Option α},(∀x,l.head? = some x->stp p x=0)->l.Pairwise (λa b=>stp (some a) b=0)->xy stp p l=0
 | [],_,_,_=>rfl
 | x::l,p,h,A=>by
  obtain ⟨f,o⟩:=List.pairwise_cons.1 A
  rw [xy,h x rfl]
  show xy stp (some x) l=0
  exact LU (λy j=>f y (List.mem_of_head? j)) o
def paS:ByteArray:=⟨#[112,97]⟩
def pbS:ByteArray:=⟨#[112,98]⟩
def iaS:ByteArray:=⟨#[105,97]⟩
def ibS:ByteArray:=⟨#[105,98]⟩
theorem F3:lt paS pbS:=by
 unfold lt paS pbS
 rw [toL,toL]
 decide
theorem keys4:xn paS=true/\xn pbS=true/\xn iaS=true/\xn ibS=true:=⟨by kernel_rfl,by kernel_rfl,by kernel_rfl,by kernel_rfl⟩
theorem NC {α:Type} {R:α->α->Prop} {l:List α} {x:α} (h:l.Pairwise R) (j:∀y∈l,R y x):(l++[x]).Pairwise R :=
 List.pairwise_append.2 ⟨h,List.pairwise_singleton _ _,λa f b hb=>by rw [List.mem_singleton.1 hb];exact j a f⟩
def AR (x:Log_):Prop:=(x.Player=paS\/x.Player=pbS)/\(x.Item=iaS\/x.Item=ibS)/\(1<=x.No/\x.No<=1000)/\(0<=x.Clock/\x.Clock<=10000)/\(1<=x.Long/\x.Long<=1000)/\ug x.Sum=true/\ShortK x.Sum
def Jf (a b:Log_):Prop:=lt a.Player b.Player\/a.Player=b.Player/\a.No<b.No
theorem E5 {x:Log_} (h:AR x):wM x:=by
 obtain ⟨h1,h2,A,B,j,o,f⟩:=h
 refine⟨?_,?_,f,by unfold Med;omega,by unfold Med;omega,by unfold Med;omega⟩
 ·rcases h1 with e|e <;> rw [e] <;> exact oL rfl
 ·rcases h2 with e|e <;> rw [e] <;> exact oL rfl
theorem OL {x:Log_} (h:AR x):xn x.Player=true/\xn x.Item=true:=by
 obtain ⟨A,o,j,f⟩:=keys4
 obtain ⟨h1,h2,_⟩:=h
 refine⟨?_,?_⟩
 ·rcases h1 with e|e <;> rw [e] <;> assumption
 ·rcases h2 with e|e <;> rw [e] <;> assumption
theorem Ng {x:Log_} (h:AR x):wJ x=0:=by
 obtain ⟨j,f⟩:=OL h
 obtain ⟨h1,h2,I,o,A,F,B⟩:=h
 unfold wJ
 rw [j,f,rJ (by omega),rJ (by omega),rJ (by omega)];rfl
theorem Me {a b:Log_} (h:Jf a b):cmpL a b<0:=by
 unfold cmpL zS
 rcases h with h|⟨h1,h2⟩
 ·rcases jK a.Player b.Player with⟨_,e⟩|⟨e,_⟩|⟨e,_⟩
  ·rw [e];show (-1:Int)<0;omega
  ·rw [e]at h;exact absurd h (eZ _)
  ·exact absurd (lt_trans h e) (eZ _)
 ·rcases jK a.Player b.Player with⟨e,_⟩|⟨_,e⟩|⟨e,_⟩
  ·rw [h1]at e;exact absurd e (eZ _)
  ·rw [e]
   show uC a.No b.No<0
   unfold uC
   rw [if_pos h2];decide
  ·rw [h1]at e;exact absurd e (eZ _)
theorem Q6 {l:List Log_} (h:∀x∈l,AR x) (F:l.Pairwise Jf) (hl:l.length<=1000):EU l=0:=by
 unfold EU
 rw [decide_eq_false (by omega),cond_false]
 have key:∀x∈l,∀p:Option Log_,(∀o,p=some o->Jf o x)->L9 p x=0:=λx f p B=>by
  have A:=(h x f).2.2.2.2.2.1
  unfold L9
  rw [Ng (h x f),A]
  cases p with
  | none=>rfl
  | some o =>
   have:=Me (B o rfl)
   simp only [bne_self_eq_false,cond_false,Bool.not_true]
   rw [decide_eq_false (by omega)];rfl
 refine LU (λx f=>key x (List.mem_of_head? f) none (λo ho=>by cases ho)) ?_
 exact List.Pairwise.imp_of_mem (λ{a b} I hb j=>key b hb (some a) (λo ho=>by cases ho;exact j)) F
theorem FT (s:Stream) (most:Int) (hm:0<=most/\most<=7) {b:Int} (hs:Ok s b) (hb:b<=700000):∃r,jr s most=some r/\(Ok r.2 (b+300)/\r.1.length<=2*most.toNat/\(∀x∈r.1,AR x)/\r.1.Pairwise Jf):=by
 unfold jr
 obtain ⟨s',h1,h2,h3,h4,h5,h6⟩:=qA (body:=λk x s=>gu most k x s) (λk s=>Ok ⟨s.2.1,s.2.2⟩ (b+150*k)/\s.1.length<=most.toNat*k/\(∀x∈s.1,AR x)/\s.1.Pairwise Jf/\(∀y∈s.1,k≠0/\(k=1->y.Player=paS)))
  (xs:=[(⟨#[112,97]⟩:ByteArray),(⟨#[112,98]⟩:ByteArray)]) (s:=(([]:List Log_),s.L,s.f_at)) (by simp) (λk x t o ⟨i1,i2,i3,i4,i5⟩=>by
   have hk2:k<2:=by
    have:=(List.getElem?_eq_some_iff.1 o).1
    exact this
   have N:(k=0/\x=paS)\/(k=1/\x=pbS):=by
    have:k=0\/k=1:=by omega
    rcases this with rfl|rfl
    ·rw [List.getElem?_cons_zero,so_]at o;exact .inl ⟨rfl,o.symm⟩
    ·rw [List.getElem?_cons_succ,List.getElem?_cons_zero,so_]at o;exact .inr ⟨rfl,o.symm⟩
   have M:x=paS\/x=pbS:=N.imp And.right And.right
   have W:∀y∈t.1,lt y.Player x:=λy f=>by
    obtain ⟨Y,n2⟩:=i5 y f
    rcases N with⟨e,_⟩|⟨e,e2⟩
    ·exact absurd e Y
    ·rw [n2 e,e2];exact F3
   obtain ⟨a,a1,a2,a3⟩:=O6 _ [0,50,1000] i1 (by omega) (by simp) (by simp)
   have ha:0<=a.1/\a.1<=1000:=by
    simp only [List.mem_cons,List.not_mem_nil,or_false]at a2
    rcases a2 with h|h|h <;> omega
   obtain ⟨n,Y,n2,n3,n4⟩:=range_w a.2 0 most a3 (by omega) hm.1 (by omega) (by omega)
   obtain ⟨u,m1,m2,m3,m4,m5,m6,m7,m8⟩:=IQ (body:=λk y s=>jo x k y s) (λj s=>Ok ⟨s.2.2.2.1,s.2.2.2.2⟩ (b+150*k+2+4*j)/\ShortK s.2.1/\(0<=s.2.2.1/\s.2.2.1<=1000+100*j)/\s.1.length<=most.toNat*k+j/\(∀x∈s.1,AR x)/\s.1.Pairwise Jf/\(∀y∈s.1,lt y.Player x\/y.Player=x/\y.No<=j))
    (xs:=List.range n.1.toNat) (s:=(t.1,(⟨#[]⟩:ByteArray),a.1,n.2.L,n.2.f_at)) (by simp;omega) (λj y v _ hj ⟨j1,j2,j3,j4,j5,j6,T⟩=>by
     have hj3:j<7:=by rw [List.length_range]at hj;omega
     have hmk:most.toNat*k<=7*2:=Nat.mul_le_mul (by omega) (by omega)
     obtain ⟨p,p1,p2,p3⟩:=some_w _ [(⟨#[105,97]⟩:ByteArray),(⟨#[105,98]⟩:ByteArray)] j1 (by omega) (by simp) (by simp)
     have R:p.1=iaS\/p.1=ibS:=by
      simp only [List.mem_cons,List.not_mem_nil,or_false]at p2
      exact p2
     obtain ⟨q,q1,q2,q3⟩:=O6 p.2 [1,10,30,100] p3 (by omega) (by simp) (by simp)
     have hq:1<=q.1/\q.1<=100:=by
      simp only [List.mem_cons,List.not_mem_nil,or_false]at q2
      rcases q2 with h|h|h|h <;> omega
     have O:w64 ((j:Int)+1)=(j:Int)+1:=dh (by omega)
     have Z:∀S:ByteArray,ug S=true->ShortK S->AR (⟨x,p.1,w64 ((j:Int)+1),v.2.2.1,q.1,S⟩:Log_):=λS s1 s2=>⟨M,R,by rw [O];show 1<=(j:Int)+1/\(j:Int)+1<=1000;omega,by show 0<=v.2.2.1/\v.2.2.1<=10000;omega,by show 1<=q.1/\q.1<=1000;omega,s1,s2⟩
     have J:wM (⟨x,p.1,w64 ((j:Int)+1),v.2.2.1,q.1,(⟨#[]⟩:ByteArray)⟩:Log_):=by
      obtain ⟨g1,g2,_,g4,g5,g6⟩:=E5 (Z (mk []) (Ps _) (wy _))
      exact⟨g1,g2,oL rfl,g4,g5,g6⟩
     obtain ⟨r,r1,r2,r3⟩:=O6 q.2 [0,5,10,50,100] q3 (by omega) (by simp) (by simp)
     have hr:0<=r.1/\r.1<=100:=by
      simp only [List.mem_cons,List.not_mem_nil,or_false]at r2
      rcases r2 with h|h|h|h|h <;> omega
     obtain ⟨c,c1,c2⟩:=flip_w r.2 6 r3 (by omega) (by decide) (by decide)
     have B:=SC v.2.1 j2 J
     have I:w64 (v.2.2.1+r.1)=v.2.2.1+r.1:=dh (by omega)
     simp only [jo,p1,q1,B,r1,c1,ob_]
     cases c.1 with
     | true =>
      simp only [Bool.not_true,cond_false,ob_]
      refine⟨_,rfl,c2.mono (by omega),wy _,by show 0<=w64 (v.2.2.1+r.1)/\w64 (v.2.2.1+r.1)<=_;rw [I];omega,by show v.1.length<=_;omega,j5,j6,λy f => ?_⟩
      rcases T y f with h|⟨h,k⟩
      ·exact .inl h
      ·exact .inr ⟨h,by omega⟩
     | false =>
      simp only [Bool.not_false,cond_true]
      rw [gN v.1 [_] (by simp;omega)]
      simp only [ob_]
      refine⟨_,rfl,c2.mono (by omega),wy _,by show 0<=w64 (v.2.2.1+r.1)/\w64 (v.2.2.1+r.1)<=_;rw [I];omega,by simp;omega,λz F => ?_,NC j6 (λy f => ?_),λy f => ?_⟩
      ·rcases List.mem_append.1 F with F|F
       ·exact j5 z F
       ·rw [List.mem_singleton.1 F];exact Z _ (Ps _) (wy _)
      ·rcases T y f with h|⟨h,k⟩
       ·exact .inl h
       ·refine .inr ⟨h,?_⟩
        show y.No<w64 ((j:Int)+1)
        rw [O];omega
      ·rcases List.mem_append.1 f with f|f
       ·rcases T y f with h|⟨h,k⟩
        ·exact .inl h
        ·exact .inr ⟨h,by omega⟩
       ·rw [List.mem_singleton.1 f]
        refine .inr ⟨rfl,?_⟩
        show w64 ((j:Int)+1)<=_
        rw [O];omega) ⟨n4.mono (by omega),oL rfl,by simpa using ha,by simpa using i2,i3,i4,λy f => .inl (W y f)⟩
   have A:gu most k x t=some (.go (u.1,u.2.2.2.1,u.2.2.2.2)):=by
    unfold gu
    rw [a1];simp only [ob_]
    rw [Y];simp only [ob_]
    rw [m1];rfl
   have hl:(List.range n.1.toNat).length<=most.toNat:=by rw [List.length_range];omega
   refine⟨_,A,m2.mono (by omega),?_,m6,m7,λy f=>⟨by omega,λe => ?_⟩⟩
   ·show u.1.length<=most.toNat*(k+1)
    rw [Nat.mul_succ];omega
   ·rcases N with⟨e0,e1⟩|⟨e0,_⟩
    ·rcases m8 y f with h|⟨h,_⟩
     ·have:=(m6 y f).1
      rw [e1]at h
      rcases this with q|q
      ·rw [q]at h;exact absurd h (eZ _)
      ·rw [q]at h;exact absurd (lt_trans h F3) (eZ _)
     ·rw [h,e1]
    ·omega) ⟨by simpa using hs,by simp,by simp,.nil,by simp⟩
 rw [h1]
 refine mr ⟨h2.mono (by simp),?_,h4,h5⟩
 show s'.1.length<=_
 have:s'.1.length<=most.toNat*2:=h3
 omega
def Ig (x:Beat):Prop:=(x.Player=paS\/x.Player=pbS)/\(0<=x.At/\x.At<=100000000000)/\(0<=x.Clock/\x.Clock<=100000000000)
def RelB (a b:Beat):Prop:=lt a.Player b.Player\/a.Player=b.Player/\a.At<b.At/\a.Clock<b.Clock
theorem ED (s:Stream) {b:Int} (hs:Ok s b) (hb:b<=800000):∃xs B,iT s=some (xs,B)/\Ok B (b+100)/\xs.length<=6/\(∀x∈xs,Ig x)/\xs.Pairwise RelB:=by
 unfold iT
 obtain ⟨B,h1,h2,h3,h4,h5,h6⟩:=qA (body:=λk x s=>iU k x s) (λk s=>Ok ⟨s.2.1,s.2.2⟩ (b+20*k)/\s.1.length<=3*k/\(∀x∈s.1,Ig x)/\s.1.Pairwise RelB/\(∀y∈s.1,k≠0/\(k=1->y.Player=paS)))
  (xs:=[(⟨#[112,97]⟩:ByteArray),(⟨#[112,98]⟩:ByteArray)]) (s:=(([]:List Beat),s.L,s.f_at)) (by simp) (λk x t o ⟨i1,i2,i3,i4,i5⟩=>by
   have hk2:k<2:=(List.getElem?_eq_some_iff.1 o).1
   have I:(k=0/\x=paS)\/(k=1/\x=pbS):=by
    have:k=0\/k=1:=by omega
    rcases this with rfl|rfl
    ·rw [List.getElem?_cons_zero,so_]at o;exact .inl ⟨rfl,o.symm⟩
    ·rw [List.getElem?_cons_succ,List.getElem?_cons_zero,so_]at o;exact .inr ⟨rfl,o.symm⟩
   have F:x=paS\/x=pbS:=I.imp And.right And.right
   have J:∀y∈t.1,lt y.Player x:=λy A=>by
    obtain ⟨n1,W⟩:=i5 y A
    rcases I with⟨e,_⟩|⟨e,e2⟩
    ·exact absurd e n1
    ·rw [W e,e2];exact F3
   obtain ⟨a,s1,a1,a0,a9,a2⟩:=vK _ 0 100 i1 (by omega) (by decide) (by decide) (by decide)
   obtain ⟨c,s2,a3,c0,c9,a4⟩:=vK s1 0 100 a2 (by omega) (by decide) (by decide) (by decide)
   obtain ⟨n,Z,a5,n1,W,a6⟩:=vK s2 0 3 a4 (by omega) (by decide) (by decide) (by decide)
   obtain ⟨u,m1,m2,m3,m4,m5,m6,m7,m8⟩:=IQ (body:=λk y s=>iX x k y s) (λj s=>Ok ⟨s.2.2.2.1,s.2.2.2.2⟩ (b+20*k+3+2*j)/\s.1.length<=3*k+j/\(0<=s.2.1/\s.2.1<=100+2678400000*j)/\(0<=s.2.2.1/\s.2.2.1<=100+2678400000*j)/\(∀x∈s.1,Ig x)/\s.1.Pairwise RelB/\(∀y∈s.1,lt y.Player x\/y.Player=x/\y.At<s.2.1/\y.Clock<s.2.2.1))
    (xs:=List.range n.toNat) (s:=(t.1,a,c,Z.L,Z.f_at)) (by simp;omega) (λj y v _ hj ⟨j1,j2,j3,j4,j5,j6,R⟩=>by
     have hj3:j<3:=by rw [List.length_range]at hj;omega
     obtain ⟨p,s4,p1,N,p2⟩:=Bg _ [1,50,100,1000,2678400000] j1 (by omega) (by simp) (by simp)
     obtain ⟨q,s5,q1,M,q2⟩:=Bg s4 [1,40,100,1300,2592000000] p2 (by omega) (by simp) (by simp)
     have hp:1<=p/\p<=2678400000:=by
      simp only [List.mem_cons,List.not_mem_nil,or_false]at N
      rcases N with h|h|h|h|h <;> omega
     have hq:1<=q/\q<=2592000000:=by
      simp only [List.mem_cons,List.not_mem_nil,or_false]at M
      rcases M with h|h|h|h|h <;> omega
     simp only [iX,gN v.1 [_] (show v.1.length+[_].length<=_ by simp;omega),p1,q1,ob_]
     have O:w64 (v.2.1+p)=v.2.1+p:=dh (by omega)
     have Y:w64 (v.2.2.1+q)=v.2.2.1+q:=dh (by omega)
     refine⟨_,rfl,q2.mono (by omega),by simp;omega,?_,?_,λz f => ?_,NC j6 R,λz f => ?_⟩
     ·show 0<=w64 (v.2.1+p)/\w64 (v.2.1+p)<=_
      rw [O];omega
     ·show 0<=w64 (v.2.2.1+q)/\w64 (v.2.2.1+q)<=_
      rw [Y];omega
     ·rcases List.mem_append.1 f with f|f
      ·exact j5 z f
      ·rw [List.mem_singleton.1 f]
       exact⟨F,by show 0<=v.2.1/\v.2.1<=_;omega,by show 0<=v.2.2.1/\v.2.2.1<=_;omega⟩
     ·show lt z.Player x\/z.Player=x/\z.At<w64 (v.2.1+p)/\z.Clock<w64 (v.2.2.1+q)
      rw [O,Y]
      rcases List.mem_append.1 f with f|f
      ·rcases R z f with h|⟨h,k1,k2⟩
       ·exact .inl h
       ·exact .inr ⟨h,by omega,by omega⟩
      ·rw [List.mem_singleton.1 f]
       exact .inr ⟨rfl,by show v.2.1<_;omega,by show v.2.2.1<_;omega⟩) ⟨a6.mono (by omega),by simpa using i2,by simp only [];omega,by simp only [];omega,i3,i4,λy A => .inl (J y A)⟩
   simp only [iU,a1,a3,a5,m1,ob_,jf]
   rw [List.length_range]at m2 m3
   refine⟨_,rfl,m2.mono (by omega),by show u.1.length<=3*(k+1);omega,m6,m7,λy A=>⟨by omega,λe => ?_⟩⟩
   rcases I with⟨e0,T⟩|⟨e0,_⟩
   ·rcases m8 y A with h|⟨h,_⟩
    ·have:=(m6 y A).1
     rw [T]at h
     rcases this with q|q
     ·rw [q]at h;exact absurd h (eZ _)
     ·rw [q]at h;exact absurd (lt_trans h F3) (eZ _)
    ·rw [h,T]
   ·omega) ⟨by simpa using hs,by simp,by simp,.nil,by simp⟩
 rw [h1]
 exact⟨B.1,⟨B.2.1,B.2.2⟩,rfl,h2.mono (by simp),h3,h4,h5⟩
theorem NM {x:Beat} (h:Ig x):GoodB x:=by
 rcases h.1 with e|e
 ·show ShortK x.Player;rw [e];exact oL rfl
 ·show ShortK x.Player;rw [e];exact oL rfl
theorem N7 {l:List Beat} (h:∀x∈l,Ig x) (M:l.Pairwise RelB) (hl:l.length<=500):EB l=0:=by
 unfold EB
 rw [decide_eq_false (by omega),cond_false]
 have key:∀x∈l,∀p:Option Beat,(∀o,p=some o->RelB o x)->MW p x=0:=λx j p f=>by
  obtain ⟨h1,h2,T⟩:=h x j
  have I:xn x.Player=true:=by
   obtain ⟨Z,W,_⟩:=keys4
   rcases h1 with e|e <;> rw [e] <;> assumption
  have L:momB x.At=true:=by unfold momB;rw [rJ (by omega)];rfl
  have N:momB x.Clock=true:=by unfold momB;rw [rJ (by omega)];rfl
  unfold MW
  rw [I,L,N]
  cases p with
  | none=>rfl
  | some o =>
   have f:=f o rfl
   simp only [Bool.not_true,cond_false,Bool.or_self]
   have hb:ny o x:=by
    unfold ny
    rcases f with q|⟨F,B,J⟩
    ·exact .inl q
    ·exact .inr ⟨F,B⟩
   rw [if_pos hb,if_neg (fun⟨O,R⟩=>by
    rcases f with q|⟨F,B,J⟩
    ·rw [O]at q;exact eZ _ q
    ·omega)]
 refine LU (λx j=>key x (List.mem_of_head? j) none (λo ho=>by cases ho)) ?_
 exact List.Pairwise.imp_of_mem (λ{a b} Y hb A=>key b hb (some a) (λo ho=>by cases ho;exact A)) M
theorem NV {B:List Beat} (A:BOk B) {L:List Log_} (j:LOk L) (I:dW L=some 0) (hb:gy B=some 0) :
  ∃F,tZ L B=some ((fnd B L L).1,F,0)/\(fnd B L L).1.length+F.length=L.length:=by
 have few:=j.few
 obtain ⟨n,T,h1,h2⟩:=Iy A j L.length [] L [] (Nat.le_refl _) rfl (λa O=>by cases O) (List.Perm.refl _)
 have h1:iterN (λs=>jT L B s) n (([]:List Play),([]:List Int),0)=_:=h1
 have o:=KI B L 0
 have f:=Da (L:=L) (nz (c2 L) (dts B 0 L)) []
 have R:=yJ (c2 L) (dts B 0 L)
 have J:=h2.length_eq
 simp only [List.length_append,List.length_nil]at J f
 have h:(fnd B L L).1.length+(fnd B L L).2.length=0+(nz (c2 L) (dts B 0 L)).length:=f
 obtain ⟨s,N,W,M⟩:=Rt h2 (by omega)
 refine⟨s,?_,by omega⟩
 unfold tZ
 rw [I,hb]
 show (dS _ _).bind _=_
 rw [dB h1,ob_,jf]
 simp only
 rw [N,ob_]
 unfold fu;rw [if_pos M];rfl
theorem PK {α:Type} (c:α->α->Int):∀(Q R:List α),(∀v∈Q,∀u∈R,¬c v u<0)->Q.Pairwise (λa b=>¬c b a<0)->wZ c R Q=Q.reverse++R
 | [],R,_,_=>rfl
 | v::Q,R,h,A=>by
  obtain ⟨o,B⟩:=List.pairwise_cons.1 A
  have hi:iA c v R=v::R:=by
   cases R with
   | nil=>rfl
   | cons u R =>
    show (bif decide (c v u<0)then u::iA c v R else v::u::R)=_
    rw [decide_eq_false (h v (by simp) u (by simp))];rfl
  show wZ c (iA c v R) Q=_
  rw [hi,PK c Q (v::R) (λw j u f=>by
   rcases List.mem_cons.1 f with rfl|f
   ·exact o w j
   ·exact h w (List.mem_cons_of_mem _ j) u f) B]
  simp
theorem srtS_id {α:Type} (c:α->α->Int) (l:List α) (f:l.Pairwise (λa b=>¬c b a<0)):nz c l=l:=by
 unfold nz
 rw [PK c l [] (λ_ _ _ h=>by cases h) f];simp
def eqvL (a b:Log_):Bool:=(a.Player.toList==b.Player.toList)&&((a.Item.toList==b.Item.toList)&&((a.No==b.No)&&((a.Clock==b.Clock)&&((a.Long==b.Long)&&((a.Sum.toList==b.Sum.toList)&&true)))))
theorem SA (a b:Log_):eqvL a b=true↔a=b:=by
 obtain ⟨A,a2,a3,a4,a5,B⟩:=a
 obtain ⟨j,F,f,o,J,I⟩:=b
 unfold eqvL
 simp only [Bool.and_eq_true,beq_iff_eq,Bool.and_true,Log_.mk.injEq]
 have k:∀x y:ByteArray,x.toList=y.toList↔x=y:=λx y=>⟨λh=>Bt h,λh=>by rw [h]⟩
 rw [k,k,k]
theorem Oi (a b:List Log_) (L:a.length<=1000) (hb:b.length<=1000):dQ [a,b]=some (a++b):=by
 unfold dQ
 have B:forL [a,b] 0 (λk x s=>bL k x s)=some (.go (((a.length+b.length:Nat)):Int)):=by
  rw [jX (by simp)]
  have h:∀k,bL k a 0=some (.go (a.length:Int)):=λk=>by
   unfold bL
   rw [dh (by omega),decide_eq_false (by omega),cond_false,ob_,Int.zero_add]
  have f:∀k,bL k b (a.length:Int)=some (.go ((a.length+b.length:Nat):Int)):=λk=>by
   unfold bL
   rw [dh (by omega),decide_eq_false (by omega),cond_false,ob_]
   congr 2
  simp only [forR,h,f,ob_]
 have J:forL [a,b] ([]:List Log_) (λk x s=>bK k x s)=some (.go (a++b)):=by
  rw [jX (by simp)]
  have h:∀k,bK k a []=some (.go a):=λk=>by
   unfold bK
   rw [gN _ _ (by simp;omega)];rfl
  have f:∀k,bK k b a=some (.go (a++b)):=λk=>by
   unfold bK
   rw [gN _ _ (by omega)];rfl
  simp only [forR,h,f,ob_]
 have A:w64 (0-0)=0:=rfl
 have o:∃g,eO (((a.length+b.length:Nat)):Int)=some g/\(a++b=[]->g=false):=by
  unfold eO
  rw [A,dh (n:=((a.length+b.length:Nat):Int)-0) (by omega),decide_eq_false (by omega),cond_false]
  by_cases hz:a.length+b.length=0
  ·rw [decide_eq_false (by omega),cond_false]
   exact⟨_,rfl,λ_=>rfl⟩
  ·rw [decide_eq_true (by omega),cond_true]
   have j:zN (((a.length+b.length:Nat):Int)-0) 72=some ():=by unfold zN;rw [if_pos (by omega)]
   rw [j]
   refine⟨_,rfl,λe => ?_⟩
   have:=congrArg List.length e
   rw [List.length_append]at this
   exact absurd this hz
 obtain ⟨g,g1,I⟩:=o
 rw [B,ob_,jf,g1,ob_,J,ob_,jf]
 have F:kE g (a++b)=some ():=by
  cases hab:a++b with
  | nil=>rw [I hab];rfl
  | cons x l=>cases g <;> rfl
 rw [F];rfl
theorem relL_ne {a b:Log_} (h:Jf a b):a≠b:=by
 rintro rfl
 rcases h with h|⟨_,h⟩
 ·exact eZ _ h
 ·omega
theorem relL_as {a b:Log_} (h:Jf a b):¬cmpL b a<0:=by
 unfold cmpL zS
 rcases h with h|⟨h1,h2⟩
 ·rcases jK b.Player a.Player with⟨e,_⟩|⟨e,_⟩|⟨_,e⟩
  ·exact absurd (lt_trans h e) (eZ _)
  ·rw [e]at h;exact absurd h (eZ _)
  ·rw [e];show ¬(1:Int)<0;omega
 ·rcases jK b.Player a.Player with⟨e,_⟩|⟨_,e⟩|⟨e,_⟩
  ·rw [h1]at e;exact absurd e (eZ _)
  ·rw [e]
   show ¬uC b.No a.No<0
   unfold uC
   rw [if_neg (by omega)]
   split <;> omega
  ·rw [h1]at e;exact absurd e (eZ _)
theorem NY {l:List Log_} (F:l.Pairwise Jf) (hl:l.length<=1000):dD l=some l:=by
 unfold dD
 by_cases h2:(l.length:Int)<2
 ·rw [decide_eq_true h2];rfl
 rw [decide_eq_false h2,cond_false]
 have A:∀(d j:Nat),1<=j->j+d=l.length->iterN (λs=>bJ l s) (d+1) (j:Int)=some (.go (l.length:Int)):=by
  intro d
  induction d with
  | zero =>
   intro j h1 hj
   simp only [iterN,bJ]
   rw [decide_eq_false (by omega),cond_false,ob_]
   simp only []
   rw [show j=l.length by omega]
  | succ d I =>
   intro j h1 hj
   have o:j<l.length:=by omega
   obtain ⟨i,rfl⟩:∃i,j=i+1:=⟨j-1,by omega⟩
   have g1:l[i]? = some (l[i]'(by omega)):=List.getElem?_eq_getElem _
   have L:l[i+1]? = some (l[i+1]'o):=List.getElem?_eq_getElem _
   have M:=List.pairwise_iff_getElem.1 F i (i+1) (by omega) o (by omega)
   have B:eqvL (l[i+1]'o) (l[i]'(by omega))=false:=by
    rw [<- Bool.not_eq_true]
    exact λe=>relL_ne M ((SA _ _).1 e).symm
   have J:w64 (((i+1:Nat):Int)-1)=(i:Int):=by rw [dh (by omega)];omega
   have N:w64 (((i+1:Nat):Int)+1)=((i+1+1:Nat):Int):=by rw [dh (by omega)];omega
   have h:bJ l ((i+1:Nat):Int)=some (.go ((i+1+1:Nat):Int)):=by
    unfold bJ
    rw [decide_eq_true (by omega),cond_true,yO (by omega) (by omega),ob_,show 0+(((i+1:Nat):Int)).toNat=i+1 by omega,L,ob_,J,yO (by omega) (by omega),ob_,show 0+((i:Int)).toNat=i by omega,g1,ob_]
    have f:=B
    unfold eqvL at f
    rw [f,cond_false,N]
   rw [iterN,h,ob_]
   exact I (i+1+1) (by omega) (by omega)
 have:=dB (A (l.length-1) 1 (Nat.le_refl _) (by omega))
 rw [show ((1:Nat):Int)=1 from rfl]at this
 rw [this];rfl
theorem Rv {l:List Log_} (I:l.Pairwise Jf) (hl:l.length<=19) (W:dW l=some 0) (N:dW []=some 0):qi l []=some (l,0):=by
 have O:forL (List.range (2:Int).toNat) () (λk x s=>jR l [] k x s)=some (.go ()):=by
  rw [jX (by simp)]
  have Y:∀x,jR l [] 0 x ()=some (.go ()):=λx=>by
   unfold jR
   rw [show idx ([l,[]]:List (List Log_)) ((0:Nat):Int)=some l from rfl,ob_,W];rfl
  have q1:∀x,jR l [] (0+1) x ()=some (.go ()):=λx=>by
   unfold jR
   rw [show idx ([l,[]]:List (List Log_)) ((0+1:Nat):Int)=some [] from rfl,ob_,N];rfl
  rw [show List.range (2:Int).toNat=[0,1] from rfl]
  simp only [forR,Y,q1,ob_]
 have F:nz cmpL l=l:=srtS_id cmpL l (I.imp (λ{a b} h=>relL_as h))
 have A:bZ l=some l:=by
  unfold bZ
  have h1:fO l (l.length:Int)=Pe gW l (l.length:Int):=rfl
  rw [h1,M3 (p:=λ_=>True) (c:=cmpL) (λa b _ _=>wK a b) _ hl (λ_ _=>trivial),ob_,F]
  unfold fu;rw [if_pos rfl];rfl
 have J:∀(d j:Nat),1<=j->j+d=max 1 l.length->iterN (λt=>lm l t) (d+1) (j:Int)=some (.go ((max 1 l.length:Nat):Int)):=by
  intro d
  induction d with
  | zero =>
   intro j h1 hj
   simp only [iterN,lm]
   rw [decide_eq_false (by omega),cond_false,ob_]
   simp only []
   rw [show j=max 1 l.length by omega]
  | succ d R =>
   intro j h1 hj
   have f:j<l.length:=by omega
   obtain ⟨i,rfl⟩:∃i,j=i+1:=⟨j-1,by omega⟩
   have g1:l[i]? = some (l[i]'(by omega)):=List.getElem?_eq_getElem _
   have Z:l[i+1]? = some (l[i+1]'f):=List.getElem?_eq_getElem _
   have hr:=List.pairwise_iff_getElem.1 I i (i+1) (by omega) f (by omega)
   have hcm:cmpL (l[i]'(by omega)) (l[i+1]'f)<0:=Me hr
   have L:(cmpL (l[i]'(by omega)) (l[i+1]'f)==0)=false:=by rw [beq_eq_false_iff_ne];omega
   have T:w64 (((i+1:Nat):Int)-1)=(i:Int):=by rw [dh (by omega)];omega
   have w2:w64 (((i+1:Nat):Int)+1)=((i+1+1:Nat):Int):=by rw [dh (by omega)];omega
   have o:lm l ((i+1:Nat):Int)=some (.go ((i+1+1:Nat):Int)):=by
    unfold lm
    rw [decide_eq_true (by omega),cond_true,T,yO (by omega) (by omega),ob_,show 0+((i:Int)).toNat=i by omega,g1,ob_,yO (by omega) (by omega),ob_,show 0+(((i+1:Nat):Int)).toNat=i+1 by omega,Z,ob_,wK,ob_,L,cond_false,w2]
   rw [iterN,o,ob_]
   exact R (i+1+1) (by omega) (by omega)
 have B:=dB (J (max 1 l.length-1) 1 (Nat.le_refl _) (by omega))
 rw [show ((1:Nat):Int)=1 from rfl]at B
 unfold qi
 rw [O,ob_,jf]
 rw [Oi l [] (by omega) (by simp),ob_,List.append_nil,A,ob_]
 have M:fu l l=some ():=by unfold fu;rw [if_pos rfl]
 rw [M,ob_,NY I (by omega),ob_,O5 (λh=>h),ob_,B,ob_,jf]
 rw [decide_eq_false (by omega)];rfl
structure GoodY (x:Play):Prop where
 pl:ShortK x.Player
 it:ShortK x.Item
 at_ : -2000000000000<=x.At/\x.At<=2000000000000
 lo : -2000000000000<=x.Long/\x.Long<=2000000000000
def befP (a b:Play):Prop:=lt a.Player b.Player\/a.Player=b.Player/\a.At<b.At
def longB (n:Int):Bool:=l7 n 1 86400000
def plE (p:Play):Int:=bif !xn p.Player || !xn p.Item then 5 else bif !momB p.At||longB p.Long then 1 else 0
instance (a b:ByteArray):Decidable (lt a b):=by unfold lt;exact inferInstance
def NN (a b:Play):Bool:=decide (lt a.Player b.Player)||(decide (a.Player=b.Player)&&decide (a.At<b.At))
theorem TG {a b:Play}:NN a b=true↔befP a b:=by
 unfold NN befP;simp
def RS (o:Option Play) (p:Play):Int:=bif plE p==0 then (match o with | none=>0 | some q=>bif NN q p then 0 else 7)else plE p
def Ot (l:List Play):Int:=xy RS none l
theorem FL (a b:Play):∃n,iP a b=some n/\(decide (n>=0)) = !NN a b:=by
 refine⟨_,by simp only [iP,uB,sU,Lu,ob_];rfl,?_⟩
 have key:(zS (AB a.Player b.Player) (uC a.At b.At)<0)↔befP a b:=by
  unfold zS uC befP
  rcases jK a.Player b.Player with⟨h,e⟩|⟨h,e⟩|⟨h,e⟩
  ·rw [e];simp [h]
  ·rw [e,h]
   have j:¬lt b.Player b.Player:=eZ _
   by_cases h1:a.At<b.At
   ·simp [h1]
   ·by_cases h2:a.At>b.At <;> simp [h1,h2,j]
  ·have j:¬lt a.Player b.Player:=λk=>eZ _ (lt_trans h k)
   have f:a.Player≠b.Player:=λk=>by rw [k]at h;exact eZ _ h
   rw [e];simp [j,f]
 rw [Bool.eq_iff_iff]
 simp only [decide_eq_true_eq,Bool.not_eq_true',Bool.eq_false_iff,ne_eq,TG,<- key]
 omega
theorem NP {l:List Play} {k:Nat} {x:Play} {f:Play->Play->Option Int} (o:l[k]? = some x) (hl:l.length<=1000) (I:∀y,y∈l->∃n,f y x=some n/\decide (n>=0) = !NN y x) :
  (bif (decide ((k:Int)>0))then (idx l (w64 ((k:Int)-1))).bind λy=>(f y x).bind λr=>some (decide (r>=0))else some false)=some (match vQ l k with | none=>false | some q => !NN q x):=by
 have J:k<l.length:=(List.getElem?_eq_some_iff.1 o).1
 rcases Nat.eq_zero_or_pos k with h|h
 ·subst h
  rw [decide_eq_false (by omega)];rfl
 ·rw [decide_eq_true (by omega),cond_true]
  obtain ⟨y,A,j⟩:=BA o h (by omega)
  obtain ⟨n,F,B⟩:=I y (List.mem_of_getElem? j)
  have e:vQ l k=some y:=by unfold vQ;rw [if_neg (by omega)];exact j
  rw [A,ob_,F,ob_,B,e]
theorem Cf {l:List Play} (j:∀x∈l,GoodY x) (hl:l.length<=1000):fB l=some (Ot l):=by
 unfold fB
 rw [decide_eq_false (show ¬(l.length:Int)>3000 by omega),cond_false,jX (by omega)]
 rw [yV (stp:=RS) (body:=λk x s=>fC l k x s) l l 0 rfl (λk x f => ?_)]
 ·exact CS _
 ·have o:x∈l:=List.mem_of_getElem? f
  obtain ⟨h,A,_,_⟩:=j x o
  unfold ShortK at h A
  show fC l k x ()=_
  unfold fC
  rw [NP f hl (λy _=>FL y x)]
  simp only [wN _ (show x.Player.size<=1000000000 by omega),wN _ (show x.Item.size<=1000000000 by omega),uy,nk,ob_]
  unfold RS plE longB
  cases xn x.Player <;> cases xn x.Item <;> cases momB x.At <;> cases l7 x.Long 1 86400000 <;> first | rfl | skip
  cases vQ l k with
  | none=>rfl
  | some q=>dsimp only;cases NN q x <;> rfl
structure VP (l:List Play):Prop where
 good:∀x∈l,GoodY x
 at_:∀x∈l,0<=x.At/\x.At<=345686399999
 lo:∀x∈l,1<=x.Long/\x.Long<=86400000
 rise:l.Pairwise befP
structure RightP (x:Play):Prop where
 pl:x.Player=paS\/x.Player=pbS
 it:x.Item=iaS\/x.Item=ibS
 at_:0<=x.At/\x.At<=86400290
 lo:1<=x.Long/\x.Long<=20
theorem MX:lt paS pbS:=lt_lit (by kernel_rfl)
theorem QS (P:ByteArray) (hP:P=paS\/P=pbS) (n:Int) (hn:0<=n/\n<=10) (l0:List Play) (a0:Int) (ha:0<=a0/\a0<=86399990) (s:Stream) {b:Int} (hs:Ok s b) (hb:b<=800000)
  (hr:∀x∈l0,RightP x) (A:l0.Pairwise befP) (o:∀y∈l0,lt y.Player P) (hl:l0.length<=100) :
  ∃l a I,forL (List.range n.toNat) (l0,a0,s.L,s.f_at) (λk x s=>fM P k x s)=some (.go (l,a,I.L,I.f_at))/\(∀x∈l,RightP x)/\l.Pairwise befP/\(∀y∈l,y.Player=P\/lt y.Player P)/\l.length<=l0.length+n.toNat/\Ok I (b+30):=by
 obtain ⟨t,t1,t2,t3,t4,t5,t6,t7,J⟩:=IQ (body:=λk x s=>fM P k x s) (s:=(l0,a0,s.L,s.f_at)) (xs:=List.range n.toNat)
  (λj t=>t.1.length=l0.length+j/\(∀x∈t.1,RightP x)/\t.1.Pairwise befP/\(∀y∈t.1,y.Player=P\/lt y.Player P)/\(∀y∈t.1,y.Player=P->y.At<t.2.1)/\(0<=t.2.1/\t.2.1<=86399990+30*j)/\Ok ⟨t.2.2.1,t.2.2.2⟩ (b+3*j)) (by simp;omega) (λj x t hx hj ⟨i1,i2,i3,i4,i5,i6,R⟩=>by
  simp only [List.length_range]at hj
  obtain ⟨it,s1,c1,c2,c3⟩:=Qo ⟨t.2.2.1,t.2.2.2⟩ [(⟨#[105,97]⟩:ByteArray),(⟨#[105,98]⟩:ByteArray)] R (by omega) (by simp) (by simp)
  obtain ⟨M,s2,W,Z,d3⟩:=Bg s1 [1,5,10,20] c3 (by omega) (by simp) (by simp)
  obtain ⟨st,s3,e1,N,e3⟩:=Bg s2 [1,5,10,30] d3 (by omega) (by simp) (by simp)
  have F:1<=M/\M<=20:=by
   simp only [List.mem_cons,List.not_mem_nil,or_false]at Z;omega
  have Y:1<=st/\st<=30:=by
   simp only [List.mem_cons,List.not_mem_nil,or_false]at N;omega
  have B:it=iaS\/it=ibS:=by
   simp only [List.mem_cons,List.not_mem_nil,or_false]at c2;exact c2
  unfold fM
  simp only [c1,W,e1,ob_]
  rw [gN _ _ (by simp;omega),ob_,dh (n:=t.2.1+st) (by omega)]
  refine⟨_,rfl,by simp;omega,λy f => ?_,?_,λy f => ?_,λy f T => ?_,by simp only [];omega,e3.mono (by omega)⟩
  ·rcases List.mem_append.1 f with f|f
   ·exact i2 y f
   ·rw [List.mem_singleton.1 f]
    exact⟨hP,B,by show 0<=t.2.1/\t.2.1<=86400290;omega,F⟩
  ·refine List.pairwise_append.2 ⟨i3,List.pairwise_singleton _ _,λy f z O => ?_⟩
   rw [List.mem_singleton.1 O]
   rcases i4 y f with h|h
   ·exact .inr ⟨h,i5 y f h⟩
   ·exact .inl h
  ·rcases List.mem_append.1 f with f|f
   ·exact i4 y f
   ·rw [List.mem_singleton.1 f];exact .inl rfl
  ·show y.At<t.2.1+st
   rcases List.mem_append.1 f with f|f
   ·have:=i5 y f T;omega
   ·rw [List.mem_singleton.1 f];show t.2.1<t.2.1+st;omega)
  ⟨rfl,hr,A,λy f => .inr (o y f),λy f e=>absurd (o y f) (by rw [e];exact eZ P),(by show 0<=a0/\a0<=86399990+30*((0:Nat):Int);omega),hs.mono (by omega)⟩
 rw [List.length_range]at t2 t7 J
 exact⟨t.1,t.2.1,⟨t.2.2.1,t.2.2.2⟩,t1,t3,t4,t5,by omega,J.mono (by omega)⟩
theorem Ph (P:ByteArray) (Z:P=paS\/P=pbS) (most:Int) (hm:0<=most/\most<=10) (l0:List Play) (s:Stream) {b:Int} (hs:Ok s b) (hb:b<=700000)
  (N:∀x∈l0,RightP x) (f:l0.Pairwise befP) (j:∀y∈l0,lt y.Player P) (hl:l0.length<=100) (k:Nat) :
  ∃l h,dY most k P (l0,s.L,s.f_at)=some (.go (l,h.L,h.f_at))/\(∀x∈l,RightP x)/\l.Pairwise befP/\(∀y∈l,y.Player=P\/lt y.Player P)/\l.length<=l0.length+most.toNat/\Ok h (b+40):=by
 obtain ⟨a0,O,F,c2,c3⟩:=Bg s [0,5,86399990] hs (by omega) (by simp) (by simp)
 obtain ⟨n,M,B,d2,d3,d4⟩:=vK O 0 most c3 (by omega) (by omega) (by decide) (by omega)
 have T:0<=a0/\a0<=86399990:=by
  simp only [List.mem_cons,List.not_mem_nil,or_false]at c2;omega
 obtain ⟨l,a,R,I,A,W,Y,e5,J⟩:=QS P Z n (by omega) l0 a0 T M d4 (by omega) N f j hl
 refine⟨l,R,?_,A,W,Y,by omega,J.mono (by omega)⟩
 unfold dY
 have o:(⟨s.L,s.f_at⟩:Stream)=s:=rfl
 simp only [o,F,B,I,ob_,thenC]
structure RPlays (l:List Play):Prop where
 right:∀x∈l,RightP x
 rise:l.Pairwise befP
 len:l.length<=20
theorem OC (most:Int) (F:0<=most/\most<=10) (s:Stream) {b:Int} (hs:Ok s b) (hb:b<=600000):∃l J,ja s most=some (l,J)/\RPlays l/\l.length<=2*most.toNat/\Ok J (b+80):=by
 obtain ⟨j,f,c1,c2,c3,N,A,R⟩:=Ph paS (.inl rfl) most F [] s hs (by omega) (λx O=>by cases O) .nil (λy o=>by cases o) (by simp) 0
 obtain ⟨I,B,Y,Z,W,d4,d5,T⟩:=Ph pbS (.inr rfl) most F j f R (by omega) c2 c3 (λy o=>by
  rcases N y o with h|h
  ·rw [h];exact MX
  ·exact lt_trans h MX) (by simp at A;omega) 1
 refine⟨I,B,?_,⟨Z,W,by simp at A;omega⟩,by simp at A;omega,T.mono (by omega)⟩
 unfold ja
 rw [jX (by simp)]
 have e1:dY most 0 (⟨#[112,97]⟩:ByteArray) (([]:List Play),s.L,s.f_at)=some (.go (j,f.L,f.f_at)):=c1
 have M:dY most (0+1) (⟨#[112,98]⟩:ByteArray) (j,f.L,f.f_at)=some (.go (I,B.L,B.f_at)):=Y
 simp only [forR,e1,M,ob_,thenC]
theorem QC {α:Type} {R:α->α->Prop} {l:List α} (h:l.Pairwise R) {i j:Nat} {x y:α} (hi:l[i]? = some x) (hj:l[j]? = some y) (hij:i<j):R x y:=by
 obtain ⟨o,rfl⟩:=List.getElem?_eq_some_iff.1 hi
 obtain ⟨f,rfl⟩:=List.getElem?_eq_some_iff.1 hj
 exact List.pairwise_iff_getElem.1 h i j o f hij
theorem FW {a b:Play} (h:befP a b):∃n,iP a b=some n/\n<0:=by
 refine⟨_,by simp only [iP,uB,sU,Lu,ob_];rfl,?_⟩
 unfold zS uC
 rcases h with h|⟨h,k⟩
 ·rcases jK a.Player b.Player with⟨_,e⟩|⟨e,_⟩|⟨e,_⟩
  ·rw [e];simp
  ·rw [e]at h;exact absurd h (eZ _)
  ·exact absurd (lt_trans h e) (eZ _)
 ·rcases jK a.Player b.Player with⟨e,_⟩|⟨_,e⟩|⟨e,_⟩
  ·rw [h]at e;exact absurd e (eZ _)
  ·rw [e];simp [k]
  ·rw [h]at e;exact absurd e (eZ _)
theorem Dq {l:List Play} (h:RPlays l):fB l=some 0:=by
 unfold fB
 have h1:=h.len
 rw [decide_eq_false (show ¬(l.length:Int)>3000 by omega),cond_false]
 obtain ⟨u,e,_⟩:=qA (body:=λk x s=>fC l k x s) (λ_ _=>True) (xs:=l) (s:=()) (by omega) (λk x s f _=>by
  refine⟨(),?_,trivial⟩
  have o:x∈l:=List.mem_of_getElem? f
  obtain ⟨B,hi,O,hl⟩:=h.right x o
  have M:dX x.Player=some true:=by
   rcases B with e|e <;> rw [e,wN _ (by decide)] <;> exact congrArg some (by kernel_rfl)
  have F:dX x.Item=some true:=by
   rcases hi with e|e <;> rw [e,wN _ (by decide)] <;> exact congrArg some (by kernel_rfl)
  have J:momB x.At=true:=by unfold momB;rw [rJ (by omega)];rfl
  unfold fC
  simp only [M,F,ob_,Bool.not_true,cond_false,uy,J,nk,rJ (show (1:Int)<=x.Long/\x.Long<=86400000 by omega)]
  rcases Nat.eq_zero_or_pos k with j|j
  ·rw [decide_eq_false (by omega)];rfl
  ·rw [decide_eq_true (by omega),cond_true]
   obtain ⟨y,I,A⟩:=BA f j (by omega)
   obtain ⟨n,L,N⟩:=FW (QC h.rise A f (by omega))
   rw [I,ob_,L,ob_,decide_eq_false (by omega)];rfl) trivial
 rw [e];rfl
end Go.Proofs.YtnfojnnfidnikaeGreatDoor.Law

