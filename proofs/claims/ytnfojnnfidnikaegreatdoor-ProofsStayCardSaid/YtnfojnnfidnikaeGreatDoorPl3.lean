/-
  THE PLAIN LAW (part 3).
-/
import Derived.Test.YtnfojnnfidnikaeGreatDoorPl2
open Go Go.Eng
namespace Go.Proofs.YtnfojnnfidnikaeGreatDoor.Law
set_option linter.unusedVariables false
set_option linter.unusedSimpArgs false
def gP (d:Dated):Placed:=⟨d.f_i,d.f_at⟩
theorem Mo {B:List Beat} (R:BOk B) {L:List Log_} {j:Nat} {to:Int} {x:Log_} (hj:L[j]? = some x) (O:(j:Int)<to) (T:inM x.Clock) (J:j<=1000000) (P:List Placed) (F:List Int) (hl:P.length+F.length<=100000) :
  gY to L (MB B x.Player) (P,F,(j:Int))=some (.go (P++(match atF B x with | some a=>[⟨(j:Int),a⟩] | none=>[]),F++(match atF B x with | some _=>[] | none=>[(j:Int)]),((j+1:Nat):Int))):=by
 obtain ⟨h2,W⟩:=Uk R x T
 unfold gY atF
 have N:decide ((j:Int)<to)=true:=decide_eq_true O
 have M:w64 ((j:Int)+1)=((j+1:Nat):Int):=by rw [dh (by omega)];omega
 simp only [N,cond_true,mf,hj,ob_,h2,M]
 have I:∀d:Placed,ku P [d]=some (P++[d]):=λd=>gL _ _ (by simp;omega)
 have A:∀d:Int,ku F [d]=some (F++[d]):=λd=>gL _ _ (by simp;omega)
 rcases W with⟨f,_⟩|f|f|f
 ·have h:((plF B x).2==0)=true:=by rw [f];rfl
  simp only [h,cond_true,cond_false,ob_,I,List.append_nil]
 ·have o:((plF B x).2==8)=true:=by rw [f];rfl
  have h:((plF B x).2==0)=false:=by rw [f];rfl
  simp only [o,h,cond_true,cond_false,ob_,I,List.append_nil]
 ·have o:((plF B x).2==8)=false:=by rw [f];rfl
  have h:((plF B x).2==0)=false:=by rw [f];rfl
  simp only [o,h,cond_true,cond_false,ob_,A,List.append_nil]
 ·have o:((plF B x).2==8)=false:=by rw [f];rfl
  have h:((plF B x).2==0)=false:=by rw [f];rfl
  simp only [o,h,cond_true,cond_false,ob_,A,List.append_nil]
theorem Ff {B:List Beat} (A:BOk B) {L post:List Log_} {p:ByteArray} {to:Nat} (N:L.length<=1000):∀(xs:List Log_) (j:Nat) (P:List Placed) (F:List Int),L.drop j=xs++post->j+xs.length=to->(∀x∈xs,x.Player=p/\inM x.Clock)->P.length+F.length+xs.length<=10000 ->
  iterN (λs=>gY (to:Int) L (MB B p) s) (xs.length+1) (P,F,(j:Int))=some (.go (P++(dts B j xs).map gP,F++lfs B j xs,(to:Int)))
 | [],j,P,F,h,f,o,hl=>by
  have hc:decide ((j:Int)<(to:Int))=false:=decide_eq_false (by simp at f;omega)
  simp only [List.length_nil,iterN,gY,hc,cond_false,ob_,dts,lfs,List.map_nil,List.append_nil]
  simp at f;rw [f]
 | x::xs,j,P,F,h,f,o,hl=>by
  simp only [List.length_cons]at hl f
  have I:L[j]? = some x:=yl (by rw [h];rfl)
  obtain ⟨M,hc⟩:=o x (by simp)
  have J:=(List.getElem?_eq_some_iff.1 I).1
  have hs:=Mo A (to:=(to:Int)) I (by omega) hc (by omega) P F (by omega)
  rw [M]at hs
  rw [List.length_cons,iterN,hs,ob_]
  simp only
  rw [Ff A N xs (j+1) _ _ (show L.drop (j+1)=xs++post from aX (show L.drop j=x::(xs++post) from h)) (by omega) (λy O=>o y (List.mem_cons_of_mem _ O)) (by cases atF B x <;> simp <;> omega),dts,lfs,List.map_append,List.append_assoc,List.append_assoc]
  cases atF B x <;> rfl
def cP (a b:Placed):Int:=uy a.f_at b.f_at
def cD (a b:Dated):Int:=uy a.f_at b.f_at
def c2 (L:List Log_) (a b:Dated):Int:=zU (AV (yL L a).Player (yL L b).Player) (uy a.f_at b.f_at)
theorem stableP (l:List Placed) (hl:l.length<=19):bE l=some (nz cP l):=by
 unfold bE
 have h1:dU l (l.length:Int)=PY mF l (l.length:Int):=rfl
 rw [h1,Mf (p:=λ_=>True) (c:=cP) (λa b _ _=>by unfold mF cP;rw [sK];rfl) l hl (λ_ _=>trivial),ob_]
 unfold fw;rw [if_pos (yI cP l)];rfl
theorem Q4 {a b:List Int} (h:a.Perm b) (hl:a.length<=100000):∃s,dw a=some s/\dw b=some s/\s.length=a.length:=by
 have f:b.length=a.length:=h.length_eq.symm
 have hs:∀l:List Int,(l.mergeSort (λx y=>decide (x<=y))).Pairwise (· <= ·):=λl=>by
  have:=List.pairwise_mergeSort (le:=λ(x y:Int)=>decide (x<=y)) (λa b c=>by simp;omega) (λa b=>by simp;omega) l
  exact this.imp (by simp)
 have e:a.mergeSort (λx y=>decide (x<=y))=b.mergeSort (λx y=>decide (x<=y)) :=
  List.Perm.eq_of_pairwise (le:=(· <= ·)) (λa b _ _ h1 h2=>Int.le_antisymm h1 h2) (hs a) (hs b) ((List.mergeSort_perm a _).trans (h.trans (List.mergeSort_perm b _).symm))
 refine⟨a.mergeSort (λx y=>decide (x<=y)),?_,?_,List.length_mergeSort a⟩
 ·unfold dw JH;rw [if_pos (by omega)]
 ·unfold dw JH;rw [if_pos (by omega),e]
theorem SS {α:Type} (l:List α) (q:α):(l++[q]).getLast? = some q:=by simp
def Jc (pl:List Play) (p:ByteArray):Int:=match pl.getLast? with
 | some q=>bif decide (q.Player=p)then q.At+q.Long else 0
 | none=>0
theorem R3 (pl:List Play) (q:Play) (p:ByteArray) (h:q.Player=p):Jc (pl++[q]) p=q.At+q.Long:=by
 unfold Jc;rw [SS];simp only [decide_eq_true h,cond_true]
theorem Ty {L:List Log_} (k:Nat) {d:Dated} (A:VD L d) (F:List Int) (pl:List Play) (J:∀q∈pl,EG q) (hl:F.length+pl.length<=10000) :
  mK L k (gP d) (pl,F,Jc pl (yL L d).Player)=some (.go (match stp L pl d with | some q=>(pl++[q],F,q.At+q.Long) | none=>(pl,F++[d.f_i],Jc pl (yL L d).Player))):=by
 have N:=A.at
 obtain ⟨h1,h2,h3,h4,h5,Z⟩:=A
 have key:jG d.f_at (Jc pl (yL L d).Player)=(vG L pl d).1/\d.f_at+(yL L d).Long-(vG L pl d).1=(vG L pl d).2/\(0<=(vG L pl d).1/\(vG L pl d).1<=345772799999):=by
  have B:jG d.f_at 0=d.f_at:=by unfold jG;rw [if_neg (by omega)]
  unfold Jc vG
  cases hg:pl.getLast? with
  | none=>show jG d.f_at 0=d.f_at/\d.f_at+(yL L d).Long-d.f_at=(yL L d).Long/\(0<=d.f_at/\d.f_at<=345772799999);exact⟨B,by omega,by omega,by omega⟩
  | some q =>
   obtain ⟨q1,q2,Y,q4⟩:=J q (List.mem_of_getLast? hg)
   show jG d.f_at (bif decide (q.Player=(yL L d).Player)then q.At+q.Long else 0)=(bif decide (q.Player=(yL L d).Player)&&decide (q.At+q.Long>d.f_at)then (q.At+q.Long,d.f_at+(yL L d).Long-(q.At+q.Long))else (d.f_at,(yL L d).Long)).1 /\
    d.f_at+(yL L d).Long-(bif decide (q.Player=(yL L d).Player)&&decide (q.At+q.Long>d.f_at)then (q.At+q.Long,d.f_at+(yL L d).Long-(q.At+q.Long))else (d.f_at,(yL L d).Long)).1=(bif decide (q.Player=(yL L d).Player)&&decide (q.At+q.Long>d.f_at)then (q.At+q.Long,d.f_at+(yL L d).Long-(q.At+q.Long))else (d.f_at,(yL L d).Long)).2 /\
    (0<=(bif decide (q.Player=(yL L d).Player)&&decide (q.At+q.Long>d.f_at)then (q.At+q.Long,d.f_at+(yL L d).Long-(q.At+q.Long))else (d.f_at,(yL L d).Long)).1/\(bif decide (q.Player=(yL L d).Player)&&decide (q.At+q.Long>d.f_at)then (q.At+q.Long,d.f_at+(yL L d).Long-(q.At+q.Long))else (d.f_at,(yL L d).Long)).1<=345772799999)
   cases hpl:decide (q.Player=(yL L d).Player)with
   | true =>
    cases f:decide (q.At+q.Long>d.f_at)with
    | true =>
     have f:=of_decide_eq_true f
     have j:jG d.f_at (q.At+q.Long)=q.At+q.Long:=by unfold jG;rw [if_pos f]
     show jG d.f_at (q.At+q.Long)=q.At+q.Long/\d.f_at+(yL L d).Long-(q.At+q.Long)=d.f_at+(yL L d).Long-(q.At+q.Long)/\(0<=q.At+q.Long/\q.At+q.Long<=345772799999)
     exact⟨j,rfl,by omega,by omega⟩
    | false =>
     have f:=of_decide_eq_false f
     have j:jG d.f_at (q.At+q.Long)=d.f_at:=by unfold jG;rw [if_neg f]
     show jG d.f_at (q.At+q.Long)=d.f_at/\d.f_at+(yL L d).Long-d.f_at=(yL L d).Long/\(0<=d.f_at/\d.f_at<=345772799999)
     exact⟨j,by omega,by omega,by omega⟩
   | false =>
    show jG d.f_at 0=d.f_at/\d.f_at+(yL L d).Long-d.f_at=(yL L d).Long/\(0<=d.f_at/\d.f_at<=345772799999)
    exact⟨B,by omega,by omega,by omega⟩
 obtain ⟨O,T,k3,k4⟩:=key
 have R:w64 (d.f_at+(yL L d).Long)=d.f_at+(yL L d).Long:=dh (by omega)
 have W:w64 (d.f_at+(yL L d).Long-(vG L pl d).1)=(vG L pl d).2:=by rw [dh (by omega)];exact T
 have M:decide ((vG L pl d).1>=d.f_at+(yL L d).Long)=decide ((vG L pl d).2<=0):=decide_eq_decide.2 (by omega)
 have o:ku F [d.f_i]=some (F++[d.f_i]):=gL _ _ (by simp;omega)
 have I:∀q:Play,ku pl [q]=some (pl++[q]):=λq=>gL _ _ (by simp;omega)
 have h:d.f_at+(yL L d).Long=(vG L pl d).1+(vG L pl d).2:=by omega
 unfold mK stp
 simp only [gP,N,ob_,O,R,M,W,tV]
 cases h7:decide ((vG L pl d).2<=0)with
 | true=>simp only [cond_true,ob_,Bool.true_or,o]
 | false =>
  cases h8:momB (vG L pl d).1 with
  | true=>simp only [cond_true,cond_false,ob_,Bool.or_self,Bool.not_true,I,h]
  | false=>simp only [cond_true,cond_false,ob_,Bool.false_or,Bool.not_false,o]
theorem Es {L:List Log_} {p:ByteArray}:∀(ds:List Dated) (k:Nat) (F:List Int) (pl:List Play),(∀d∈ds,VD L d/\(yL L d).Player=p)->(∀q∈pl,EG q)->F.length+pl.length+ds.length<=10000 ->
  forR (λk x s=>mK L k x s) (ds.map gP) k (pl,F,Jc pl p)=some (.go ((sM L pl ds).1,F++(sM L pl ds).2,Jc (sM L pl ds).1 p))
 | [],k,F,pl,B,A,hl=>by simp only [sM,List.append_nil];rfl
 | d::ds,k,F,pl,B,A,hl=>by
  simp only [List.length_cons]at hl
  obtain ⟨v,o⟩:=B d (by simp)
  have h:=Ty k v F pl A (by omega)
  rw [o]at h
  rw [List.map_cons,forR,h,ob_,sM]
  cases hs:stp L pl d with
  | some q =>
   obtain ⟨g1,I⟩:=M9 v A hs
   simp only
   rw [<- R3 pl q p (I.trans o),Es ds (k+1) F (pl++[q]) (λd f=>B d (List.mem_cons_of_mem _ f)) (λz j=>by
    rcases List.mem_append.1 j with j|j
    ·exact A z j
    ·rw [List.mem_singleton.1 j];exact g1) (by simp;omega)]
  | none =>
   simp only
   rw [Es ds (k+1) (F++[d.f_i]) pl (λd f=>B d (List.mem_cons_of_mem _ f)) A (by simp;omega)]
   simp
def LeP (a b:Log_):Prop:=lt a.Player b.Player\/a.Player=b.Player
theorem QW {a b c:Log_} (h:LeP a b) (k:LeP b c):LeP a c:=by
 rcases h with h|h
 ·rcases k with k|k
  ·exact .inl (lt_trans h k)
  ·exact .inl (k ▸ h)
 ·unfold LeP;rw [h];exact k
structure RightL (x:Log_):Prop where
 clock:inM x.Clock
 l0:1<=x.Long
 ll:x.Long<=86400000
theorem formF_0 {x:Log_} (h:wT x=0):RightL x:=by
 unfold wT at h
 cases h1:xq x.Player with
 | false=>rw [h1]at h;cases h
 | true =>
 cases h2:xq x.Item with
 | false=>rw [h1,h2]at h;cases h
 | true =>
 rw [h1,h2]at h
 simp only [Bool.not_true,cond_false]at h
 cases h3:(l7 x.No 1 1000000||(l7 x.Clock 0 345686399999||l7 x.Long 1 86400000))with
 | true=>rw [h3]at h;cases h
 | false =>
  rw [Bool.or_eq_false_iff,Bool.or_eq_false_iff]at h3
  have hl:=Bg h3.2.2
  exact⟨Bg h3.2.1,hl.1,hl.2⟩
theorem lStp_0 {p:Option Log_} {x:Log_} (h:MM p x=0):RightL x/\∀o,p=some o->LeP o x:=by
 unfold MM at h
 cases hf:(wT x != 0)with
 | true=>rw [hf,cond_true]at h;rw [h]at hf;cases hf
 | false =>
 have f:wT x=0:=by simpa using hf
 rw [hf,cond_false]at h
 refine⟨formF_0 f,λo ho => ?_⟩
 subst ho
 cases hm:uq x.Sum with
 | false=>rw [hm]at h;cases h
 | true =>
 rw [hm]at h
 simp only [Bool.not_true,cond_false]at h
 cases hc:decide (cmpL o x>=0)with
 | true=>rw [hc]at h;cases h
 | false =>
 have hc:=of_decide_eq_false hc
 rcases jI o.Player x.Player with⟨h1,_⟩|⟨h1,_⟩|⟨h1,h2⟩
 ·exact .inl h1
 ·exact .inr h1
 ·exfalso
  apply hc
  unfold cmpL zU
  rw [h2]
  show (1:Int)>=0
  omega
theorem ER:∀{l:List Log_} {p:Option Log_},xy MM p l=0->(∀o,p=some o->∀y∈l,LeP o y)/\l.Pairwise LeP/\∀x∈l,RightL x
 | [],_,_=>⟨λ_ _ y f=>(by cases f),List.Pairwise.nil,λx F=>(by cases F)⟩
 | x::xs,p,h=>by
  obtain ⟨h1,h2⟩:=RB h
  obtain ⟨j,i2,i3⟩:=ER h2
  obtain ⟨B,A⟩:=lStp_0 h1
  refine⟨λo ho y f => ?_,List.pairwise_cons.2 ⟨λy f=>j x rfl y f,i2⟩,λy f => ?_⟩
  ·rcases List.mem_cons.1 f with rfl|f
   ·exact A o ho
   ·exact QW (A o ho) (j x rfl y f)
  ·rcases List.mem_cons.1 f with rfl|f
   ·exact B
   ·exact i3 y f
theorem logsF_0 {l:List Log_} (h:Fu l=0):l.Pairwise LeP/\∀x∈l,RightL x:=by
 unfold Fu at h
 cases hl:decide (l.length>2000)with
 | true=>rw [hl]at h;cases h
 | false=>rw [hl,cond_false]at h;exact (ER h).2
theorem grp (p:ByteArray):∀xs:List Log_,(∀y∈xs,lt p y.Player\/p=y.Player)->xs.Pairwise LeP->∃g post,xs=g++post/\(∀y∈g,y.Player=p)/\∀b∈post,lt p b.Player
 | [],_,_=>⟨[],[],rfl,λy o=>(by cases o),λy o=>(by cases o)⟩
 | y::ys,h,F=>by
  obtain ⟨B,A⟩:=List.pairwise_cons.1 F
  by_cases o:y.Player=p
  ·obtain ⟨g,post,e,g1,I⟩:=grp p ys (λz f=>h z (List.mem_cons_of_mem _ f)) A
   refine⟨y::g,post,by rw [e];rfl,λz f => ?_,I⟩
   rcases List.mem_cons.1 f with rfl|f
   ·exact o
   ·exact g1 z f
  ·have j:lt p y.Player:=by
    rcases h y (by simp)with h|h
    ·exact h
    ·exact absurd h.symm o
   refine⟨[],y::ys,rfl,λz f=>(by cases f),λb hb => ?_⟩
   rcases List.mem_cons.1 hb with rfl|hb
   ·exact j
   ·rcases B b hb with k|k
    ·exact lt_trans j k
    ·exact k ▸ j
theorem J6 {L post:List Log_} {p:ByteArray} {st:List Play×List Int×Int} {O:Log_} (F:idx L st.2.2=some O) (o:O.Player=p) (T:L.length<=1000) (f:∀b∈post,lt p b.Player):∀(xs:List Log_) (j:Nat),L.drop j=xs++post->j<=L.length->(∀x∈xs,x.Player=p) ->
  iterN (λs=>jQ L st s) (xs.length+1) (j:Int)=some (.go ((j+xs.length:Nat):Int))
 | [],j,A,hj,I=>by
  have h:jQ L st (j:Int)=some (.brk (j:Int)):=by
   unfold jQ
   cases post with
   | nil =>
    have N:L.length<=j:=List.drop_eq_nil_iff.1 (by simpa using A)
    have hc:decide ((j:Int)<(L.length:Int))=false:=decide_eq_false (by omega)
    simp only [hc,cond_false,ob_]
   | cons b post =>
    have B:L[j]? = some b:=yl (by rw [A];rfl)
    have M:=(List.getElem?_eq_some_iff.1 B).1
    have hc:decide ((j:Int)<(L.length:Int))=true:=decide_eq_true (by omega)
    have J:¬b.Player=p:=λe=>by have:=f b (by simp);rw [e]at this;exact fu p this
    simp only [hc,cond_true,mf,B,F,ob_,Gr,o,decide_eq_false J,cond_false]
  simp only [List.length_nil,iterN,h,ob_,Nat.add_zero]
 | x::xs,j,A,hj,I=>by
  have B:L[j]? = some x:=yl (by rw [A];rfl)
  have M:=(List.getElem?_eq_some_iff.1 B).1
  have hc:decide ((j:Int)<(L.length:Int))=true:=decide_eq_true (by omega)
  have R:w64 ((j:Int)+1)=((j+1:Nat):Int):=by rw [dh (by omega)];omega
  have h:jQ L st (j:Int)=some (.go ((j+1:Nat):Int)):=by
   unfold jQ
   simp only [hc,cond_true,mf,B,F,ob_,Gr,o,I x (by simp),decide_true,R]
  rw [List.length_cons,iterN,h,ob_]
  simp only
  rw [J6 F o T f xs (j+1) (aX (show L.drop j=x::(xs++post) from A)) (by omega) (λy W=>I y (List.mem_cons_of_mem _ W)),show j+1+xs.length=j+(xs.length+1) by omega]
structure LOk (L:List Log_):Prop where
 sorted:L.Pairwise LeP
 right:∀x∈L,RightL x
 few:L.length<=19
theorem yL_at {L:List Log_} {d:Dated} {i:Nat} {x:Log_} (h:L[i]? = some x) (e:d.f_i=(i:Int)):yL L d=x:=by
 unfold yL;rw [e,List.getD_eq_getElem?_getD,Int.toNat_natCast,h];rfl
theorem SF {B:List Beat} (I:BOk B) {L:List Log_} (J:LOk L) {pre g post:List Log_} (e:L=pre++(g++post)) {d:Dated} (F:d∈dts B pre.length g):VD L d/\yL L d∈g:=by
 obtain ⟨i,x,h1,h2,M⟩:=Pz B g pre.length d F
 have f:=(List.getElem?_eq_some_iff.1 h1).1
 have j:L[pre.length+i]? = some x:=by
  rw [e,List.getElem?_append_right (by omega),show pre.length+i-pre.length=i by omega,List.getElem?_append_left f,h1]
 have o:=yL_at j h2
 have O:x∈L:=List.mem_of_getElem? j
 have N:=(List.getElem?_eq_some_iff.1 j).1
 have h:=J.right x O
 obtain ⟨A,a2⟩:=atF_in I h.clock M
 refine⟨⟨by omega,by omega,A,a2,by rw [o];exact h.l0,by rw [o];exact h.ll⟩,?_⟩
 rw [o];exact List.mem_of_getElem? h1
noncomputable def fnd (B:List Beat) (L pre:List Log_):List Play×List Int:=sM L [] (nz (c2 L) (dts B 0 pre))
theorem II {B:List Beat} (hB:BOk B) {L:List Log_} (hL:LOk L):∀(m:Nat) (pre rest:List Log_) (F:List Int),rest.length<=m->L=pre++rest->(∀a∈pre,∀b∈rest,lt a.Player b.Player)->F.Perm (lfs B 0 pre++(fnd B L pre).2) ->
  ∃n F',iterN (λs=>jR L B s) n ((fnd B L pre).1,F,(pre.length:Int))=some (.go ((fnd B L L).1,F',(L.length:Int)))/\F'.Perm (lfs B 0 L++(fnd B L L).2)
 | m,pre,[],F,hm,e,A,hF=>by
  rw [List.append_nil]at e
  subst e
  refine⟨1,F,?_,hF⟩
  have hc:decide ((L.length:Int)<(L.length:Int))=false:=decide_eq_false (by omega)
  simp only [iterN,jR,hc,cond_false,ob_]
 | 0,pre,x::xs,F,hm,e,A,hF=>by simp at hm
 | m+1,pre,x::xs,F,hm,e,A,hF=>by
  have j:(x::xs).Pairwise LeP:=by have:=hL.sorted;rw [e]at this;exact (List.pairwise_append.1 this).2.1
  obtain ⟨g,post,e2,g1,g2⟩:=grp x.Player xs (λy R=>(List.pairwise_cons.1 j).1 y R) (List.pairwise_cons.1 j).2
  subst e2
  have few:=hL.few
  have hlen:L.length=pre.length+((x::g).length+post.length):=by rw [e];simp;omega
  have e3:L=pre++((x::g)++post):=e
  have M:∀y∈x::g,y.Player=x.Player:=λy R=>by
   rcases List.mem_cons.1 R with rfl|R
   ·rfl
   ·exact g1 y R
  have f:L.drop pre.length=(x::g)++post:=by rw [e3];simp
  have hx0:L[pre.length]? = some x:=yl (by rw [f];rfl)
  have Y:idx L (pre.length:Int)=some x:=by rw [mf,hx0]
  have I:∀y∈x::g,y.Player=x.Player/\inM y.Clock:=λy R=>⟨M y R,(hL.right y (by rw [e3];simp only [List.mem_append];exact .inr (.inl R))).clock⟩
  have N:∀d∈dts B pre.length (x::g),VD L d/\(yL L d).Player=x.Player:=λd O=>by
   obtain ⟨v,w⟩:=SF hB hL e3 O
   exact⟨v,M _ w⟩
  have Z:∀d∈dts B 0 pre,VD L d/\yL L d∈pre:=λd O=>SF hB hL (pre:=[]) (g:=pre) (post:=x::(g++post)) (by rw [e];rfl) O
  have hgl:(x::g).length=g.length+1:=rfl
  have hdl:=Ko B (x::g) pre.length
  have hdl0:=Ko B pre 0
  have hsc:=dB (J6 (L:=L) (post:=post) (st:=((fnd B L pre).1,F,(pre.length:Int))) Y rfl (by omega) g2 (x::g) pre.length f (by omega) M)
  have hpl:=dB (Ff hB (L:=L) (post:=post) (p:=x.Player) (to:=pre.length+(x::g).length) (by omega) (x::g) pre.length [] [] f rfl I (by simp;omega))
  simp only [List.nil_append]at hpl
  have o:oJ L (pre.length:Int) ((pre.length+(x::g).length:Nat):Int) B=some ((nz cD (dts B pre.length (x::g))).map gP,lfs B pre.length (x::g)):=by
   unfold oJ
   rw [Y,ob_,Oq B x.Player false hB.few,ob_]
   show (dS _ (λs=>gY _ L (MB B x.Player) s)).bind _=_
   rw [hpl,ob_,jk]
   simp only
   rw [stableP _ (by rw [List.length_map];omega),ob_]
   have hsl:fw (nz cP ((dts B pre.length (x::g)).map gP)) ((dts B pre.length (x::g)).map gP)=some ():=by unfold fw;rw [if_pos (yI _ _)]
   rw [hsl,ob_,Sd gP (c:=cD) (λa b=>rfl)]
  have hcong:nz cD (dts B pre.length (x::g))=nz (c2 L) (dts B pre.length (x::g)):=OO _ (λa J b hb=>by
   unfold cD c2
   rw [(N a J).2,(N b hb).2,Q0];rfl)
  have hsp:nz (c2 L) (dts B 0 (pre++(x::g)))=nz (c2 L) (dts B 0 pre)++nz (c2 L) (dts B pre.length (x::g)):=by
   rw [Ph,Nat.zero_add]
   refine SA _ _ _ (λv hv a J => ?_)
   have hl:lt (yL L a).Player (yL L v).Player:=by
    rw [(N v hv).2]
    exact A _ (Z a J).2 x (by simp)
   have hc:AV (yL L v).Player (yL L a).Player=1:=by
    rcases jI (yL L v).Player (yL L a).Player with⟨h1,_⟩|⟨h1,_⟩|⟨_,h2⟩
    ·exact absurd (lt_trans hl h1) (fu _)
    ·rw [h1]at hl;exact absurd hl (fu _)
    ·exact h2
   unfold c2 zU
   rw [hc]
   show ¬(1:Int)<0
   omega
  have W:fnd B L (pre++(x::g))=((sM L (fnd B L pre).1 (nz (c2 L) (dts B pre.length (x::g)))).1,(fnd B L pre).2++(sM L (fnd B L pre).1 (nz (c2 L) (dts B pre.length (x::g)))).2):=by
   unfold fnd
   rw [hsp,G8]
  obtain ⟨hg1,hg2⟩:=Ef (L:=L) (nz (c2 L) (dts B 0 pre)) [] (λd O=>(Z d ((Gy _ _ _).1 O)).1) (λq hq=>by cases hq)
  have hend:Jc (fnd B L pre).1 x.Player=0:=by
   unfold Jc
   cases hq:(fnd B L pre).1.getLast? with
   | none=>rfl
   | some q =>
    simp only
    have hne:¬q.Player=x.Player:=λeq=>by
     rcases hg2 q (List.mem_of_getLast? hq)with h|⟨d,O,h⟩
     ·cases h
     ·have:=A _ (Z d ((Gy _ _ _).1 O)).2 x (by simp)
      rw [<- h,eq]at this
      exact fu _ this
    rw [decide_eq_false hne];rfl
  have hrl:=Da (L:=L) (nz (c2 L) (dts B 0 pre)) []
  have hslen:=yI (c2 L) (dts B 0 pre)
  have hslen2:=yI (c2 L) (dts B pre.length (x::g))
  have hFl:=hF.length_eq
  simp only [List.length_append,List.length_nil]at hFl hrl
  have hFl':(fnd B L pre).1.length+(fnd B L pre).2.length=0+(nz (c2 L) (dts B 0 pre)).length:=hrl
  have T:=Es (L:=L) (p:=x.Player) (nz (c2 L) (dts B pre.length (x::g))) 0 (F++lfs B pre.length (x::g)) (fnd B L pre).1 (λd O=>N d ((Gy _ _ _).1 O)) hg1 (by simp only [List.length_append];omega)
  rw [hend]at T
  have happ:ku F (lfs B pre.length (x::g))=some (F++lfs B pre.length (x::g)):=gL _ _ (by omega)
  have hc:decide ((pre.length:Int)<(L.length:Int))=true:=decide_eq_true (by rw [hlen];simp;omega)
  have hstep:jR L B ((fnd B L pre).1,F,(pre.length:Int))=some (.go ((fnd B L (pre++(x::g))).1,F++lfs B pre.length (x::g)++(sM L (fnd B L pre).1 (nz (c2 L) (dts B pre.length (x::g)))).2,(((pre++(x::g)).length:Nat):Int))):=by
   unfold jR
   simp only [hc,cond_true]
   rw [hsc,ob_,jk,o,ob_,happ,ob_,hcong]
   simp only
   rw [jY (by rw [List.length_map];omega),T,ob_,jk,W,List.length_append]
  obtain ⟨n,F',h1,h2⟩:=II hB hL m (pre++(x::g)) post (F++lfs B pre.length (x::g)++(sM L (fnd B L pre).1 (nz (c2 L) (dts B pre.length (x::g)))).2) (by simp at hm;omega) (by rw [e3];simp) (λa J b hb=>by
   rcases List.mem_append.1 J with J|J
   ·exact A a J b (by simp [hb])
   ·rw [M a J];exact g2 b hb) (by
   rw [W,PN,Nat.zero_add]
   simp only
   have h1:(F++lfs B pre.length (x::g)).Perm (lfs B 0 pre++lfs B pre.length (x::g)++(fnd B L pre).2):=by
    refine (hF.append_right _).trans ?_
    rw [List.append_assoc,List.append_assoc]
    exact List.Perm.append_left _ List.perm_append_comm
   refine (h1.append_right _).trans ?_
   rw [List.append_assoc (lfs B 0 pre++lfs B pre.length (x::g))])
  exact⟨n+1,F',by rw [iterN,hstep];exact h1,h2⟩
theorem Pp {α σ ρ:Type} {body:Nat->α->σ->Option (Ctl σ ρ)} (I:Nat->σ->Prop) (xs:List α):∀(l:List α) (k:Nat) (s:σ),xs.drop k=l->k<=xs.length->(∀k x s,xs[k]? = some x->I k s->∃f,body k x s=some (.go f)/\I (k+1) f)->I k s->∃f,forR body l k s=some (.go f)/\I xs.length f
 | [],k,s,j,B,h,hi=>by
  have:=List.drop_eq_nil_iff.1 j
  obtain rfl:k=xs.length:=by omega
  exact⟨s,rfl,hi⟩
 | x::l,k,s,j,B,h,hi=>by
  obtain ⟨F,h1,h2⟩:=h k x s (yl j) hi
  obtain ⟨o,J,A⟩:=Pp I xs l (k+1) F (aX j) (by have:=Gq j;omega) h h2
  exact⟨o,by rw [forR,h1,ob_];exact J,A⟩
theorem qA {α σ ρ:Type} {body:Nat->α->σ->Option (Ctl σ ρ)} (I:Nat->σ->Prop) {xs:List α} {s:σ} (hl:xs.length<=1000000000000) (h:∀k x s,xs[k]? = some x->I k s->∃f,body k x s=some (.go f)/\I (k+1) f) (j:I 0 s):∃f,forL xs s body=some (.go f)/\I xs.length f:=by
 rw [jY hl]
 exact Pp I xs xs 0 s rfl (Nat.zero_le _) h j
theorem lt_lit {a b:ByteArray} (h:sLt a b=true):lt a b:=(sLt_iff a b).1 h
theorem K8 {α:Type} {stp:Option α->α->Int}:∀{l:List α} {p:Option α},(∀x,l.head? = some x->stp p x=0)->l.Pairwise (λa b=>stp (some a) b=0)->xy stp p l=0
 | [],_,_,_=>rfl
 | x::l,p,h,A=>by
  obtain ⟨o,f⟩:=List.pairwise_cons.1 A
  rw [xy,h x rfl]
  show xy stp (some x) l=0
  exact K8 (λy j=>o y (List.mem_of_head? j)) f
def paS:ByteArray:=⟨#[112,97]⟩
def pbS:ByteArray:=⟨#[112,98]⟩
def iaS:ByteArray:=⟨#[105,97]⟩
def ibS:ByteArray:=⟨#[105,98]⟩
theorem F4:lt paS pbS:=by
 unfold lt paS pbS
 rw [toL,toL]
 decide
theorem keys4:xq paS=true/\xq pbS=true/\xq iaS=true/\xq ibS=true:=⟨by kernel_rfl,by kernel_rfl,by kernel_rfl,by kernel_rfl⟩
theorem Nn {α:Type} {R:α->α->Prop} {l:List α} {x:α} (h:l.Pairwise R) (j:∀y∈l,R y x):(l++[x]).Pairwise R :=
 List.pairwise_append.2 ⟨h,List.pairwise_singleton _ _,λa f b hb=>by rw [List.mem_singleton.1 hb];exact j a f⟩
def AJ (x:Log_):Prop:=(x.Player=paS\/x.Player=pbS)/\(x.Item=iaS\/x.Item=ibS)/\(1<=x.No/\x.No<=1000)/\(0<=x.Clock/\x.Clock<=10000)/\(1<=x.Long/\x.Long<=1000)/\uq x.Sum=true/\ShortK x.Sum
def Ji (a b:Log_):Prop:=lt a.Player b.Player\/a.Player=b.Player/\a.No<b.No
theorem E9 {x:Log_} (h:AJ x):wI x:=by
 obtain ⟨h1,h2,j,A,B,o,f⟩:=h
 refine⟨?_,?_,f,by unfold Med;omega,by unfold Med;omega,by unfold Med;omega⟩
 ·rcases h1 with e|e <;> rw [e] <;> exact oF rfl
 ·rcases h2 with e|e <;> rw [e] <;> exact oF rfl
theorem O0 {x:Log_} (h:AJ x):xq x.Player=true/\xq x.Item=true:=by
 obtain ⟨f,o,A,j⟩:=keys4
 obtain ⟨h1,h2,_⟩:=h
 refine⟨?_,?_⟩
 ·rcases h1 with e|e <;> rw [e] <;> assumption
 ·rcases h2 with e|e <;> rw [e] <;> assumption
theorem LW {x:Log_} (h:AJ x):wT x=0:=by
 obtain ⟨f,j⟩:=O0 h
 obtain ⟨h1,h2,o,F,I,B,A⟩:=h
 unfold wT
 rw [f,j,rP (by omega),rP (by omega),rP (by omega)];rfl
theorem NK {a b:Log_} (h:Ji a b):cmpL a b<0:=by
 unfold cmpL zU
 rcases h with h|⟨h1,h2⟩
 ·rcases jI a.Player b.Player with⟨_,e⟩|⟨e,_⟩|⟨e,_⟩
  ·rw [e];show (-1:Int)<0;omega
  ·rw [e]at h;exact absurd h (fu _)
  ·exact absurd (lt_trans h e) (fu _)
 ·rcases jI a.Player b.Player with⟨e,_⟩|⟨_,e⟩|⟨e,_⟩
  ·rw [h1]at e;exact absurd e (fu _)
  ·rw [e]
   show uy a.No b.No<0
   unfold uy
   rw [if_pos h2];decide
  ·rw [h1]at e;exact absurd e (fu _)
theorem QT {l:List Log_} (h:∀x∈l,AJ x) (B:l.Pairwise Ji) (hl:l.length<=1000):Fu l=0:=by
 unfold Fu
 rw [decide_eq_false (by omega),cond_false]
 have key:∀x∈l,∀p:Option Log_,(∀o,p=some o->Ji o x)->MM p x=0:=λx f p A=>by
  have F:=(h x f).2.2.2.2.2.1
  unfold MM
  rw [LW (h x f),F]
  cases p with
  | none=>rfl
  | some o =>
   have:=NK (A o rfl)
   simp only [bne_self_eq_false,cond_false,Bool.not_true]
   rw [decide_eq_false (by omega)];rfl
 refine K8 (λx f=>key x (List.mem_of_head? f) none (λo ho=>by cases ho)) ?_
 exact List.Pairwise.imp_of_mem (λ{a b} I hb j=>key b hb (some a) (λo ho=>by cases ho;exact j)) B
theorem FL (s:Stream) (most:Int) (hm:0<=most/\most<=7) {b:Int} (hs:Ok s b) (hb:b<=700000):∃r,jq s most=some r/\(Ok r.2 (b+300)/\r.1.length<=2*most.toNat/\(∀x∈r.1,AJ x)/\r.1.Pairwise Ji):=by
 unfold jq
 obtain ⟨s',h1,h2,h3,h4,h5,h6⟩:=qA (body:=λk x s=>gm most k x s) (λk s=>Ok ⟨s.2.1,s.2.2⟩ (b+150*k)/\s.1.length<=most.toNat*k/\(∀x∈s.1,AJ x)/\s.1.Pairwise Ji/\(∀y∈s.1,k≠0/\(k=1->y.Player=paS)))
  (xs:=[(⟨#[112,97]⟩:ByteArray),(⟨#[112,98]⟩:ByteArray)]) (s:=(([]:List Log_),s.L,s.f_at)) (by simp) (λk x t o ⟨i1,i2,i3,i4,i5⟩=>by
   have hk2:k<2:=by
    have:=(List.getElem?_eq_some_iff.1 o).1
    exact this
   have M:(k=0/\x=paS)\/(k=1/\x=pbS):=by
    have:k=0\/k=1:=by omega
    rcases this with rfl|rfl
    ·rw [List.getElem?_cons_zero,so_]at o;exact .inl ⟨rfl,o.symm⟩
    ·rw [List.getElem?_cons_succ,List.getElem?_cons_zero,so_]at o;exact .inr ⟨rfl,o.symm⟩
   have J:x=paS\/x=pbS:=M.imp And.right And.right
   have Y:∀y∈t.1,lt y.Player x:=λy f=>by
    obtain ⟨T,n2⟩:=i5 y f
    rcases M with⟨e,_⟩|⟨e,e2⟩
    ·exact absurd e T
    ·rw [n2 e,e2];exact F4
   obtain ⟨a,a1,a2,a3⟩:=Oj _ [0,50,1000] i1 (by omega) (by simp) (by simp)
   have ha:0<=a.1/\a.1<=1000:=by
    simp only [List.mem_cons,List.not_mem_nil,or_false]at a2
    rcases a2 with h|h|h <;> omega
   obtain ⟨n,T,n2,n3,n4⟩:=range_w a.2 0 most a3 (by omega) hm.1 (by omega) (by omega)
   obtain ⟨u,m1,m2,m3,m4,m5,m6,m7,m8⟩:=IJ (body:=λk y s=>jm x k y s) (λj s=>Ok ⟨s.2.2.2.1,s.2.2.2.2⟩ (b+150*k+2+4*j)/\ShortK s.2.1/\(0<=s.2.2.1/\s.2.2.1<=1000+100*j)/\s.1.length<=most.toNat*k+j/\(∀x∈s.1,AJ x)/\s.1.Pairwise Ji/\(∀y∈s.1,lt y.Player x\/y.Player=x/\y.No<=j))
    (xs:=List.range n.1.toNat) (s:=(t.1,(⟨#[]⟩:ByteArray),a.1,n.2.L,n.2.f_at)) (by simp;omega) (λj y v _ hj ⟨j1,j2,j3,j4,j5,j6,R⟩=>by
     have hj3:j<7:=by rw [List.length_range]at hj;omega
     have hmk:most.toNat*k<=7*2:=Nat.mul_le_mul (by omega) (by omega)
     obtain ⟨p,p1,p2,p3⟩:=some_w _ [(⟨#[105,97]⟩:ByteArray),(⟨#[105,98]⟩:ByteArray)] j1 (by omega) (by simp) (by simp)
     have N:p.1=iaS\/p.1=ibS:=by
      simp only [List.mem_cons,List.not_mem_nil,or_false]at p2
      exact p2
     obtain ⟨q,q1,q2,q3⟩:=Oj p.2 [1,10,30,100] p3 (by omega) (by simp) (by simp)
     have hq:1<=q.1/\q.1<=100:=by
      simp only [List.mem_cons,List.not_mem_nil,or_false]at q2
      rcases q2 with h|h|h|h <;> omega
     have O:w64 ((j:Int)+1)=(j:Int)+1:=dh (by omega)
     have hg:∀S:ByteArray,uq S=true->ShortK S->AJ (⟨x,p.1,w64 ((j:Int)+1),v.2.2.1,q.1,S⟩:Log_):=λS s1 s2=>⟨J,N,by rw [O];show 1<=(j:Int)+1/\(j:Int)+1<=1000;omega,by show 0<=v.2.2.1/\v.2.2.1<=10000;omega,by show 1<=q.1/\q.1<=1000;omega,s1,s2⟩
     have W:wI (⟨x,p.1,w64 ((j:Int)+1),v.2.2.1,q.1,(⟨#[]⟩:ByteArray)⟩:Log_):=by
      obtain ⟨g1,g2,_,g4,g5,g6⟩:=E9 (hg (mk []) (Pj _) (vM _))
      exact⟨g1,g2,oF rfl,g4,g5,g6⟩
     obtain ⟨r,r1,r2,r3⟩:=Oj q.2 [0,5,10,50,100] q3 (by omega) (by simp) (by simp)
     have hr:0<=r.1/\r.1<=100:=by
      simp only [List.mem_cons,List.not_mem_nil,or_false]at r2
      rcases r2 with h|h|h|h|h <;> omega
     obtain ⟨c,c1,c2⟩:=flip_w r.2 6 r3 (by omega) (by decide) (by decide)
     have F:=RY v.2.1 j2 W
     have I:w64 (v.2.2.1+r.1)=v.2.2.1+r.1:=dh (by omega)
     simp only [jm,p1,q1,F,r1,c1,ob_]
     cases c.1 with
     | true =>
      simp only [Bool.not_true,cond_false,ob_]
      refine⟨_,rfl,c2.mono (by omega),vM _,by show 0<=w64 (v.2.2.1+r.1)/\w64 (v.2.2.1+r.1)<=_;rw [I];omega,by show v.1.length<=_;omega,j5,j6,λy f => ?_⟩
      rcases R y f with h|⟨h,k⟩
      ·exact .inl h
      ·exact .inr ⟨h,by omega⟩
     | false =>
      simp only [Bool.not_false,cond_true]
      rw [gL v.1 [_] (by simp;omega)]
      simp only [ob_]
      refine⟨_,rfl,c2.mono (by omega),vM _,by show 0<=w64 (v.2.2.1+r.1)/\w64 (v.2.2.1+r.1)<=_;rw [I];omega,by simp;omega,λz B => ?_,Nn j6 (λy f => ?_),λy f => ?_⟩
      ·rcases List.mem_append.1 B with B|B
       ·exact j5 z B
       ·rw [List.mem_singleton.1 B];exact hg _ (Pj _) (vM _)
      ·rcases R y f with h|⟨h,k⟩
       ·exact .inl h
       ·refine .inr ⟨h,?_⟩
        show y.No<w64 ((j:Int)+1)
        rw [O];omega
      ·rcases List.mem_append.1 f with f|f
       ·rcases R y f with h|⟨h,k⟩
        ·exact .inl h
        ·exact .inr ⟨h,by omega⟩
       ·rw [List.mem_singleton.1 f]
        refine .inr ⟨rfl,?_⟩
        show w64 ((j:Int)+1)<=_
        rw [O];omega) ⟨n4.mono (by omega),oF rfl,by simpa using ha,by simpa using i2,i3,i4,λy f => .inl (Y y f)⟩
   have A:gm most k x t=some (.go (u.1,u.2.2.2.1,u.2.2.2.2)):=by
    unfold gm
    rw [a1];simp only [ob_]
    rw [T];simp only [ob_]
    rw [m1];rfl
   have hl:(List.range n.1.toNat).length<=most.toNat:=by rw [List.length_range];omega
   refine⟨_,A,m2.mono (by omega),?_,m6,m7,λy f=>⟨by omega,λe => ?_⟩⟩
   ·show u.1.length<=most.toNat*(k+1)
    rw [Nat.mul_succ];omega
   ·rcases M with⟨e0,Z⟩|⟨e0,_⟩
    ·rcases m8 y f with h|⟨h,_⟩
     ·have:=(m6 y f).1
      rw [Z]at h
      rcases this with q|q
      ·rw [q]at h;exact absurd h (fu _)
      ·rw [q]at h;exact absurd (lt_trans h F4) (fu _)
     ·rw [h,Z]
    ·omega) ⟨by simpa using hs,by simp,by simp,.nil,by simp⟩
 rw [h1]
 refine mr ⟨h2.mono (by simp),?_,h4,h5⟩
 show s'.1.length<=_
 have:s'.1.length<=most.toNat*2:=h3
 omega
def Hf (x:Beat):Prop:=(x.Player=paS\/x.Player=pbS)/\(0<=x.At/\x.At<=100000000000)/\(0<=x.Clock/\x.Clock<=100000000000)
def RelB (a b:Beat):Prop:=lt a.Player b.Player\/a.Player=b.Player/\a.At<b.At/\a.Clock<b.Clock
theorem Ev (s:Stream) {b:Int} (hs:Ok s b) (hb:b<=800000):∃xs A,iX s=some (xs,A)/\Ok A (b+100)/\xs.length<=6/\(∀x∈xs,Hf x)/\xs.Pairwise RelB:=by
 unfold iX
 obtain ⟨A,h1,h2,h3,h4,h5,h6⟩:=qA (body:=λk x s=>ja k x s) (λk s=>Ok ⟨s.2.1,s.2.2⟩ (b+20*k)/\s.1.length<=3*k/\(∀x∈s.1,Hf x)/\s.1.Pairwise RelB/\(∀y∈s.1,k≠0/\(k=1->y.Player=paS)))
  (xs:=[(⟨#[112,97]⟩:ByteArray),(⟨#[112,98]⟩:ByteArray)]) (s:=(([]:List Beat),s.L,s.f_at)) (by simp) (λk x t f ⟨i1,i2,i3,i4,i5⟩=>by
   have hk2:k<2:=(List.getElem?_eq_some_iff.1 f).1
   have I:(k=0/\x=paS)\/(k=1/\x=pbS):=by
    have:k=0\/k=1:=by omega
    rcases this with rfl|rfl
    ·rw [List.getElem?_cons_zero,so_]at f;exact .inl ⟨rfl,f.symm⟩
    ·rw [List.getElem?_cons_succ,List.getElem?_cons_zero,so_]at f;exact .inr ⟨rfl,f.symm⟩
   have F:x=paS\/x=pbS:=I.imp And.right And.right
   have J:∀y∈t.1,lt y.Player x:=λy B=>by
    obtain ⟨n1,n2⟩:=i5 y B
    rcases I with⟨e,_⟩|⟨e,e2⟩
    ·exact absurd e n1
    ·rw [n2 e,e2];exact F4
   obtain ⟨a,s1,a1,a0,a9,a2⟩:=wY _ 0 100 i1 (by omega) (by decide) (by decide) (by decide)
   obtain ⟨c,s2,a3,c0,c9,a4⟩:=wY s1 0 100 a2 (by omega) (by decide) (by decide) (by decide)
   obtain ⟨n,R,a5,n1,n2,a6⟩:=wY s2 0 3 a4 (by omega) (by decide) (by decide) (by decide)
   obtain ⟨u,m1,W,m3,m4,m5,T,m7,m8⟩:=IJ (body:=λk y s=>iY x k y s) (λj s=>Ok ⟨s.2.2.2.1,s.2.2.2.2⟩ (b+20*k+3+2*j)/\s.1.length<=3*k+j/\(0<=s.2.1/\s.2.1<=100+2678400000*j)/\(0<=s.2.2.1/\s.2.2.1<=100+2678400000*j)/\(∀x∈s.1,Hf x)/\s.1.Pairwise RelB/\(∀y∈s.1,lt y.Player x\/y.Player=x/\y.At<s.2.1/\y.Clock<s.2.2.1))
    (xs:=List.range n.toNat) (s:=(t.1,a,c,R.L,R.f_at)) (by simp;omega) (λj y v _ hj ⟨j1,j2,j3,j4,j5,j6,Z⟩=>by
     have hj3:j<3:=by rw [List.length_range]at hj;omega
     obtain ⟨p,s4,p1,O,p2⟩:=Bl _ [1,50,100,1000,2678400000] j1 (by omega) (by simp) (by simp)
     obtain ⟨q,s5,q1,Y,q2⟩:=Bl s4 [1,40,100,1300,2592000000] p2 (by omega) (by simp) (by simp)
     have hp:1<=p/\p<=2678400000:=by
      simp only [List.mem_cons,List.not_mem_nil,or_false]at O
      rcases O with h|h|h|h|h <;> omega
     have hq:1<=q/\q<=2592000000:=by
      simp only [List.mem_cons,List.not_mem_nil,or_false]at Y
      rcases Y with h|h|h|h|h <;> omega
     simp only [iY,gL v.1 [_] (show v.1.length+[_].length<=_ by simp;omega),p1,q1,ob_]
     have N:w64 (v.2.1+p)=v.2.1+p:=dh (by omega)
     have w2:w64 (v.2.2.1+q)=v.2.2.1+q:=dh (by omega)
     refine⟨_,rfl,q2.mono (by omega),by simp;omega,?_,?_,λz o => ?_,Nn j6 Z,λz o => ?_⟩
     ·show 0<=w64 (v.2.1+p)/\w64 (v.2.1+p)<=_
      rw [N];omega
     ·show 0<=w64 (v.2.2.1+q)/\w64 (v.2.2.1+q)<=_
      rw [w2];omega
     ·rcases List.mem_append.1 o with o|o
      ·exact j5 z o
      ·rw [List.mem_singleton.1 o]
       exact⟨F,by show 0<=v.2.1/\v.2.1<=_;omega,by show 0<=v.2.2.1/\v.2.2.1<=_;omega⟩
     ·show lt z.Player x\/z.Player=x/\z.At<w64 (v.2.1+p)/\z.Clock<w64 (v.2.2.1+q)
      rw [N,w2]
      rcases List.mem_append.1 o with o|o
      ·rcases Z z o with h|⟨h,k1,k2⟩
       ·exact .inl h
       ·exact .inr ⟨h,by omega,by omega⟩
      ·rw [List.mem_singleton.1 o]
       exact .inr ⟨rfl,by show v.2.1<_;omega,by show v.2.2.1<_;omega⟩) ⟨a6.mono (by omega),by simpa using i2,by simp only [];omega,by simp only [];omega,i3,i4,λy B => .inl (J y B)⟩
   simp only [ja,a1,a3,a5,m1,ob_,jk]
   rw [List.length_range]at W m3
   refine⟨_,rfl,W.mono (by omega),by show u.1.length<=3*(k+1);omega,T,m7,λy B=>⟨by omega,λe => ?_⟩⟩
   rcases I with⟨e0,M⟩|⟨e0,_⟩
   ·rcases m8 y B with h|⟨h,_⟩
    ·have:=(T y B).1
     rw [M]at h
     rcases this with q|q
     ·rw [q]at h;exact absurd h (fu _)
     ·rw [q]at h;exact absurd (lt_trans h F4) (fu _)
    ·rw [h,M]
   ·omega) ⟨by simpa using hs,by simp,by simp,.nil,by simp⟩
 rw [h1]
 exact⟨A.1,⟨A.2.1,A.2.2⟩,rfl,h2.mono (by simp),h3,h4,h5⟩
theorem M6 {x:Beat} (h:Hf x):GoodB x:=by
 rcases h.1 with e|e
 ·show ShortK x.Player;rw [e];exact oF rfl
 ·show ShortK x.Player;rw [e];exact oF rfl
theorem Oz {l:List Beat} (h:∀x∈l,Hf x) (M:l.Pairwise RelB) (hl:l.length<=500):Eh l=0:=by
 unfold Eh
 rw [decide_eq_false (by omega),cond_false]
 have key:∀x∈l,∀p:Option Beat,(∀o,p=some o->RelB o x)->MQ p x=0:=λx j p f=>by
  obtain ⟨h1,h2,W⟩:=h x j
  have N:xq x.Player=true:=by
   obtain ⟨Y,Z,_⟩:=keys4
   rcases h1 with e|e <;> rw [e] <;> assumption
  have L:momB x.At=true:=by unfold momB;rw [rP (by omega)];rfl
  have O:momB x.Clock=true:=by unfold momB;rw [rP (by omega)];rfl
  unfold MQ
  rw [N,L,O]
  cases p with
  | none=>rfl
  | some o =>
   have f:=f o rfl
   simp only [Bool.not_true,cond_false,Bool.or_self]
   have hb:nG o x:=by
    unfold nG
    rcases f with q|⟨B,F,I⟩
    ·exact .inl q
    ·exact .inr ⟨B,F⟩
   rw [if_pos hb,if_neg (fun⟨J,R⟩=>by
    rcases f with q|⟨B,F,I⟩
    ·rw [J]at q;exact fu _ q
    ·omega)]
 refine K8 (λx j=>key x (List.mem_of_head? j) none (λo ho=>by cases ho)) ?_
 exact List.Pairwise.imp_of_mem (λ{a b} T hb A=>key b hb (some a) (λo ho=>by cases ho;exact A)) M
theorem Od {B:List Beat} (M:BOk B) {L:List Log_} (h:LOk L) (O:dW L=some 0) (hb:gD B=some 0) :
  ∃F,ul L B=some ((fnd B L L).1,F,0)/\(fnd B L L).1.length+F.length=L.length:=by
 have few:=h.few
 obtain ⟨n,W,h1,h2⟩:=II M h L.length [] L [] (Nat.le_refl _) rfl (λa o=>by cases o) (List.Perm.refl _)
 have h1:iterN (λs=>jR L B s) n (([]:List Play),([]:List Int),0)=_:=h1
 have N:=Ko B L 0
 have f:=Da (L:=L) (nz (c2 L) (dts B 0 L)) []
 have I:=yI (c2 L) (dts B 0 L)
 have R:=h2.length_eq
 simp only [List.length_append,List.length_nil]at R f
 have j:(fnd B L L).1.length+(fnd B L L).2.length=0+(nz (c2 L) (dts B 0 L)).length:=f
 obtain ⟨s,A,T,J⟩:=Q4 h2 (by omega)
 refine⟨s,?_,by omega⟩
 unfold ul
 rw [O,hb]
 show (dS _ _).bind _=_
 rw [dB h1,ob_,jk]
 simp only
 rw [A,ob_]
 unfold fw;rw [if_pos J];rfl
theorem PS {α:Type} (c:α->α->Int):∀(Q R:List α),(∀v∈Q,∀u∈R,¬c v u<0)->Q.Pairwise (λa b=>¬c b a<0)->xg c R Q=Q.reverse++R
 | [],R,_,_=>rfl
 | v::Q,R,h,B=>by
  obtain ⟨A,o⟩:=List.pairwise_cons.1 B
  have hi:iw c v R=v::R:=by
   cases R with
   | nil=>rfl
   | cons u R =>
    show (bif decide (c v u<0)then u::iw c v R else v::u::R)=_
    rw [decide_eq_false (h v (by simp) u (by simp))];rfl
  show xg c (iw c v R) Q=_
  rw [hi,PS c Q (v::R) (λw j u f=>by
   rcases List.mem_cons.1 f with rfl|f
   ·exact A w j
   ·exact h w (List.mem_cons_of_mem _ j) u f) o]
  simp
theorem srtS_id {α:Type} (c:α->α->Int) (l:List α) (f:l.Pairwise (λa b=>¬c b a<0)):nz c l=l:=by
 unfold nz
 rw [PS c l [] (λ_ _ _ h=>by cases h) f];simp
def eqvL (a b:Log_):Bool:=(a.Player.toList==b.Player.toList)&&((a.Item.toList==b.Item.toList)&&((a.No==b.No)&&((a.Clock==b.Clock)&&((a.Long==b.Long)&&((a.Sum.toList==b.Sum.toList)&&true)))))
theorem SV (a b:Log_):eqvL a b=true↔a=b:=by
 obtain ⟨f,a2,a3,a4,a5,F⟩:=a
 obtain ⟨A,B,o,I,j,J⟩:=b
 unfold eqvL
 simp only [Bool.and_eq_true,beq_iff_eq,Bool.and_true,Log_.mk.injEq]
 have k:∀x y:ByteArray,x.toList=y.toList↔x=y:=λx y=>⟨λh=>Bt h,λh=>by rw [h]⟩
 rw [k,k,k]
theorem NM (a b:List Log_) (L:a.length<=1000) (hb:b.length<=1000):dP [a,b]=some (a++b):=by
 unfold dP
 have A:forL [a,b] 0 (λk x s=>bL k x s)=some (.go (((a.length+b.length:Nat)):Int)):=by
  rw [jY (by simp)]
  have h:∀k,bL k a 0=some (.go (a.length:Int)):=λk=>by
   unfold bL
   rw [dh (by omega),decide_eq_false (by omega),cond_false,ob_,Int.zero_add]
  have j:∀k,bL k b (a.length:Int)=some (.go ((a.length+b.length:Nat):Int)):=λk=>by
   unfold bL
   rw [dh (by omega),decide_eq_false (by omega),cond_false,ob_]
   congr 2
  simp only [forR,h,j,ob_]
 have I:forL [a,b] ([]:List Log_) (λk x s=>bK k x s)=some (.go (a++b)):=by
  rw [jY (by simp)]
  have h:∀k,bK k a []=some (.go a):=λk=>by
   unfold bK
   rw [gL _ _ (by simp;omega)];rfl
  have j:∀k,bK k b a=some (.go (a++b)):=λk=>by
   unfold bK
   rw [gL _ _ (by omega)];rfl
  simp only [forR,h,j,ob_]
 have F:w64 (0-0)=0:=rfl
 have o:∃g,eO (((a.length+b.length:Nat)):Int)=some g/\(a++b=[]->g=false):=by
  unfold eO
  rw [F,dh (n:=((a.length+b.length:Nat):Int)-0) (by omega),decide_eq_false (by omega),cond_false]
  by_cases hz:a.length+b.length=0
  ·rw [decide_eq_false (by omega),cond_false]
   exact⟨_,rfl,λ_=>rfl⟩
  ·rw [decide_eq_true (by omega),cond_true]
   have f:zN (((a.length+b.length:Nat):Int)-0) 72=some ():=by unfold zN;rw [if_pos (by omega)]
   rw [f]
   refine⟨_,rfl,λe => ?_⟩
   have:=congrArg List.length e
   rw [List.length_append]at this
   exact absurd this hz
 obtain ⟨g,g1,B⟩:=o
 rw [A,ob_,jk,g1,ob_,I,ob_,jk]
 have J:kE g (a++b)=some ():=by
  cases hab:a++b with
  | nil=>rw [B hab];rfl
  | cons x l=>cases g <;> rfl
 rw [J];rfl
theorem relL_ne {a b:Log_} (h:Ji a b):a≠b:=by
 rintro rfl
 rcases h with h|⟨_,h⟩
 ·exact fu _ h
 ·omega
theorem relL_as {a b:Log_} (h:Ji a b):¬cmpL b a<0:=by
 unfold cmpL zU
 rcases h with h|⟨h1,h2⟩
 ·rcases jI b.Player a.Player with⟨e,_⟩|⟨e,_⟩|⟨_,e⟩
  ·exact absurd (lt_trans h e) (fu _)
  ·rw [e]at h;exact absurd h (fu _)
  ·rw [e];show ¬(1:Int)<0;omega
 ·rcases jI b.Player a.Player with⟨e,_⟩|⟨_,e⟩|⟨e,_⟩
  ·rw [h1]at e;exact absurd e (fu _)
  ·rw [e]
   show ¬uy b.No a.No<0
   unfold uy
   rw [if_neg (by omega)]
   split <;> omega
  ·rw [h1]at e;exact absurd e (fu _)
theorem OD {l:List Log_} (I:l.Pairwise Ji) (hl:l.length<=1000):dD l=some l:=by
 unfold dD
 by_cases h2:(l.length:Int)<2
 ·rw [decide_eq_true h2];rfl
 rw [decide_eq_false h2,cond_false]
 have A:∀(d j:Nat),1<=j->j+d=l.length->iterN (λs=>bJ l s) (d+1) (j:Int)=some (.go (l.length:Int)):=by
  intro d
  induction d with
  | zero =>
   intro j h1 hj
   simp only [iterN,bJ]
   rw [decide_eq_false (by omega),cond_false,ob_]
   simp only []
   rw [show j=l.length by omega]
  | succ d F =>
   intro j h1 hj
   have o:j<l.length:=by omega
   obtain ⟨i,rfl⟩:∃i,j=i+1:=⟨j-1,by omega⟩
   have g1:l[i]? = some (l[i]'(by omega)):=List.getElem?_eq_getElem _
   have L:l[i+1]? = some (l[i+1]'hjl):=List.getElem?_eq_getElem _
   have M:=List.pairwise_iff_getElem.1 I i (i+1) (by omega) o (by omega)
   have B:eqvL (l[i+1]'hjl) (l[i]'(by omega))=false:=by
    rw [<- Bool.not_eq_true]
    exact λe=>relL_ne M ((SV _ _).1 e).symm
   have J:w64 (((i+1:Nat):Int)-1)=(i:Int):=by rw [dh (by omega)];omega
   have N:w64 (((i+1:Nat):Int)+1)=((i+1+1:Nat):Int):=by rw [dh (by omega)];omega
   have h:bJ l ((i+1:Nat):Int)=some (.go ((i+1+1:Nat):Int)):=by
    unfold bJ
    rw [decide_eq_true (by omega),cond_true,zq (by omega) (by omega),ob_,show 0+(((i+1:Nat):Int)).toNat=i+1 by omega,L,ob_,J,zq (by omega) (by omega),ob_,show 0+((i:Int)).toNat=i by omega,g1,ob_]
    have f:=B
    unfold eqvL at f
    rw [f,cond_false,N]
   rw [iterN,h,ob_]
   exact F (i+1+1) (by omega) (by omega)
 have:=dB (A (l.length-1) 1 (Nat.le_refl _) (by omega))
 rw [show ((1:Nat):Int)=1 from rfl]at this
 rw [this];rfl
theorem QM {l:List Log_} (I:l.Pairwise Ji) (hl:l.length<=19) (hk:dW l=some 0) (Z:dW []=some 0):qc l []=some (l,0):=by
 have T:forL (List.range (2:Int).toNat) () (λk x s=>jS l [] k x s)=some (.go ()):=by
  rw [jY (by simp)]
  have W:∀x,jS l [] 0 x ()=some (.go ()):=λx=>by
   unfold jS
   rw [show idx ([l,[]]:List (List Log_)) ((0:Nat):Int)=some l from rfl,ob_,hk];rfl
  have q1:∀x,jS l [] (0+1) x ()=some (.go ()):=λx=>by
   unfold jS
   rw [show idx ([l,[]]:List (List Log_)) ((0+1:Nat):Int)=some [] from rfl,ob_,Z];rfl
  rw [show List.range (2:Int).toNat=[0,1] from rfl]
  simp only [forR,W,q1,ob_]
 have B:nz cmpL l=l:=srtS_id cmpL l (I.imp (λ{a b} h=>relL_as h))
 have o:bZ l=some l:=by
  unfold bZ
  have h1:fO l (l.length:Int)=PY gX l (l.length:Int):=rfl
  rw [h1,Mf (p:=λ_=>True) (c:=cmpL) (λa b _ _=>vO a b) _ hl (λ_ _=>trivial),ob_,B]
  unfold fw;rw [if_pos rfl];rfl
 have F:∀(d j:Nat),1<=j->j+d=max 1 l.length->iterN (λt=>lh l t) (d+1) (j:Int)=some (.go ((max 1 l.length:Nat):Int)):=by
  intro d
  induction d with
  | zero =>
   intro j h1 hj
   simp only [iterN,lh]
   rw [decide_eq_false (by omega),cond_false,ob_]
   simp only []
   rw [show j=max 1 l.length by omega]
  | succ d O =>
   intro j h1 hj
   have J:j<l.length:=by omega
   obtain ⟨i,rfl⟩:∃i,j=i+1:=⟨j-1,by omega⟩
   have g1:l[i]? = some (l[i]'(by omega)):=List.getElem?_eq_getElem _
   have Y:l[i+1]? = some (l[i+1]'hja):=List.getElem?_eq_getElem _
   have hr:=List.pairwise_iff_getElem.1 I i (i+1) (by omega) J (by omega)
   have N:cmpL (l[i]'(by omega)) (l[i+1]'hja)<0:=NK hr
   have M:(cmpL (l[i]'(by omega)) (l[i+1]'hja)==0)=false:=by rw [beq_eq_false_iff_ne];omega
   have R:w64 (((i+1:Nat):Int)-1)=(i:Int):=by rw [dh (by omega)];omega
   have w2:w64 (((i+1:Nat):Int)+1)=((i+1+1:Nat):Int):=by rw [dh (by omega)];omega
   have f:lh l ((i+1:Nat):Int)=some (.go ((i+1+1:Nat):Int)):=by
    unfold lh
    rw [decide_eq_true (by omega),cond_true,R,zq (by omega) (by omega),ob_,show 0+((i:Int)).toNat=i by omega,g1,ob_,zq (by omega) (by omega),ob_,show 0+(((i+1:Nat):Int)).toNat=i+1 by omega,Y,ob_,vO,ob_,M,cond_false,w2]
   rw [iterN,f,ob_]
   exact O (i+1+1) (by omega) (by omega)
 have A:=dB (F (max 1 l.length-1) 1 (Nat.le_refl _) (by omega))
 rw [show ((1:Nat):Int)=1 from rfl]at A
 unfold qc
 rw [T,ob_,jk]
 rw [NM l [] (by omega) (by simp),ob_,List.append_nil,o,ob_]
 have L:fw l l=some ():=by unfold fw;rw [if_pos rfl]
 rw [L,ob_,OD I (by omega),ob_,NU (λh=>h),ob_,A,ob_,jk]
 rw [decide_eq_false (by omega)];rfl
structure GoodY (x:Play):Prop where
 pl:ShortK x.Player
 it:ShortK x.Item
 at_ : -2000000000000<=x.At/\x.At<=2000000000000
 lo : -2000000000000<=x.Long/\x.Long<=2000000000000
def befP (a b:Play):Prop:=lt a.Player b.Player\/a.Player=b.Player/\a.At<b.At
def longB (n:Int):Bool:=l7 n 1 86400000
def plE (p:Play):Int:=bif !xq p.Player || !xq p.Item then 5 else bif !momB p.At||longB p.Long then 1 else 0
instance (a b:ByteArray):Decidable (lt a b):=by unfold lt;exact inferInstance
def OX (a b:Play):Bool:=decide (lt a.Player b.Player)||(decide (a.Player=b.Player)&&decide (a.At<b.At))
theorem Ui {a b:Play}:OX a b=true↔befP a b:=by
 unfold OX befP;simp
def SE (o:Option Play) (p:Play):Int:=bif plE p==0 then (match o with | none=>0 | some q=>bif OX q p then 0 else 7)else plE p
def Om (l:List Play):Int:=xy SE none l
theorem FK (a b:Play):∃n,iQ a b=some n/\(decide (n>=0)) = !OX a b:=by
 refine⟨_,by simp only [iQ,uE,sK,Lb,ob_];rfl,?_⟩
 have key:(zU (AV a.Player b.Player) (uy a.At b.At)<0)↔befP a b:=by
  unfold zU uy befP
  rcases jI a.Player b.Player with⟨h,e⟩|⟨h,e⟩|⟨h,e⟩
  ·rw [e];simp [h]
  ·rw [e,h]
   have j:¬lt b.Player b.Player:=fu _
   by_cases h1:a.At<b.At
   ·simp [h1]
   ·by_cases h2:a.At>b.At <;> simp [h1,h2,j]
  ·have j:¬lt a.Player b.Player:=λk=>fu _ (lt_trans h k)
   have f:a.Player≠b.Player:=λk=>by rw [k]at h;exact fu _ h
   rw [e];simp [j,f]
 rw [Bool.eq_iff_iff]
 simp only [decide_eq_true_eq,Bool.not_eq_true',Bool.eq_false_iff,ne_eq,Ui,<- key]
 omega
theorem OM {l:List Play} {k:Nat} {x:Play} {f:Play->Play->Option Int} (j:l[k]? = some x) (hl:l.length<=1000) (I:∀y,y∈l->∃n,f y x=some n/\decide (n>=0) = !OX y x) :
  (bif (decide ((k:Int)>0))then (idx l (w64 ((k:Int)-1))).bind λy=>(f y x).bind λr=>some (decide (r>=0))else some false)=some (match vK l k with | none=>false | some q => !OX q x):=by
 have J:k<l.length:=(List.getElem?_eq_some_iff.1 j).1
 rcases Nat.eq_zero_or_pos k with h|h
 ·subst h
  rw [decide_eq_false (by omega)];rfl
 ·rw [decide_eq_true (by omega),cond_true]
  obtain ⟨y,A,o⟩:=Bc j h (by omega)
  obtain ⟨n,B,F⟩:=I y (List.mem_of_getElem? o)
  have e:vK l k=some y:=by unfold vK;rw [if_neg (by omega)];exact o
  rw [A,ob_,B,ob_,F,e]
theorem Ce {l:List Play} (o:∀x∈l,GoodY x) (hl:l.length<=1000):fB l=some (Om l):=by
 unfold fB
 rw [decide_eq_false (show ¬(l.length:Int)>3000 by omega),cond_false,jY (by omega)]
 rw [yS (stp:=SE) (body:=λk x s=>fC l k x s) l l 0 rfl (λk x f => ?_)]
 ·exact CG _
 ·have A:x∈l:=List.mem_of_getElem? f
  obtain ⟨j,h,_,_⟩:=o x A
  unfold ShortK at j h
  show fC l k x ()=_
  unfold fC
  rw [OM f hl (λy _=>FK y x)]
  simp only [wh _ (show x.Player.size<=1000000000 by omega),wh _ (show x.Item.size<=1000000000 by omega),tV,nk,ob_]
  unfold SE plE longB
  cases xq x.Player <;> cases xq x.Item <;> cases momB x.At <;> cases l7 x.Long 1 86400000 <;> first | rfl | skip
  cases vK l k with
  | none=>rfl
  | some q=>dsimp only;cases OX q x <;> rfl
structure VP (l:List Play):Prop where
 good:∀x∈l,GoodY x
 at_:∀x∈l,0<=x.At/\x.At<=345686399999
 lo:∀x∈l,1<=x.Long/\x.Long<=86400000
 rise:l.Pairwise befP
structure RightP (x:Play):Prop where
 pl:x.Player=paS\/x.Player=pbS
 it:x.Item=iaS\/x.Item=ibS
 at_:0<=x.At/\x.At<=86400290
 lo:1<=x.Long/\x.Long<=20
theorem Mk:lt paS pbS:=lt_lit (by kernel_rfl)
theorem QB (P:ByteArray) (hP:P=paS\/P=pbS) (n:Int) (hn:0<=n/\n<=10) (l0:List Play) (a0:Int) (ha:0<=a0/\a0<=86399990) (s:Stream) {b:Int} (hs:Ok s b) (hb:b<=800000)
  (hr:∀x∈l0,RightP x) (F:l0.Pairwise befP) (o:∀y∈l0,lt y.Player P) (hl:l0.length<=100) :
  ∃l a B,forL (List.range n.toNat) (l0,a0,s.L,s.f_at) (λk x s=>fM P k x s)=some (.go (l,a,B.L,B.f_at))/\(∀x∈l,RightP x)/\l.Pairwise befP/\(∀y∈l,y.Player=P\/lt y.Player P)/\l.length<=l0.length+n.toNat/\Ok B (b+30):=by
 obtain ⟨t,R,t2,t3,t4,t5,t6,t7,M⟩:=IJ (body:=λk x s=>fM P k x s) (s:=(l0,a0,s.L,s.f_at)) (xs:=List.range n.toNat)
  (λj t=>t.1.length=l0.length+j/\(∀x∈t.1,RightP x)/\t.1.Pairwise befP/\(∀y∈t.1,y.Player=P\/lt y.Player P)/\(∀y∈t.1,y.Player=P->y.At<t.2.1)/\(0<=t.2.1/\t.2.1<=86399990+30*j)/\Ok ⟨t.2.2.1,t.2.2.2⟩ (b+3*j)) (by simp;omega) (λj x t hx hj ⟨i1,i2,i3,i4,i5,i6,i7⟩=>by
  simp only [List.length_range]at hj
  obtain ⟨it,Z,c1,c2,c3⟩:=Ps ⟨t.2.2.1,t.2.2.2⟩ [(⟨#[105,97]⟩:ByteArray),(⟨#[105,98]⟩:ByteArray)] i7 (by omega) (by simp) (by simp)
  obtain ⟨J,s2,N,d2,d3⟩:=Bl Z [1,5,10,20] c3 (by omega) (by simp) (by simp)
  obtain ⟨st,s3,T,O,e3⟩:=Bl s2 [1,5,10,30] d3 (by omega) (by simp) (by simp)
  have I:1<=J/\J<=20:=by
   simp only [List.mem_cons,List.not_mem_nil,or_false]at d2;omega
  have hst:1<=st/\st<=30:=by
   simp only [List.mem_cons,List.not_mem_nil,or_false]at O;omega
  have A:it=iaS\/it=ibS:=by
   simp only [List.mem_cons,List.not_mem_nil,or_false]at c2;exact c2
  unfold fM
  simp only [c1,N,T,ob_]
  rw [gL _ _ (by simp;omega),ob_,dh (n:=t.2.1+st) (by omega)]
  refine⟨_,rfl,by simp;omega,λy f => ?_,?_,λy f => ?_,λy f Y => ?_,by simp only [];omega,e3.mono (by omega)⟩
  ·rcases List.mem_append.1 f with f|f
   ·exact i2 y f
   ·rw [List.mem_singleton.1 f]
    exact⟨hP,A,by show 0<=t.2.1/\t.2.1<=86400290;omega,I⟩
  ·refine List.pairwise_append.2 ⟨i3,List.pairwise_singleton _ _,λy f z W => ?_⟩
   rw [List.mem_singleton.1 W]
   rcases i4 y f with h|h
   ·exact .inr ⟨h,i5 y f h⟩
   ·exact .inl h
  ·rcases List.mem_append.1 f with f|f
   ·exact i4 y f
   ·rw [List.mem_singleton.1 f];exact .inl rfl
  ·show y.At<t.2.1+st
   rcases List.mem_append.1 f with f|f
   ·have:=i5 y f Y;omega
   ·rw [List.mem_singleton.1 f];show t.2.1<t.2.1+st;omega)
  ⟨rfl,hr,F,λy f => .inr (o y f),λy f e=>absurd (o y f) (by rw [e];exact fu P),(by show 0<=a0/\a0<=86399990+30*((0:Nat):Int);omega),hs.mono (by omega)⟩
 rw [List.length_range]at t2 t7 M
 exact⟨t.1,t.2.1,⟨t.2.2.1,t.2.2.2⟩,R,t3,t4,t5,by omega,M.mono (by omega)⟩
theorem Po (P:ByteArray) (Z:P=paS\/P=pbS) (most:Int) (hm:0<=most/\most<=10) (l0:List Play) (s:Stream) {b:Int} (hs:Ok s b) (hb:b<=700000)
  (T:∀x∈l0,RightP x) (h:l0.Pairwise befP) (j:∀y∈l0,lt y.Player P) (hl:l0.length<=100) (k:Nat) :
  ∃l f,ek most k P (l0,s.L,s.f_at)=some (.go (l,f.L,f.f_at))/\(∀x∈l,RightP x)/\l.Pairwise befP/\(∀y∈l,y.Player=P\/lt y.Player P)/\l.length<=l0.length+most.toNat/\Ok f (b+40):=by
 obtain ⟨a0,M,R,c2,N⟩:=Bl s [0,5,86399990] hs (by omega) (by simp) (by simp)
 obtain ⟨n,W,o,d2,d3,d4⟩:=wY M 0 most N (by omega) (by omega) (by decide) (by omega)
 have I:0<=a0/\a0<=86399990:=by
  simp only [List.mem_cons,List.not_mem_nil,or_false]at c2;omega
 obtain ⟨l,a,O,F,A,Y,B,e5,e6⟩:=QB P Z n (by omega) l0 a0 I W d4 (by omega) T h j hl
 refine⟨l,O,?_,A,Y,B,by omega,e6.mono (by omega)⟩
 unfold ek
 have J:(⟨s.L,s.f_at⟩:Stream)=s:=rfl
 simp only [J,R,o,F,ob_,thenC]
structure RPlays (l:List Play):Prop where
 right:∀x∈l,RightP x
 rise:l.Pairwise befP
 len:l.length<=20
theorem Ob (most:Int) (J:0<=most/\most<=10) (s:Stream) {b:Int} (hs:Ok s b) (hb:b<=600000):∃l I,iZ s most=some (l,I)/\RPlays l/\l.length<=2*most.toNat/\Ok I (b+80):=by
 obtain ⟨o,f,O,c2,c3,Z,A,W⟩:=Po paS (.inl rfl) most J [] s hs (by omega) (λx Y=>by cases Y) .nil (λy B=>by cases B) (by simp) 0
 obtain ⟨F,j,M,T,d3,d4,d5,d6⟩:=Po pbS (.inr rfl) most J o f W (by omega) c2 c3 (λy B=>by
  rcases Z y B with h|h
  ·rw [h];exact Mk
  ·exact lt_trans h Mk) (by simp at A;omega) 1
 refine⟨F,j,?_,⟨T,d3,by simp at A;omega⟩,by simp at A;omega,d6.mono (by omega)⟩
 unfold iZ
 rw [jY (by simp)]
 have R:ek most 0 (⟨#[112,97]⟩:ByteArray) (([]:List Play),s.L,s.f_at)=some (.go (o,f.L,f.f_at)):=O
 have N:ek most (0+1) (⟨#[112,98]⟩:ByteArray) (o,f.L,f.f_at)=some (.go (F,j.L,j.f_at)):=M
 simp only [forR,R,N,ob_,thenC]
theorem QY {α:Type} {R:α->α->Prop} {l:List α} (h:l.Pairwise R) {i j:Nat} {x y:α} (hi:l[i]? = some x) (hj:l[j]? = some y) (f:i<j):R x y:=by
 obtain ⟨o,rfl⟩:=List.getElem?_eq_some_iff.1 hi
 obtain ⟨A,rfl⟩:=List.getElem?_eq_some_iff.1 hj
 exact List.pairwise_iff_getElem.1 h i j o A f
theorem FY {a b:Play} (h:befP a b):∃n,iQ a b=some n/\n<0:=by
 refine⟨_,by simp only [iQ,uE,sK,Lb,ob_];rfl,?_⟩
 unfold zU uy
 rcases h with h|⟨h,k⟩
 ·rcases jI a.Player b.Player with⟨_,e⟩|⟨e,_⟩|⟨e,_⟩
  ·rw [e];simp
  ·rw [e]at h;exact absurd h (fu _)
  ·exact absurd (lt_trans h e) (fu _)
 ·rcases jI a.Player b.Player with⟨e,_⟩|⟨_,e⟩|⟨e,_⟩
  ·rw [h]at e;exact absurd e (fu _)
  ·rw [e];simp [k]
  ·rw [h]at e;exact absurd e (fu _)
theorem D6 {l:List Play} (h:RPlays l):fB l=some 0:=by
 unfold fB
 have h1:=h.len
 rw [decide_eq_false (show ¬(l.length:Int)>3000 by omega),cond_false]
 obtain ⟨u,e,_⟩:=qA (body:=λk x s=>fC l k x s) (λ_ _=>True) (xs:=l) (s:=()) (by omega) (λk x s f _=>by
  refine⟨(),?_,trivial⟩
  have M:x∈l:=List.mem_of_getElem? f
  obtain ⟨o,hi,N,hl⟩:=h.right x M
  have J:d9 x.Player=some true:=by
   rcases o with e|e <;> rw [e,wh _ (by decide)] <;> exact congrArg some (by kernel_rfl)
  have L:d9 x.Item=some true:=by
   rcases hi with e|e <;> rw [e,wh _ (by decide)] <;> exact congrArg some (by kernel_rfl)
  have A:momB x.At=true:=by unfold momB;rw [rP (by omega)];rfl
  unfold fC
  simp only [J,L,ob_,Bool.not_true,cond_false,tV,A,nk,rP (show (1:Int)<=x.Long/\x.Long<=86400000 by omega)]
  rcases Nat.eq_zero_or_pos k with j|j
  ·rw [decide_eq_false (by omega)];rfl
  ·rw [decide_eq_true (by omega),cond_true]
   obtain ⟨y,B,I⟩:=Bc f j (by omega)
   obtain ⟨n,F,O⟩:=FY (QY h.rise I f (by omega))
   rw [B,ob_,F,ob_,decide_eq_false (by omega)];rfl) trivial
 rw [e];rfl
end Go.Proofs.YtnfojnnfidnikaeGreatDoor.Law

