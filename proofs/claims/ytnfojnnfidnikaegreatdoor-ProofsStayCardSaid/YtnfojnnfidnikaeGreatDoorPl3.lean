/-
  THE PLAIN LAW (part 3).
-/
import Derived.Test.YtnfojnnfidnikaeGreatDoorPl2
open Go Go.Eng
namespace Go.Proofs.YtnfojnnfidnikaeGreatDoor.Law
set_option linter.unusedVariables false
set_option linter.unusedSimpArgs false
def gP (d:Dated):Placed:=⟨d.f_i,d.f_at⟩
theorem MZ {B:List Beat} (N:BOk B) {L:List Log_} {j:Nat} {to:Int} {x:Log_} (hj:L[j]? = some x) (O:(j:Int)<to) (J:inM x.Clock) (R:j<=1000000) (P:List Placed) (F:List Int) (hl:P.length+F.length<=100000) :
  ib to L (MB B x.Player) (P,F,(j:Int))=some (.go (P++(match atF B x with | some a=>[⟨(j:Int),a⟩] | none=>[]),F++(match atF B x with | some _=>[] | none=>[(j:Int)]),((j+1:Nat):Int))):=by
 obtain ⟨h2,T⟩:=SQ N x J
 unfold ib atF
 have W:decide ((j:Int)<to)=true:=decide_eq_true O
 have M:w64 ((j:Int)+1)=((j+1:Nat):Int):=by rw [dh (by omega)];omega
 simp only [W,cond_true,l8,hj,ob_,h2,M]
 have A:∀d:Placed,kr P [d]=some (P++[d]):=λd=>gM _ _ (by simp;omega)
 have I:∀d:Int,kr F [d]=some (F++[d]):=λd=>gM _ _ (by simp;omega)
 rcases T with⟨f,_⟩|f|f|f
 ·have h:((plF B x).2==0)=true:=by rw [f];rfl
  simp only [h,cond_true,cond_false,ob_,A,List.append_nil]
 ·have o:((plF B x).2==8)=true:=by rw [f];rfl
  have h:((plF B x).2==0)=false:=by rw [f];rfl
  simp only [o,h,cond_true,cond_false,ob_,A,List.append_nil]
 ·have o:((plF B x).2==8)=false:=by rw [f];rfl
  have h:((plF B x).2==0)=false:=by rw [f];rfl
  simp only [o,h,cond_true,cond_false,ob_,I,List.append_nil]
 ·have o:((plF B x).2==8)=false:=by rw [f];rfl
  have h:((plF B x).2==0)=false:=by rw [f];rfl
  simp only [o,h,cond_true,cond_false,ob_,I,List.append_nil]
theorem Fy {B:List Beat} (A:BOk B) {L post:List Log_} {p:ByteArray} {to:Nat} (M:L.length<=1000):∀(xs:List Log_) (j:Nat) (P:List Placed) (F:List Int),L.drop j=xs++post->j+xs.length=to->(∀x∈xs,x.Player=p/\inM x.Clock)->P.length+F.length+xs.length<=10000 ->
  iterN (λs=>ib (to:Int) L (MB B p) s) (xs.length+1) (P,F,(j:Int))=some (.go (P++(dts B j xs).map gP,F++lfs B j xs,(to:Int)))
 | [],j,P,F,o,f,h,hl=>by
  have hc:decide ((j:Int)<(to:Int))=false:=decide_eq_false (by simp at f;omega)
  simp only [List.length_nil,iterN,ib,hc,cond_false,ob_,dts,lfs,List.map_nil,List.append_nil]
  simp at f;rw [f]
 | x::xs,j,P,F,o,f,h,hl=>by
  simp only [List.length_cons]at hl f
  have I:L[j]? = some x:=yA (by rw [o];rfl)
  obtain ⟨J,hc⟩:=h x (by simp)
  have N:=(List.getElem?_eq_some_iff.1 I).1
  have hs:=MZ A (to:=(to:Int)) I (by omega) hc (by omega) P F (by omega)
  rw [J]at hs
  rw [List.length_cons,iterN,hs,ob_]
  simp only
  rw [Fy A M xs (j+1) _ _ (show L.drop (j+1)=xs++post from aX (show L.drop j=x::(xs++post) from o)) (by omega) (λy O=>h y (List.mem_cons_of_mem _ O)) (by cases atF B x <;> simp <;> omega),dts,lfs,List.map_append,List.append_assoc,List.append_assoc]
  cases atF B x <;> rfl
def cP (a b:Placed):Int:=uz a.f_at b.f_at
def cD (a b:Dated):Int:=uz a.f_at b.f_at
def c2 (L:List Log_) (a b:Dated):Int:=zW (Av (yL L a).Player (yL L b).Player) (uz a.f_at b.f_at)
theorem stableP (l:List Placed) (hl:l.length<=19):bE l=some (nD cP l):=by
 unfold bE
 have h1:dU l (l.length:Int)=Pt mI l (l.length:Int):=rfl
 rw [h1,NI (p:=λ_=>True) (c:=cP) (λa b _ _=>by unfold mI cP;rw [sQ];rfl) l hl (λ_ _=>trivial),ob_]
 unfold fA;rw [if_pos (yw cP l)];rfl
theorem Rs {a b:List Int} (h:a.Perm b) (hl:a.length<=100000):∃s,dw a=some s/\dw b=some s/\s.length=a.length:=by
 have f:b.length=a.length:=h.length_eq.symm
 have hs:∀l:List Int,(l.mergeSort (λx y=>decide (x<=y))).Pairwise (· <= ·):=λl=>by
  have:=List.pairwise_mergeSort (le:=λ(x y:Int)=>decide (x<=y)) (λa b c=>by simp;omega) (λa b=>by simp;omega) l
  exact this.imp (by simp)
 have e:a.mergeSort (λx y=>decide (x<=y))=b.mergeSort (λx y=>decide (x<=y)) :=
  List.Perm.eq_of_pairwise (le:=(· <= ·)) (λa b _ _ h1 h2=>Int.le_antisymm h1 h2) (hs a) (hs b) ((List.mergeSort_perm a _).trans (h.trans (List.mergeSort_perm b _).symm))
 refine⟨a.mergeSort (λx y=>decide (x<=y)),?_,?_,List.length_mergeSort a⟩
 ·unfold dw Kg;rw [if_pos (by omega)]
 ·unfold dw Kg;rw [if_pos (by omega),e]
theorem TD {α:Type} (l:List α) (q:α):(l++[q]).getLast? = some q:=by simp
def Ja (pl:List Play) (p:ByteArray):Int:=match pl.getLast? with
 | some q=>bif decide (q.Player=p)then q.At+q.Long else 0
 | none=>0
theorem R5 (pl:List Play) (q:Play) (p:ByteArray) (h:q.Player=p):Ja (pl++[q]) p=q.At+q.Long:=by
 unfold Ja;rw [TD];simp only [decide_eq_true h,cond_true]
theorem Uh {L:List Log_} (k:Nat) {d:Dated} (B:VD L d) (F:List Int) (pl:List Play) (T:∀q∈pl,Ev q) (hl:F.length+pl.length<=10000) :
  mo L k (gP d) (pl,F,Ja pl (yL L d).Player)=some (.go (match stp L pl d with | some q=>(pl++[q],F,q.At+q.Long) | none=>(pl,F++[d.f_i],Ja pl (yL L d).Player))):=by
 have O:=B.at
 obtain ⟨h1,h2,h3,h4,h5,h6⟩:=B
 have key:jE d.f_at (Ja pl (yL L d).Player)=(vz L pl d).1/\d.f_at+(yL L d).Long-(vz L pl d).1=(vz L pl d).2/\(0<=(vz L pl d).1/\(vz L pl d).1<=345772799999):=by
  have A:jE d.f_at 0=d.f_at:=by unfold jE;rw [if_neg (by omega)]
  unfold Ja vz
  cases hg:pl.getLast? with
  | none=>show jE d.f_at 0=d.f_at/\d.f_at+(yL L d).Long-d.f_at=(yL L d).Long/\(0<=d.f_at/\d.f_at<=345772799999);exact⟨A,by omega,by omega,by omega⟩
  | some q =>
   obtain ⟨q1,Y,q3,q4⟩:=T q (List.mem_of_getLast? hg)
   show jE d.f_at (bif decide (q.Player=(yL L d).Player)then q.At+q.Long else 0)=(bif decide (q.Player=(yL L d).Player)&&decide (q.At+q.Long>d.f_at)then (q.At+q.Long,d.f_at+(yL L d).Long-(q.At+q.Long))else (d.f_at,(yL L d).Long)).1 /\
    d.f_at+(yL L d).Long-(bif decide (q.Player=(yL L d).Player)&&decide (q.At+q.Long>d.f_at)then (q.At+q.Long,d.f_at+(yL L d).Long-(q.At+q.Long))else (d.f_at,(yL L d).Long)).1=(bif decide (q.Player=(yL L d).Player)&&decide (q.At+q.Long>d.f_at)then (q.At+q.Long,d.f_at+(yL L d).Long-(q.At+q.Long))else (d.f_at,(yL L d).Long)).2 /\
    (0<=(bif decide (q.Player=(yL L d).Player)&&decide (q.At+q.Long>d.f_at)then (q.At+q.Long,d.f_at+(yL L d).Long-(q.At+q.Long))else (d.f_at,(yL L d).Long)).1/\(bif decide (q.Player=(yL L d).Player)&&decide (q.At+q.Long>d.f_at)then (q.At+q.Long,d.f_at+(yL L d).Long-(q.At+q.Long))else (d.f_at,(yL L d).Long)).1<=345772799999)
   cases hpl:decide (q.Player=(yL L d).Player)with
   | true =>
    cases f:decide (q.At+q.Long>d.f_at)with
    | true =>
     have f:=of_decide_eq_true f
     have j:jE d.f_at (q.At+q.Long)=q.At+q.Long:=by unfold jE;rw [if_pos f]
     show jE d.f_at (q.At+q.Long)=q.At+q.Long/\d.f_at+(yL L d).Long-(q.At+q.Long)=d.f_at+(yL L d).Long-(q.At+q.Long)/\(0<=q.At+q.Long/\q.At+q.Long<=345772799999)
     exact⟨j,rfl,by omega,by omega⟩
    | false =>
     have f:=of_decide_eq_false f
     have j:jE d.f_at (q.At+q.Long)=d.f_at:=by unfold jE;rw [if_neg f]
     show jE d.f_at (q.At+q.Long)=d.f_at/\d.f_at+(yL L d).Long-d.f_at=(yL L d).Long/\(0<=d.f_at/\d.f_at<=345772799999)
     exact⟨j,by omega,by omega,by omega⟩
   | false =>
    show jE d.f_at 0=d.f_at/\d.f_at+(yL L d).Long-d.f_at=(yL L d).Long/\(0<=d.f_at/\d.f_at<=345772799999)
    exact⟨A,by omega,by omega,by omega⟩
 obtain ⟨M,W,Z,k4⟩:=key
 have R:w64 (d.f_at+(yL L d).Long)=d.f_at+(yL L d).Long:=dh (by omega)
 have I:w64 (d.f_at+(yL L d).Long-(vz L pl d).1)=(vz L pl d).2:=by rw [dh (by omega)];exact W
 have J:decide ((vz L pl d).1>=d.f_at+(yL L d).Long)=decide ((vz L pl d).2<=0):=decide_eq_decide.2 (by omega)
 have o:kr F [d.f_i]=some (F++[d.f_i]):=gM _ _ (by simp;omega)
 have N:∀q:Play,kr pl [q]=some (pl++[q]):=λq=>gM _ _ (by simp;omega)
 have h:d.f_at+(yL L d).Long=(vz L pl d).1+(vz L pl d).2:=by omega
 unfold mo stp
 simp only [gP,O,ob_,M,R,J,I,uu]
 cases h7:decide ((vz L pl d).2<=0)with
 | true=>simp only [cond_true,ob_,Bool.true_or,o]
 | false =>
  cases h8:momB (vz L pl d).1 with
  | true=>simp only [cond_true,cond_false,ob_,Bool.or_self,Bool.not_true,N,h]
  | false=>simp only [cond_true,cond_false,ob_,Bool.false_or,Bool.not_false,o]
theorem Ea {L:List Log_} {p:ByteArray}:∀(ds:List Dated) (k:Nat) (F:List Int) (pl:List Play),(∀d∈ds,VD L d/\(yL L d).Player=p)->(∀q∈pl,Ev q)->F.length+pl.length+ds.length<=10000 ->
  forR (λk x s=>mo L k x s) (ds.map gP) k (pl,F,Ja pl p)=some (.go ((sZ L pl ds).1,F++(sZ L pl ds).2,Ja (sZ L pl ds).1 p))
 | [],k,F,pl,B,A,hl=>by simp only [sZ,List.append_nil];rfl
 | d::ds,k,F,pl,B,A,hl=>by
  simp only [List.length_cons]at hl
  obtain ⟨v,h⟩:=B d (by simp)
  have o:=Uh k v F pl A (by omega)
  rw [h]at o
  rw [List.map_cons,forR,o,ob_,sZ]
  cases hs:stp L pl d with
  | some q =>
   obtain ⟨g1,I⟩:=NG v A hs
   simp only
   rw [<- R5 pl q p (I.trans h),Ea ds (k+1) F (pl++[q]) (λd f=>B d (List.mem_cons_of_mem _ f)) (λz j=>by
    rcases List.mem_append.1 j with j|j
    ·exact A z j
    ·rw [List.mem_singleton.1 j];exact g1) (by simp;omega)]
  | none =>
   simp only
   rw [Ea ds (k+1) (F++[d.f_i]) pl (λd f=>B d (List.mem_cons_of_mem _ f)) A (by simp;omega)]
   simp
def LeP (a b:Log_):Prop:=lt a.Player b.Player\/a.Player=b.Player
theorem Rh {a b c:Log_} (h:LeP a b) (k:LeP b c):LeP a c:=by
 rcases h with h|h
 ·rcases k with k|k
  ·exact .inl (lt_trans h k)
  ·exact .inl (k ▸ h)
 ·unfold LeP;rw [h];exact k
structure RightL (x:Log_):Prop where
 clock:inM x.Clock
 l0:1<=x.Long
 ll:x.Long<=86400000
theorem formF_0 {x:Log_} (h:vU x=0):RightL x:=by
 unfold vU at h
 cases h1:xn x.Player with
 | false=>rw [h1]at h;cases h
 | true =>
 cases h2:xn x.Item with
 | false=>rw [h1,h2]at h;cases h
 | true =>
 rw [h1,h2]at h
 simp only [Bool.not_true,cond_false]at h
 cases h3:(l7 x.No 1 1000000||(l7 x.Clock 0 345686399999||l7 x.Long 1 86400000))with
 | true=>rw [h3]at h;cases h
 | false =>
  rw [Bool.or_eq_false_iff,Bool.or_eq_false_iff]at h3
  have hl:=Bd h3.2.2
  exact⟨Bd h3.2.1,hl.1,hl.2⟩
theorem lStp_0 {p:Option Log_} {x:Log_} (h:Ml p x=0):RightL x/\∀o,p=some o->LeP o x:=by
 unfold Ml at h
 cases hf:(vU x != 0)with
 | true=>rw [hf,cond_true]at h;rw [h]at hf;cases hf
 | false =>
 have f:vU x=0:=by simpa using hf
 rw [hf,cond_false]at h
 refine⟨formF_0 f,λo ho => ?_⟩
 subst ho
 cases hm:ug x.Sum with
 | false=>rw [hm]at h;cases h
 | true =>
 rw [hm]at h
 simp only [Bool.not_true,cond_false]at h
 cases hc:decide (cmpL o x>=0)with
 | true=>rw [hc]at h;cases h
 | false =>
 have hc:=of_decide_eq_false hc
 rcases jM o.Player x.Player with⟨h1,_⟩|⟨h1,_⟩|⟨h1,h2⟩
 ·exact .inl h1
 ·exact .inr h1
 ·exfalso
  apply hc
  unfold cmpL zW
  rw [h2]
  show (1:Int)>=0
  omega
theorem Fe:∀{l:List Log_} {p:Option Log_},xH Ml p l=0->(∀o,p=some o->∀y∈l,LeP o y)/\l.Pairwise LeP/\∀x∈l,RightL x
 | [],_,_=>⟨λ_ _ y f=>(by cases f),List.Pairwise.nil,λx B=>(by cases B)⟩
 | x::xs,p,h=>by
  obtain ⟨h1,h2⟩:=Tj h
  obtain ⟨A,i2,i3⟩:=Fe h2
  obtain ⟨F,j⟩:=lStp_0 h1
  refine⟨λo ho y f => ?_,List.pairwise_cons.2 ⟨λy f=>A x rfl y f,i2⟩,λy f => ?_⟩
  ·rcases List.mem_cons.1 f with rfl|f
   ·exact j o ho
   ·exact Rh (j o ho) (A x rfl y f)
  ·rcases List.mem_cons.1 f with rfl|f
   ·exact F
   ·exact i3 y f
theorem logsF_0 {l:List Log_} (h:EP l=0):l.Pairwise LeP/\∀x∈l,RightL x:=by
 unfold EP at h
 cases hl:decide (l.length>2000)with
 | true=>rw [hl]at h;cases h
 | false=>rw [hl,cond_false]at h;exact (Fe h).2
theorem grp (p:ByteArray):∀xs:List Log_,(∀y∈xs,lt p y.Player\/p=y.Player)->xs.Pairwise LeP->∃g post,xs=g++post/\(∀y∈g,y.Player=p)/\∀b∈post,lt p b.Player
 | [],_,_=>⟨[],[],rfl,λy o=>(by cases o),λy o=>(by cases o)⟩
 | y::ys,h,F=>by
  obtain ⟨A,B⟩:=List.pairwise_cons.1 F
  by_cases o:y.Player=p
  ·obtain ⟨g,post,e,g1,I⟩:=grp p ys (λz f=>h z (List.mem_cons_of_mem _ f)) B
   refine⟨y::g,post,by rw [e];rfl,λz f => ?_,I⟩
   rcases List.mem_cons.1 f with rfl|f
   ·exact o
   ·exact g1 z f
  ·have j:lt p y.Player:=by
    rcases h y (by simp)with h|h
    ·exact h
    ·exact absurd h.symm o
   refine⟨[],y::ys,rfl,λz f=>(by cases f),λb hb => ?_⟩
   rcases List.mem_cons.1 hb with rfl|hb
   ·exact j
   ·rcases A b hb with k|k
    ·exact lt_trans j k
    ·exact k ▸ j
theorem JH {L post:List Log_} {p:ByteArray} {st:List Play×List Int×Int} {O:Log_} (M:idx L st.2.2=some O) (o:O.Player=p) (T:L.length<=1000) (f:∀b∈post,lt p b.Player):∀(xs:List Log_) (j:Nat),L.drop j=xs++post->j<=L.length->(∀x∈xs,x.Player=p) ->
  iterN (λs=>jU L st s) (xs.length+1) (j:Int)=some (.go ((j+xs.length:Nat):Int))
 | [],j,B,hj,F=>by
  have h:jU L st (j:Int)=some (.brk (j:Int)):=by
   unfold jU
   cases post with
   | nil =>
    have N:L.length<=j:=List.drop_eq_nil_iff.1 (by simpa using B)
    have hc:decide ((j:Int)<(L.length:Int))=false:=decide_eq_false (by omega)
    simp only [hc,cond_false,ob_]
   | cons b post =>
    have A:L[j]? = some b:=yA (by rw [B];rfl)
    have I:=(List.getElem?_eq_some_iff.1 A).1
    have hc:decide ((j:Int)<(L.length:Int))=true:=decide_eq_true (by omega)
    have J:¬b.Player=p:=λe=>by have:=f b (by simp);rw [e]at this;exact fq p this
    simp only [hc,cond_true,l8,A,M,ob_,Gj,o,decide_eq_false J,cond_false]
  simp only [List.length_nil,iterN,h,ob_,Nat.add_zero]
 | x::xs,j,B,hj,F=>by
  have A:L[j]? = some x:=yA (by rw [B];rfl)
  have I:=(List.getElem?_eq_some_iff.1 A).1
  have hc:decide ((j:Int)<(L.length:Int))=true:=decide_eq_true (by omega)
  have R:w64 ((j:Int)+1)=((j+1:Nat):Int):=by rw [dh (by omega)];omega
  have h:jU L st (j:Int)=some (.go ((j+1:Nat):Int)):=by
   unfold jU
   simp only [hc,cond_true,l8,A,M,ob_,Gj,o,F x (by simp),decide_true,R]
  rw [List.length_cons,iterN,h,ob_]
  simp only
  rw [JH M o T f xs (j+1) (aX (show L.drop j=x::(xs++post) from B)) (by omega) (λy W=>F y (List.mem_cons_of_mem _ W)),show j+1+xs.length=j+(xs.length+1) by omega]
structure LOk (L:List Log_):Prop where
 sorted:L.Pairwise LeP
 right:∀x∈L,RightL x
 few:L.length<=19
theorem yL_at {L:List Log_} {d:Dated} {i:Nat} {x:Log_} (h:L[i]? = some x) (e:d.f_i=(i:Int)):yL L d=x:=by
 unfold yL;rw [e,List.getD_eq_getElem?_getD,Int.toNat_natCast,h];rfl
theorem Uq {B:List Beat} (A:BOk B) {L:List Log_} (M:LOk L) {pre g post:List Log_} (e:L=pre++(g++post)) {d:Dated} (O:d∈dts B pre.length g):VD L d/\yL L d∈g:=by
 obtain ⟨i,x,h1,h2,N⟩:=PL B g pre.length d O
 have h:=(List.getElem?_eq_some_iff.1 h1).1
 have f:L[pre.length+i]? = some x:=by
  rw [e,List.getElem?_append_right (by omega),show pre.length+i-pre.length=i by omega,List.getElem?_append_left h,h1]
 have o:=yL_at f h2
 have F:x∈L:=List.mem_of_getElem? f
 have I:=(List.getElem?_eq_some_iff.1 f).1
 have j:=M.right x F
 obtain ⟨J,a2⟩:=atF_in A j.clock N
 refine⟨⟨by omega,by omega,J,a2,by rw [o];exact j.l0,by rw [o];exact j.ll⟩,?_⟩
 rw [o];exact List.mem_of_getElem? h1
noncomputable def fnd (B:List Beat) (L pre:List Log_):List Play×List Int:=sZ L [] (nD (c2 L) (dts B 0 pre))
theorem Ie {B:List Beat} (hB:BOk B) {L:List Log_} (hL:LOk L):∀(m:Nat) (pre rest:List Log_) (F:List Int),rest.length<=m->L=pre++rest->(∀a∈pre,∀b∈rest,lt a.Player b.Player)->F.Perm (lfs B 0 pre++(fnd B L pre).2) ->
  ∃n F',iterN (λs=>jQ L B s) n ((fnd B L pre).1,F,(pre.length:Int))=some (.go ((fnd B L L).1,F',(L.length:Int)))/\F'.Perm (lfs B 0 L++(fnd B L L).2)
 | m,pre,[],F,hm,e,A,hF=>by
  rw [List.append_nil]at e
  subst e
  refine⟨1,F,?_,hF⟩
  have hc:decide ((L.length:Int)<(L.length:Int))=false:=decide_eq_false (by omega)
  simp only [iterN,jQ,hc,cond_false,ob_]
 | 0,pre,x::xs,F,hm,e,A,hF=>by simp at hm
 | m+1,pre,x::xs,F,hm,e,A,hF=>by
  have j:(x::xs).Pairwise LeP:=by have:=hL.sorted;rw [e]at this;exact (List.pairwise_append.1 this).2.1
  obtain ⟨g,post,e2,g1,g2⟩:=grp x.Player xs (λy Y=>(List.pairwise_cons.1 j).1 y Y) (List.pairwise_cons.1 j).2
  subst e2
  have few:=hL.few
  have hlen:L.length=pre.length+((x::g).length+post.length):=by rw [e];simp;omega
  have e3:L=pre++((x::g)++post):=e
  have I:∀y∈x::g,y.Player=x.Player:=λy Y=>by
   rcases List.mem_cons.1 Y with rfl|Y
   ·rfl
   ·exact g1 y Y
  have f:L.drop pre.length=(x::g)++post:=by rw [e3];simp
  have hx0:L[pre.length]? = some x:=yA (by rw [f];rfl)
  have W:idx L (pre.length:Int)=some x:=by rw [l8,hx0]
  have N:∀y∈x::g,y.Player=x.Player/\inM y.Clock:=λy Y=>⟨I y Y,(hL.right y (by rw [e3];simp only [List.mem_append];exact .inr (.inl Y))).clock⟩
  have M:∀d∈dts B pre.length (x::g),VD L d/\(yL L d).Player=x.Player:=λd O=>by
   obtain ⟨v,w⟩:=Uq hB hL e3 O
   exact⟨v,I _ w⟩
  have hV0:∀d∈dts B 0 pre,VD L d/\yL L d∈pre:=λd O=>Uq hB hL (pre:=[]) (g:=pre) (post:=x::(g++post)) (by rw [e];rfl) O
  have hgl:(x::g).length=g.length+1:=rfl
  have hdl:=LG B (x::g) pre.length
  have hdl0:=LG B pre 0
  have hsc:=dB (JH (L:=L) (post:=post) (st:=((fnd B L pre).1,F,(pre.length:Int))) W rfl (by omega) g2 (x::g) pre.length f (by omega) I)
  have hpl:=dB (Fy hB (L:=L) (post:=post) (p:=x.Player) (to:=pre.length+(x::g).length) (by omega) (x::g) pre.length [] [] f rfl N (by simp;omega))
  simp only [List.nil_append]at hpl
  have o:o6 L (pre.length:Int) ((pre.length+(x::g).length:Nat):Int) B=some ((nD cD (dts B pre.length (x::g))).map gP,lfs B pre.length (x::g)):=by
   unfold o6
   rw [W,ob_,O9 B x.Player false hB.few,ob_]
   show (dS _ (λs=>ib _ L (MB B x.Player) s)).bind _=_
   rw [hpl,ob_,jf]
   simp only
   rw [stableP _ (by rw [List.length_map];omega),ob_]
   have hsl:fA (nD cP ((dts B pre.length (x::g)).map gP)) ((dts B pre.length (x::g)).map gP)=some ():=by unfold fA;rw [if_pos (yw _ _)]
   rw [hsl,ob_,SH gP (c:=cD) (λa b=>rfl)]
  have Z:nD cD (dts B pre.length (x::g))=nD (c2 L) (dts B pre.length (x::g)):=NR _ (λa J b hb=>by
   unfold cD c2
   rw [(M a J).2,(M b hb).2,Q4];rfl)
  have hsp:nD (c2 L) (dts B 0 (pre++(x::g)))=nD (c2 L) (dts B 0 pre)++nD (c2 L) (dts B pre.length (x::g)):=by
   rw [Pz,Nat.zero_add]
   refine Su _ _ _ (λv hv a J => ?_)
   have hl:lt (yL L a).Player (yL L v).Player:=by
    rw [(M v hv).2]
    exact A _ (hV0 a J).2 x (by simp)
   have hc:Av (yL L v).Player (yL L a).Player=1:=by
    rcases jM (yL L v).Player (yL L a).Player with⟨h1,_⟩|⟨h1,_⟩|⟨_,h2⟩
    ·exact absurd (lt_trans hl h1) (fq _)
    ·rw [h1]at hl;exact absurd hl (fq _)
    ·exact h2
   unfold c2 zW
   rw [hc]
   show ¬(1:Int)<0
   omega
  have T:fnd B L (pre++(x::g))=((sZ L (fnd B L pre).1 (nD (c2 L) (dts B pre.length (x::g)))).1,(fnd B L pre).2++(sZ L (fnd B L pre).1 (nD (c2 L) (dts B pre.length (x::g)))).2):=by
   unfold fnd
   rw [hsp,GG]
  obtain ⟨hg1,hg2⟩:=Er (L:=L) (nD (c2 L) (dts B 0 pre)) [] (λd O=>(hV0 d ((Gv _ _ _).1 O)).1) (λq hq=>by cases hq)
  have hend:Ja (fnd B L pre).1 x.Player=0:=by
   unfold Ja
   cases hq:(fnd B L pre).1.getLast? with
   | none=>rfl
   | some q =>
    simp only
    have hne:¬q.Player=x.Player:=λeq=>by
     rcases hg2 q (List.mem_of_getLast? hq)with h|⟨d,O,h⟩
     ·cases h
     ·have:=A _ (hV0 d ((Gv _ _ _).1 O)).2 x (by simp)
      rw [<- h,eq]at this
      exact fq _ this
    rw [decide_eq_false hne];rfl
  have hrl:=D5 (L:=L) (nD (c2 L) (dts B 0 pre)) []
  have hslen:=yw (c2 L) (dts B 0 pre)
  have hslen2:=yw (c2 L) (dts B pre.length (x::g))
  have hFl:=hF.length_eq
  simp only [List.length_append,List.length_nil]at hFl hrl
  have hFl':(fnd B L pre).1.length+(fnd B L pre).2.length=0+(nD (c2 L) (dts B 0 pre)).length:=hrl
  have R:=Ea (L:=L) (p:=x.Player) (nD (c2 L) (dts B pre.length (x::g))) 0 (F++lfs B pre.length (x::g)) (fnd B L pre).1 (λd O=>M d ((Gv _ _ _).1 O)) hg1 (by simp only [List.length_append];omega)
  rw [hend]at R
  have happ:kr F (lfs B pre.length (x::g))=some (F++lfs B pre.length (x::g)):=gM _ _ (by omega)
  have hc:decide ((pre.length:Int)<(L.length:Int))=true:=decide_eq_true (by rw [hlen];simp;omega)
  have hstep:jQ L B ((fnd B L pre).1,F,(pre.length:Int))=some (.go ((fnd B L (pre++(x::g))).1,F++lfs B pre.length (x::g)++(sZ L (fnd B L pre).1 (nD (c2 L) (dts B pre.length (x::g)))).2,(((pre++(x::g)).length:Nat):Int))):=by
   unfold jQ
   simp only [hc,cond_true]
   rw [hsc,ob_,jf,o,ob_,happ,ob_,Z]
   simp only
   rw [jX (by rw [List.length_map];omega),R,ob_,jf,T,List.length_append]
  obtain ⟨n,F',h1,h2⟩:=Ie hB hL m (pre++(x::g)) post (F++lfs B pre.length (x::g)++(sZ L (fnd B L pre).1 (nD (c2 L) (dts B pre.length (x::g)))).2) (by simp at hm;omega) (by rw [e3];simp) (λa J b hb=>by
   rcases List.mem_append.1 J with J|J
   ·exact A a J b (by simp [hb])
   ·rw [I a J];exact g2 b hb) (by
   rw [T,Qc,Nat.zero_add]
   simp only
   have h1:(F++lfs B pre.length (x::g)).Perm (lfs B 0 pre++lfs B pre.length (x::g)++(fnd B L pre).2):=by
    refine (hF.append_right _).trans ?_
    rw [List.append_assoc,List.append_assoc]
    exact List.Perm.append_left _ List.perm_append_comm
   refine (h1.append_right _).trans ?_
   rw [List.append_assoc (lfs B 0 pre++lfs B pre.length (x::g))])
  exact⟨n+1,F',by rw [iterN,hstep];exact h1,h2⟩
theorem P9 {α σ ρ:Type} {body:Nat->α->σ->Option (Ctl σ ρ)} (I:Nat->σ->Prop) (xs:List α):∀(l:List α) (k:Nat) (s:σ),xs.drop k=l->k<=xs.length->(∀k x s,xs[k]? = some x->I k s->∃f,body k x s=some (.go f)/\I (k+1) f)->I k s->∃f,forR body l k s=some (.go f)/\I xs.length f
 | [],k,s,j,J,h,hi=>by
  have:=List.drop_eq_nil_iff.1 j
  obtain rfl:k=xs.length:=by omega
  exact⟨s,rfl,hi⟩
 | x::l,k,s,j,J,h,hi=>by
  obtain ⟨F,h1,h2⟩:=h k x s (yA j) hi
  obtain ⟨B,o,A⟩:=P9 I xs l (k+1) F (aX j) (by have:=Gl j;omega) h h2
  exact⟨B,by rw [forR,h1,ob_];exact o,A⟩
theorem qA {α σ ρ:Type} {body:Nat->α->σ->Option (Ctl σ ρ)} (I:Nat->σ->Prop) {xs:List α} {s:σ} (hl:xs.length<=1000000000000) (h:∀k x s,xs[k]? = some x->I k s->∃f,body k x s=some (.go f)/\I (k+1) f) (j:I 0 s):∃f,forL xs s body=some (.go f)/\I xs.length f:=by
 rw [jX hl]
 exact P9 I xs xs 0 s rfl (Nat.zero_le _) h j
theorem lt_lit {a b:ByteArray} (h:sLt a b=true):lt a b:=(sLt_iff a b).1 h
theorem LK {α:Type} {stp:Option α->α->Int}:∀{l:List α} {p:Option α},(∀x,l.head? = some x->stp p x=0)->l.Pairwise (λa b=>stp (some a) b=0)->xH stp p l=0
 | [],_,_,_=>rfl
 | x::l,p,h,o=>by
  obtain ⟨f,j⟩:=List.pairwise_cons.1 o
  rw [xH,h x rfl]
  show xH stp (some x) l=0
  exact LK (λy A=>f y (List.mem_of_head? A)) j
def paS:ByteArray:=⟨#[112,97]⟩
def pbS:ByteArray:=⟨#[112,98]⟩
def iaS:ByteArray:=⟨#[105,97]⟩
def ibS:ByteArray:=⟨#[105,98]⟩
theorem Gb:lt paS pbS:=by
 unfold lt paS pbS
 rw [toL,toL]
 decide
theorem keys4:xn paS=true/\xn pbS=true/\xn iaS=true/\xn ibS=true:=⟨by kernel_rfl,by kernel_rfl,by kernel_rfl,by kernel_rfl⟩
theorem MF {α:Type} {R:α->α->Prop} {l:List α} {x:α} (h:l.Pairwise R) (f:∀y∈l,R y x):(l++[x]).Pairwise R :=
 List.pairwise_append.2 ⟨h,List.pairwise_singleton _ _,λa j b hb=>by rw [List.mem_singleton.1 hb];exact f a j⟩
def Aj (x:Log_):Prop:=(x.Player=paS\/x.Player=pbS)/\(x.Item=iaS\/x.Item=ibS)/\(1<=x.No/\x.No<=1000)/\(0<=x.Clock/\x.Clock<=10000)/\(1<=x.Long/\x.Long<=1000)/\ug x.Sum=true/\ShortK x.Sum
def I7 (a b:Log_):Prop:=lt a.Player b.Player\/a.Player=b.Player/\a.No<b.No
theorem EQ {x:Log_} (h:Aj x):wR x:=by
 obtain ⟨h1,h2,B,o,A,j,f⟩:=h
 refine⟨?_,?_,f,by unfold Med;omega,by unfold Med;omega,by unfold Med;omega⟩
 ·rcases h1 with e|e <;> rw [e] <;> exact oW rfl
 ·rcases h2 with e|e <;> rw [e] <;> exact oW rfl
theorem Ox {x:Log_} (h:Aj x):xn x.Player=true/\xn x.Item=true:=by
 obtain ⟨A,o,f,j⟩:=keys4
 obtain ⟨h1,h2,_⟩:=h
 refine⟨?_,?_⟩
 ·rcases h1 with e|e <;> rw [e] <;> assumption
 ·rcases h2 with e|e <;> rw [e] <;> assumption
theorem NJ {x:Log_} (h:Aj x):vU x=0:=by
 obtain ⟨j,f⟩:=Ox h
 obtain ⟨h1,h2,I,A,F,o,B⟩:=h
 unfold vU
 rw [j,f,rJ (by omega),rJ (by omega),rJ (by omega)];rfl
theorem Ny {a b:Log_} (h:I7 a b):cmpL a b<0:=by
 unfold cmpL zW
 rcases h with h|⟨h1,h2⟩
 ·rcases jM a.Player b.Player with⟨_,e⟩|⟨e,_⟩|⟨e,_⟩
  ·rw [e];show (-1:Int)<0;omega
  ·rw [e]at h;exact absurd h (fq _)
  ·exact absurd (lt_trans h e) (fq _)
 ·rcases jM a.Player b.Player with⟨e,_⟩|⟨_,e⟩|⟨e,_⟩
  ·rw [h1]at e;exact absurd e (fq _)
  ·rw [e]
   show uz a.No b.No<0
   unfold uz
   rw [if_pos h2];decide
  ·rw [h1]at e;exact absurd e (fq _)
theorem QT {l:List Log_} (h:∀x∈l,Aj x) (B:l.Pairwise I7) (hl:l.length<=1000):EP l=0:=by
 unfold EP
 rw [decide_eq_false (by omega),cond_false]
 have key:∀x∈l,∀p:Option Log_,(∀o,p=some o->I7 o x)->Ml p x=0:=λx f p F=>by
  have A:=(h x f).2.2.2.2.2.1
  unfold Ml
  rw [NJ (h x f),A]
  cases p with
  | none=>rfl
  | some o =>
   have:=Ny (F o rfl)
   simp only [bne_self_eq_false,cond_false,Bool.not_true]
   rw [decide_eq_false (by omega)];rfl
 refine LK (λx f=>key x (List.mem_of_head? f) none (λo ho=>by cases ho)) ?_
 exact List.Pairwise.imp_of_mem (λ{a b} I hb j=>key b hb (some a) (λo ho=>by cases ho;exact j)) B
theorem FI (s:Stream) (most:Int) (hm:0<=most/\most<=7) {b:Int} (hs:Ok s b) (hb:b<=700000):∃r,jq s most=some r/\(Ok r.2 (b+300)/\r.1.length<=2*most.toNat/\(∀x∈r.1,Aj x)/\r.1.Pairwise I7):=by
 unfold jq
 obtain ⟨s',h1,h2,h3,h4,h5,h6⟩:=qA (body:=λk x s=>gD most k x s) (λk s=>Ok ⟨s.2.1,s.2.2⟩ (b+150*k)/\s.1.length<=most.toNat*k/\(∀x∈s.1,Aj x)/\s.1.Pairwise I7/\(∀y∈s.1,k≠0/\(k=1->y.Player=paS)))
  (xs:=[(⟨#[112,97]⟩:ByteArray),(⟨#[112,98]⟩:ByteArray)]) (s:=(([]:List Log_),s.L,s.f_at)) (by simp) (λk x t o ⟨i1,i2,i3,i4,i5⟩=>by
   have hk2:k<2:=by
    have:=(List.getElem?_eq_some_iff.1 o).1
    exact this
   have R:(k=0/\x=paS)\/(k=1/\x=pbS):=by
    have:k=0\/k=1:=by omega
    rcases this with rfl|rfl
    ·rw [List.getElem?_cons_zero,so_]at o;exact .inl ⟨rfl,o.symm⟩
    ·rw [List.getElem?_cons_succ,List.getElem?_cons_zero,so_]at o;exact .inr ⟨rfl,o.symm⟩
   have J:x=paS\/x=pbS:=R.imp And.right And.right
   have Y:∀y∈t.1,lt y.Player x:=λy f=>by
    obtain ⟨O,n2⟩:=i5 y f
    rcases R with⟨e,_⟩|⟨e,e2⟩
    ·exact absurd e O
    ·rw [n2 e,e2];exact Gb
   obtain ⟨a,a1,a2,a3⟩:=NP _ [0,50,1000] i1 (by omega) (by simp) (by simp)
   have ha:0<=a.1/\a.1<=1000:=by
    simp only [List.mem_cons,List.not_mem_nil,or_false]at a2
    rcases a2 with h|h|h <;> omega
   obtain ⟨n,O,n2,n3,n4⟩:=range_w a.2 0 most a3 (by omega) hm.1 (by omega) (by omega)
   obtain ⟨u,m1,m2,m3,m4,m5,m6,m7,m8⟩:=Ib (body:=λk y s=>jh x k y s) (λj s=>Ok ⟨s.2.2.2.1,s.2.2.2.2⟩ (b+150*k+2+4*j)/\ShortK s.2.1/\(0<=s.2.2.1/\s.2.2.1<=1000+100*j)/\s.1.length<=most.toNat*k+j/\(∀x∈s.1,Aj x)/\s.1.Pairwise I7/\(∀y∈s.1,lt y.Player x\/y.Player=x/\y.No<=j))
    (xs:=List.range n.1.toNat) (s:=(t.1,(⟨#[]⟩:ByteArray),a.1,n.2.L,n.2.f_at)) (by simp;omega) (λj y v _ hj ⟨j1,j2,j3,j4,Z,j6,N⟩=>by
     have hj3:j<7:=by rw [List.length_range]at hj;omega
     have hmk:most.toNat*k<=7*2:=Nat.mul_le_mul (by omega) (by omega)
     obtain ⟨p,p1,p2,p3⟩:=some_w _ [(⟨#[105,97]⟩:ByteArray),(⟨#[105,98]⟩:ByteArray)] j1 (by omega) (by simp) (by simp)
     have M:p.1=iaS\/p.1=ibS:=by
      simp only [List.mem_cons,List.not_mem_nil,or_false]at p2
      exact p2
     obtain ⟨q,q1,q2,q3⟩:=NP p.2 [1,10,30,100] p3 (by omega) (by simp) (by simp)
     have hq:1<=q.1/\q.1<=100:=by
      simp only [List.mem_cons,List.not_mem_nil,or_false]at q2
      rcases q2 with h|h|h|h <;> omega
     have T:w64 ((j:Int)+1)=(j:Int)+1:=dh (by omega)
     have hg:∀S:ByteArray,ug S=true->ShortK S->Aj (⟨x,p.1,w64 ((j:Int)+1),v.2.2.1,q.1,S⟩:Log_):=λS s1 s2=>⟨J,M,by rw [T];show 1<=(j:Int)+1/\(j:Int)+1<=1000;omega,by show 0<=v.2.2.1/\v.2.2.1<=10000;omega,by show 1<=q.1/\q.1<=1000;omega,s1,s2⟩
     have W:wR (⟨x,p.1,w64 ((j:Int)+1),v.2.2.1,q.1,(⟨#[]⟩:ByteArray)⟩:Log_):=by
      obtain ⟨g1,g2,_,g4,g5,g6⟩:=EQ (hg (mk []) (Qp _) (wy _))
      exact⟨g1,g2,oW rfl,g4,g5,g6⟩
     obtain ⟨r,r1,r2,r3⟩:=NP q.2 [0,5,10,50,100] q3 (by omega) (by simp) (by simp)
     have hr:0<=r.1/\r.1<=100:=by
      simp only [List.mem_cons,List.not_mem_nil,or_false]at r2
      rcases r2 with h|h|h|h|h <;> omega
     obtain ⟨c,c1,c2⟩:=flip_w r.2 6 r3 (by omega) (by decide) (by decide)
     have I:=RS v.2.1 j2 W
     have F:w64 (v.2.2.1+r.1)=v.2.2.1+r.1:=dh (by omega)
     simp only [jh,p1,q1,I,r1,c1,ob_]
     cases c.1 with
     | true =>
      simp only [Bool.not_true,cond_false,ob_]
      refine⟨_,rfl,c2.mono (by omega),wy _,by show 0<=w64 (v.2.2.1+r.1)/\w64 (v.2.2.1+r.1)<=_;rw [F];omega,by show v.1.length<=_;omega,Z,j6,λy f => ?_⟩
      rcases N y f with h|⟨h,k⟩
      ·exact .inl h
      ·exact .inr ⟨h,by omega⟩
     | false =>
      simp only [Bool.not_false,cond_true]
      rw [gM v.1 [_] (by simp;omega)]
      simp only [ob_]
      refine⟨_,rfl,c2.mono (by omega),wy _,by show 0<=w64 (v.2.2.1+r.1)/\w64 (v.2.2.1+r.1)<=_;rw [F];omega,by simp;omega,λz B => ?_,MF j6 (λy f => ?_),λy f => ?_⟩
      ·rcases List.mem_append.1 B with B|B
       ·exact Z z B
       ·rw [List.mem_singleton.1 B];exact hg _ (Qp _) (wy _)
      ·rcases N y f with h|⟨h,k⟩
       ·exact .inl h
       ·refine .inr ⟨h,?_⟩
        show y.No<w64 ((j:Int)+1)
        rw [T];omega
      ·rcases List.mem_append.1 f with f|f
       ·rcases N y f with h|⟨h,k⟩
        ·exact .inl h
        ·exact .inr ⟨h,by omega⟩
       ·rw [List.mem_singleton.1 f]
        refine .inr ⟨rfl,?_⟩
        show w64 ((j:Int)+1)<=_
        rw [T];omega) ⟨n4.mono (by omega),oW rfl,by simpa using ha,by simpa using i2,i3,i4,λy f => .inl (Y y f)⟩
   have A:gD most k x t=some (.go (u.1,u.2.2.2.1,u.2.2.2.2)):=by
    unfold gD
    rw [a1];simp only [ob_]
    rw [O];simp only [ob_]
    rw [m1];rfl
   have hl:(List.range n.1.toNat).length<=most.toNat:=by rw [List.length_range];omega
   refine⟨_,A,m2.mono (by omega),?_,m6,m7,λy f=>⟨by omega,λe => ?_⟩⟩
   ·show u.1.length<=most.toNat*(k+1)
    rw [Nat.mul_succ];omega
   ·rcases R with⟨e0,e1⟩|⟨e0,_⟩
    ·rcases m8 y f with h|⟨h,_⟩
     ·have:=(m6 y f).1
      rw [e1]at h
      rcases this with q|q
      ·rw [q]at h;exact absurd h (fq _)
      ·rw [q]at h;exact absurd (lt_trans h Gb) (fq _)
     ·rw [h,e1]
    ·omega) ⟨by simpa using hs,by simp,by simp,.nil,by simp⟩
 rw [h1]
 refine mr ⟨h2.mono (by simp),?_,h4,h5⟩
 show s'.1.length<=_
 have:s'.1.length<=most.toNat*2:=h3
 omega
def Hg (x:Beat):Prop:=(x.Player=paS\/x.Player=pbS)/\(0<=x.At/\x.At<=100000000000)/\(0<=x.Clock/\x.Clock<=100000000000)
def RelB (a b:Beat):Prop:=lt a.Player b.Player\/a.Player=b.Player/\a.At<b.At/\a.Clock<b.Clock
theorem Eo (s:Stream) {b:Int} (hs:Ok s b) (hb:b<=800000):∃xs A,iV s=some (xs,A)/\Ok A (b+100)/\xs.length<=6/\(∀x∈xs,Hg x)/\xs.Pairwise RelB:=by
 unfold iV
 obtain ⟨A,h1,h2,h3,h4,h5,h6⟩:=qA (body:=λk x s=>iZ k x s) (λk s=>Ok ⟨s.2.1,s.2.2⟩ (b+20*k)/\s.1.length<=3*k/\(∀x∈s.1,Hg x)/\s.1.Pairwise RelB/\(∀y∈s.1,k≠0/\(k=1->y.Player=paS)))
  (xs:=[(⟨#[112,97]⟩:ByteArray),(⟨#[112,98]⟩:ByteArray)]) (s:=(([]:List Beat),s.L,s.f_at)) (by simp) (λk x t o ⟨i1,i2,i3,i4,i5⟩=>by
   have hk2:k<2:=(List.getElem?_eq_some_iff.1 o).1
   have I:(k=0/\x=paS)\/(k=1/\x=pbS):=by
    have:k=0\/k=1:=by omega
    rcases this with rfl|rfl
    ·rw [List.getElem?_cons_zero,so_]at o;exact .inl ⟨rfl,o.symm⟩
    ·rw [List.getElem?_cons_succ,List.getElem?_cons_zero,so_]at o;exact .inr ⟨rfl,o.symm⟩
   have F:x=paS\/x=pbS:=I.imp And.right And.right
   have J:∀y∈t.1,lt y.Player x:=λy B=>by
    obtain ⟨O,n2⟩:=i5 y B
    rcases I with⟨e,_⟩|⟨e,e2⟩
    ·exact absurd e O
    ·rw [n2 e,e2];exact Gb
   obtain ⟨a,s1,a1,a0,a9,a2⟩:=wB _ 0 100 i1 (by omega) (by decide) (by decide) (by decide)
   obtain ⟨c,s2,a3,c0,c9,a4⟩:=wB s1 0 100 a2 (by omega) (by decide) (by decide) (by decide)
   obtain ⟨n,W,a5,O,n2,a6⟩:=wB s2 0 3 a4 (by omega) (by decide) (by decide) (by decide)
   obtain ⟨u,m1,m2,m3,m4,m5,Z,m7,m8⟩:=Ib (body:=λk y s=>ja x k y s) (λj s=>Ok ⟨s.2.2.2.1,s.2.2.2.2⟩ (b+20*k+3+2*j)/\s.1.length<=3*k+j/\(0<=s.2.1/\s.2.1<=100+2678400000*j)/\(0<=s.2.2.1/\s.2.2.1<=100+2678400000*j)/\(∀x∈s.1,Hg x)/\s.1.Pairwise RelB/\(∀y∈s.1,lt y.Player x\/y.Player=x/\y.At<s.2.1/\y.Clock<s.2.2.1))
    (xs:=List.range n.toNat) (s:=(t.1,a,c,W.L,W.f_at)) (by simp;omega) (λj y v _ hj ⟨j1,j2,j3,j4,j5,j6,N⟩=>by
     have hj3:j<3:=by rw [List.length_range]at hj;omega
     obtain ⟨p,s4,p1,M,p2⟩:=Bq _ [1,50,100,1000,2678400000] j1 (by omega) (by simp) (by simp)
     obtain ⟨q,s5,q1,R,q2⟩:=Bq s4 [1,40,100,1300,2592000000] p2 (by omega) (by simp) (by simp)
     have hp:1<=p/\p<=2678400000:=by
      simp only [List.mem_cons,List.not_mem_nil,or_false]at M
      rcases M with h|h|h|h|h <;> omega
     have hq:1<=q/\q<=2592000000:=by
      simp only [List.mem_cons,List.not_mem_nil,or_false]at R
      rcases R with h|h|h|h|h <;> omega
     simp only [ja,gM v.1 [_] (show v.1.length+[_].length<=_ by simp;omega),p1,q1,ob_]
     have Y:w64 (v.2.1+p)=v.2.1+p:=dh (by omega)
     have T:w64 (v.2.2.1+q)=v.2.2.1+q:=dh (by omega)
     refine⟨_,rfl,q2.mono (by omega),by simp;omega,?_,?_,λz f => ?_,MF j6 N,λz f => ?_⟩
     ·show 0<=w64 (v.2.1+p)/\w64 (v.2.1+p)<=_
      rw [Y];omega
     ·show 0<=w64 (v.2.2.1+q)/\w64 (v.2.2.1+q)<=_
      rw [T];omega
     ·rcases List.mem_append.1 f with f|f
      ·exact j5 z f
      ·rw [List.mem_singleton.1 f]
       exact⟨F,by show 0<=v.2.1/\v.2.1<=_;omega,by show 0<=v.2.2.1/\v.2.2.1<=_;omega⟩
     ·show lt z.Player x\/z.Player=x/\z.At<w64 (v.2.1+p)/\z.Clock<w64 (v.2.2.1+q)
      rw [Y,T]
      rcases List.mem_append.1 f with f|f
      ·rcases N z f with h|⟨h,k1,k2⟩
       ·exact .inl h
       ·exact .inr ⟨h,by omega,by omega⟩
      ·rw [List.mem_singleton.1 f]
       exact .inr ⟨rfl,by show v.2.1<_;omega,by show v.2.2.1<_;omega⟩) ⟨a6.mono (by omega),by simpa using i2,by simp only [];omega,by simp only [];omega,i3,i4,λy B => .inl (J y B)⟩
   simp only [iZ,a1,a3,a5,m1,ob_,jf]
   rw [List.length_range]at m2 m3
   refine⟨_,rfl,m2.mono (by omega),by show u.1.length<=3*(k+1);omega,Z,m7,λy B=>⟨by omega,λe => ?_⟩⟩
   rcases I with⟨e0,e1⟩|⟨e0,_⟩
   ·rcases m8 y B with h|⟨h,_⟩
    ·have:=(Z y B).1
     rw [e1]at h
     rcases this with q|q
     ·rw [q]at h;exact absurd h (fq _)
     ·rw [q]at h;exact absurd (lt_trans h Gb) (fq _)
    ·rw [h,e1]
   ·omega) ⟨by simpa using hs,by simp,by simp,.nil,by simp⟩
 rw [h1]
 exact⟨A.1,⟨A.2.1,A.2.2⟩,rfl,h2.mono (by simp),h3,h4,h5⟩
theorem M9 {x:Beat} (h:Hg x):GoodB x:=by
 rcases h.1 with e|e
 ·show ShortK x.Player;rw [e];exact oW rfl
 ·show ShortK x.Player;rw [e];exact oW rfl
theorem OI {l:List Beat} (h:∀x∈l,Hg x) (M:l.Pairwise RelB) (hl:l.length<=500):Ew l=0:=by
 unfold Ew
 rw [decide_eq_false (by omega),cond_false]
 have key:∀x∈l,∀p:Option Beat,(∀o,p=some o->RelB o x)->M0 p x=0:=λx j p f=>by
  obtain ⟨h1,h2,R⟩:=h x j
  have N:xn x.Player=true:=by
   obtain ⟨W,Z,_⟩:=keys4
   rcases h1 with e|e <;> rw [e] <;> assumption
  have I:momB x.At=true:=by unfold momB;rw [rJ (by omega)];rfl
  have O:momB x.Clock=true:=by unfold momB;rw [rJ (by omega)];rfl
  unfold M0
  rw [N,I,O]
  cases p with
  | none=>rfl
  | some o =>
   have f:=f o rfl
   simp only [Bool.not_true,cond_false,Bool.or_self]
   have hb:nz o x:=by
    unfold nz
    rcases f with q|⟨F,B,J⟩
    ·exact .inl q
    ·exact .inr ⟨F,B⟩
   rw [if_pos hb,if_neg (fun⟨L,Y⟩=>by
    rcases f with q|⟨F,B,J⟩
    ·rw [L]at q;exact fq _ q
    ·omega)]
 refine LK (λx j=>key x (List.mem_of_head? j) none (λo ho=>by cases ho)) ?_
 exact List.Pairwise.imp_of_mem (λ{a b} T hb A=>key b hb (some a) (λo ho=>by cases ho;exact A)) M
theorem Oa {B:List Beat} (A:BOk B) {L:List Log_} (h:LOk L) (R:dW L=some 0) (hb:gH B=some 0) :
  ∃F,tV L B=some ((fnd B L L).1,F,0)/\(fnd B L L).1.length+F.length=L.length:=by
 have few:=h.few
 obtain ⟨n,T,h1,h2⟩:=Ie A h L.length [] L [] (Nat.le_refl _) rfl (λa J=>by cases J) (List.Perm.refl _)
 have h1:iterN (λs=>jQ L B s) n (([]:List Play),([]:List Int),0)=_:=h1
 have N:=LG B L 0
 have f:=D5 (L:=L) (nD (c2 L) (dts B 0 L)) []
 have I:=yw (c2 L) (dts B 0 L)
 have O:=h2.length_eq
 simp only [List.length_append,List.length_nil]at O f
 have j:(fnd B L L).1.length+(fnd B L L).2.length=0+(nD (c2 L) (dts B 0 L)).length:=f
 obtain ⟨s,M,W,o⟩:=Rs h2 (by omega)
 refine⟨s,?_,by omega⟩
 unfold tV
 rw [R,hb]
 show (dS _ _).bind _=_
 rw [dB h1,ob_,jf]
 simp only
 rw [M,ob_]
 unfold fA;rw [if_pos o];rfl
theorem PI {α:Type} (c:α->α->Int):∀(Q R:List α),(∀v∈Q,∀u∈R,¬c v u<0)->Q.Pairwise (λa b=>¬c b a<0)->vK c R Q=Q.reverse++R
 | [],R,_,_=>rfl
 | v::Q,R,h,B=>by
  obtain ⟨o,A⟩:=List.pairwise_cons.1 B
  have hi:iq c v R=v::R:=by
   cases R with
   | nil=>rfl
   | cons u R =>
    show (bif decide (c v u<0)then u::iq c v R else v::u::R)=_
    rw [decide_eq_false (h v (by simp) u (by simp))];rfl
  show vK c (iq c v R) Q=_
  rw [hi,PI c Q (v::R) (λw j u f=>by
   rcases List.mem_cons.1 f with rfl|f
   ·exact o w j
   ·exact h w (List.mem_cons_of_mem _ j) u f) A]
  simp
theorem srtS_id {α:Type} (c:α->α->Int) (l:List α) (f:l.Pairwise (λa b=>¬c b a<0)):nD c l=l:=by
 unfold nD
 rw [PI c l [] (λ_ _ _ h=>by cases h) f];simp
def eqvL (a b:Log_):Bool:=(a.Player.toList==b.Player.toList)&&((a.Item.toList==b.Item.toList)&&((a.No==b.No)&&((a.Clock==b.Clock)&&((a.Long==b.Long)&&((a.Sum.toList==b.Sum.toList)&&true)))))
theorem RG (a b:Log_):eqvL a b=true↔a=b:=by
 obtain ⟨I,a2,a3,a4,a5,j⟩:=a
 obtain ⟨J,F,B,f,o,A⟩:=b
 unfold eqvL
 simp only [Bool.and_eq_true,beq_iff_eq,Bool.and_true,Log_.mk.injEq]
 have k:∀x y:ByteArray,x.toList=y.toList↔x=y:=λx y=>⟨λh=>Bn h,λh=>by rw [h]⟩
 rw [k,k,k]
theorem OZ (a b:List Log_) (L:a.length<=1000) (hb:b.length<=1000):dQ [a,b]=some (a++b):=by
 unfold dQ
 have F:forL [a,b] 0 (λk x s=>bL k x s)=some (.go (((a.length+b.length:Nat)):Int)):=by
  rw [jX (by simp)]
  have j:∀k,bL k a 0=some (.go (a.length:Int)):=λk=>by
   unfold bL
   rw [dh (by omega),decide_eq_false (by omega),cond_false,ob_,Int.zero_add]
  have f:∀k,bL k b (a.length:Int)=some (.go ((a.length+b.length:Nat):Int)):=λk=>by
   unfold bL
   rw [dh (by omega),decide_eq_false (by omega),cond_false,ob_]
   congr 2
  simp only [forR,j,f,ob_]
 have A:forL [a,b] ([]:List Log_) (λk x s=>bK k x s)=some (.go (a++b)):=by
  rw [jX (by simp)]
  have j:∀k,bK k a []=some (.go a):=λk=>by
   unfold bK
   rw [gM _ _ (by simp;omega)];rfl
  have f:∀k,bK k b a=some (.go (a++b)):=λk=>by
   unfold bK
   rw [gM _ _ (by omega)];rfl
  simp only [forR,j,f,ob_]
 have o:w64 (0-0)=0:=rfl
 have I:∃g,eP (((a.length+b.length:Nat)):Int)=some g/\(a++b=[]->g=false):=by
  unfold eP
  rw [o,dh (n:=((a.length+b.length:Nat):Int)-0) (by omega),decide_eq_false (by omega),cond_false]
  by_cases hz:a.length+b.length=0
  ·rw [decide_eq_false (by omega),cond_false]
   exact⟨_,rfl,λ_=>rfl⟩
  ·rw [decide_eq_true (by omega),cond_true]
   have h:zN (((a.length+b.length:Nat):Int)-0) 72=some ():=by unfold zN;rw [if_pos (by omega)]
   rw [h]
   refine⟨_,rfl,λe => ?_⟩
   have:=congrArg List.length e
   rw [List.length_append]at this
   exact absurd this hz
 obtain ⟨g,g1,B⟩:=I
 rw [F,ob_,jf,g1,ob_,A,ob_,jf]
 have J:kE g (a++b)=some ():=by
  cases hab:a++b with
  | nil=>rw [B hab];rfl
  | cons x l=>cases g <;> rfl
 rw [J];rfl
theorem relL_ne {a b:Log_} (h:I7 a b):a≠b:=by
 rintro rfl
 rcases h with h|⟨_,h⟩
 ·exact fq _ h
 ·omega
theorem relL_as {a b:Log_} (h:I7 a b):¬cmpL b a<0:=by
 unfold cmpL zW
 rcases h with h|⟨h1,h2⟩
 ·rcases jM b.Player a.Player with⟨e,_⟩|⟨e,_⟩|⟨_,e⟩
  ·exact absurd (lt_trans h e) (fq _)
  ·rw [e]at h;exact absurd h (fq _)
  ·rw [e];show ¬(1:Int)<0;omega
 ·rcases jM b.Player a.Player with⟨e,_⟩|⟨_,e⟩|⟨e,_⟩
  ·rw [h1]at e;exact absurd e (fq _)
  ·rw [e]
   show ¬uz b.No a.No<0
   unfold uz
   rw [if_neg (by omega)]
   split <;> omega
  ·rw [h1]at e;exact absurd e (fq _)
theorem O3 {l:List Log_} (J:l.Pairwise I7) (hl:l.length<=1000):dF l=some l:=by
 unfold dF
 by_cases h2:(l.length:Int)<2
 ·rw [decide_eq_true h2];rfl
 rw [decide_eq_false h2,cond_false]
 have B:∀(d j:Nat),1<=j->j+d=l.length->iterN (λs=>bJ l s) (d+1) (j:Int)=some (.go (l.length:Int)):=by
  intro d
  induction d with
  | zero =>
   intro j h1 hj
   simp only [iterN,bJ]
   rw [decide_eq_false (by omega),cond_false,ob_]
   simp only []
   rw [show j=l.length by omega]
  | succ d I =>
   intro j h1 hj
   have o:j<l.length:=by omega
   obtain ⟨i,rfl⟩:∃i,j=i+1:=⟨j-1,by omega⟩
   have g1:l[i]? = some (l[i]'(by omega)):=List.getElem?_eq_getElem _
   have L:l[i+1]? = some (l[i+1]'o):=List.getElem?_eq_getElem _
   have M:=List.pairwise_iff_getElem.1 J i (i+1) (by omega) o (by omega)
   have A:eqvL (l[i+1]'o) (l[i]'(by omega))=false:=by
    rw [<- Bool.not_eq_true]
    exact λe=>relL_ne M ((RG _ _).1 e).symm
   have F:w64 (((i+1:Nat):Int)-1)=(i:Int):=by rw [dh (by omega)];omega
   have N:w64 (((i+1:Nat):Int)+1)=((i+1+1:Nat):Int):=by rw [dh (by omega)];omega
   have h:bJ l ((i+1:Nat):Int)=some (.go ((i+1+1:Nat):Int)):=by
    unfold bJ
    rw [decide_eq_true (by omega),cond_true,zx (by omega) (by omega),ob_,show 0+(((i+1:Nat):Int)).toNat=i+1 by omega,L,ob_,F,zx (by omega) (by omega),ob_,show 0+((i:Int)).toNat=i by omega,g1,ob_]
    have f:=A
    unfold eqvL at f
    rw [f,cond_false,N]
   rw [iterN,h,ob_]
   exact I (i+1+1) (by omega) (by omega)
 have:=dB (B (l.length-1) 1 (Nat.le_refl _) (by omega))
 rw [show ((1:Nat):Int)=1 from rfl]at this
 rw [this];rfl
theorem QM {l:List Log_} (J:l.Pairwise I7) (hl:l.length<=19) (hk:dW l=some 0) (W:dW []=some 0):qx l []=some (l,0):=by
 have T:forL (List.range (2:Int).toNat) () (λk x s=>jV l [] k x s)=some (.go ()):=by
  rw [jX (by simp)]
  have Z:∀x,jV l [] 0 x ()=some (.go ()):=λx=>by
   unfold jV
   rw [show idx ([l,[]]:List (List Log_)) ((0:Nat):Int)=some l from rfl,ob_,hk];rfl
  have q1:∀x,jV l [] (0+1) x ()=some (.go ()):=λx=>by
   unfold jV
   rw [show idx ([l,[]]:List (List Log_)) ((0+1:Nat):Int)=some [] from rfl,ob_,W];rfl
  rw [show List.range (2:Int).toNat=[0,1] from rfl]
  simp only [forR,Z,q1,ob_]
 have I:nD cmpL l=l:=srtS_id cmpL l (J.imp (λ{a b} h=>relL_as h))
 have o:bZ l=some l:=by
  unfold bZ
  have h1:fP l (l.length:Int)=Pt gW l (l.length:Int):=rfl
  rw [h1,NI (p:=λ_=>True) (c:=cmpL) (λa b _ _=>wO a b) _ hl (λ_ _=>trivial),ob_,I]
  unfold fA;rw [if_pos rfl];rfl
 have L:∀(d j:Nat),1<=j->j+d=max 1 l.length->iterN (λt=>kS l t) (d+1) (j:Int)=some (.go ((max 1 l.length:Nat):Int)):=by
  intro d
  induction d with
  | zero =>
   intro j h1 hj
   simp only [iterN,kS]
   rw [decide_eq_false (by omega),cond_false,ob_]
   simp only []
   rw [show j=max 1 l.length by omega]
  | succ d O =>
   intro j h1 hj
   have f:j<l.length:=by omega
   obtain ⟨i,rfl⟩:∃i,j=i+1:=⟨j-1,by omega⟩
   have g1:l[i]? = some (l[i]'(by omega)):=List.getElem?_eq_getElem _
   have R:l[i+1]? = some (l[i+1]'f):=List.getElem?_eq_getElem _
   have Y:=List.pairwise_iff_getElem.1 J i (i+1) (by omega) f (by omega)
   have hcm:cmpL (l[i]'(by omega)) (l[i+1]'f)<0:=Ny Y
   have F:(cmpL (l[i]'(by omega)) (l[i+1]'f)==0)=false:=by rw [beq_eq_false_iff_ne];omega
   have N:w64 (((i+1:Nat):Int)-1)=(i:Int):=by rw [dh (by omega)];omega
   have w2:w64 (((i+1:Nat):Int)+1)=((i+1+1:Nat):Int):=by rw [dh (by omega)];omega
   have A:kS l ((i+1:Nat):Int)=some (.go ((i+1+1:Nat):Int)):=by
    unfold kS
    rw [decide_eq_true (by omega),cond_true,N,zx (by omega) (by omega),ob_,show 0+((i:Int)).toNat=i by omega,g1,ob_,zx (by omega) (by omega),ob_,show 0+(((i+1:Nat):Int)).toNat=i+1 by omega,R,ob_,wO,ob_,F,cond_false,w2]
   rw [iterN,A,ob_]
   exact O (i+1+1) (by omega) (by omega)
 have B:=dB (L (max 1 l.length-1) 1 (Nat.le_refl _) (by omega))
 rw [show ((1:Nat):Int)=1 from rfl]at B
 unfold qx
 rw [T,ob_,jf]
 rw [OZ l [] (by omega) (by simp),ob_,List.append_nil,o,ob_]
 have M:fA l l=some ():=by unfold fA;rw [if_pos rfl]
 rw [M,ob_,O3 J (by omega),ob_,O0 (λh=>h),ob_,B,ob_,jf]
 rw [decide_eq_false (by omega)];rfl
structure GoodY (x:Play):Prop where
 pl:ShortK x.Player
 it:ShortK x.Item
 at_ : -2000000000000<=x.At/\x.At<=2000000000000
 lo : -2000000000000<=x.Long/\x.Long<=2000000000000
def befP (a b:Play):Prop:=lt a.Player b.Player\/a.Player=b.Player/\a.At<b.At
def longB (n:Int):Bool:=l7 n 1 86400000
def plE (p:Play):Int:=bif !xn p.Player || !xn p.Item then 5 else bif !momB p.At||longB p.Long then 1 else 0
instance (a b:ByteArray):Decidable (lt a b):=by unfold lt;exact inferInstance
def OO (a b:Play):Bool:=decide (lt a.Player b.Player)||(decide (a.Player=b.Player)&&decide (a.At<b.At))
theorem Sv {a b:Play}:OO a b=true↔befP a b:=by
 unfold OO befP;simp
def UF (o:Option Play) (p:Play):Int:=bif plE p==0 then (match o with | none=>0 | some q=>bif OO q p then 0 else 7)else plE p
def Od (l:List Play):Int:=xH UF none l
theorem FY (a b:Play):∃n,iI a b=some n/\(decide (n>=0)) = !OO a b:=by
 refine⟨_,by simp only [iI,uj,sQ,La,ob_];rfl,?_⟩
 have key:(zW (Av a.Player b.Player) (uz a.At b.At)<0)↔befP a b:=by
  unfold zW uz befP
  rcases jM a.Player b.Player with⟨h,e⟩|⟨h,e⟩|⟨h,e⟩
  ·rw [e];simp [h]
  ·rw [e,h]
   have j:¬lt b.Player b.Player:=fq _
   by_cases h1:a.At<b.At
   ·simp [h1]
   ·by_cases h2:a.At>b.At <;> simp [h1,h2,j]
  ·have j:¬lt a.Player b.Player:=λk=>fq _ (lt_trans h k)
   have f:a.Player≠b.Player:=λk=>by rw [k]at h;exact fq _ h
   rw [e];simp [j,f]
 rw [Bool.eq_iff_iff]
 simp only [decide_eq_true_eq,Bool.not_eq_true',Bool.eq_false_iff,ne_eq,Sv,<- key]
 omega
theorem Og {l:List Play} {k:Nat} {x:Play} {f:Play->Play->Option Int} (j:l[k]? = some x) (hl:l.length<=1000) (A:∀y,y∈l->∃n,f y x=some n/\decide (n>=0) = !OO y x) :
  (bif (decide ((k:Int)>0))then (idx l (w64 ((k:Int)-1))).bind λy=>(f y x).bind λr=>some (decide (r>=0))else some false)=some (match vM l k with | none=>false | some q => !OO q x):=by
 have J:k<l.length:=(List.getElem?_eq_some_iff.1 j).1
 rcases Nat.eq_zero_or_pos k with h|h
 ·subst h
  rw [decide_eq_false (by omega)];rfl
 ·rw [decide_eq_true (by omega),cond_true]
  obtain ⟨y,B,o⟩:=Br j h (by omega)
  obtain ⟨n,I,F⟩:=A y (List.mem_of_getElem? o)
  have e:vM l k=some y:=by unfold vM;rw [if_neg (by omega)];exact o
  rw [B,ob_,I,ob_,F,e]
theorem Cf {l:List Play} (j:∀x∈l,GoodY x) (hl:l.length<=1000):fB l=some (Od l):=by
 unfold fB
 rw [decide_eq_false (show ¬(l.length:Int)>3000 by omega),cond_false,jX (by omega)]
 rw [y7 (stp:=UF) (body:=λk x s=>fC l k x s) l l 0 rfl (λk x f => ?_)]
 ·exact CR _
 ·have A:x∈l:=List.mem_of_getElem? f
  obtain ⟨h,o,_,_⟩:=j x A
  unfold ShortK at h o
  show fC l k x ()=_
  unfold fC
  rw [Og f hl (λy _=>FY y x)]
  simp only [ww _ (show x.Player.size<=1000000000 by omega),ww _ (show x.Item.size<=1000000000 by omega),uu,nk,ob_]
  unfold UF plE longB
  cases xn x.Player <;> cases xn x.Item <;> cases momB x.At <;> cases l7 x.Long 1 86400000 <;> first | rfl | skip
  cases vM l k with
  | none=>rfl
  | some q=>dsimp only;cases OO q x <;> rfl
structure VP (l:List Play):Prop where
 good:∀x∈l,GoodY x
 at_:∀x∈l,0<=x.At/\x.At<=345686399999
 lo:∀x∈l,1<=x.Long/\x.Long<=86400000
 rise:l.Pairwise befP
structure RightP (x:Play):Prop where
 pl:x.Player=paS\/x.Player=pbS
 it:x.Item=iaS\/x.Item=ibS
 at_:0<=x.At/\x.At<=86400290
 lo:1<=x.Long/\x.Long<=20
theorem MO:lt paS pbS:=lt_lit (by kernel_rfl)
theorem Rw (P:ByteArray) (hP:P=paS\/P=pbS) (n:Int) (hn:0<=n/\n<=10) (l0:List Play) (a0:Int) (ha:0<=a0/\a0<=86399990) (s:Stream) {b:Int} (hs:Ok s b) (hb:b<=800000)
  (hr:∀x∈l0,RightP x) (A:l0.Pairwise befP) (o:∀y∈l0,lt y.Player P) (hl:l0.length<=100) :
  ∃l a I,forL (List.range n.toNat) (l0,a0,s.L,s.f_at) (λk x s=>fM P k x s)=some (.go (l,a,I.L,I.f_at))/\(∀x∈l,RightP x)/\l.Pairwise befP/\(∀y∈l,y.Player=P\/lt y.Player P)/\l.length<=l0.length+n.toNat/\Ok I (b+30):=by
 obtain ⟨t,t1,t2,t3,t4,t5,t6,t7,M⟩:=Ib (body:=λk x s=>fM P k x s) (s:=(l0,a0,s.L,s.f_at)) (xs:=List.range n.toNat)
  (λj t=>t.1.length=l0.length+j/\(∀x∈t.1,RightP x)/\t.1.Pairwise befP/\(∀y∈t.1,y.Player=P\/lt y.Player P)/\(∀y∈t.1,y.Player=P->y.At<t.2.1)/\(0<=t.2.1/\t.2.1<=86399990+30*j)/\Ok ⟨t.2.2.1,t.2.2.2⟩ (b+3*j)) (by simp;omega) (λj x t hx hj ⟨i1,i2,i3,i4,i5,i6,i7⟩=>by
  simp only [List.length_range]at hj
  obtain ⟨it,T,Y,c2,c3⟩:=Qx ⟨t.2.2.1,t.2.2.2⟩ [(⟨#[105,97]⟩:ByteArray),(⟨#[105,98]⟩:ByteArray)] i7 (by omega) (by simp) (by simp)
  obtain ⟨J,R,d1,d2,O⟩:=Bq T [1,5,10,20] c3 (by omega) (by simp) (by simp)
  obtain ⟨st,s3,e1,e2,Z⟩:=Bq R [1,5,10,30] O (by omega) (by simp) (by simp)
  have B:1<=J/\J<=20:=by
   simp only [List.mem_cons,List.not_mem_nil,or_false]at d2;omega
  have hst:1<=st/\st<=30:=by
   simp only [List.mem_cons,List.not_mem_nil,or_false]at e2;omega
  have F:it=iaS\/it=ibS:=by
   simp only [List.mem_cons,List.not_mem_nil,or_false]at c2;exact c2
  unfold fM
  simp only [Y,d1,e1,ob_]
  rw [gM _ _ (by simp;omega),ob_,dh (n:=t.2.1+st) (by omega)]
  refine⟨_,rfl,by simp;omega,λy f => ?_,?_,λy f => ?_,λy f W => ?_,by simp only [];omega,Z.mono (by omega)⟩
  ·rcases List.mem_append.1 f with f|f
   ·exact i2 y f
   ·rw [List.mem_singleton.1 f]
    exact⟨hP,F,by show 0<=t.2.1/\t.2.1<=86400290;omega,B⟩
  ·refine List.pairwise_append.2 ⟨i3,List.pairwise_singleton _ _,λy f z N => ?_⟩
   rw [List.mem_singleton.1 N]
   rcases i4 y f with h|h
   ·exact .inr ⟨h,i5 y f h⟩
   ·exact .inl h
  ·rcases List.mem_append.1 f with f|f
   ·exact i4 y f
   ·rw [List.mem_singleton.1 f];exact .inl rfl
  ·show y.At<t.2.1+st
   rcases List.mem_append.1 f with f|f
   ·have:=i5 y f W;omega
   ·rw [List.mem_singleton.1 f];show t.2.1<t.2.1+st;omega)
  ⟨rfl,hr,A,λy f => .inr (o y f),λy f e=>absurd (o y f) (by rw [e];exact fq P),(by show 0<=a0/\a0<=86399990+30*((0:Nat):Int);omega),hs.mono (by omega)⟩
 rw [List.length_range]at t2 t7 M
 exact⟨t.1,t.2.1,⟨t.2.2.1,t.2.2.2⟩,t1,t3,t4,t5,by omega,M.mono (by omega)⟩
theorem Qh (P:ByteArray) (W:P=paS\/P=pbS) (most:Int) (hm:0<=most/\most<=10) (l0:List Play) (s:Stream) {b:Int} (hs:Ok s b) (hb:b<=700000)
  (Z:∀x∈l0,RightP x) (f:l0.Pairwise befP) (h:∀y∈l0,lt y.Player P) (hl:l0.length<=100) (k:Nat) :
  ∃l j,d9 most k P (l0,s.L,s.f_at)=some (.go (l,j.L,j.f_at))/\(∀x∈l,RightP x)/\l.Pairwise befP/\(∀y∈l,y.Player=P\/lt y.Player P)/\l.length<=l0.length+most.toNat/\Ok j (b+40):=by
 obtain ⟨a0,I,M,c2,T⟩:=Bq s [0,5,86399990] hs (by omega) (by simp) (by simp)
 obtain ⟨n,F,R,d2,d3,d4⟩:=wB I 0 most T (by omega) (by omega) (by decide) (by omega)
 have B:0<=a0/\a0<=86399990:=by
  simp only [List.mem_cons,List.not_mem_nil,or_false]at c2;omega
 obtain ⟨l,a,o,Y,e2,N,A,e5,J⟩:=Rw P W n (by omega) l0 a0 B F d4 (by omega) Z f h hl
 refine⟨l,o,?_,e2,N,A,by omega,J.mono (by omega)⟩
 unfold d9
 have O:(⟨s.L,s.f_at⟩:Stream)=s:=rfl
 simp only [O,M,R,Y,ob_,thenC]
structure RPlays (l:List Play):Prop where
 right:∀x∈l,RightP x
 rise:l.Pairwise befP
 len:l.length<=20
theorem NT (most:Int) (I:0<=most/\most<=10) (s:Stream) {b:Int} (hs:Ok s b) (hb:b<=600000):∃l F,iU s most=some (l,F)/\RPlays l/\l.length<=2*most.toNat/\Ok F (b+80):=by
 obtain ⟨j,f,c1,c2,N,c4,o,W⟩:=Qh paS (.inl rfl) most I [] s hs (by omega) (λx O=>by cases O) .nil (λy B=>by cases B) (by simp) 0
 obtain ⟨J,A,M,d2,Y,d4,d5,R⟩:=Qh pbS (.inr rfl) most I j f W (by omega) c2 N (λy B=>by
  rcases c4 y B with h|h
  ·rw [h];exact MO
  ·exact lt_trans h MO) (by simp at o;omega) 1
 refine⟨J,A,?_,⟨d2,Y,by simp at o;omega⟩,by simp at o;omega,R.mono (by omega)⟩
 unfold iU
 rw [jX (by simp)]
 have T:d9 most 0 (⟨#[112,97]⟩:ByteArray) (([]:List Play),s.L,s.f_at)=some (.go (j,f.L,f.f_at)):=c1
 have Z:d9 most (0+1) (⟨#[112,98]⟩:ByteArray) (j,f.L,f.f_at)=some (.go (J,A.L,A.f_at)):=M
 simp only [forR,T,Z,ob_,thenC]
theorem QR {α:Type} {R:α->α->Prop} {l:List α} (h:l.Pairwise R) {i j:Nat} {x y:α} (hi:l[i]? = some x) (hj:l[j]? = some y) (hij:i<j):R x y:=by
 obtain ⟨o,rfl⟩:=List.getElem?_eq_some_iff.1 hi
 obtain ⟨f,rfl⟩:=List.getElem?_eq_some_iff.1 hj
 exact List.pairwise_iff_getElem.1 h i j o f hij
theorem FP {a b:Play} (h:befP a b):∃n,iI a b=some n/\n<0:=by
 refine⟨_,by simp only [iI,uj,sQ,La,ob_];rfl,?_⟩
 unfold zW uz
 rcases h with h|⟨h,k⟩
 ·rcases jM a.Player b.Player with⟨_,e⟩|⟨e,_⟩|⟨e,_⟩
  ·rw [e];simp
  ·rw [e]at h;exact absurd h (fq _)
  ·exact absurd (lt_trans h e) (fq _)
 ·rcases jM a.Player b.Player with⟨e,_⟩|⟨_,e⟩|⟨e,_⟩
  ·rw [h]at e;exact absurd e (fq _)
  ·rw [e];simp [k]
  ·rw [h]at e;exact absurd e (fq _)
theorem Dn {l:List Play} (h:RPlays l):fB l=some 0:=by
 unfold fB
 have h1:=h.len
 rw [decide_eq_false (show ¬(l.length:Int)>3000 by omega),cond_false]
 obtain ⟨u,e,_⟩:=qA (body:=λk x s=>fC l k x s) (λ_ _=>True) (xs:=l) (s:=()) (by omega) (λk x s f _=>by
  refine⟨(),?_,trivial⟩
  have B:x∈l:=List.mem_of_getElem? f
  obtain ⟨J,hi,N,hl⟩:=h.right x B
  have F:ek x.Player=some true:=by
   rcases J with e|e <;> rw [e,ww _ (by decide)] <;> exact congrArg some (by kernel_rfl)
  have M:ek x.Item=some true:=by
   rcases hi with e|e <;> rw [e,ww _ (by decide)] <;> exact congrArg some (by kernel_rfl)
  have A:momB x.At=true:=by unfold momB;rw [rJ (by omega)];rfl
  unfold fC
  simp only [F,M,ob_,Bool.not_true,cond_false,uu,A,nk,rJ (show (1:Int)<=x.Long/\x.Long<=86400000 by omega)]
  rcases Nat.eq_zero_or_pos k with j|j
  ·rw [decide_eq_false (by omega)];rfl
  ·rw [decide_eq_true (by omega),cond_true]
   obtain ⟨y,I,o⟩:=Br f j (by omega)
   obtain ⟨n,L,O⟩:=FP (QR h.rise o f (by omega))
   rw [I,ob_,L,ob_,decide_eq_false (by omega)];rfl) trivial
 rw [e];rfl
end Go.Proofs.YtnfojnnfidnikaeGreatDoor.Law

