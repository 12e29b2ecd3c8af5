/-
  THE PLAIN LAW (part 3).
-/
import Derived.Test.YtnfojnnfidnikaaGreatDoorPl2
import Derived.Test.YtnfojnnfidnikaaGreatDoorEng5
import Derived.Test.YtnfojnnfidnikaaGreatDoorDefs
open Go Go.Eng
namespace Go.Proofs.YtnfojnnfidnikaaGreatDoor.Law
set_option linter.unusedVariables false
set_option linter.unusedSimpArgs false
def gP (d:Dated):Placed:=⟨d.f_i,d.f_at⟩
theorem Ij {B:List Beat} (hB:BOk B) {L:List Log_} {j:Nat} {to:Int} {x:Log_} (hj:L[j]? = some x) (ht:(j:Int)<to) (hx:inM x.Clock) (hjl:j<=1000000) (P:List Placed) (F:List Int) (hl:P.length+F.length<=100000) :
  eD to L (MB B x.Player) (P,F,(j:Int))=some (.go (P++(match atF B x with | some a=>[⟨(j:Int),a⟩] | none=>[]),F++(match atF B x with | some _=>[] | none=>[(j:Int)]),((j+1:Nat):Int))):=by
 obtain ⟨h2,h3⟩:=NR hB x hx
 unfold eD atF
 have hd:decide ((j:Int)<to)=true:=decide_eq_true ht
 have hw:w64 ((j:Int)+1)=((j+1:Nat):Int):=by rw [dR (by omega)];omega
 simp only [hd,cond_true,oM,hj,ob_,h2,hw]
 have aD:∀d:Placed,lH P [d]=some (P++[d]):=λd=>lF _ _ (by simp;omega)
 have aF:∀d:Int,lH F [d]=some (F++[d]):=λd=>lF _ _ (by simp;omega)
 rcases h3 with⟨h0,_⟩|h0|h0|h0
 ·have e0:((plF B x).2==0)=true:=by rw [h0];rfl
  simp only [e0,cond_true,cond_false,ob_,aD,List.append_nil]
 ·have e8:((plF B x).2==8)=true:=by rw [h0];rfl
  have e0:((plF B x).2==0)=false:=by rw [h0];rfl
  simp only [e8,e0,cond_true,cond_false,ob_,aD,List.append_nil]
 ·have e8:((plF B x).2==8)=false:=by rw [h0];rfl
  have e0:((plF B x).2==0)=false:=by rw [h0];rfl
  simp only [e8,e0,cond_true,cond_false,ob_,aF,List.append_nil]
 ·have e8:((plF B x).2==8)=false:=by rw [h0];rfl
  have e0:((plF B x).2==0)=false:=by rw [h0];rfl
  simp only [e8,e0,cond_true,cond_false,ob_,aF,List.append_nil]
theorem AV {B:List Beat} (hB:BOk B) {L post:List Log_} {p:ByteArray} {to:Nat} (hL:L.length<=1000):∀(xs:List Log_) (j:Nat) (P:List Placed) (F:List Int),L.drop j=xs++post->j+xs.length=to->(∀x∈xs,x.Player=p/\inM x.Clock)->P.length+F.length+xs.length<=10000 ->
  iterN (λs=>eD (to:Int) L (MB B p) s) (xs.length+1) (P,F,(j:Int))=some (.go (P++(dts B j xs).map gP,F++lfs B j xs,(to:Int)))
 | [],j,P,F,hd,ht,hx,hl=>by
  have hc:decide ((j:Int)<(to:Int))=false:=decide_eq_false (by simp at ht;omega)
  simp only [List.length_nil,iterN,eD,hc,cond_false,ob_,dts,lfs,List.map_nil,List.append_nil]
  simp at ht;rw [ht]
 | x::xs,j,P,F,hd,ht,hx,hl=>by
  simp only [List.length_cons]at hl ht
  have hg:L[j]? = some x:=tC (by rw [hd];rfl)
  obtain ⟨hp,hc⟩:=hx x (by simp)
  have hjl:=(List.getElem?_eq_some_iff.1 hg).1
  have hs:=Ij hB (to:=(to:Int)) hg (by omega) hc (by omega) P F (by omega)
  rw [hp]at hs
  rw [List.length_cons,iterN,hs,ob_]
  simp only
  rw [AV hB hL xs (j+1) _ _ (show L.drop (j+1)=xs++post from aX (show L.drop j=x::(xs++post) from hd)) (by omega) (λy hy=>hx y (List.mem_cons_of_mem _ hy)) (by cases atF B x <;> simp <;> omega),dts,lfs,List.map_append,List.append_assoc,List.append_assoc]
  cases atF B x <;> rfl
def cP (a b:Placed):Int:=rP a.f_at b.f_at
def cD (a b:Dated):Int:=rP a.f_at b.f_at
def c2 (L:List Log_) (a b:Dated):Int:=vG (vU (yL L a).Player (yL L b).Player) (rP a.f_at b.f_at)
theorem stableP (l:List Placed) (hl:l.length<=19):bu l=some (jX cP l):=by
 unfold bu
 have h1:cZ l (l.length:Int)=NW jH l (l.length:Int):=rfl
 rw [h1,NS (p:=λ_=>True) (c:=cP) (λa b _ _=>by unfold jH cP;rw [qQ];rfl) l hl (λ_ _=>trivial),ob_]
 unfold jS;rw [if_pos (sV cP l)];rfl
theorem MP {a b:List Int} (h:a.Perm b) (hl:a.length<=100000):∃s,bS a=some s/\bS b=some s/\s.length=a.length:=by
 have hlb:b.length=a.length:=h.length_eq.symm
 have hs:∀l:List Int,(l.mergeSort (λx y=>decide (x<=y))).Pairwise (· <= ·):=λl=>by
  have:=List.pairwise_mergeSort (le:=λ(x y:Int)=>decide (x<=y)) (λa b c=>by simp;omega) (λa b=>by simp;omega) l
  exact this.imp (by simp)
 have e:a.mergeSort (λx y=>decide (x<=y))=b.mergeSort (λx y=>decide (x<=y)) :=
  List.Perm.eq_of_pairwise (le:=(· <= ·)) (λa b _ _ h1 h2=>Int.le_antisymm h1 h2) (hs a) (hs b) ((List.mergeSort_perm a _).trans (h.trans (List.mergeSort_perm b _).symm))
 refine⟨a.mergeSort (λx y=>decide (x<=y)),?_,?_,List.length_mergeSort a⟩
 ·unfold bS FB;rw [if_pos (by omega)]
 ·unfold bS FB;rw [if_pos (by omega),e]
theorem Ns {α:Type} (l:List α) (q:α):(l++[q]).getLast? = some q:=by simp
def Ey (pl:List Play) (p:ByteArray):Int:=match pl.getLast? with
 | some q=>bif decide (q.Player=p)then q.At+q.Long else 0
 | none=>0
theorem NQ (pl:List Play) (q:Play) (p:ByteArray) (h:q.Player=p):Ey (pl++[q]) p=q.At+q.Long:=by
 unfold Ey;rw [Ns];simp only [decide_eq_true h,cond_true]
theorem Pk {L:List Log_} (k:Nat) {d:Dated} (hd:VD L d) (F:List Int) (pl:List Play) (hp:∀q∈pl,nL q) (hl:F.length+pl.length<=10000) :
  jJ L k (gP d) (pl,F,Ey pl (yL L d).Player)=some (.go (match stp L pl d with | some q=>(pl++[q],F,q.At+q.Long) | none=>(pl,F++[d.f_i],Ey pl (yL L d).Player))):=by
 have hy:=hd.at
 obtain ⟨h1,h2,h3,h4,h5,h6⟩:=hd
 have key:iw d.f_at (Ey pl (yL L d).Player)=(og L pl d).1/\d.f_at+(yL L d).Long-(og L pl d).1=(og L pl d).2/\(0<=(og L pl d).1/\(og L pl d).1<=345772799999):=by
  have m0:iw d.f_at 0=d.f_at:=by unfold iw;rw [if_neg (by omega)]
  unfold Ey og
  cases hg:pl.getLast? with
  | none=>show iw d.f_at 0=d.f_at/\d.f_at+(yL L d).Long-d.f_at=(yL L d).Long/\(0<=d.f_at/\d.f_at<=345772799999);exact⟨m0,by omega,by omega,by omega⟩
  | some q =>
   obtain ⟨q1,q2,q3,q4⟩:=hp q (List.mem_of_getLast? hg)
   show iw d.f_at (bif decide (q.Player=(yL L d).Player)then q.At+q.Long else 0)=(bif decide (q.Player=(yL L d).Player)&&decide (q.At+q.Long>d.f_at)then (q.At+q.Long,d.f_at+(yL L d).Long-(q.At+q.Long))else (d.f_at,(yL L d).Long)).1 /\
    d.f_at+(yL L d).Long-(bif decide (q.Player=(yL L d).Player)&&decide (q.At+q.Long>d.f_at)then (q.At+q.Long,d.f_at+(yL L d).Long-(q.At+q.Long))else (d.f_at,(yL L d).Long)).1=(bif decide (q.Player=(yL L d).Player)&&decide (q.At+q.Long>d.f_at)then (q.At+q.Long,d.f_at+(yL L d).Long-(q.At+q.Long))else (d.f_at,(yL L d).Long)).2 /\
    (0<=(bif decide (q.Player=(yL L d).Player)&&decide (q.At+q.Long>d.f_at)then (q.At+q.Long,d.f_at+(yL L d).Long-(q.At+q.Long))else (d.f_at,(yL L d).Long)).1/\(bif decide (q.Player=(yL L d).Player)&&decide (q.At+q.Long>d.f_at)then (q.At+q.Long,d.f_at+(yL L d).Long-(q.At+q.Long))else (d.f_at,(yL L d).Long)).1<=345772799999)
   cases hpl:decide (q.Player=(yL L d).Player)with
   | true =>
    cases hgt:decide (q.At+q.Long>d.f_at)with
    | true =>
     have hgt:=of_decide_eq_true hgt
     have m1:iw d.f_at (q.At+q.Long)=q.At+q.Long:=by unfold iw;rw [if_pos hgt]
     show iw d.f_at (q.At+q.Long)=q.At+q.Long/\d.f_at+(yL L d).Long-(q.At+q.Long)=d.f_at+(yL L d).Long-(q.At+q.Long)/\(0<=q.At+q.Long/\q.At+q.Long<=345772799999)
     exact⟨m1,rfl,by omega,by omega⟩
    | false =>
     have hgt:=of_decide_eq_false hgt
     have m1:iw d.f_at (q.At+q.Long)=d.f_at:=by unfold iw;rw [if_neg hgt]
     show iw d.f_at (q.At+q.Long)=d.f_at/\d.f_at+(yL L d).Long-d.f_at=(yL L d).Long/\(0<=d.f_at/\d.f_at<=345772799999)
     exact⟨m1,by omega,by omega,by omega⟩
   | false =>
    show iw d.f_at 0=d.f_at/\d.f_at+(yL L d).Long-d.f_at=(yL L d).Long/\(0<=d.f_at/\d.f_at<=345772799999)
    exact⟨m0,by omega,by omega,by omega⟩
 obtain ⟨k1,k2,k3,k4⟩:=key
 have w2:w64 (d.f_at+(yL L d).Long)=d.f_at+(yL L d).Long:=dR (by omega)
 have w3:w64 (d.f_at+(yL L d).Long-(og L pl d).1)=(og L pl d).2:=by rw [dR (by omega)];exact k2
 have hr:decide ((og L pl d).1>=d.f_at+(yL L d).Long)=decide ((og L pl d).2<=0):=decide_eq_decide.2 (by omega)
 have aF:lH F [d.f_i]=some (F++[d.f_i]):=lF _ _ (by simp;omega)
 have aP:∀q:Play,lH pl [q]=some (pl++[q]):=λq=>lF _ _ (by simp;omega)
 have hend:d.f_at+(yL L d).Long=(og L pl d).1+(og L pl d).2:=by omega
 unfold jJ stp
 simp only [gP,hy,ob_,k1,w2,hr,w3,rT]
 cases h7:decide ((og L pl d).2<=0)with
 | true=>simp only [cond_true,ob_,Bool.true_or,aF]
 | false =>
  cases h8:momB (og L pl d).1 with
  | true=>simp only [cond_true,cond_false,ob_,Bool.or_self,Bool.not_true,aP,hend]
  | false=>simp only [cond_true,cond_false,ob_,Bool.false_or,Bool.not_false,aF]
theorem Aa {L:List Log_} {p:ByteArray}:∀(ds:List Dated) (k:Nat) (F:List Int) (pl:List Play),(∀d∈ds,VD L d/\(yL L d).Player=p)->(∀q∈pl,nL q)->F.length+pl.length+ds.length<=10000 ->
  forR (λk x s=>jJ L k x s) (ds.map gP) k (pl,F,Ey pl p)=some (.go ((mZ L pl ds).1,F++(mZ L pl ds).2,Ey (mZ L pl ds).1 p))
 | [],k,F,pl,hd,hp,hl=>by simp only [mZ,List.append_nil];rfl
 | d::ds,k,F,pl,hd,hp,hl=>by
  simp only [List.length_cons]at hl
  obtain ⟨v,hpd⟩:=hd d (by simp)
  have hs1:=Pk k v F pl hp (by omega)
  rw [hpd]at hs1
  rw [List.map_cons,forR,hs1,ob_,mZ]
  cases hs:stp L pl d with
  | some q =>
   obtain ⟨g1,g2⟩:=Db v hp hs
   simp only
   rw [<- NQ pl q p (g2.trans hpd),Aa ds (k+1) F (pl++[q]) (λd hd'=>hd d (List.mem_cons_of_mem _ hd')) (λz hz=>by
    rcases List.mem_append.1 hz with hz|hz
    ·exact hp z hz
    ·rw [List.mem_singleton.1 hz];exact g1) (by simp;omega)]
  | none =>
   simp only
   rw [Aa ds (k+1) (F++[d.f_i]) pl (λd hd'=>hd d (List.mem_cons_of_mem _ hd')) hp (by simp;omega)]
   simp
def LeP (a b:Log_):Prop:=lt a.Player b.Player\/a.Player=b.Player
theorem Mr {a b c:Log_} (h:LeP a b) (k:LeP b c):LeP a c:=by
 rcases h with h|h
 ·rcases k with k|k
  ·exact .inl (lt_trans h k)
  ·exact .inl (k ▸ h)
 ·unfold LeP;rw [h];exact k
structure RightL (x:Log_):Prop where
 clock:inM x.Clock
 l0:1<=x.Long
 ll:x.Long<=86400000
theorem formF_0 {x:Log_} (h:uQ x=0):RightL x:=by
 unfold uQ at h
 cases h1:oV x.Player with
 | false=>rw [h1]at h;cases h
 | true =>
 cases h2:oV x.Item with
 | false=>rw [h1,h2]at h;cases h
 | true =>
 rw [h1,h2]at h
 simp only [Bool.not_true,cond_false]at h
 cases h3:(nO x.No 1 1000000||(nO x.Clock 0 345686399999||nO x.Long 1 86400000))with
 | true=>rw [h3]at h;cases h
 | false =>
  rw [Bool.or_eq_false_iff,Bool.or_eq_false_iff]at h3
  have hl:=BR h3.2.2
  exact⟨BR h3.2.1,hl.1,hl.2⟩
theorem lStp_0 {p:Option Log_} {x:Log_} (h:Jl p x=0):RightL x/\∀o,p=some o->LeP o x:=by
 unfold Jl at h
 cases hf:(uQ x != 0)with
 | true=>rw [hf,cond_true]at h;rw [h]at hf;cases hf
 | false =>
 have hf0:uQ x=0:=by simpa using hf
 rw [hf,cond_false]at h
 refine⟨formF_0 hf0,λo ho => ?_⟩
 subst ho
 cases hm:yF x.Sum with
 | false=>rw [hm]at h;cases h
 | true =>
 rw [hm]at h
 simp only [Bool.not_true,cond_false]at h
 cases hc:decide (cmpL o x>=0)with
 | true=>rw [hc]at h;cases h
 | false =>
 have hc:=of_decide_eq_false hc
 rcases jr o.Player x.Player with⟨h1,_⟩|⟨h1,_⟩|⟨h1,h2⟩
 ·exact .inl h1
 ·exact .inr h1
 ·exfalso
  apply hc
  unfold cmpL vG
  rw [h2]
  show (1:Int)>=0
  omega
theorem AC:∀{l:List Log_} {p:Option Log_},qU Jl p l=0->(∀o,p=some o->∀y∈l,LeP o y)/\l.Pairwise LeP/\∀x∈l,RightL x
 | [],_,_=>⟨λ_ _ y hy=>(by cases hy),List.Pairwise.nil,λx hx=>(by cases hx)⟩
 | x::xs,p,h=>by
  obtain ⟨h1,h2⟩:=Jv h
  obtain ⟨i1,i2,i3⟩:=AC h2
  obtain ⟨j1,j2⟩:=lStp_0 h1
  refine⟨λo ho y hy => ?_,List.pairwise_cons.2 ⟨λy hy=>i1 x rfl y hy,i2⟩,λy hy => ?_⟩
  ·rcases List.mem_cons.1 hy with rfl|hy
   ·exact j2 o ho
   ·exact Mr (j2 o ho) (i1 x rfl y hy)
  ·rcases List.mem_cons.1 hy with rfl|hy
   ·exact j1
   ·exact i3 y hy
theorem logsF_0 {l:List Log_} (h:Fw l=0):l.Pairwise LeP/\∀x∈l,RightL x:=by
 unfold Fw at h
 cases hl:decide (l.length>2000)with
 | true=>rw [hl]at h;cases h
 | false=>rw [hl,cond_false]at h;exact (AC h).2
theorem grp (p:ByteArray):∀xs:List Log_,(∀y∈xs,lt p y.Player\/p=y.Player)->xs.Pairwise LeP->∃g post,xs=g++post/\(∀y∈g,y.Player=p)/\∀b∈post,lt p b.Player
 | [],_,_=>⟨[],[],rfl,λy hy=>(by cases hy),λy hy=>(by cases hy)⟩
 | y::ys,h,hp=>by
  obtain ⟨p1,p2⟩:=List.pairwise_cons.1 hp
  by_cases hy:y.Player=p
  ·obtain ⟨g,post,e,g1,g2⟩:=grp p ys (λz hz=>h z (List.mem_cons_of_mem _ hz)) p2
   refine⟨y::g,post,by rw [e];rfl,λz hz => ?_,g2⟩
   rcases List.mem_cons.1 hz with rfl|hz
   ·exact hy
   ·exact g1 z hz
  ·have hlt:lt p y.Player:=by
    rcases h y (by simp)with h|h
    ·exact h
    ·exact absurd h.symm hy
   refine⟨[],y::ys,rfl,λz hz=>(by cases hz),λb hb => ?_⟩
   rcases List.mem_cons.1 hb with rfl|hb
   ·exact hlt
   ·rcases p1 b hb with k|k
    ·exact lt_trans hlt k
    ·exact k ▸ hlt
theorem EG {L post:List Log_} {p:ByteArray} {st:List Play×List Int×Int} {x0:Log_} (h0:idx L st.2.2=some x0) (hp0:x0.Player=p) (hL:L.length<=1000) (hpost:∀b∈post,lt p b.Player):∀(xs:List Log_) (j:Nat),L.drop j=xs++post->j<=L.length->(∀x∈xs,x.Player=p) ->
  iterN (λs=>gL L st s) (xs.length+1) (j:Int)=some (.go ((j+xs.length:Nat):Int))
 | [],j,hd,hj,hx=>by
  have hst:gL L st (j:Int)=some (.brk (j:Int)):=by
   unfold gL
   cases post with
   | nil =>
    have hlen:L.length<=j:=List.drop_eq_nil_iff.1 (by simpa using hd)
    have hc:decide ((j:Int)<(L.length:Int))=false:=decide_eq_false (by omega)
    simp only [hc,cond_false,ob_]
   | cons b post =>
    have hg:L[j]? = some b:=tC (by rw [hd];rfl)
    have hlt:=(List.getElem?_eq_some_iff.1 hg).1
    have hc:decide ((j:Int)<(L.length:Int))=true:=decide_eq_true (by omega)
    have hne:¬b.Player=p:=λe=>by have:=hpost b (by simp);rw [e]at this;exact fK p this
    simp only [hc,cond_true,oM,hg,h0,ob_,BZ,hp0,decide_eq_false hne,cond_false]
  simp only [List.length_nil,iterN,hst,ob_,Nat.add_zero]
 | x::xs,j,hd,hj,hx=>by
  have hg:L[j]? = some x:=tC (by rw [hd];rfl)
  have hlt:=(List.getElem?_eq_some_iff.1 hg).1
  have hc:decide ((j:Int)<(L.length:Int))=true:=decide_eq_true (by omega)
  have hw:w64 ((j:Int)+1)=((j+1:Nat):Int):=by rw [dR (by omega)];omega
  have hst:gL L st (j:Int)=some (.go ((j+1:Nat):Int)):=by
   unfold gL
   simp only [hc,cond_true,oM,hg,h0,ob_,BZ,hp0,hx x (by simp),decide_true,hw]
  rw [List.length_cons,iterN,hst,ob_]
  simp only
  rw [EG h0 hp0 hL hpost xs (j+1) (aX (show L.drop j=x::(xs++post) from hd)) (by omega) (λy hy=>hx y (List.mem_cons_of_mem _ hy)),show j+1+xs.length=j+(xs.length+1) by omega]
structure LOk (L:List Log_):Prop where
 sorted:L.Pairwise LeP
 right:∀x∈L,RightL x
 few:L.length<=19
theorem yL_at {L:List Log_} {d:Dated} {i:Nat} {x:Log_} (h:L[i]? = some x) (e:d.f_i=(i:Int)):yL L d=x:=by
 unfold yL;rw [e,List.getD_eq_getElem?_getD,Int.toNat_natCast,h];rfl
theorem JZ {B:List Beat} (hB:BOk B) {L:List Log_} (hL:LOk L) {pre g post:List Log_} (e:L=pre++(g++post)) {d:Dated} (hd:d∈dts B pre.length g):VD L d/\yL L d∈g:=by
 obtain ⟨i,x,h1,h2,h3⟩:=Lu B g pre.length d hd
 have hil:=(List.getElem?_eq_some_iff.1 h1).1
 have hx:L[pre.length+i]? = some x:=by
  rw [e,List.getElem?_append_right (by omega),show pre.length+i-pre.length=i by omega,List.getElem?_append_left hil,h1]
 have hy:=yL_at hx h2
 have hm:x∈L:=List.mem_of_getElem? hx
 have hlt:=(List.getElem?_eq_some_iff.1 hx).1
 have hr:=hL.right x hm
 obtain ⟨a1,a2⟩:=atF_in hB hr.clock h3
 refine⟨⟨by omega,by omega,a1,a2,by rw [hy];exact hr.l0,by rw [hy];exact hr.ll⟩,?_⟩
 rw [hy];exact List.mem_of_getElem? h1
noncomputable def fnd (B:List Beat) (L pre:List Log_):List Play×List Int:=mZ L [] (jX (c2 L) (dts B 0 pre))
theorem Dp {B:List Beat} (hB:BOk B) {L:List Log_} (hL:LOk L):∀(m:Nat) (pre rest:List Log_) (F:List Int),rest.length<=m->L=pre++rest->(∀a∈pre,∀b∈rest,lt a.Player b.Player)->F.Perm (lfs B 0 pre++(fnd B L pre).2) ->
  ∃n F',iterN (λs=>gH L B s) n ((fnd B L pre).1,F,(pre.length:Int))=some (.go ((fnd B L L).1,F',(L.length:Int)))/\F'.Perm (lfs B 0 L++(fnd B L L).2)
 | m,pre,[],F,hm,e,hlt,hF=>by
  rw [List.append_nil]at e
  subst e
  refine⟨1,F,?_,hF⟩
  have hc:decide ((L.length:Int)<(L.length:Int))=false:=decide_eq_false (by omega)
  simp only [iterN,gH,hc,cond_false,ob_]
 | 0,pre,x::xs,F,hm,e,hlt,hF=>by simp at hm
 | m+1,pre,x::xs,F,hm,e,hlt,hF=>by
  have hsort:(x::xs).Pairwise LeP:=by have:=hL.sorted;rw [e]at this;exact (List.pairwise_append.1 this).2.1
  obtain ⟨g,post,e2,g1,g2⟩:=grp x.Player xs (λy hy=>(List.pairwise_cons.1 hsort).1 y hy) (List.pairwise_cons.1 hsort).2
  subst e2
  have few:=hL.few
  have hlen:L.length=pre.length+((x::g).length+post.length):=by rw [e];simp;omega
  have e3:L=pre++((x::g)++post):=e
  have hgp:∀y∈x::g,y.Player=x.Player:=λy hy=>by
   rcases List.mem_cons.1 hy with rfl|hy
   ·rfl
   ·exact g1 y hy
  have hdrop:L.drop pre.length=(x::g)++post:=by rw [e3];simp
  have hx0:L[pre.length]? = some x:=tC (by rw [hdrop];rfl)
  have hidx:idx L (pre.length:Int)=some x:=by rw [oM,hx0]
  have hright:∀y∈x::g,y.Player=x.Player/\inM y.Clock:=λy hy=>⟨hgp y hy,(hL.right y (by rw [e3];simp only [List.mem_append];exact .inr (.inl hy))).clock⟩
  have hV1:∀d∈dts B pre.length (x::g),VD L d/\(yL L d).Player=x.Player:=λd hd=>by
   obtain ⟨v,w⟩:=JZ hB hL e3 hd
   exact⟨v,hgp _ w⟩
  have hV0:∀d∈dts B 0 pre,VD L d/\yL L d∈pre:=λd hd=>JZ hB hL (pre:=[]) (g:=pre) (post:=x::(g++post)) (by rw [e];rfl) hd
  have hgl:(x::g).length=g.length+1:=rfl
  have hdl:=Hy B (x::g) pre.length
  have hdl0:=Hy B pre 0
  have hsc:=iO (EG (L:=L) (post:=post) (st:=((fnd B L pre).1,F,(pre.length:Int))) hidx rfl (by omega) g2 (x::g) pre.length hdrop (by omega) hgp)
  have hpl:=iO (AV hB (L:=L) (post:=post) (p:=x.Player) (to:=pre.length+(x::g).length) (by omega) (x::g) pre.length [] [] hdrop rfl hright (by simp;omega))
  simp only [List.nil_append]at hpl
  have hplaced:lK L (pre.length:Int) ((pre.length+(x::g).length:Nat):Int) B=some ((jX cD (dts B pre.length (x::g))).map gP,lfs B pre.length (x::g)):=by
   unfold lK
   rw [hidx,ob_,Jw B x.Player false hB.few,ob_]
   show (gX _ (λs=>eD _ L (MB B x.Player) s)).bind _=_
   rw [hpl,ob_,kz]
   simp only
   rw [stableP _ (by rw [List.length_map];omega),ob_]
   have hsl:jS (jX cP ((dts B pre.length (x::g)).map gP)) ((dts B pre.length (x::g)).map gP)=some ():=by unfold jS;rw [if_pos (sV _ _)]
   rw [hsl,ob_,OE gP (c:=cD) (λa b=>rfl)]
  have hcong:jX cD (dts B pre.length (x::g))=jX (c2 L) (dts B pre.length (x::g)):=J5 _ (λa ha b hb=>by
   unfold cD c2
   rw [(hV1 a ha).2,(hV1 b hb).2,M0];rfl)
  have hsp:jX (c2 L) (dts B 0 (pre++(x::g)))=jX (c2 L) (dts B 0 pre)++jX (c2 L) (dts B pre.length (x::g)):=by
   rw [LM,Nat.zero_add]
   refine OZ _ _ _ (λv hv a ha => ?_)
   have hl:lt (yL L a).Player (yL L v).Player:=by
    rw [(hV1 v hv).2]
    exact hlt _ (hV0 a ha).2 x (by simp)
   have hc:vU (yL L v).Player (yL L a).Player=1:=by
    rcases jr (yL L v).Player (yL L a).Player with⟨h1,_⟩|⟨h1,_⟩|⟨_,h2⟩
    ·exact absurd (lt_trans hl h1) (fK _)
    ·rw [h1]at hl;exact absurd hl (fK _)
    ·exact h2
   unfold c2 vG
   rw [hc]
   show ¬(1:Int)<0
   omega
  have hfnd:fnd B L (pre++(x::g))=((mZ L (fnd B L pre).1 (jX (c2 L) (dts B pre.length (x::g)))).1,(fnd B L pre).2++(mZ L (fnd B L pre).1 (jX (c2 L) (dts B pre.length (x::g)))).2):=by
   unfold fnd
   rw [hsp,CP]
  obtain ⟨hg1,hg2⟩:=xh (L:=L) (jX (c2 L) (dts B 0 pre)) [] (λd hd=>(hV0 d ((vw _ _ _).1 hd)).1) (λq hq=>by cases hq)
  have hend:Ey (fnd B L pre).1 x.Player=0:=by
   unfold Ey
   cases hq:(fnd B L pre).1.getLast? with
   | none=>rfl
   | some q =>
    simp only
    have hne:¬q.Player=x.Player:=λeq=>by
     rcases hg2 q (List.mem_of_getLast? hq)with h|⟨d,hd,h⟩
     ·cases h
     ·have:=hlt _ (hV0 d ((vw _ _ _).1 hd)).2 x (by simp)
      rw [<- h,eq]at this
      exact fK _ this
    rw [decide_eq_false hne];rfl
  have hrl:=yN (L:=L) (jX (c2 L) (dts B 0 pre)) []
  have hslen:=sV (c2 L) (dts B 0 pre)
  have hslen2:=sV (c2 L) (dts B pre.length (x::g))
  have hFl:=hF.length_eq
  simp only [List.length_append,List.length_nil]at hFl hrl
  have hFl':(fnd B L pre).1.length+(fnd B L pre).2.length=0+(jX (c2 L) (dts B 0 pre)).length:=hrl
  have hrun:=Aa (L:=L) (p:=x.Player) (jX (c2 L) (dts B pre.length (x::g))) 0 (F++lfs B pre.length (x::g)) (fnd B L pre).1 (λd hd=>hV1 d ((vw _ _ _).1 hd)) hg1 (by simp only [List.length_append];omega)
  rw [hend]at hrun
  have happ:lH F (lfs B pre.length (x::g))=some (F++lfs B pre.length (x::g)):=lF _ _ (by omega)
  have hc:decide ((pre.length:Int)<(L.length:Int))=true:=decide_eq_true (by rw [hlen];simp;omega)
  have hstep:gH L B ((fnd B L pre).1,F,(pre.length:Int))=some (.go ((fnd B L (pre++(x::g))).1,F++lfs B pre.length (x::g)++(mZ L (fnd B L pre).1 (jX (c2 L) (dts B pre.length (x::g)))).2,(((pre++(x::g)).length:Nat):Int))):=by
   unfold gH
   simp only [hc,cond_true]
   rw [hsc,ob_,kz,hplaced,ob_,happ,ob_,hcong]
   simp only
   rw [kM (by rw [List.length_map];omega),hrun,ob_,kz,hfnd,List.length_append]
  obtain ⟨n,F',h1,h2⟩:=Dp hB hL m (pre++(x::g)) post (F++lfs B pre.length (x::g)++(mZ L (fnd B L pre).1 (jX (c2 L) (dts B pre.length (x::g)))).2) (by simp at hm;omega) (by rw [e3];simp) (λa ha b hb=>by
   rcases List.mem_append.1 ha with ha|ha
   ·exact hlt a ha b (by simp [hb])
   ·rw [hgp a ha];exact g2 b hb) (by
   rw [hfnd,KZ,Nat.zero_add]
   simp only
   have h1:(F++lfs B pre.length (x::g)).Perm (lfs B 0 pre++lfs B pre.length (x::g)++(fnd B L pre).2):=by
    refine (hF.append_right _).trans ?_
    rw [List.append_assoc,List.append_assoc]
    exact List.Perm.append_left _ List.perm_append_comm
   refine (h1.append_right _).trans ?_
   rw [List.append_assoc (lfs B 0 pre++lfs B pre.length (x::g))])
  exact⟨n+1,F',by rw [iterN,hstep];exact h1,h2⟩
theorem L9 {α σ ρ:Type} {body:Nat->α->σ->Option (Ctl σ ρ)} (I:Nat->σ->Prop) (xs:List α):∀(l:List α) (k:Nat) (s:σ),xs.drop k=l->k<=xs.length->(∀k x s,xs[k]? = some x->I k s->∃s',body k x s=some (.go s')/\I (k+1) s')->I k s->∃s',forR body l k s=some (.go s')/\I xs.length s'
 | [],k,s,hd,hk,h,hi=>by
  have:=List.drop_eq_nil_iff.1 hd
  obtain rfl:k=xs.length:=by omega
  exact⟨s,rfl,hi⟩
 | x::l,k,s,hd,hk,h,hi=>by
  obtain ⟨s1,h1,h2⟩:=h k x s (tC hd) hi
  obtain ⟨s2,h3,h4⟩:=L9 I xs l (k+1) s1 (aX hd) (by have:=BV hd;omega) h h2
  exact⟨s2,by rw [forR,h1,ob_];exact h3,h4⟩
theorem BU {α σ ρ:Type} {body:Nat->α->σ->Option (Ctl σ ρ)} (I:Nat->σ->Prop) {xs:List α} {s:σ} (hl:xs.length<=1000000000000) (h:∀k x s,xs[k]? = some x->I k s->∃s',body k x s=some (.go s')/\I (k+1) s') (h0:I 0 s):∃s',forL xs s body=some (.go s')/\I xs.length s':=by
 rw [kM hl]
 exact L9 I xs xs 0 s rfl (Nat.zero_le _) h h0
theorem BP {α:Type} {stp:Option α->α->Int}:∀{l:List α} {p:Option α},(∀x,l.head? = some x->stp p x=0)->l.Pairwise (λa b=>stp (some a) b=0)->qU stp p l=0
 | [],_,_,_=>rfl
 | x::l,p,h,hp=>by
  obtain ⟨p1,p2⟩:=List.pairwise_cons.1 hp
  rw [qU,h x rfl]
  show qU stp (some x) l=0
  exact BP (λy hy=>p1 y (List.mem_of_head? hy)) p2
def paS:ByteArray:=⟨#[112,97]⟩
def pbS:ByteArray:=⟨#[112,98]⟩
def iaS:ByteArray:=⟨#[105,97]⟩
def ibS:ByteArray:=⟨#[105,98]⟩
theorem BX:lt paS pbS:=by
 unfold lt paS pbS
 rw [toL,toL]
 decide
theorem PQ:oV paS=true/\oV pbS=true/\oV iaS=true/\oV ibS=true:=⟨by kernel_rfl,by kernel_rfl,by kernel_rfl,by kernel_rfl⟩
theorem Dm {α:Type} {R:α->α->Prop} {l:List α} {x:α} (h:l.Pairwise R) (hx:∀y∈l,R y x):(l++[x]).Pairwise R :=
 List.pairwise_append.2 ⟨h,List.pairwise_singleton _ _,λa ha b hb=>by rw [List.mem_singleton.1 hb];exact hx a ha⟩
def uj (x:Log_):Prop:=(x.Player=paS\/x.Player=pbS)/\(x.Item=iaS\/x.Item=ibS)/\(1<=x.No/\x.No<=1000)/\(0<=x.Clock/\x.Clock<=10000)/\(1<=x.Long/\x.Long<=1000)/\yF x.Sum=true/\ShortK x.Sum
def Na (a b:Log_):Prop:=lt a.Player b.Player\/a.Player=b.Player/\a.No<b.No
theorem AB {x:Log_} (h:uj x):Dt x:=by
 obtain ⟨h1,h2,h3,h4,h5,h6,h7⟩:=h
 refine⟨?_,?_,h7,by unfold Med;omega,by unfold Med;omega,by unfold Med;omega⟩
 ·rcases h1 with e|e <;> rw [e] <;> exact lI rfl
 ·rcases h2 with e|e <;> rw [e] <;> exact lI rfl
theorem JK {x:Log_} (h:uj x):oV x.Player=true/\oV x.Item=true:=by
 obtain ⟨k1,k2,k3,k4⟩:=PQ
 obtain ⟨h1,h2,_⟩:=h
 refine⟨?_,?_⟩
 ·rcases h1 with e|e <;> rw [e] <;> assumption
 ·rcases h2 with e|e <;> rw [e] <;> assumption
theorem Ik {x:Log_} (h:uj x):uQ x=0:=by
 obtain ⟨k1,k2⟩:=JK h
 obtain ⟨h1,h2,h3,h4,h5,h6,h7⟩:=h
 unfold uQ
 rw [k1,k2,pg (by omega),pg (by omega),pg (by omega)];rfl
theorem NV {a b:Log_} (h:Na a b):cmpL a b<0:=by
 unfold cmpL vG
 rcases h with h|⟨h1,h2⟩
 ·rcases jr a.Player b.Player with⟨_,e⟩|⟨e,_⟩|⟨e,_⟩
  ·rw [e];show (-1:Int)<0;omega
  ·rw [e]at h;exact absurd h (fK _)
  ·exact absurd (lt_trans h e) (fK _)
 ·rcases jr a.Player b.Player with⟨e,_⟩|⟨_,e⟩|⟨e,_⟩
  ·rw [h1]at e;exact absurd e (fK _)
  ·rw [e]
   show rP a.No b.No<0
   unfold rP
   rw [if_pos h2];decide
  ·rw [h1]at e;exact absurd e (fK _)
theorem MW {l:List Log_} (h:∀x∈l,uj x) (hp:l.Pairwise Na) (hl:l.length<=1000):Fw l=0:=by
 unfold Fw
 rw [decide_eq_false (by omega),cond_false]
 have key:∀x∈l,∀p:Option Log_,(∀o,p=some o->Na o x)->Jl p x=0:=λx hx p hr=>by
  have hm:=(h x hx).2.2.2.2.2.1
  unfold Jl
  rw [Ik (h x hx),hm]
  cases p with
  | none=>rfl
  | some o =>
   have:=NV (hr o rfl)
   simp only [bne_self_eq_false,cond_false,Bool.not_true]
   rw [decide_eq_false (by omega)];rfl
 refine BP (λx hx=>key x (List.mem_of_head? hx) none (λo ho=>by cases ho)) ?_
 exact List.Pairwise.imp_of_mem (λ{a b} ha hb hab=>key b hb (some a) (λo ho=>by cases ho;exact hab)) hp
theorem Bu (s:Stream) (most:Int) (hm:0<=most/\most<=7) {b:Int} (hs:Ok s b) (hb:b<=700000):∃r,ic s most=some r/\(Ok r.2 (b+300)/\r.1.length<=2*most.toNat/\(∀x∈r.1,uj x)/\r.1.Pairwise Na):=by
 unfold ic
 obtain ⟨s',h1,h2,h3,h4,h5,h6⟩:=BU (body:=λk x s=>dS most k x s) (λk s=>Ok ⟨s.2.1,s.2.2⟩ (b+150*k)/\s.1.length<=most.toNat*k/\(∀x∈s.1,uj x)/\s.1.Pairwise Na/\(∀y∈s.1,k≠0/\(k=1->y.Player=paS)))
  (xs:=[(⟨#[112,97]⟩:ByteArray),(⟨#[112,98]⟩:ByteArray)]) (s:=(([]:List Log_),s.L,s.f_at)) (by simp) (λk x t hkx ⟨i1,i2,i3,i4,i5⟩=>by
   have hk2:k<2:=by
    have:=(List.getElem?_eq_some_iff.1 hkx).1
    exact this
   have hx:(k=0/\x=paS)\/(k=1/\x=pbS):=by
    have:k=0\/k=1:=by omega
    rcases this with rfl|rfl
    ·rw [List.getElem?_cons_zero,so_]at hkx;exact .inl ⟨rfl,hkx.symm⟩
    ·rw [List.getElem?_cons_succ,List.getElem?_cons_zero,so_]at hkx;exact .inr ⟨rfl,hkx.symm⟩
   have hxp:x=paS\/x=pbS:=hx.imp And.right And.right
   have hlt:∀y∈t.1,lt y.Player x:=λy hy=>by
    obtain ⟨n1,n2⟩:=i5 y hy
    rcases hx with⟨e,_⟩|⟨e,e2⟩
    ·exact absurd e n1
    ·rw [n2 e,e2];exact BX
   obtain ⟨a,a1,a2,a3⟩:=F4 _ [0,50,1000] i1 (by omega) (by simp) (by simp)
   have ha:0<=a.1/\a.1<=1000:=by
    simp only [List.mem_cons,List.not_mem_nil,or_false]at a2
    rcases a2 with h|h|h <;> omega
   obtain ⟨n,n1,n2,n3,n4⟩:=range_w a.2 0 most a3 (by omega) hm.1 (by omega) (by omega)
   obtain ⟨u,m1,m2,m3,m4,m5,m6,m7,m8⟩:=Jp (body:=λk y s=>fH x k y s) (λj s=>Ok ⟨s.2.2.2.1,s.2.2.2.2⟩ (b+150*k+2+4*j)/\ShortK s.2.1/\(0<=s.2.2.1/\s.2.2.1<=1000+100*j)/\s.1.length<=most.toNat*k+j/\(∀x∈s.1,uj x)/\s.1.Pairwise Na/\(∀y∈s.1,lt y.Player x\/y.Player=x/\y.No<=j))
    (xs:=List.range n.1.toNat) (s:=(t.1,(⟨#[]⟩:ByteArray),a.1,n.2.L,n.2.f_at)) (by simp;omega) (λj y v _ hj ⟨j1,j2,j3,j4,j5,j6,j7⟩=>by
     have hj3:j<7:=by rw [List.length_range]at hj;omega
     have hmk:most.toNat*k<=7*2:=Nat.mul_le_mul (by omega) (by omega)
     obtain ⟨p,p1,p2,p3⟩:=some_w _ [(⟨#[105,97]⟩:ByteArray),(⟨#[105,98]⟩:ByteArray)] j1 (by omega) (by simp) (by simp)
     have hpi:p.1=iaS\/p.1=ibS:=by
      simp only [List.mem_cons,List.not_mem_nil,or_false]at p2
      exact p2
     obtain ⟨q,q1,q2,q3⟩:=F4 p.2 [1,10,30,100] p3 (by omega) (by simp) (by simp)
     have hq:1<=q.1/\q.1<=100:=by
      simp only [List.mem_cons,List.not_mem_nil,or_false]at q2
      rcases q2 with h|h|h|h <;> omega
     have hw:w64 ((j:Int)+1)=(j:Int)+1:=dR (by omega)
     have hg:∀S:ByteArray,yF S=true->ShortK S->uj (⟨x,p.1,w64 ((j:Int)+1),v.2.2.1,q.1,S⟩:Log_):=λS s1 s2=>⟨hxp,hpi,by rw [hw];show 1<=(j:Int)+1/\(j:Int)+1<=1000;omega,by show 0<=v.2.2.1/\v.2.2.1<=10000;omega,by show 1<=q.1/\q.1<=1000;omega,s1,s2⟩
     have hg0:Dt (⟨x,p.1,w64 ((j:Int)+1),v.2.2.1,q.1,(⟨#[]⟩:ByteArray)⟩:Log_):=by
      obtain ⟨g1,g2,_,g4,g5,g6⟩:=AB (hg (mk []) (LV _) (zg _))
      exact⟨g1,g2,lI rfl,g4,g5,g6⟩
     obtain ⟨r,r1,r2,r3⟩:=F4 q.2 [0,5,10,50,100] q3 (by omega) (by simp) (by simp)
     have hr:0<=r.1/\r.1<=100:=by
      simp only [List.mem_cons,List.not_mem_nil,or_false]at r2
      rcases r2 with h|h|h|h|h <;> omega
     obtain ⟨c,c1,c2⟩:=flip_w r.2 6 r3 (by omega) (by decide) (by decide)
     have hsum:=NM v.2.1 j2 hg0
     have hw2:w64 (v.2.2.1+r.1)=v.2.2.1+r.1:=dR (by omega)
     simp only [fH,p1,q1,hsum,r1,c1,ob_]
     cases c.1 with
     | true =>
      simp only [Bool.not_true,cond_false,ob_]
      refine⟨_,rfl,c2.mono (by omega),zg _,by show 0<=w64 (v.2.2.1+r.1)/\w64 (v.2.2.1+r.1)<=_;rw [hw2];omega,by show v.1.length<=_;omega,j5,j6,λy hy => ?_⟩
      rcases j7 y hy with h|⟨h,k⟩
      ·exact .inl h
      ·exact .inr ⟨h,by omega⟩
     | false =>
      simp only [Bool.not_false,cond_true]
      rw [lF v.1 [_] (by simp;omega)]
      simp only [ob_]
      refine⟨_,rfl,c2.mono (by omega),zg _,by show 0<=w64 (v.2.2.1+r.1)/\w64 (v.2.2.1+r.1)<=_;rw [hw2];omega,by simp;omega,λz hz => ?_,Dm j6 (λy hy => ?_),λy hy => ?_⟩
      ·rcases List.mem_append.1 hz with hz|hz
       ·exact j5 z hz
       ·rw [List.mem_singleton.1 hz];exact hg _ (LV _) (zg _)
      ·rcases j7 y hy with h|⟨h,k⟩
       ·exact .inl h
       ·refine .inr ⟨h,?_⟩
        show y.No<w64 ((j:Int)+1)
        rw [hw];omega
      ·rcases List.mem_append.1 hy with hy|hy
       ·rcases j7 y hy with h|⟨h,k⟩
        ·exact .inl h
        ·exact .inr ⟨h,by omega⟩
       ·rw [List.mem_singleton.1 hy]
        refine .inr ⟨rfl,?_⟩
        show w64 ((j:Int)+1)<=_
        rw [hw];omega) ⟨n4.mono (by omega),lI rfl,by simpa using ha,by simpa using i2,i3,i4,λy hy => .inl (hlt y hy)⟩
   have hstep:dS most k x t=some (.go (u.1,u.2.2.2.1,u.2.2.2.2)):=by
    unfold dS
    rw [a1];simp only [ob_]
    rw [n1];simp only [ob_]
    rw [m1];rfl
   have hl:(List.range n.1.toNat).length<=most.toNat:=by rw [List.length_range];omega
   refine⟨_,hstep,m2.mono (by omega),?_,m6,m7,λy hy=>⟨by omega,λe => ?_⟩⟩
   ·show u.1.length<=most.toNat*(k+1)
    rw [Nat.mul_succ];omega
   ·rcases hx with⟨e0,e1⟩|⟨e0,_⟩
    ·rcases m8 y hy with h|⟨h,_⟩
     ·have:=(m6 y hy).1
      rw [e1]at h
      rcases this with q|q
      ·rw [q]at h;exact absurd h (fK _)
      ·rw [q]at h;exact absurd (lt_trans h BX) (fK _)
     ·rw [h,e1]
    ·omega) ⟨by simpa using hs,by simp,by simp,.nil,by simp⟩
 rw [h1]
 refine mr ⟨h2.mono (by simp),?_,h4,h5⟩
 show s'.1.length<=_
 have:s'.1.length<=most.toNat*2:=h3
 omega
def CK (x:Beat):Prop:=(x.Player=paS\/x.Player=pbS)/\(0<=x.At/\x.At<=100000000000)/\(0<=x.Clock/\x.Clock<=100000000000)
def RelB (a b:Beat):Prop:=lt a.Player b.Player\/a.Player=b.Player/\a.At<b.At/\a.Clock<b.Clock
theorem zO (s:Stream) {b:Int} (hs:Ok s b) (hb:b<=800000):∃xs s',gG s=some (xs,s')/\Ok s' (b+100)/\xs.length<=6/\(∀x∈xs,CK x)/\xs.Pairwise RelB:=by
 unfold gG
 obtain ⟨s',h1,h2,h3,h4,h5,h6⟩:=BU (body:=λk x s=>fF k x s) (λk s=>Ok ⟨s.2.1,s.2.2⟩ (b+20*k)/\s.1.length<=3*k/\(∀x∈s.1,CK x)/\s.1.Pairwise RelB/\(∀y∈s.1,k≠0/\(k=1->y.Player=paS)))
  (xs:=[(⟨#[112,97]⟩:ByteArray),(⟨#[112,98]⟩:ByteArray)]) (s:=(([]:List Beat),s.L,s.f_at)) (by simp) (λk x t hkx ⟨i1,i2,i3,i4,i5⟩=>by
   have hk2:k<2:=(List.getElem?_eq_some_iff.1 hkx).1
   have hx:(k=0/\x=paS)\/(k=1/\x=pbS):=by
    have:k=0\/k=1:=by omega
    rcases this with rfl|rfl
    ·rw [List.getElem?_cons_zero,so_]at hkx;exact .inl ⟨rfl,hkx.symm⟩
    ·rw [List.getElem?_cons_succ,List.getElem?_cons_zero,so_]at hkx;exact .inr ⟨rfl,hkx.symm⟩
   have hxp:x=paS\/x=pbS:=hx.imp And.right And.right
   have hlt:∀y∈t.1,lt y.Player x:=λy hy=>by
    obtain ⟨n1,n2⟩:=i5 y hy
    rcases hx with⟨e,_⟩|⟨e,e2⟩
    ·exact absurd e n1
    ·rw [n2 e,e2];exact BX
   obtain ⟨a,s1,a1,a0,a9,a2⟩:=tK _ 0 100 i1 (by omega) (by decide) (by decide) (by decide)
   obtain ⟨c,s2,a3,c0,c9,a4⟩:=tK s1 0 100 a2 (by omega) (by decide) (by decide) (by decide)
   obtain ⟨n,s3,a5,n1,n2,a6⟩:=tK s2 0 3 a4 (by omega) (by decide) (by decide) (by decide)
   obtain ⟨u,m1,m2,m3,m4,m5,m6,m7,m8⟩:=Jp (body:=λk y s=>fG x k y s) (λj s=>Ok ⟨s.2.2.2.1,s.2.2.2.2⟩ (b+20*k+3+2*j)/\s.1.length<=3*k+j/\(0<=s.2.1/\s.2.1<=100+2678400000*j)/\(0<=s.2.2.1/\s.2.2.1<=100+2678400000*j)/\(∀x∈s.1,CK x)/\s.1.Pairwise RelB/\(∀y∈s.1,lt y.Player x\/y.Player=x/\y.At<s.2.1/\y.Clock<s.2.2.1))
    (xs:=List.range n.toNat) (s:=(t.1,a,c,s3.L,s3.f_at)) (by simp;omega) (λj y v _ hj ⟨j1,j2,j3,j4,j5,j6,j7⟩=>by
     have hj3:j<3:=by rw [List.length_range]at hj;omega
     obtain ⟨p,s4,p1,p0,p2⟩:=GG _ [1,50,100,1000,2678400000] j1 (by omega) (by simp) (by simp)
     obtain ⟨q,s5,q1,q0,q2⟩:=GG s4 [1,40,100,1300,2592000000] p2 (by omega) (by simp) (by simp)
     have hp:1<=p/\p<=2678400000:=by
      simp only [List.mem_cons,List.not_mem_nil,or_false]at p0
      rcases p0 with h|h|h|h|h <;> omega
     have hq:1<=q/\q<=2592000000:=by
      simp only [List.mem_cons,List.not_mem_nil,or_false]at q0
      rcases q0 with h|h|h|h|h <;> omega
     simp only [fG,lF v.1 [_] (show v.1.length+[_].length<=_ by simp;omega),p1,q1,ob_]
     have w1:w64 (v.2.1+p)=v.2.1+p:=dR (by omega)
     have w2:w64 (v.2.2.1+q)=v.2.2.1+q:=dR (by omega)
     refine⟨_,rfl,q2.mono (by omega),by simp;omega,?_,?_,λz hz => ?_,Dm j6 j7,λz hz => ?_⟩
     ·show 0<=w64 (v.2.1+p)/\w64 (v.2.1+p)<=_
      rw [w1];omega
     ·show 0<=w64 (v.2.2.1+q)/\w64 (v.2.2.1+q)<=_
      rw [w2];omega
     ·rcases List.mem_append.1 hz with hz|hz
      ·exact j5 z hz
      ·rw [List.mem_singleton.1 hz]
       exact⟨hxp,by show 0<=v.2.1/\v.2.1<=_;omega,by show 0<=v.2.2.1/\v.2.2.1<=_;omega⟩
     ·show lt z.Player x\/z.Player=x/\z.At<w64 (v.2.1+p)/\z.Clock<w64 (v.2.2.1+q)
      rw [w1,w2]
      rcases List.mem_append.1 hz with hz|hz
      ·rcases j7 z hz with h|⟨h,k1,k2⟩
       ·exact .inl h
       ·exact .inr ⟨h,by omega,by omega⟩
      ·rw [List.mem_singleton.1 hz]
       exact .inr ⟨rfl,by show v.2.1<_;omega,by show v.2.2.1<_;omega⟩) ⟨a6.mono (by omega),by simpa using i2,by simp only [];omega,by simp only [];omega,i3,i4,λy hy => .inl (hlt y hy)⟩
   simp only [fF,a1,a3,a5,m1,ob_,kz]
   rw [List.length_range]at m2 m3
   refine⟨_,rfl,m2.mono (by omega),by show u.1.length<=3*(k+1);omega,m6,m7,λy hy=>⟨by omega,λe => ?_⟩⟩
   rcases hx with⟨e0,e1⟩|⟨e0,_⟩
   ·rcases m8 y hy with h|⟨h,_⟩
    ·have:=(m6 y hy).1
     rw [e1]at h
     rcases this with q|q
     ·rw [q]at h;exact absurd h (fK _)
     ·rw [q]at h;exact absurd (lt_trans h BX) (fK _)
    ·rw [h,e1]
   ·omega) ⟨by simpa using hs,by simp,by simp,.nil,by simp⟩
 rw [h1]
 exact⟨s'.1,⟨s'.2.1,s'.2.2⟩,rfl,h2.mono (by simp),h3,h4,h5⟩
theorem Js {x:Beat} (h:CK x):GoodB x:=by
 rcases h.1 with e|e
 ·show ShortK x.Player;rw [e];exact lI rfl
 ·show ShortK x.Player;rw [e];exact lI rfl
theorem KM {l:List Beat} (h:∀x∈l,CK x) (hp:l.Pairwise RelB) (hl:l.length<=500):zS l=0:=by
 unfold zS
 rw [decide_eq_false (by omega),cond_false]
 have key:∀x∈l,∀p:Option Beat,(∀o,p=some o->RelB o x)->Je p x=0:=λx hx p hr=>by
  obtain ⟨h1,h2,h3⟩:=h x hx
  have hk:oV x.Player=true:=by
   obtain ⟨k1,k2,_⟩:=PQ
   rcases h1 with e|e <;> rw [e] <;> assumption
  have m1:momB x.At=true:=by unfold momB;rw [pg (by omega)];rfl
  have m2:momB x.Clock=true:=by unfold momB;rw [pg (by omega)];rfl
  unfold Je
  rw [hk,m1,m2]
  cases p with
  | none=>rfl
  | some o =>
   have hr:=hr o rfl
   simp only [Bool.not_true,cond_false,Bool.or_self]
   have hb:ko o x:=by
    unfold ko
    rcases hr with q|⟨q1,q2,q3⟩
    ·exact .inl q
    ·exact .inr ⟨q1,q2⟩
   rw [if_pos hb,if_neg (fun⟨e1,e2⟩=>by
    rcases hr with q|⟨q1,q2,q3⟩
    ·rw [e1]at q;exact fK _ q
    ·omega)]
 refine BP (λx hx=>key x (List.mem_of_head? hx) none (λo ho=>by cases ho)) ?_
 exact List.Pairwise.imp_of_mem (λ{a b} ha hb hab=>key b hb (some a) (λo ho=>by cases ho;exact hab)) hp
theorem Kj {B:List Beat} (hB:BOk B) {L:List Log_} (hL:LOk L) (hk:iY L=some 0) (hb:dZ B=some 0) :
  ∃F,pK L B=some ((fnd B L L).1,F,0)/\(fnd B L L).1.length+F.length=L.length:=by
 have few:=hL.few
 obtain ⟨n,F',h1,h2⟩:=Dp hB hL L.length [] L [] (Nat.le_refl _) rfl (λa ha=>by cases ha) (List.Perm.refl _)
 have h1:iterN (λs=>gH L B s) n (([]:List Play),([]:List Int),0)=_:=h1
 have hdl:=Hy B L 0
 have hrl:=yN (L:=L) (jX (c2 L) (dts B 0 L)) []
 have hsl:=sV (c2 L) (dts B 0 L)
 have hF:=h2.length_eq
 simp only [List.length_append,List.length_nil]at hF hrl
 have hrl':(fnd B L L).1.length+(fnd B L L).2.length=0+(jX (c2 L) (dts B 0 L)).length:=hrl
 obtain ⟨s,s1,s2,s3⟩:=MP h2 (by omega)
 refine⟨s,?_,by omega⟩
 unfold pK
 rw [hk,hb]
 show (gX _ _).bind _=_
 rw [iO h1,ob_,kz]
 simp only
 rw [s1,ob_]
 unfold jS;rw [if_pos s3];rfl
def Sep (a b:Play):Prop:=lt a.Player b.Player\/a.Player=b.Player/\a.At+a.Long<=b.At
theorem MC {a b c:Play} (hb:0<b.Long) (h:Sep a b) (k:Sep b c):Sep a c:=by
 rcases h with h|⟨h1,h2⟩
 ·rcases k with k|⟨k1,k2⟩
  ·exact .inl (lt_trans h k)
  ·exact .inl (by rw [<- k1];exact h)
 ·rcases k with k|⟨k1,k2⟩
  ·exact .inl (by rw [h1];exact k)
  ·exact .inr ⟨h1.trans k1,by omega⟩
theorem NB {L:List Log_} {pl:List Play} {d:Dated} {q:Play} (h:stp L pl d=some q):q.Player=(yL L d).Player/\q.Item=(yL L d).Item/\∀o,pl.getLast? = some o->o.Player=q.Player->o.At+o.Long<=q.At:=by
 unfold stp at h
 cases hc:(decide ((og L pl d).2<=0) || !momB (og L pl d).1)with
 | true=>rw [hc]at h;cases h
 | false =>
  rw [hc,cond_false]at h
  cases h
  refine⟨rfl,rfl,λo ho he => ?_⟩
  show o.At+o.Long<=(og L pl d).1
  unfold og
  rw [ho]
  have he:o.Player=(yL L d).Player:=he
  simp only []
  by_cases hx:o.At+o.Long>d.f_at
  ·rw [decide_eq_true he,decide_eq_true hx]
   exact Int.le_refl _
  ·rw [decide_eq_true he,decide_eq_false hx]
   show o.At+o.Long<=d.f_at
   omega
def LeD (L:List Log_) (a b:Dated):Prop:=lt (yL L a).Player (yL L b).Player\/(yL L a).Player=(yL L b).Player
theorem Nh {L:List Log_} {a b c:Dated} (h:LeD L a b) (k:LeD L b c):LeD L a c:=by
 rcases h with h|h
 ·rcases k with k|k
  ·exact .inl (lt_trans h k)
  ·exact .inl (by rw [<- k];exact h)
 ·unfold LeD;rw [h];exact k
theorem D5 {L:List Log_}:∀(ds:List Dated) (pl:List Play),(∀d∈ds,VD L d)->(∀q∈pl,nL q)->ds.Pairwise (LeD L)->(∀q∈pl,∀d∈ds,lt q.Player (yL L d).Player\/q.Player=(yL L d).Player)->pl.Pairwise Sep->(mZ L pl ds).1.Pairwise Sep
 | [],pl,_,_,_,_,h=>h
 | d::ds,pl,hd,hp,hs,hl,h=>by
  obtain ⟨s1,s2⟩:=List.pairwise_cons.1 hs
  rw [mZ]
  cases hq:stp L pl d with
  | none=>exact D5 ds pl (λe he=>hd e (List.mem_cons_of_mem _ he)) hp s2 (λq hq e he=>hl q hq e (List.mem_cons_of_mem _ he)) h
  | some q =>
   obtain ⟨g1,g2⟩:=Db (hd d (by simp)) hp hq
   obtain ⟨t1,t2,t3⟩:=NB hq
   refine D5 ds (pl++[q]) (λe he=>hd e (List.mem_cons_of_mem _ he)) (λz hz => ?_) s2 (λz hz e he => ?_) (Dm h (λy hy => ?_))
   ·rcases List.mem_append.1 hz with hz|hz
    ·exact hp z hz
    ·rw [List.mem_singleton.1 hz];exact g1
   ·rcases List.mem_append.1 hz with hz|hz
    ·exact hl z hz e (List.mem_cons_of_mem _ he)
    ·rw [List.mem_singleton.1 hz,t1];exact s1 e he
   ·-- y before q
    cases hg:pl.getLast? with
    | none=>rw [List.getLast?_eq_none_iff]at hg;rw [hg]at hy;cases hy
    | some o =>
     have hom:o∈pl:=List.mem_of_getLast? hg
     have hoq:Sep o q:=by
      rcases hl o hom d (by simp)with k|k
      ·exact .inl (by rw [t1];exact k)
      ·exact .inr ⟨by rw [t1];exact k,t3 o hg (by rw [t1];exact k)⟩
     obtain ⟨ini,hini⟩:∃ini,pl=ini++[o]:=by
      obtain ⟨ini,e⟩:=List.getLast?_eq_some_iff.1 hg
      exact⟨ini,e⟩
     rw [hini]at hy h
     rcases List.mem_append.1 hy with hy|hy
     ·have:=(List.pairwise_append.1 h).2.2 y hy o (by simp)
      exact MC (hp o hom).2.2.1 this hoq
     ·rw [List.mem_singleton.1 hy];exact hoq
theorem Ci {L:List Log_}:∀(ds:List Dated) (pl:List Play),(∀q∈(mZ L pl ds).1,q∈pl\/∃d∈ds,q.Player=(yL L d).Player/\q.Item=(yL L d).Item)
 | [],pl=>λq hq => .inl hq
 | d::ds,pl=>by
  rw [mZ]
  cases hs:stp L pl d with
  | some q =>
   obtain ⟨t1,t2,_⟩:=NB hs
   intro z hz
   rcases Ci ds (pl++[q]) z hz with h|⟨e,he,h⟩
   ·rcases List.mem_append.1 h with h|h
    ·exact .inl h
    ·rw [List.mem_singleton.1 h];exact .inr ⟨d,by simp,t1,t2⟩
   ·exact .inr ⟨e,List.mem_cons_of_mem _ he,h⟩
  | none =>
   intro z hz
   rcases Ci ds pl z hz with h|⟨e,he,h⟩
   ·exact .inl h
   ·exact .inr ⟨e,List.mem_cons_of_mem _ he,h⟩
theorem c2_le {L:List Log_} {a b:Dated}:(c2 L a b<0->LeD L a b)/\(¬c2 L a b<0->LeD L b a):=by
 unfold c2 vG LeD
 rcases jr (yL L a).Player (yL L b).Player with⟨h,e⟩|⟨h,e⟩|⟨h,e⟩
 ·rw [e]
  exact⟨λ_ => .inl h,λk=>absurd (show (-1:Int)<0 by omega) k⟩
 ·exact⟨λ_ => .inr h,λ_ => .inr h.symm⟩
 ·rw [e]
  exact⟨λk=>absurd k (show ¬(1:Int)<0 by omega),λ_ => .inl h⟩
theorem JD {B:List Beat} (hB:BOk B) {L:List Log_} (hL:LOk L) (hr:∀x∈L,uj x) :
  (∀q∈(fnd B L L).1,nL q/\(q.Player=paS\/q.Player=pbS)/\(q.Item=iaS\/q.Item=ibS))/\(fnd B L L).1.Pairwise Sep:=by
 have hV:∀d∈dts B 0 L,VD L d/\yL L d∈L:=λd hd=>JZ hB hL (pre:=[]) (g:=L) (post:=[]) (by simp) hd
 have hV2:∀d∈jX (c2 L) (dts B 0 L),VD L d:=λd hd=>(hV d ((vw _ _ _).1 hd)).1
 unfold fnd
 refine⟨λq hq => ?_,?_⟩
 ·refine⟨(xh _ [] hV2 (λz hz=>by cases hz)).1 q hq,?_⟩
  rcases Ci _ [] q hq with h|⟨d,hd,e1,e2⟩
  ·cases h
  ·have:=hr _ (hV d ((vw _ _ _).1 hd)).2
   rw [e1,e2]
   exact⟨this.1,this.2.1⟩
 ·exact D5 _ [] hV2 (λz hz=>by cases hz) (I6 (c:=c2 L) (le:=LeD L) (p:=λ_=>True) (λa b _ _=>c2_le.1) (λa b _ _=>c2_le.2) (λa b d _ _ _=>Nh) _ (λ_ _=>trivial)) (λz hz=>by cases hz) .nil
structure GoodY (x:Play):Prop where
 pl:ShortK x.Player
 it:ShortK x.Item
 at_ : -2000000000000<=x.At/\x.At<=2000000000000
 lo : -2000000000000<=x.Long/\x.Long<=2000000000000
def befP (a b:Play):Prop:=lt a.Player b.Player\/a.Player=b.Player/\a.At<b.At
def FH (n:Int):Bool:=nO n 1 86400000
def plE (p:Play):Int:=bif !oV p.Player || !oV p.Item then 5 else bif !momB p.At||FH p.Long then 1 else 0
instance (a b:ByteArray):Decidable (lt a b):=by unfold lt;exact inferInstance
def EF (a b:Play):Bool:=decide (lt a.Player b.Player)||(decide (a.Player=b.Player)&&decide (a.At<b.At))
theorem Ct {a b:Play}:EF a b=true↔befP a b:=by
 unfold EF befP;simp
def Ed (o:Option Play) (p:Play):Int:=bif plE p==0 then (match o with | none=>0 | some q=>bif EF q p then 0 else 7)else plE p
def F8 (l:List Play):Int:=qU Ed none l
theorem BI (a b:Play):∃n,iK a b=some n/\(decide (n>=0)) = !EF a b:=by
 refine⟨_,by simp only [iK,rQ,qQ,KU,ob_];rfl,?_⟩
 have key:(vG (vU a.Player b.Player) (rP a.At b.At)<0)↔befP a b:=by
  unfold vG rP befP
  rcases jr a.Player b.Player with⟨h,e⟩|⟨h,e⟩|⟨h,e⟩
  ·rw [e];simp [h]
  ·rw [e,h]
   have hn:¬lt b.Player b.Player:=fK _
   by_cases h1:a.At<b.At
   ·simp [h1]
   ·by_cases h2:a.At>b.At <;> simp [h1,h2,hn]
  ·have hn:¬lt a.Player b.Player:=λk=>fK _ (lt_trans h k)
   have hn2:a.Player≠b.Player:=λk=>by rw [k]at h;exact fK _ h
   rw [e];simp [hn,hn2]
 rw [Bool.eq_iff_iff]
 simp only [decide_eq_true_eq,Bool.not_eq_true',Bool.eq_false_iff,ne_eq,Ct,<- key]
 omega
theorem J7 {l:List Play} {k:Nat} {x:Play} {f:Play->Play->Option Int} (hx:l[k]? = some x) (hl:l.length<=1000) (hf:∀y,y∈l->∃n,f y x=some n/\decide (n>=0) = !EF y x) :
  (bif (decide ((k:Int)>0))then (idx l (w64 ((k:Int)-1))).bind λy=>(f y x).bind λr=>some (decide (r>=0))else some false)=some (match rq l k with | none=>false | some q => !EF q x):=by
 have hk:k<l.length:=(List.getElem?_eq_some_iff.1 hx).1
 rcases Nat.eq_zero_or_pos k with h0|h0
 ·subst h0
  rw [decide_eq_false (by omega)];rfl
 ·rw [decide_eq_true (by omega),cond_true]
  obtain ⟨y,q1,q2⟩:=wR hx h0 (by omega)
  obtain ⟨n,n1,n2⟩:=hf y (List.mem_of_getElem? q2)
  have e:rq l k=some y:=by unfold rq;rw [if_neg (by omega)];exact q2
  rw [q1,ob_,n1,ob_,n2,e]
theorem xL {l:List Play} (hg:∀x∈l,GoodY x) (hl:l.length<=1000):iA l=some (F8 l):=by
 unfold iA
 rw [decide_eq_false (show ¬(l.length:Int)>3000 by omega),cond_false,kM (by omega)]
 rw [uH (stp:=Ed) (body:=λk x s=>fP l k x s) l l 0 rfl (λk x hx => ?_)]
 ·exact yo _
 ·have hm:x∈l:=List.mem_of_getElem? hx
  obtain ⟨p1,p2,_,_⟩:=hg x hm
  unfold ShortK at p1 p2
  show fP l k x ()=_
  unfold fP
  rw [J7 hx hl (λy _=>BI y x)]
  simp only [wD _ (show x.Player.size<=1000000000 by omega),wD _ (show x.Item.size<=1000000000 by omega),rT,rR,ob_]
  unfold Ed plE FH
  cases oV x.Player <;> cases oV x.Item <;> cases momB x.At <;> cases nO x.Long 1 86400000 <;> first | rfl | skip
  cases rq l k with
  | none=>rfl
  | some q=>dsimp only;cases EF q x <;> rfl
structure VP (l:List Play):Prop where
 good:∀x∈l,GoodY x
 at_:∀x∈l,0<=x.At/\x.At<=345686399999
 lo:∀x∈l,1<=x.Long/\x.Long<=86400000
 rise:l.Pairwise befP
theorem KI {a b c:Play} (h:befP a b) (k:befP b c):befP a c:=by
 rcases h with h|⟨h1,h2⟩
 ·rcases k with k|⟨k1,k2⟩
  ·exact .inl (lt_trans h k)
  ·exact .inl (by rw [<- k1];exact h)
 ·rcases k with k|⟨k1,k2⟩
  ·exact .inl (by rw [h1];exact k)
  ·exact .inr ⟨h1.trans k1,by omega⟩
theorem IY:∀{l:List Play} {o:Option Play},qU Ed o l=0->(∀x∈l,plE x=0)/\(∀q,o=some q->∀x∈l,befP q x)/\l.Pairwise befP
 | [],o,_=>⟨λx hx=>(by cases hx),λq _ x hx=>(by cases hx),List.Pairwise.nil⟩
 | x::l,o,h=>by
  have h1:=Jv h
  obtain ⟨h2,h3⟩:=h1
  obtain ⟨r1,r2,r3⟩:=IY h3
  unfold Ed at h2
  cases he:plE x==0 with
  | false =>
   rw [he,cond_false]at h2
   rw [h2]at he;cases he
  | true =>
   rw [he,cond_true]at h2
   have hx0:plE x=0:=eq_of_beq he
   have hp:∀q,o=some q->befP q x:=λq hq=>by
    subst hq
    simp only []at h2
    cases hb:EF q x with
    | true=>exact Ct.1 hb
    | false=>rw [hb]at h2;cases h2
   refine⟨λy hy => ?_,λq hq y hy => ?_,List.pairwise_cons.2 ⟨λy hy=>r2 x rfl y hy,r3⟩⟩
   ·rcases List.mem_cons.1 hy with rfl|hy
    ·exact hx0
    ·exact r1 y hy
   ·rcases List.mem_cons.1 hy with rfl|hy
    ·exact hp q hq
    ·exact KI (hp q hq) (r2 x rfl y hy)
theorem vp_of {l:List Play} (hg:∀x∈l,GoodY x) (h:F8 l=0):VP l:=by
 obtain ⟨h1,_,h3⟩:=IY h
 have key:∀x∈l,momB x.At=true/\FH x.Long=false:=λx hx=>by
  have:=h1 x hx
  unfold plE at this
  cases hk:(!oV x.Player || !oV x.Item)with
  | true=>rw [hk]at this;cases this
  | false =>
   rw [hk,cond_false]at this
   cases hm:momB x.At <;> cases hl:FH x.Long <;> rw [hm,hl]at this <;> first | exact⟨rfl,rfl⟩ | cases this
 exact⟨hg,λx hx=>yf (key x hx).1,λx hx=>BR (key x hx).2,h3⟩
def JH (p:Play) (zone:Int):Int:=(p.At+zone*60000) / 86400000
theorem day_eq {p:Play} {zone:Int} (hp:0<=p.At/\p.At<=345686399999) (hz : -1440<=zone/\zone<=1440):o5 p.At zone=some (JH p zone):=by
 unfold o5 JH
 have h1:w64 (zone*60000)=zone*60000:=dR (by omega)
 have h2:w64 (p.At+zone*60000)=p.At+zone*60000:=dR (by omega)
 have h3:w64 (p.At+zone*60000+86400000)=p.At+zone*60000+86400000:=dR (by omega)
 rw [h1,h2,h3,Int.tdiv_eq_ediv_of_nonneg (by omega),dR (n:=(p.At+zone*60000+86400000) / 86400000) (by omega),dR (by omega)]
 congr 1;omega
def sameK (k t:Tally):Bool:=decide (t.Player=k.Player)&&(decide (t.Item=k.Item)&&decide (t.Day=k.Day))
theorem wY {k t:Tally}:sameK k t=true↔t.Player=k.Player/\t.Item=k.Item/\t.Day=k.Day:=by unfold sameK;simp
def ixT (k:Tally):List Tally->Option Nat
 | []=>none
 | t::ts=>if sameK k t=true then some 0 else (ixT k ts).map (· + 1)
theorem I4 {k:Tally}:∀{ts:List Tally} {i:Nat},ixT k ts=some i->∃t,ts[i]? = some t/\sameK k t=true
 | t::ts,i,h=>by
  simp only [ixT]at h
  split at h
  ·rename_i h1
   simp only [so_]at h;subst h
   exact⟨t,rfl,h1⟩
  ·simp only [Option.map_eq_some_iff]at h
   obtain ⟨j,hj,rfl⟩:=h
   obtain ⟨t',h1,h2⟩:=I4 hj
   exact⟨t',by simpa using h1,h2⟩
 | [],_,h=>by cases h
theorem Jn {k:Tally}:∀{ts:List Tally},ixT k ts=none->∀t∈ts,sameK k t=false
 | t::ts,h=>by
  simp only [ixT]at h
  split at h
  ·cases h
  ·rename_i h1
   simp only [Option.map_eq_none_iff]at h
   intro x hx
   rcases List.mem_cons.1 hx with rfl|hx
   ·simpa using h1
   ·exact Jn h x hx
 | [],_=>λx hx=>by cases hx
theorem K9 {k:Tally} {x:Tally} (hx:sameK k x=true):∀{ts:List Tally},ixT k ts=none->ixT k (ts++[x])=some ts.length
 | [],_=>by simp [ixT,hx]
 | t::ts,h=>by
  simp only [ixT]at h
  split at h
  ·cases h
  ·rename_i h1
   simp only [Option.map_eq_none_iff]at h
   simp only [List.cons_append,ixT,if_neg h1,K9 hx h,Option.map_some,List.length_cons]
theorem K3 {k x y:Tally} {i:Nat} (hs:sameK k x=sameK k y):∀{ts:List Tally} {j:Nat},ts[j]? = some x->ixT k (ts.set j y)=ixT k ts
 | t::ts,0,h=>by
  simp only [List.getElem?_cons_zero,so_]at h;subst h
  simp only [List.set_cons_zero,ixT,hs]
 | t::ts,j+1,h=>by
  simp only [List.set_cons_succ,ixT,K3 (i:=i) hs (ts:=ts) (j:=j) (by simpa using h)]
 | [],_,h=>by cases h
def kT (p:Play) (zone:Int):Tally:=⟨p.Player,p.Item,JH p zone,0,0⟩
def upT (t:Tally) (p:Play):Tally:=⟨t.Player,t.Item,t.Day,t.Many+1,t.Long+p.Long⟩
def jE (zone:Int) (ts:List Tally) (p:Play):List Tally:=match ixT (kT p zone) ts with | none=>ts++[kT p zone] | some _=>ts
theorem Cu (zone:Int) (ts:List Tally) (p:Play):∃i t,ixT (kT p zone) (jE zone ts p)=some i/\(jE zone ts p)[i]? = some t/\sameK (kT p zone) t=true:=by
 have hk:sameK (kT p zone) (kT p zone)=true:=wY.2 ⟨rfl,rfl,rfl⟩
 unfold jE
 cases h:ixT (kT p zone) ts with
 | none =>
  refine⟨ts.length,kT p zone,K9 hk h,by simp,hk⟩
 | some i =>
  obtain ⟨t,h1,h2⟩:=I4 h
  exact⟨i,t,h,h1,h2⟩
def stepT (zone:Int) (ts:List Tally) (p:Play):List Tally:=match ixT (kT p zone) (jE zone ts p)with
 | none=>ts
 | some i=>match (jE zone ts p)[i]? with
  | none=>ts
  | some t=>(jE zone ts p).set i (upT t p)
theorem D8 {zone:Int} {ts:List Tally} {p:Play} {i:Nat} {t:Tally} (h1:ixT (kT p zone) (jE zone ts p)=some i) (h2:(jE zone ts p)[i]? = some t):stepT zone ts p=(jE zone ts p).set i (upT t p):=by
 unfold stepT;rw [h1];simp only [h2]
structure TT (n:Nat) (ts:List Tally):Prop where
 len:ts.length<=n
 day:∀t∈ts,-1000000<=t.Day/\t.Day<=1000000
 many:∀t∈ts,0<=t.Many/\t.Many<=n
 lo:∀t∈ts,0<=t.Long/\t.Long<=86400000*n
 dif:ts.Pairwise (λa b=>sameK a b=false)
theorem Dv {a b:Tally}:sameK a b=sameK b a:=by
 rw [Bool.eq_iff_iff,wY,wY]
 exact⟨fun⟨h1,h2,h3⟩=>⟨h1.symm,h2.symm,h3.symm⟩,fun⟨h1,h2,h3⟩=>⟨h1.symm,h2.symm,h3.symm⟩⟩
theorem dayZ_in {p:Play} {zone:Int} (hp:0<=p.At/\p.At<=345686399999) (hz : -1440<=zone/\zone<=1440) : -1000000<=JH p zone/\JH p zone<=1000000:=by
 unfold JH;omega
theorem Ir {zone:Int} {n:Nat} {ts:List Tally} {p:Play} (h:TT n ts) (hp:0<=p.At/\p.At<=345686399999) (hz : -1440<=zone/\zone<=1440):TT (n+1) (jE zone ts p):=by
 obtain ⟨h1,h2,h3,h4,h5⟩:=h
 unfold jE
 cases hi:ixT (kT p zone) ts with
 | some i=>exact⟨by simp only [];omega,h2,λt ht=>by have:=h3 t ht;omega,λt ht=>by have:=h4 t ht;omega,h5⟩
 | none =>
  have hd:=dayZ_in hp hz
  refine⟨by simp;omega,λt ht => ?_,λt ht => ?_,λt ht => ?_,?_⟩
  ·rcases List.mem_append.1 ht with ht|ht
   ·exact h2 t ht
   ·rw [List.mem_singleton.1 ht];exact hd
  ·rcases List.mem_append.1 ht with ht|ht
   ·have:=h3 t ht;omega
   ·rw [List.mem_singleton.1 ht];show (0:Int)<=0/\(0:Int)<=_;omega
  ·rcases List.mem_append.1 ht with ht|ht
   ·have:=h4 t ht;omega
   ·rw [List.mem_singleton.1 ht];show (0:Int)<=0/\(0:Int)<=_;omega
  ·refine List.pairwise_append.2 ⟨h5,List.pairwise_singleton _ _,λa ha b hb => ?_⟩
   rw [List.mem_singleton.1 hb,Dv]
   exact Jn hi a ha
theorem Nz {zone:Int} {n:Nat} {ts:List Tally} {p:Play} (h:TT n ts) (hp:0<=p.At/\p.At<=345686399999) (hl:1<=p.Long/\p.Long<=86400000) (hz : -1440<=zone/\zone<=1440):TT (n+1) (stepT zone ts p):=by
 obtain ⟨i,t,i1,i2,i3⟩:=Cu zone ts p
 rw [D8 i1 i2]
 have hw:=Ir h hp hz
 have hn:∀x∈jE zone ts p,x.Many<=n/\x.Long<=86400000*n:=λx hx=>by
  unfold jE at hx
  split at hx
  ·rcases List.mem_append.1 hx with hx|hx
   ·exact⟨(h.many x hx).2,(h.lo x hx).2⟩
   ·rw [List.mem_singleton.1 hx];show (0:Int)<=n/\(0:Int)<=86400000*n;omega
  ·exact⟨(h.many x hx).2,(h.lo x hx).2⟩
 have ht:=List.mem_of_getElem? i2
 obtain ⟨n1,n2⟩:=hn t ht
 obtain ⟨h1,h2,h3,h4,h5⟩:=hw
 refine⟨by rw [List.length_set];exact h1,DV h2 (h2 t ht),DV h3 ?_,DV h4 ?_,?_⟩
 ·have:=h3 t ht;show 0<=t.Many+1/\t.Many+1<=((n+1:Nat):Int);omega
 ·have:=h4 t ht;show 0<=t.Long+p.Long/\t.Long+p.Long<=86400000*((n+1:Nat):Int);omega
 ·refine List.pairwise_iff_getElem.2 (λa b ha hb hab => ?_)
  simp only [List.length_set]at ha hb
  have hp:=List.pairwise_iff_getElem.1 h5 a b ha hb hab
  obtain ⟨hil,hit⟩:=List.getElem?_eq_some_iff.1 i2
  have e:∀j (hj:j<(jE zone ts p).length),sameK (((jE zone ts p).set i (upT t p))[j]'(by rw [List.length_set];exact hj))=sameK (jE zone ts p)[j]/\∀k,sameK k (((jE zone ts p).set i (upT t p))[j]'(by rw [List.length_set];exact hj))=sameK k (jE zone ts p)[j]:=λj hj=>by
   rw [List.getElem_set]
   split
   ·rename_i e;subst e;rw [hit];exact⟨rfl,λ_=>rfl⟩
   ·exact⟨rfl,λ_=>rfl⟩
  rw [(e a ha).1,(e b hb).2];exact hp
def wE (zone:Int) (l:List Play):List Tally:=l.foldl (stepT zone) []
theorem Ju (zone:Int) (l:List Play) (p:Play):wE zone (l++[p])=stepT zone (wE zone l) p:=by unfold wE;rw [List.foldl_append];rfl
theorem Dc {zone:Int} (hz : -1440<=zone/\zone<=1440):∀(l:List Play),(∀x∈l,0<=x.At/\x.At<=345686399999)->(∀x∈l,1<=x.Long/\x.Long<=86400000)->TT l.length (wE zone l):=by
 have key:∀(l:List Play) (n:Nat) (ts:List Tally),(∀x∈l,0<=x.At/\x.At<=345686399999)->(∀x∈l,1<=x.Long/\x.Long<=86400000)->TT n ts->TT (n+l.length) (l.foldl (stepT zone) ts):=by
  intro l
  induction l with
  | nil=>intro n ts _ _ h;exact h
  | cons p l ih =>
   intro n ts ha hl h
   have:=ih (n+1) (stepT zone ts p) (λx hx=>ha x (by simp [hx])) (λx hx=>hl x (by simp [hx])) (Nz h (ha p (by simp)) (hl p (by simp)) hz)
   rw [List.foldl_cons,List.length_cons,show n+(l.length+1)=n+1+l.length by omega];exact this
 intro l ha hl
 have:=key l 0 [] ha hl ⟨by simp,λt ht=>(by cases ht),λt ht=>(by cases ht),λt ht=>(by cases ht),List.Pairwise.nil⟩
 rw [Nat.zero_add]at this;exact this
theorem K8 (a b:ByteArray):(a==b)=true↔a=b:=by
 obtain ⟨x⟩:=a
 obtain ⟨y⟩:=b
 refine⟨λh => ?_,λh => ?_⟩
 ·have h1:(x==y)=true:=h
  rw [eq_of_beq h1]
 ·cases h
  show (x==x)=true
  exact beq_self_eq_true x
theorem LF {eq:Tally->Tally->Bool} {k:Tally} (he:∀a b:Tally,eq a b=(eqS a.Player b.Player&&(eqS a.Item b.Item&&(eqI a.Day b.Day&&(eqI a.Many b.Many&&(eqI a.Long b.Long&&true)))))) (hk:k.Many=0/\k.Long=0):∀{es:List (Tally×Tally)},(∀e∈es,e.1=⟨e.2.Player,e.2.Item,e.2.Day,0,0⟩)->rz eq k es=ixT k (es.map (·.2))
 | [],_=>rfl
 | e::es,h=>by
  have h1:=h e (by simp)
  have hs:eq k e.1=sameK k e.2:=by
   rw [he,h1]
   simp only [hk.1,hk.2,eqI,eqS,beq_self_eq_true,Bool.and_true]
   unfold sameK
   have a1:(k.Player==e.2.Player)=decide (e.2.Player=k.Player):=by rw [Bool.eq_iff_iff,K8,decide_eq_true_eq];exact eq_comm
   have a2:(k.Item==e.2.Item)=decide (e.2.Item=k.Item):=by rw [Bool.eq_iff_iff,K8,decide_eq_true_eq];exact eq_comm
   have a3:(k.Day==e.2.Day)=decide (e.2.Day=k.Day):=by rw [Bool.eq_iff_iff,beq_iff_eq,decide_eq_true_eq];exact eq_comm
   rw [a1,a2,a3]
  have ih:=LF he hk (es:=es) (λx hx=>h x (List.mem_cons_of_mem _ hx))
  simp only [rz,List.map_cons,ixT,hs,ih]
def ES (es:List (Tally×Tally)) (ts:List Tally):Prop:=es.map (·.2)=ts/\∀e∈es,e.1=⟨e.2.Player,e.2.Item,e.2.Day,0,0⟩
theorem Np {zone:Int} (hz : -1440<=zone/\zone<=1440) {es:List (Tally×Tally)} {ts:List Tally} {n:Nat} (hn:n<=100) (hE:ES es ts) (h:TT n ts) {p:Play} (hp:0<=p.At/\p.At<=345686399999) (hl:1<=p.Long/\p.Long<=86400000) (k:Nat) :
  ∃es',iZ zone k p es=some (.go es')/\ES es' (stepT zone ts p):=by
 obtain ⟨i,t,i1,i2,i3⟩:=Cu zone ts p
 have hw:=Ir h hp hz
 obtain ⟨hil,hit⟩:=List.getElem?_eq_some_iff.1 i2
 have ht:=List.mem_of_getElem? i2
 have m1:=hw.many t ht
 have m2:=hw.lo t ht
 obtain ⟨e1,e2⟩:=hE
 generalize heq:(λ(a b:Tally)=>(eqS a.Player b.Player&&(eqS a.Item b.Item&&(eqI a.Day b.Day&&(eqI a.Many b.Many&&(eqI a.Long b.Long&&true))))))=eq
 have he:∀a b:Tally,eq a b=(eqS a.Player b.Player&&(eqS a.Item b.Item&&(eqI a.Day b.Day&&(eqI a.Many b.Many&&(eqI a.Long b.Long&&true))))):=λa b=>by rw [<- heq]
 unfold iZ
 rw [day_eq hp hz,ob_]
 simp only [heq]
 have hK:(⟨p.Player,p.Item,JH p zone,0,0⟩:Tally)=kT p zone:=rfl
 simp only [hK]
 have hv:∃v,(bif (rz eq (kT p zone) es).isNone then (Pj (rz eq (kT p zone) es)).bind λ_=>some (es++[(kT p zone,kT p zone)])else some es)=some v/\v.map (·.2)=jE zone ts p/\∀e∈v,e.1=⟨e.2.Player,e.2.Item,e.2.Day,0,0⟩:=by
  rw [LF he ⟨rfl,rfl⟩ e2,e1]
  unfold jE
  cases hi:ixT (kT p zone) ts with
  | none =>
   refine⟨_,rfl,by rw [List.map_append,e1];rfl,λe he' => ?_⟩
   rcases List.mem_append.1 he' with he'|he'
   ·exact e2 e he'
   ·rw [List.mem_singleton.1 he'];rfl
  | some j=>exact⟨es,rfl,e1,e2⟩
 obtain ⟨v,v1,v2,v3⟩:=hv
 rw [v1,ob_,LF he ⟨rfl,rfl⟩ v3,v2,i1,ob_]
 have hvl:v.length=(jE zone ts p).length:=by rw [<- v2,List.length_map]
 obtain ⟨e,g1,g2⟩:∃e,v[i]? = some e/\e.2=t:=by
  have:=i2
  rw [<- v2,List.getElem?_map,Option.map_eq_some_iff]at this
  exact this
 have g3:=v3 e (List.mem_of_getElem? g1)
 simp only [g1,ob_]
 have hset:∀y:Tally,y.Player=e.2.Player->y.Item=e.2.Item->y.Day=e.2.Day->ES (v.set i (e.1,y)) ((jE zone ts p).set i y):=λy y1 y2 y3=>by
  refine⟨by rw [List.map_set,v2],λx hx => ?_⟩
  rcases List.mem_or_eq_of_mem_set hx with hx|hx
  ·exact v3 x hx
  ·rw [hx];simp only [y1,y2,y3];exact g3
 obtain ⟨q1,q2⟩:=hset ⟨e.2.Player,e.2.Item,e.2.Day,w64 (e.2.Many+1),e.2.Long⟩ rfl rfl rfl
 have hix:rz eq (kT p zone) (v.set i (e.1,(⟨e.2.Player,e.2.Item,e.2.Day,w64 (e.2.Many+1),e.2.Long⟩:Tally)))=some i:=by
  rw [LF he ⟨rfl,rfl⟩ q2,q1,K3 (i:=i) (x:=t) (by rw [g2];rfl) i2];exact i1
 rw [hix,ob_]
 simp only [set_atK (show i<v.length by omega),ob_,List.set_set]
 refine⟨_,rfl,?_⟩
 rw [D8 i1 i2]
 have:=hset (upT t p) (by rw [g2];rfl) (by rw [g2];rfl) (by rw [g2];rfl)
 have hy:(⟨e.2.Player,e.2.Item,e.2.Day,w64 (e.2.Many+1),w64 (e.2.Long+p.Long)⟩:Tally)=upT t p:=by
  rw [g2,dR (n:=t.Many+1) (by omega),dR (n:=t.Long+p.Long) (by omega)];rfl
 rw [hy];exact this
def ltT (a b:Tally):Prop:=lt a.Player b.Player\/a.Player=b.Player/\(lt a.Item b.Item\/a.Item=b.Item/\a.Day<b.Day)
def cT (a b:Tally):Int:=vG (vU a.Player b.Player) (vG (vU a.Item b.Item) (rP a.Day b.Day))
theorem EZ {a b:ByteArray} (h:lt a b):a≠b:=λk=>by rw [k]at h;exact fK _ h
theorem O4 {a b:Int}:rP a b<0↔a<b:=by 
 unfold rP
 split
 ·omega
 ·split <;> omega
theorem uE {a b:Tally}:cT a b<0↔ltT a b:=by
 unfold cT vG ltT
 rcases jr a.Player b.Player with⟨h,e⟩|⟨h,e⟩|⟨h,e⟩
 ·rw [e];simp [h]
 ·rw [e,h]
  have hn:¬lt b.Player b.Player:=fK _
  rcases jr a.Item b.Item with⟨h2,e2⟩|⟨h2,e2⟩|⟨h2,e2⟩
  ·rw [e2];simp [h2]
  ·rw [e2,h2]
   have hn2:¬lt b.Item b.Item:=fK _
   simp [hn,hn2,O4]
  ·have hn2:¬lt a.Item b.Item:=λk=>fK _ (lt_trans h2 k)
   have hn3:a.Item≠b.Item:=λk=>EZ h2 k.symm
   rw [e2];simp [hn,hn2,hn3]
 ·have hn:¬lt a.Player b.Player:=λk=>fK _ (lt_trans h k)
  have hn2:a.Player≠b.Player:=λk=>EZ h k.symm
  rw [e];simp [hn,hn2]
theorem zA {a b:Tally} (h:ltT a b) (k:ltT b a):False:=by
 rcases h with h|⟨h1,h⟩
 ·rcases k with k|⟨k1,k⟩
  ·exact fK _ (lt_trans h k)
  ·exact EZ h k1.symm
 ·rcases k with k|⟨k1,k⟩
  ·exact EZ k h1.symm
  ·rcases h with h|⟨h2,h⟩
   ·rcases k with k|⟨k2,k⟩
    ·exact fK _ (lt_trans h k)
    ·exact EZ h k2.symm
   ·rcases k with k|⟨k2,k⟩
    ·exact EZ k h2.symm
    ·omega
theorem K5 {a b d:Tally} (h:ltT a d):ltT a b\/ltT b d:=by
 rcases Hf a.Player b.Player with p|p|p
 ·exact .inl (.inl p)
 ·rcases h with h|⟨h1,h⟩
  ·exact .inr (.inl (by rw [<- p];exact h))
  ·rcases Hf a.Item b.Item with q|q|q
   ·exact .inl (.inr ⟨p,.inl q⟩)
   ·rcases h with h|⟨h2,h⟩
    ·exact .inr (.inr ⟨p.symm.trans h1,.inl (by rw [<- q];exact h)⟩)
    ·rcases Int.lt_or_le a.Day b.Day with r|r
     ·exact .inl (.inr ⟨p,.inr ⟨q,r⟩⟩)
     ·exact .inr (.inr ⟨p.symm.trans h1,.inr ⟨q.symm.trans h2,by omega⟩⟩)
   ·rcases h with h|⟨h2,h⟩
    ·exact .inr (.inr ⟨p.symm.trans h1,.inl (lt_trans q h)⟩)
    ·exact .inr (.inr ⟨p.symm.trans h1,.inl (by rw [<- h2];exact q)⟩)
 ·rcases h with h|⟨h1,h⟩
  ·exact .inr (.inl (lt_trans p h))
  ·exact .inr (.inl (by rw [<- h1];exact p))
theorem ltT_tri {a b:Tally} (h:sameK a b=false):ltT a b\/ltT b a:=by
 have hne:¬(b.Player=a.Player/\b.Item=a.Item/\b.Day=a.Day):=λk=>by
  have:=wY.2 k;rw [h]at this;cases this
 rcases Hf a.Player b.Player with p|p|p
 ·exact .inl (.inl p)
 ·rcases Hf a.Item b.Item with q|q|q
  ·exact .inl (.inr ⟨p,.inl q⟩)
  ·rcases Int.lt_trichotomy a.Day b.Day with r|r|r
   ·exact .inl (.inr ⟨p,.inr ⟨q,r⟩⟩)
   ·exact absurd ⟨p.symm,q.symm,r.symm⟩ hne
   ·exact .inr (.inr ⟨p.symm,.inr ⟨q.symm,r⟩⟩)
  ·exact .inr (.inr ⟨p.symm,.inl q⟩)
 ·exact .inr (.inl p)
theorem or3_eq (a b c:Int):iJ [a,b,c]=some (vG a (vG b c)):=by
 unfold iJ vG
 rw [kM (by simp)]
 have step:∀k (x:Int),kH k x ()=some (bif x != 0 then .ret x else .go ()):=λk x=>by
  unfold kH;cases x != 0 <;> rfl
 cases ha:a==0 with
 | false =>
  have h1:(a != 0)=true:=by rw [bne,ha];rfl
  simp only [forR,step,h1,cond_true,ob_,cond_false];rfl
 | true =>
  have h1:(a != 0)=false:=by rw [bne,ha];rfl
  cases hb:b==0 with
  | false =>
   have h2:(b != 0)=true:=by rw [bne,hb];rfl
   simp only [forR,step,h1,h2,cond_true,cond_false,ob_];rfl
  | true =>
   have h2:(b != 0)=false:=by rw [bne,hb];rfl
   cases hc:c==0 with
   | false =>
    have h3:(c != 0)=true:=by rw [bne,hc];rfl
    simp only [forR,step,h1,h2,h3,cond_true,cond_false,ob_];rfl
   | true =>
    have h3:(c != 0)=false:=by rw [bne,hc];rfl
    have:c=0:=eq_of_beq hc
    subst this
    simp only [forR,step,h1,h2,h3,cond_true,cond_false,ob_];rfl
theorem cmpC_eq (a b:Tally):iH a b=some (cT a b):=by
 unfold iH cT
 simp only [rQ,qQ,or3_eq,ob_]
theorem Fg {ts r:List Tally} (hd:ts.Pairwise (λa b=>sameK a b=false)) (hp:r.Perm ts) (hs:r.Pairwise (λa b=>¬cT b a<0)):r.Pairwise ltT:=by
 have h1:r.Pairwise (λa b=>sameK a b=false):=(hp.pairwise_iff (λ{a b} h=>by rw [Dv];exact h)).2 hd
 refine (List.Pairwise.and h1 hs).imp (λ{a b} ⟨h,k⟩ => ?_)
 rw [uE]at k
 rcases ltT_tri h with q|q
 ·exact q
 ·exact absurd q k
theorem Mw {ts:List Tally} {n:Nat} (h:TT n ts) (hl:ts.length<=1000):∃r,r.Perm ts/\∀out,out.Perm ts->eB out=some r:=by
 have hir:∀a,¬cT a a<0:=λa h=>zA (uE.1 h) (uE.1 h)
 have htr:∀a b d,¬cT a b<0->¬cT b d<0->¬cT a d<0:=λa b d h k q=>by
  rcases K5 (b:=b) (uE.1 q)with e|e
  ·exact h (uE.2 e)
  ·exact k (uE.2 e)
 have htt:∀a b d,cT a b<0->cT b d<0->cT a d<0:=λa b d h k=>by
  rcases K5 (b:=d) (uE.1 h)with e|e
  ·exact uE.2 e
  ·exact absurd e (zA (uE.1 k))
 have hS:∀xs:List Tally,xs.length<=1000->∃r,eB xs=some r/\r.Perm xs/\r.Pairwise (λa b=>¬cT b a<0):=λxs hx =>
  J2 (F:=λa b=>iH a b) cT (by omega) (λa _ b _=>cmpC_eq a b) (λa _=>hir a) (λa _ b _ d _=>htt a b d) (λa _ b _ d _=>htr a b d)
 obtain ⟨r,r1,r2,r3⟩:=hS ts hl
 refine⟨r,r2,λout ho => ?_⟩
 obtain ⟨r',q1,q2,q3⟩:=hS out (by rw [ho.length_eq];exact hl)
 rw [q1]
 congr 1
 exact List.Perm.eq_of_pairwise (le:=ltT) (λx y _ _ h1 h2=>(zA h1 h2).elim) (Fg h.dif (q2.trans ho) q3) (Fg h.dif r2 r3) ((q2.trans ho).trans r2.symm)
theorem told {es:List (Tally×Tally)} (hl:es.length<=1000):∀(l:List (Nat×Tally)) (out:List Tally),out.length+l.length<=2000->(∀e∈l,e.1<es.length)->yH (λx s=>gY es x s) l out=some (.go (out++l.filterMap λe=>(es[e.1]?).map (·.2)))
 | [],out,_,_=>by simp [yH]
 | e::l,out,h,hm=>by
  have he:=hm e (by simp)
  simp only [List.length_cons]at h
  rw [yH]
  have:gY es e out=some (.go (out++[es[e.1].2])):=by
   unfold gY
   rw [List.getElem?_eq_getElem he,ob_,lF _ _ (by simp;omega)];rfl
  rw [this,ob_]
  show yH (λx s=>gY es x s) l (out++[es[e.1].2])=_
  rw [told hl l _ (by simp;omega) (λx hx=>hm x (by simp [hx])),List.filterMap_cons,List.getElem?_eq_getElem he]
  simp
theorem xO {α β:Type} {f:α->Option β} {g:α->β}:∀{l:List α},(∀e∈l,f e=some (g e))->l.filterMap f=l.map g
 | [],_=>rfl
 | e::l,h=>by
  rw [List.filterMap_cons,h e (by simp),List.map_cons,xO (λx hx=>h x (List.mem_cons_of_mem _ hx))]
theorem KT {l:List Play} (h:VP l) (hl:l.length<=100) {zone:Int} (hz : -1440<=zone/\zone<=1440) (hv:F8 l=0):∃r,nJ l zone=some (r,0)/\r.Perm (wE zone l):=by
 have hT:=Dc hz l h.at_ h.lo
 have hlen:=hT.len
 obtain ⟨r,r1,r3⟩:=Mw hT (by omega)
 have htake:∀(k:Nat) (x:Play),l[k]? = some x->l.take (k+1)=l.take k++[x]:=λk x hx=>by rw [List.take_add_one,hx];rfl
 have hpre:∀k:Nat,TT (l.take k).length (wE zone (l.take k)):=λk=>Dc hz _ (λx hx=>h.at_ x (List.mem_of_mem_take hx)) (λx hx=>h.lo x (List.mem_of_mem_take hx))
 have hkl:∀k:Nat,(l.take k).length<=100:=λk=>by rw [List.length_take];omega
 refine⟨r,?_,r1⟩
 ·unfold nJ
  rw [xL h.good (by omega),hv,ob_]
  simp only [bne_self_eq_false,cond_false,rR,pg hz,ob_]
  obtain ⟨es,e1,e2⟩:=BU (body:=λk x s=>iZ zone k x s) (λk s=>ES s (wE zone (l.take k))) (xs:=l) (s:=([]:List (Tally×Tally))) (by omega) (λk x s hx hI=>by
   have hm:=List.mem_of_getElem? hx
   have hkk:=hkl k
   obtain ⟨es',q1,q2⟩:=Np hz (n:=(l.take k).length) (by omega) hI (hpre k) (h.at_ x hm) (h.lo x hm) k
   exact⟨es',q1,by rw [htake k x hx,Ju];exact q2⟩) ⟨rfl,λe he=>by cases he⟩
  rw [List.take_length]at e2
  rw [e1]
  simp only [ob_,thenC]
  have hel:es.length=(wE zone l).length:=by rw [<- e2.1,List.length_map]
  refine OV (λl' hp => ?_)
  have hmem:∀e∈l',e.1<es.length:=λe he=>by
   have:=hp.mem_iff.1 he
   unfold pmL at this
   obtain ⟨i,hi,rfl⟩:=List.getElem_of_mem this
   simp only [List.length_mapIdx]at hi
   simp only [List.getElem_mapIdx];exact hi
  have hll:l'.length=es.length:=by rw [hp.length_eq];unfold pmL;simp
  rw [told (by omega) l' [] (by simp only [List.length_nil];omega) hmem]
  simp only [ob_,thenC,List.nil_append]
  have hperm:(l'.filterMap λe=>(es[e.1]?).map (·.2)).Perm (wE zone l):=by
   refine (hp.filterMap _).trans (List.Perm.of_eq ?_)
   rw [<- e2.1]
   have hf:(pmL es).filterMap (λe=>(es[e.1]?).map (·.2))=(pmL es).map (λe=>((es[e.1]?).map (·.2)).getD ⟨⟨#[]⟩,⟨#[]⟩,0,0,0⟩):=by
    refine xO (λe he => ?_)
    unfold pmL at he
    obtain ⟨i,hi,rfl⟩:=List.getElem_of_mem he
    simp only [List.length_mapIdx]at hi
    simp only [List.getElem_mapIdx,List.getElem?_eq_getElem hi,Option.map_some,Option.getD_some]
   rw [hf]
   unfold pmL
   refine List.ext_getElem (by simp) (λi h1 h2 => ?_)
   simp only [List.length_map,List.length_mapIdx]at h1
   simp only [List.getElem_map,List.getElem_mapIdx,List.getElem?_eq_getElem h1,Option.map_some,Option.getD_some]
  rw [r3 _ hperm,ob_]
  have:jS r (l'.filterMap λe=>(es[e.1]?).map (·.2))=some ():=by unfold jS;rw [if_pos (by rw [r1.length_eq,hperm.length_eq])]
  rw [this];rfl
def sF {σ ρ:Type} (s:σ) (body:σ->Option (Ctl σ ρ)):Option (Ctl σ ρ):=iterN body 300 s
def Le {α:Type} (a b:Option α):Prop:=∀r,a=some r->b=some r
theorem Le.refl {α:Type} (a:Option α):Le a a:=λ_ h=>h
theorem Le.bind {α β:Type} {a b:Option α} {f g:α->Option β} (h:Le a b) (k:∀x,Le (f x) (g x)):Le (a.bind f) (b.bind g):=λr e=>by
 obtain ⟨x,h1,h2⟩:=Option.bind_eq_some_iff.1 e
 rw [h x h1];exact k x r h2
theorem Le.cond {α:Type} {a b c d:Option α} {t:Bool} (h:Le a c) (k:Le b d):Le (bif t then a else b) (bif t then c else d):=by
 cases t
 ·exact k
 ·exact h
theorem Le.thenC {σ ρ τ:Type} {o:Ctl σ ρ} {f f':σ->Option τ} {g g':ρ->Option τ} (h:∀x,Le (f x) (f' x)) (k:∀x,Le (g x) (g' x)):Le (Go.Eng.thenC o f g) (Go.Eng.thenC o f' g'):=by
 cases o
 ·exact h _
 ·exact Le.refl _
 ·exact k _
theorem Le.forR {α σ ρ:Type} {b b':Nat->α->σ->Option (Ctl σ ρ)} (h:∀k x s,Le (b k x s) (b' k x s)):∀(xs:List α) (k:Nat) (s:σ),Le (Go.Eng.forR b xs k s) (Go.Eng.forR b' xs k s)
 | [],k,s=>Le.refl _
 | x::xs,k,s=>Le.bind (h k x s) (λc=>by
   cases c with
   | go s'=>exact Le.forR h xs _ _
   | brk s'=>exact Le.refl _
   | ret r=>exact Le.refl _)
theorem Le.forL {α σ ρ:Type} {xs:List α} {s:σ} {b b':Nat->α->σ->Option (Ctl σ ρ)} (h:∀k x s,Le (b k x s) (b' k x s)):Le (Go.Eng.forL xs s b) (Go.Eng.forL xs s b'):=by
 unfold Go.Eng.forL
 split
 ·exact Le.forR h xs 0 s
 ·exact Le.refl _
theorem Le.iterN {σ ρ:Type} {b b':σ->Option (Ctl σ ρ)} (h:∀s,Le (b s) (b' s)):∀(n:Nat) (s:σ),Le (Go.Eng.iterN b n s) (Go.Eng.iterN b' n s)
 | 0,s=>Le.refl _
 | n+1,s=>Le.bind (h s) (λc=>by
   cases c with
   | go s'=>exact Le.iterN h n s'
   | brk s'=>exact Le.refl _
   | ret r=>exact Le.refl _)
theorem Le.loop {σ ρ:Type} {s:σ} {b b':σ->Option (Ctl σ ρ)} (h:∀s,Le (b s) (b' s)):Le (sF s b) (gX s b'):=λr e=>iO (Le.iterN h _ _ r e)
def Nr (x:Int):List Int->List Int
 | []=>[x]
 | y::l=>bif decide (x<=y)then x::y::l else y::Nr x l
def DD:List Int->List Int
 | []=>[]
 | x::l=>Nr x (DD l)
theorem Ac (x:Int):∀l,(Nr x l).Perm (x::l)
 | [] => .refl _
 | y::l=>by
  unfold Nr
  cases decide (x<=y)with
  | true=>exact .refl _
  | false=>exact ((Ac x l).cons y).trans (List.Perm.swap x y l)
theorem AZ:∀l,(DD l).Perm l
 | [] => .refl _
 | x::l=>(Ac x _).trans ((AZ l).cons x)
theorem A7 (x:Int):∀l:List Int,l.Pairwise (· <= ·)->(Nr x l).Pairwise (· <= ·)
 | [],_=>List.pairwise_singleton _ _
 | y::l,h=>by
  obtain ⟨h1,h2⟩:=List.pairwise_cons.1 h
  unfold Nr
  by_cases hx:x<=y
  ·rw [decide_eq_true hx,cond_true]
   exact List.pairwise_cons.2 ⟨λz hz=>by
    rcases List.mem_cons.1 hz with rfl|hz
    ·exact hx
    ·exact Int.le_trans hx (h1 z hz),h⟩
  ·rw [decide_eq_false hx,cond_false]
   exact List.pairwise_cons.2 ⟨λz hz=>by
    rcases List.mem_cons.1 ((Ac x l).mem_iff.1 hz)with rfl|hz
    ·omega
    ·exact h1 z hz,A7 x l h2⟩
theorem xI:∀l,(DD l).Pairwise (· <= ·)
 | [] => .nil
 | x::l=>A7 x _ (xI l)
theorem MH (l:List Int):l.mergeSort (λx y=>decide (x<=y))=DD l:=by
 refine List.Perm.eq_of_pairwise (le:=(· <= ·)) (λa b _ _ h1 h2=>Int.le_antisymm h1 h2) ?_ (xI l) ((List.mergeSort_perm l _).trans (AZ l).symm)
 have:=List.pairwise_mergeSort (le:=λ(x y:Int)=>decide (x<=y)) (λa b c=>by simp;omega) (λa b=>by simp;omega) l
 exact this.imp (by simp)
def xD (l:List Int):Option (List Int):=bif Nat.ble l.length 1000 then some (DD l)else none
theorem PT (l:List Int):Le (xD l) (bS l):=λr h=>by
 unfold xD at h
 cases hb:Nat.ble l.length 1000 with
 | false=>rw [hb]at h;cases h
 | true =>
  rw [hb,cond_true]at h
  have:=Nat.le_of_ble_eq_true hb
  unfold bS FB
  rw [if_pos (by omega),MH];exact h
end Go.Proofs.YtnfojnnfidnikaaGreatDoor.Law

