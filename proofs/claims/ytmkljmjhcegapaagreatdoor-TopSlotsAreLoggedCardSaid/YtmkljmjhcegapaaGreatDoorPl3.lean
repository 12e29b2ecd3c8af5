/-
  THE PLAIN LAW (part 3).
-/
import Derived.Test.YtmkljmjhcegapaaGreatDoorPl2
open Go Go.Eng
namespace Go.Proofs.YtmkljmjhcegapaaGreatDoor.Law
set_option linter.unusedVariables false
set_option linter.unusedSimpArgs false
def gP (d:Dated):Placed:=⟨d.f_i,d.f_at⟩
theorem Kz {B:List Beat} (hB:BOk B) {L:List Log_} {j:Nat} {to:Int} {x:Log_} (hj:L[j]? = some x) (ht:(j:Int)<to) (hx:inM x.Clock) (hjl:j<=1000000) (P:List Placed) (F:List Int) (hl:P.length+F.length<=100000) :
  gH to L (MB B x.Player) (P,F,(j:Int))=some (.go (P++(match atF B x with | some a=>[⟨(j:Int),a⟩] | none=>[]),F++(match atF B x with | some _=>[] | none=>[(j:Int)]),((j+1:Nat):Int))):=by
 obtain ⟨h2,h3⟩:=RL hB x hx
 unfold gH atF
 have hd:decide ((j:Int)<to)=true:=decide_eq_true ht
 have hw:w64 ((j:Int)+1)=((j+1:Nat):Int):=by rw [aZ (by omega)];omega
 simp only [hd,cond_true,iH,hj,ob_,h2,hw]
 have aD:∀d:Placed,jv P [d]=some (P++[d]):=λd=>oP _ _ (by simp;omega)
 have aF:∀d:Int,jv F [d]=some (F++[d]):=λd=>oP _ _ (by simp;omega)
 rcases h3 with⟨h0,_⟩|h0|h0|h0
 ·have e0:((plF B x).2==0)=true:=by rw [h0];rfl
  simp only [e0,cond_true,cond_false,ob_,aD,List.append_nil]
 ·have e8:((plF B x).2==8)=true:=by rw [h0];rfl
  have e0:((plF B x).2==0)=false:=by rw [h0];rfl
  simp only [e8,e0,cond_true,cond_false,ob_,aD,List.append_nil]
 ·have e8:((plF B x).2==8)=false:=by rw [h0];rfl
  have e0:((plF B x).2==0)=false:=by rw [h0];rfl
  simp only [e8,e0,cond_true,cond_false,ob_,aF,List.append_nil]
 ·have e8:((plF B x).2==8)=false:=by rw [h0];rfl
  have e0:((plF B x).2==0)=false:=by rw [h0];rfl
  simp only [e8,e0,cond_true,cond_false,ob_,aF,List.append_nil]
theorem Di {B:List Beat} (hB:BOk B) {L post:List Log_} {p:ByteArray} {to:Nat} (hL:L.length<=1000):∀(xs:List Log_) (j:Nat) (P:List Placed) (F:List Int),L.drop j=xs++post->j+xs.length=to->(∀x∈xs,x.Player=p/\inM x.Clock)->P.length+F.length+xs.length<=10000 ->
  iterN (λs=>gH (to:Int) L (MB B p) s) (xs.length+1) (P,F,(j:Int))=some (.go (P++(dts B j xs).map gP,F++lfs B j xs,(to:Int)))
 | [],j,P,F,hd,ht,hx,hl=>by
  have hc:decide ((j:Int)<(to:Int))=false:=decide_eq_false (by simp at ht;omega)
  simp only [List.length_nil,iterN,gH,hc,cond_false,ob_,dts,lfs,List.map_nil,List.append_nil]
  simp at ht;rw [ht]
 | x::xs,j,P,F,hd,ht,hx,hl=>by
  simp only [List.length_cons]at hl ht
  have hg:L[j]? = some x:=nZ (by rw [hd];rfl)
  obtain ⟨hp,hc⟩:=hx x (by simp)
  have hjl:=(List.getElem?_eq_some_iff.1 hg).1
  have hs:=Kz hB (to:=(to:Int)) hg (by omega) hc (by omega) P F (by omega)
  rw [hp]at hs
  rw [List.length_cons,iterN,hs,ob_]
  simp only
  rw [Di hB hL xs (j+1) _ _ (show L.drop (j+1)=xs++post from aW (show L.drop j=x::(xs++post) from hd)) (by omega) (λy hy=>hx y (List.mem_cons_of_mem _ hy)) (by cases atF B x <;> simp <;> omega),dts,lfs,List.map_append,List.append_assoc,List.append_assoc]
  cases atF B x <;> rfl
def cP (a b:Placed):Int:=xZ a.f_at b.f_at
def cD (a b:Dated):Int:=xZ a.f_at b.f_at
def c2 (L:List Log_) (a b:Dated):Int:=JD (uF (yL L a).Player (yL L b).Player) (xZ a.f_at b.f_at)
theorem stableP (l:List Placed) (hl:l.length<=19):bH l=some (mg cP l):=by
 unfold bH
 have h1:ek l (l.length:Int)=QT lg l (l.length:Int):=rfl
 rw [h1,Rs (p:=λ_=>True) (c:=cP) (λa b _ _=>by unfold lg cP;rw [wP];rfl) l hl (λ_ _=>trivial),ob_]
 unfold jS;rw [if_pos (yu cP l)];rfl
theorem Oo {a b:List Int} (h:a.Perm b) (hl:a.length<=100000):∃s,bJ a=some s/\bJ b=some s/\s.length=a.length:=by
 have hlb:b.length=a.length:=h.length_eq.symm
 have hs:∀l:List Int,(l.mergeSort (λx y=>decide (x<=y))).Pairwise (· <= ·):=λl=>by
  have:=List.pairwise_mergeSort (le:=λ(x y:Int)=>decide (x<=y)) (λa b c=>by simp;omega) (λa b=>by simp;omega) l
  exact this.imp (by simp)
 have e:a.mergeSort (λx y=>decide (x<=y))=b.mergeSort (λx y=>decide (x<=y)) :=
  List.Perm.eq_of_pairwise (le:=(· <= ·)) (λa b _ _ h1 h2=>Int.le_antisymm h1 h2) (hs a) (hs b) ((List.mergeSort_perm a _).trans (h.trans (List.mergeSort_perm b _).symm))
 refine⟨a.mergeSort (λx y=>decide (x<=y)),?_,?_,List.length_mergeSort a⟩
 ·unfold bJ Fb;rw [if_pos (by omega)]
 ·unfold bJ Fb;rw [if_pos (by omega),e]
theorem KS {α:Type} (l:List α) (q:α):(l++[q]).getLast? = some q:=by simp
def GA (pl:List Play) (p:ByteArray):Int:=match pl.getLast? with
 | some q=>bif decide (q.Player=p)then q.At+q.Long else 0
 | none=>0
theorem Q9 (pl:List Play) (q:Play) (p:ByteArray) (h:q.Player=p):GA (pl++[q]) p=q.At+q.Long:=by
 unfold GA;rw [KS];simp only [decide_eq_true h,cond_true]
theorem QX {L:List Log_} (k:Nat) {d:Dated} (hd:VD L d) (F:List Int) (pl:List Play) (hp:∀q∈pl,BF q) (hl:F.length+pl.length<=10000) :
  kW L k (gP d) (pl,F,GA pl (yL L d).Player)=some (.go (match stp L pl d with | some q=>(pl++[q],F,q.At+q.Long) | none=>(pl,F++[d.f_i],GA pl (yL L d).Player))):=by
 have hy:=hd.at
 obtain ⟨h1,h2,h3,h4,h5,h6⟩:=hd
 have key:fZ d.f_at (GA pl (yL L d).Player)=(qC L pl d).1/\d.f_at+(yL L d).Long-(qC L pl d).1=(qC L pl d).2/\(0<=(qC L pl d).1/\(qC L pl d).1<=345772799999):=by
  have m0:fZ d.f_at 0=d.f_at:=by unfold fZ;rw [if_neg (by omega)]
  unfold GA qC
  cases hg:pl.getLast? with
  | none=>show fZ d.f_at 0=d.f_at/\d.f_at+(yL L d).Long-d.f_at=(yL L d).Long/\(0<=d.f_at/\d.f_at<=345772799999);exact⟨m0,by omega,by omega,by omega⟩
  | some q =>
   obtain ⟨q1,q2,q3,q4⟩:=hp q (List.mem_of_getLast? hg)
   show fZ d.f_at (bif decide (q.Player=(yL L d).Player)then q.At+q.Long else 0)=(bif decide (q.Player=(yL L d).Player)&&decide (q.At+q.Long>d.f_at)then (q.At+q.Long,d.f_at+(yL L d).Long-(q.At+q.Long))else (d.f_at,(yL L d).Long)).1 /\
    d.f_at+(yL L d).Long-(bif decide (q.Player=(yL L d).Player)&&decide (q.At+q.Long>d.f_at)then (q.At+q.Long,d.f_at+(yL L d).Long-(q.At+q.Long))else (d.f_at,(yL L d).Long)).1=(bif decide (q.Player=(yL L d).Player)&&decide (q.At+q.Long>d.f_at)then (q.At+q.Long,d.f_at+(yL L d).Long-(q.At+q.Long))else (d.f_at,(yL L d).Long)).2 /\
    (0<=(bif decide (q.Player=(yL L d).Player)&&decide (q.At+q.Long>d.f_at)then (q.At+q.Long,d.f_at+(yL L d).Long-(q.At+q.Long))else (d.f_at,(yL L d).Long)).1/\(bif decide (q.Player=(yL L d).Player)&&decide (q.At+q.Long>d.f_at)then (q.At+q.Long,d.f_at+(yL L d).Long-(q.At+q.Long))else (d.f_at,(yL L d).Long)).1<=345772799999)
   cases hpl:decide (q.Player=(yL L d).Player)with
   | true =>
    cases hgt:decide (q.At+q.Long>d.f_at)with
    | true =>
     have hgt:=of_decide_eq_true hgt
     have m1:fZ d.f_at (q.At+q.Long)=q.At+q.Long:=by unfold fZ;rw [if_pos hgt]
     show fZ d.f_at (q.At+q.Long)=q.At+q.Long/\d.f_at+(yL L d).Long-(q.At+q.Long)=d.f_at+(yL L d).Long-(q.At+q.Long)/\(0<=q.At+q.Long/\q.At+q.Long<=345772799999)
     exact⟨m1,rfl,by omega,by omega⟩
    | false =>
     have hgt:=of_decide_eq_false hgt
     have m1:fZ d.f_at (q.At+q.Long)=d.f_at:=by unfold fZ;rw [if_neg hgt]
     show fZ d.f_at (q.At+q.Long)=d.f_at/\d.f_at+(yL L d).Long-d.f_at=(yL L d).Long/\(0<=d.f_at/\d.f_at<=345772799999)
     exact⟨m1,by omega,by omega,by omega⟩
   | false =>
    show fZ d.f_at 0=d.f_at/\d.f_at+(yL L d).Long-d.f_at=(yL L d).Long/\(0<=d.f_at/\d.f_at<=345772799999)
    exact⟨m0,by omega,by omega,by omega⟩
 obtain ⟨k1,k2,k3,k4⟩:=key
 have w2:w64 (d.f_at+(yL L d).Long)=d.f_at+(yL L d).Long:=aZ (by omega)
 have w3:w64 (d.f_at+(yL L d).Long-(qC L pl d).1)=(qC L pl d).2:=by rw [aZ (by omega)];exact k2
 have hr:decide ((qC L pl d).1>=d.f_at+(yL L d).Long)=decide ((qC L pl d).2<=0):=decide_eq_decide.2 (by omega)
 have aF:jv F [d.f_i]=some (F++[d.f_i]):=oP _ _ (by simp;omega)
 have aP:∀q:Play,jv pl [q]=some (pl++[q]):=λq=>oP _ _ (by simp;omega)
 have hend:d.f_at+(yL L d).Long=(qC L pl d).1+(qC L pl d).2:=by omega
 unfold kW stp
 simp only [gP,hy,ob_,k1,w2,hr,w3,uB]
 cases h7:decide ((qC L pl d).2<=0)with
 | true=>simp only [cond_true,ob_,Bool.true_or,aF]
 | false =>
  cases h8:momB (qC L pl d).1 with
  | true=>simp only [cond_true,cond_false,ob_,Bool.or_self,Bool.not_true,aP,hend]
  | false=>simp only [cond_true,cond_false,ob_,Bool.false_or,Bool.not_false,aF]
theorem CO {L:List Log_} {p:ByteArray}:∀(ds:List Dated) (k:Nat) (F:List Int) (pl:List Play),(∀d∈ds,VD L d/\(yL L d).Player=p)->(∀q∈pl,BF q)->F.length+pl.length+ds.length<=10000 ->
  forR (λk x s=>kW L k x s) (ds.map gP) k (pl,F,GA pl p)=some (.go ((oo L pl ds).1,F++(oo L pl ds).2,GA (oo L pl ds).1 p))
 | [],k,F,pl,hd,hp,hl=>by simp only [oo,List.append_nil];rfl
 | d::ds,k,F,pl,hd,hp,hl=>by
  simp only [List.length_cons]at hl
  obtain ⟨v,hpd⟩:=hd d (by simp)
  have hs1:=QX k v F pl hp (by omega)
  rw [hpd]at hs1
  rw [List.map_cons,forR,hs1,ob_,oo]
  cases hs:stp L pl d with
  | some q =>
   obtain ⟨g1,g2⟩:=KM v hp hs
   simp only
   rw [<- Q9 pl q p (g2.trans hpd),CO ds (k+1) F (pl++[q]) (λd hd'=>hd d (List.mem_cons_of_mem _ hd')) (λz hz=>by
    rcases List.mem_append.1 hz with hz|hz
    ·exact hp z hz
    ·rw [List.mem_singleton.1 hz];exact g1) (by simp;omega)]
  | none =>
   simp only
   rw [CO ds (k+1) (F++[d.f_i]) pl (λd hd'=>hd d (List.mem_cons_of_mem _ hd')) hp (by simp;omega)]
   simp
def LeP (a b:Log_):Prop:=lt a.Player b.Player\/a.Player=b.Player
theorem Ox {a b c:Log_} (h:LeP a b) (k:LeP b c):LeP a c:=by
 rcases h with h|h
 ·rcases k with k|k
  ·exact .inl (lt_trans h k)
  ·exact .inl (k ▸ h)
 ·unfold LeP;rw [h];exact k
structure RightL (x:Log_):Prop where
 clock:inM x.Clock
 l0:1<=x.Long
 ll:x.Long<=86400000
theorem formF_0 {x:Log_} (h:rJ x=0):RightL x:=by
 unfold rJ at h
 cases h1:keyB x.Player with
 | false=>rw [h1]at h;cases h
 | true =>
 cases h2:keyB x.Item with
 | false=>rw [h1,h2]at h;cases h
 | true =>
 rw [h1,h2]at h
 simp only [Bool.not_true,cond_false]at h
 cases h3:(qz x.No 1 1000000||(qz x.Clock 0 345686399999||qz x.Long 1 86400000))with
 | true=>rw [h3]at h;cases h
 | false =>
  rw [Bool.or_eq_false_iff,Bool.or_eq_false_iff]at h3
  have hl:=JN h3.2.2
  exact⟨JN h3.2.1,hl.1,hl.2⟩
theorem lStp_0 {p:Option Log_} {x:Log_} (h:GI p x=0):RightL x/\∀o,p=some o->LeP o x:=by
 unfold GI at h
 cases hf:(rJ x != 0)with
 | true=>rw [hf,cond_true]at h;rw [h]at hf;cases hf
 | false =>
 have hf0:rJ x=0:=by simpa using hf
 rw [hf,cond_false]at h
 refine⟨formF_0 hf0,λo ho => ?_⟩
 subst ho
 cases hm:yE x.Sum with
 | false=>rw [hm]at h;cases h
 | true =>
 rw [hm]at h
 simp only [Bool.not_true,cond_false]at h
 cases hc:decide (cmpL o x>=0)with
 | true=>rw [hc]at h;cases h
 | false =>
 have hc:=of_decide_eq_false hc
 rcases wZ o.Player x.Player with⟨h1,_⟩|⟨h1,_⟩|⟨h1,h2⟩
 ·exact .inl h1
 ·exact .inr h1
 ·exfalso
  apply hc
  unfold cmpL JD
  rw [h2]
  show (1:Int)>=0
  omega
theorem Du:∀{l:List Log_} {p:Option Log_},vN GI p l=0->(∀o,p=some o->∀y∈l,LeP o y)/\l.Pairwise LeP/\∀x∈l,RightL x
 | [],_,_=>⟨λ_ _ y hy=>(by cases hy),List.Pairwise.nil,λx hx=>(by cases hx)⟩
 | x::xs,p,h=>by
  obtain ⟨h1,h2⟩:=chkG_0 h
  obtain ⟨i1,i2,i3⟩:=Du h2
  obtain ⟨j1,j2⟩:=lStp_0 h1
  refine⟨λo ho y hy => ?_,List.pairwise_cons.2 ⟨λy hy=>i1 x rfl y hy,i2⟩,λy hy => ?_⟩
  ·rcases List.mem_cons.1 hy with rfl|hy
   ·exact j2 o ho
   ·exact Ox (j2 o ho) (i1 x rfl y hy)
  ·rcases List.mem_cons.1 hy with rfl|hy
   ·exact j1
   ·exact i3 y hy
theorem logsF_0 {l:List Log_} (h:Ic l=0):l.Pairwise LeP/\∀x∈l,RightL x:=by
 unfold Ic at h
 cases hl:decide (l.length>2000)with
 | true=>rw [hl]at h;cases h
 | false=>rw [hl,cond_false]at h;exact (Du h).2
theorem grp (p:ByteArray):∀xs:List Log_,(∀y∈xs,lt p y.Player\/p=y.Player)->xs.Pairwise LeP->∃g post,xs=g++post/\(∀y∈g,y.Player=p)/\∀b∈post,lt p b.Player
 | [],_,_=>⟨[],[],rfl,λy hy=>(by cases hy),λy hy=>(by cases hy)⟩
 | y::ys,h,hp=>by
  obtain ⟨p1,p2⟩:=List.pairwise_cons.1 hp
  by_cases hy:y.Player=p
  ·obtain ⟨g,post,e,g1,g2⟩:=grp p ys (λz hz=>h z (List.mem_cons_of_mem _ hz)) p2
   refine⟨y::g,post,by rw [e];rfl,λz hz => ?_,g2⟩
   rcases List.mem_cons.1 hz with rfl|hz
   ·exact hy
   ·exact g1 z hz
  ·have hlt:lt p y.Player:=by
    rcases h y (by simp)with h|h
    ·exact h
    ·exact absurd h.symm hy
   refine⟨[],y::ys,rfl,λz hz=>(by cases hz),λb hb => ?_⟩
   rcases List.mem_cons.1 hb with rfl|hb
   ·exact hlt
   ·rcases p1 b hb with k|k
    ·exact lt_trans hlt k
    ·exact k ▸ hlt
theorem H9 {L post:List Log_} {p:ByteArray} {st:List Play×List Int×Int} {x0:Log_} (h0:idx L st.2.2=some x0) (hp0:x0.Player=p) (hL:L.length<=1000) (hpost:∀b∈post,lt p b.Player):∀(xs:List Log_) (j:Nat),L.drop j=xs++post->j<=L.length->(∀x∈xs,x.Player=p) ->
  iterN (λs=>jq L st s) (xs.length+1) (j:Int)=some (.go ((j+xs.length:Nat):Int))
 | [],j,hd,hj,hx=>by
  have hst:jq L st (j:Int)=some (.brk (j:Int)):=by
   unfold jq
   cases post with
   | nil =>
    have hlen:L.length<=j:=List.drop_eq_nil_iff.1 (by simpa using hd)
    have hc:decide ((j:Int)<(L.length:Int))=false:=decide_eq_false (by omega)
    simp only [hc,cond_false,ob_]
   | cons b post =>
    have hg:L[j]? = some b:=nZ (by rw [hd];rfl)
    have hlt:=(List.getElem?_eq_some_iff.1 hg).1
    have hc:decide ((j:Int)<(L.length:Int))=true:=decide_eq_true (by omega)
    have hne:¬b.Player=p:=λe=>by have:=hpost b (by simp);rw [e]at this;exact kJ p this
    simp only [hc,cond_true,iH,hg,h0,ob_,yO,hp0,decide_eq_false hne,cond_false]
  simp only [List.length_nil,iterN,hst,ob_,Nat.add_zero]
 | x::xs,j,hd,hj,hx=>by
  have hg:L[j]? = some x:=nZ (by rw [hd];rfl)
  have hlt:=(List.getElem?_eq_some_iff.1 hg).1
  have hc:decide ((j:Int)<(L.length:Int))=true:=decide_eq_true (by omega)
  have hw:w64 ((j:Int)+1)=((j+1:Nat):Int):=by rw [aZ (by omega)];omega
  have hst:jq L st (j:Int)=some (.go ((j+1:Nat):Int)):=by
   unfold jq
   simp only [hc,cond_true,iH,hg,h0,ob_,yO,hp0,hx x (by simp),decide_true,hw]
  rw [List.length_cons,iterN,hst,ob_]
  simp only
  rw [H9 h0 hp0 hL hpost xs (j+1) (aW (show L.drop j=x::(xs++post) from hd)) (by omega) (λy hy=>hx y (List.mem_cons_of_mem _ hy)),show j+1+xs.length=j+(xs.length+1) by omega]
structure LOk (L:List Log_):Prop where
 sorted:L.Pairwise LeP
 right:∀x∈L,RightL x
 few:L.length<=19
theorem PY {L:List Log_} {d:Dated} {i:Nat} {x:Log_} (h:L[i]? = some x) (e:d.f_i=(i:Int)):yL L d=x:=by
 unfold yL;rw [e,List.getD_eq_getElem?_getD,Int.toNat_natCast,h];rfl
theorem RA {B:List Beat} (hB:BOk B) {L:List Log_} (hL:LOk L) {pre g post:List Log_} (e:L=pre++(g++post)) {d:Dated} (hd:d∈dts B pre.length g):VD L d/\yL L d∈g:=by
 obtain ⟨i,x,h1,h2,h3⟩:=NY B g pre.length d hd
 have hil:=(List.getElem?_eq_some_iff.1 h1).1
 have hx:L[pre.length+i]? = some x:=by
  rw [e,List.getElem?_append_right (by omega),show pre.length+i-pre.length=i by omega,List.getElem?_append_left hil,h1]
 have hy:=PY hx h2
 have hm:x∈L:=List.mem_of_getElem? hx
 have hlt:=(List.getElem?_eq_some_iff.1 hx).1
 have hr:=hL.right x hm
 obtain ⟨a1,a2⟩:=atF_in hB hr.clock h3
 refine⟨⟨by omega,by omega,a1,a2,by rw [hy];exact hr.l0,by rw [hy];exact hr.ll⟩,?_⟩
 rw [hy];exact List.mem_of_getElem? h1
noncomputable def fnd (B:List Beat) (L pre:List Log_):List Play×List Int:=oo L [] (mg (c2 L) (dts B 0 pre))
theorem Eu {B:List Beat} (hB:BOk B) {L:List Log_} (hL:LOk L):∀(m:Nat) (pre rest:List Log_) (F:List Int),rest.length<=m->L=pre++rest->(∀a∈pre,∀b∈rest,lt a.Player b.Player)->F.Perm (lfs B 0 pre++(fnd B L pre).2) ->
  ∃n F',iterN (λs=>jo L B s) n ((fnd B L pre).1,F,(pre.length:Int))=some (.go ((fnd B L L).1,F',(L.length:Int)))/\F'.Perm (lfs B 0 L++(fnd B L L).2)
 | m,pre,[],F,hm,e,hlt,hF=>by
  rw [List.append_nil]at e
  subst e
  refine⟨1,F,?_,hF⟩
  have hc:decide ((L.length:Int)<(L.length:Int))=false:=decide_eq_false (by omega)
  simp only [iterN,jo,hc,cond_false,ob_]
 | 0,pre,x::xs,F,hm,e,hlt,hF=>by simp at hm
 | m+1,pre,x::xs,F,hm,e,hlt,hF=>by
  have hsort:(x::xs).Pairwise LeP:=by have:=hL.sorted;rw [e]at this;exact (List.pairwise_append.1 this).2.1
  obtain ⟨g,post,e2,g1,g2⟩:=grp x.Player xs (λy hy=>(List.pairwise_cons.1 hsort).1 y hy) (List.pairwise_cons.1 hsort).2
  subst e2
  have few:=hL.few
  have hlen:L.length=pre.length+((x::g).length+post.length):=by rw [e];simp;omega
  have e3:L=pre++((x::g)++post):=e
  have hgp:∀y∈x::g,y.Player=x.Player:=λy hy=>by
   rcases List.mem_cons.1 hy with rfl|hy
   ·rfl
   ·exact g1 y hy
  have hdrop:L.drop pre.length=(x::g)++post:=by rw [e3];simp
  have hx0:L[pre.length]? = some x:=nZ (by rw [hdrop];rfl)
  have hidx:idx L (pre.length:Int)=some x:=by rw [iH,hx0]
  have hright:∀y∈x::g,y.Player=x.Player/\inM y.Clock:=λy hy=>⟨hgp y hy,(hL.right y (by rw [e3];simp only [List.mem_append];exact .inr (.inl hy))).clock⟩
  have hV1:∀d∈dts B pre.length (x::g),VD L d/\(yL L d).Player=x.Player:=λd hd=>by
   obtain ⟨v,w⟩:=RA hB hL e3 hd
   exact⟨v,hgp _ w⟩
  have hV0:∀d∈dts B 0 pre,VD L d/\yL L d∈pre:=λd hd=>RA hB hL (pre:=[]) (g:=pre) (post:=x::(g++post)) (by rw [e];rfl) hd
  have hgl:(x::g).length=g.length+1:=rfl
  have hdl:=MH B (x::g) pre.length
  have hdl0:=MH B pre 0
  have hsc:=eu (H9 (L:=L) (post:=post) (st:=((fnd B L pre).1,F,(pre.length:Int))) hidx rfl (by omega) g2 (x::g) pre.length hdrop (by omega) hgp)
  have hpl:=eu (Di hB (L:=L) (post:=post) (p:=x.Player) (to:=pre.length+(x::g).length) (by omega) (x::g) pre.length [] [] hdrop rfl hright (by simp;omega))
  simp only [List.nil_append]at hpl
  have hplaced:mW L (pre.length:Int) ((pre.length+(x::g).length:Nat):Int) B=some ((mg cD (dts B pre.length (x::g))).map gP,lfs B pre.length (x::g)):=by
   unfold mW
   rw [hidx,ob_,Nb B x.Player false hB.few,ob_]
   show (fq _ (λs=>gH _ L (MB B x.Player) s)).bind _=_
   rw [hpl,ob_,gN]
   simp only
   rw [stableP _ (by rw [List.length_map];omega),ob_]
   have hsl:jS (mg cP ((dts B pre.length (x::g)).map gP)) ((dts B pre.length (x::g)).map gP)=some ():=by unfold jS;rw [if_pos (yu _ _)]
   rw [hsl,ob_,Rk gP (c:=cD) (λa b=>rfl)]
  have hcong:mg cD (dts B pre.length (x::g))=mg (c2 L) (dts B pre.length (x::g)):=ML _ (λa ha b hb=>by
   unfold cD c2
   rw [(hV1 a ha).2,(hV1 b hb).2,yN];rfl)
  have hsp:mg (c2 L) (dts B 0 (pre++(x::g)))=mg (c2 L) (dts B 0 pre)++mg (c2 L) (dts B pre.length (x::g)):=by
   rw [Ns,Nat.zero_add]
   refine PQ _ _ _ (λv hv a ha => ?_)
   have hl:lt (yL L a).Player (yL L v).Player:=by
    rw [(hV1 v hv).2]
    exact hlt _ (hV0 a ha).2 x (by simp)
   have hc:uF (yL L v).Player (yL L a).Player=1:=by
    rcases wZ (yL L v).Player (yL L a).Player with⟨h1,_⟩|⟨h1,_⟩|⟨_,h2⟩
    ·exact absurd (lt_trans hl h1) (kJ _)
    ·rw [h1]at hl;exact absurd hl (kJ _)
    ·exact h2
   unfold c2 JD
   rw [hc]
   show ¬(1:Int)<0
   omega
  have hfnd:fnd B L (pre++(x::g))=((oo L (fnd B L pre).1 (mg (c2 L) (dts B pre.length (x::g)))).1,(fnd B L pre).2++(oo L (fnd B L pre).1 (mg (c2 L) (dts B pre.length (x::g)))).2):=by
   unfold fnd
   rw [hsp,ER]
  obtain ⟨hg1,hg2⟩:=Ck (L:=L) (mg (c2 L) (dts B 0 pre)) [] (λd hd=>(hV0 d ((F7 _ _ _).1 hd)).1) (λq hq=>by cases hq)
  have hend:GA (fnd B L pre).1 x.Player=0:=by
   unfold GA
   cases hq:(fnd B L pre).1.getLast? with
   | none=>rfl
   | some q =>
    simp only
    have hne:¬q.Player=x.Player:=λeq=>by
     rcases hg2 q (List.mem_of_getLast? hq)with h|⟨d,hd,h⟩
     ·cases h
     ·have:=hlt _ (hV0 d ((F7 _ _ _).1 hd)).2 x (by simp)
      rw [<- h,eq]at this
      exact kJ _ this
    rw [decide_eq_false hne];rfl
  have hrl:=Gv (L:=L) (mg (c2 L) (dts B 0 pre)) []
  have hslen:=yu (c2 L) (dts B 0 pre)
  have hslen2:=yu (c2 L) (dts B pre.length (x::g))
  have hFl:=hF.length_eq
  simp only [List.length_append,List.length_nil]at hFl hrl
  have hFl':(fnd B L pre).1.length+(fnd B L pre).2.length=0+(mg (c2 L) (dts B 0 pre)).length:=hrl
  have hrun:=CO (L:=L) (p:=x.Player) (mg (c2 L) (dts B pre.length (x::g))) 0 (F++lfs B pre.length (x::g)) (fnd B L pre).1 (λd hd=>hV1 d ((F7 _ _ _).1 hd)) hg1 (by simp only [List.length_append];omega)
  rw [hend]at hrun
  have happ:jv F (lfs B pre.length (x::g))=some (F++lfs B pre.length (x::g)):=oP _ _ (by omega)
  have hc:decide ((pre.length:Int)<(L.length:Int))=true:=decide_eq_true (by rw [hlen];simp;omega)
  have hstep:jo L B ((fnd B L pre).1,F,(pre.length:Int))=some (.go ((fnd B L (pre++(x::g))).1,F++lfs B pre.length (x::g)++(oo L (fnd B L pre).1 (mg (c2 L) (dts B pre.length (x::g)))).2,(((pre++(x::g)).length:Nat):Int))):=by
   unfold jo
   simp only [hc,cond_true]
   rw [hsc,ob_,gN,hplaced,ob_,happ,ob_,hcong]
   simp only
   rw [jG (by rw [List.length_map];omega),hrun,ob_,gN,hfnd,List.length_append]
  obtain ⟨n,F',h1,h2⟩:=Eu hB hL m (pre++(x::g)) post (F++lfs B pre.length (x::g)++(oo L (fnd B L pre).1 (mg (c2 L) (dts B pre.length (x::g)))).2) (by simp at hm;omega) (by rw [e3];simp) (λa ha b hb=>by
   rcases List.mem_append.1 ha with ha|ha
   ·exact hlt a ha b (by simp [hb])
   ·rw [hgp a ha];exact g2 b hb) (by
   rw [hfnd,Nu,Nat.zero_add]
   simp only
   have h1:(F++lfs B pre.length (x::g)).Perm (lfs B 0 pre++lfs B pre.length (x::g)++(fnd B L pre).2):=by
    refine (hF.append_right _).trans ?_
    rw [List.append_assoc,List.append_assoc]
    exact List.Perm.append_left _ List.perm_append_comm
   refine (h1.append_right _).trans ?_
   rw [List.append_assoc (lfs B 0 pre++lfs B pre.length (x::g))])
  exact⟨n+1,F',by rw [iterN,hstep];exact h1,h2⟩
def Oa (s:ByteArray):Int:=bif sNe s (⟨#[]⟩:ByteArray)then (bif !yE s then 3 else 0)else 0
theorem lastP {s:ByteArray} (h:ShortK s):lV s=some (Oa s):=by
 unfold lV Oa
 cases sNe s (⟨#[]⟩:ByteArray)with
 | true=>simp only [cond_true,Hl h,ob_];cases yE s <;> rfl
 | false=>rfl
def tQ (last:ByteArray) (x:Log_):ByteArray:=mk (last.data.toList++[32]++NU x)
theorem sumP (last:ByteArray) {x:Log_} (hl:ShortK last) (h:Aw x):vo last x=some (tQ last x):=by
 have l1:=OB h;have l2:=vk hl
 unfold vo
 rw [line_eq h,show last=BB last.data.toList from rfl,show (⟨#[32]⟩:ByteArray)=BB [32] from rfl]
 simp only [ob_]
 rw [zC _ _ (by simp only [List.length_append,List.length_cons,List.length_nil];omega)];simp only [ob_]
 rw [zC _ _ (by simp only [List.length_append,List.length_cons,List.length_nil];omega)];simp only [ob_]
 rw [markP _ (by simp only [List.length_append,List.length_cons,List.length_nil];omega)]
 rfl
theorem EY (last:ByteArray) (x:Log_):ShortK (tQ last x):=QM _
def vP (s:ByteArray):Prop:=s.size<=1000
def Gb (x:Entry):Prop:=vP x.Key/\vP x.Item/\x.Except.length<=50/\x.Tags.length<=20/\∀t∈x.Tags,vP t
def NZ (x:Player):Prop:=vP x.Key/\vP x.Screen/\x.Tags.length<=20/\∀t∈x.Tags,vP t
theorem rV {s:ByteArray} (h:Nat.ble s.size 1000=true):vP s:=Nat.le_of_ble_eq_true h
theorem qj {α:Type} (xs ys:List α) (h:xs.length+ys.length<=1000000000):jv xs ys=some (xs++ys):=by unfold jv;rw [if_pos h]
theorem Gt {α:Type} {i:Int} {xs:List α} (h0:0<=i) (h1:i<xs.length):inR i xs=some ():=by unfold inR;rw [if_pos ⟨h0,by omega⟩]
def Cj:ByteArray:=⟨#[]⟩
def zA {α:Type} (key:α->ByteArray) (l:List α) (k:Nat):ByteArray:=if k=0 then Cj else match l[k-1]? with | some y=>key y | none=>Cj
def chk {α:Type} (key:α->ByteArray) (stp:ByteArray->α->Int):ByteArray->List α->Int
 | _,[]=>0
 | last,x::xs=>bif stp last x==0 then chk key stp (key x) xs else stp last x
def En (e:Int):Ctl Unit Int:=bif e==0 then .go ()else .ret e
theorem EI {α:Type} {key:α->ByteArray} {stp:ByteArray->α->Int} {body:Nat->α->Unit->Option (Ctl Unit Int)} (l:List α):∀(xs:List α) (k:Nat),l.drop k=xs->(∀k x,l[k]? = some x->body k x ()=some (En (stp (zA key l k) x))) ->
  forR body xs k ()=some (En (chk key stp (zA key l k) xs))
 | [],k,h,hb=>rfl
 | x::xs,k,h,hb=>by
  have hg:=nZ h
  rw [forR,hb k x hg,ob_,chk]
  cases he:stp (zA key l k) x==0 with
  | true =>
   simp only [En,he,cond_true]
   rw [EI l xs (k+1) (aW h) hb]
   have:zA key l (k+1)=key x:=by simp [zA,hg]
   rw [this];rfl
  | false=>simp only [En,he,cond_false]
theorem CJ (e:Int):thenC (En e) (λ_=>some (0:Int)) (λr=>some r)=some e:=by
 unfold En
 cases h:e==0 with
 | true=>simp only [cond_true,gN];rw [eq_of_beq h]
 | false=>rfl
def BP (last x:ByteArray):Int:=bif !keyB x then 5 else bif sLe x last then 7 else 0
def tagsF (l:List ByteArray):Int:=bif decide (l.length>20)then 2 else chk id BP Cj l
theorem J3 {α:Type} {l:List α} {k:Nat} {x:α} (h:l[k]? = some x) (hk:0<k) (hl:l.length<=1000000000):∃y,idx l (w64 ((k:Int)-1))=some y/\l[k-1]? = some y:=by
 have hlt:k<l.length:=(List.getElem?_eq_some_iff.1 h).1
 rw [aZ (by omega),show (k:Int)-1=((k-1:Nat):Int) by omega,iH]
 exact⟨l[k-1],List.getElem?_eq_getElem (by omega),List.getElem?_eq_getElem (by omega)⟩
theorem Ik {α:Type} {key:α->ByteArray} {l:List α} {k:Nat} {x:α} {s:ByteArray} (h:l[k]? = some x) (hl:l.length<=1000000000) (hs:s.size≠0) :
  (bif decide ((k:Int)>0)then (idx l (w64 ((k:Int)-1))).bind λy=>some (sLe s (key y))else some false)=some (sLe s (zA key l k)):=by
 by_cases hk:0<k
 ·obtain ⟨y,h1,h2⟩:=J3 h hk hl
  have hd:decide ((k:Int)>0)=true:=by simp;omega
  simp only [hd,cond_true,h1,ob_,zA,if_neg (show ¬k=0 by omega),h2]
 ·have hk0:k=0:=by omega
  subst hk0
  simp only [zA,if_pos,Cj,NL,decide_eq_false hs]
  rfl
theorem tagsK (l:List ByteArray) (hs:∀t∈l,vP t) (hl:l.length<=1000000000):fK l=some (tagsF l):=by
 unfold fK tagsF
 have e:decide ((l.length:Int)>20)=decide (l.length>20):=decide_eq_decide.2 (by omega)
 rw [e]
 cases decide (l.length>20)with
 | true=>rfl
 | false =>
  simp only [cond_false]
  unfold jD
  rw [jG (by omega),EI (key:=id) (stp:=BP) l l 0 rfl (λk x hx => ?_)]
  ·simp only [ob_,CJ];rfl
  ·have hxs:vP x:=hs x (List.mem_of_getElem? hx)
   simp only [jg,ng x (by unfold vP at hxs;omega),ob_,BP]
   cases hk:keyB x with
   | false=>rfl
   | true =>
    simp only [Bool.not_true,cond_false]
    have:=Ik (key:=id) hx hl (Eb hk)
    simp only [id]at this
    rw [this,ob_]
    cases sLe x (zA id l k) <;> rfl
def Pn {α:Type} (stp:Option α->α->Int):Option α->List α->Int
 | _,[]=>0
 | p,x::xs=>bif stp p x==0 then Pn stp (some x) xs else stp p x
def CX {α:Type} (l:List α) (k:Nat):Option α:=if k=0 then none else l[k-1]?
theorem HV {α:Type} {stp:Option α->α->Int} {body:Nat->α->Unit->Option (Ctl Unit Int)} (l:List α):∀(xs:List α) (k:Nat),l.drop k=xs->(∀k x,l[k]? = some x->body k x ()=some (En (stp (CX l k) x))) ->
  forR body xs k ()=some (En (Pn stp (CX l k) xs))
 | [],k,h,hb=>rfl
 | x::xs,k,h,hb=>by
  have hg:=nZ h
  rw [forR,hb k x hg,ob_,Pn]
  cases he:stp (CX l k) x==0 with
  | true =>
   simp only [En,he,cond_true]
   rw [HV l xs (k+1) (aW h) hb]
   have:CX l (k+1)=some x:=by simp [CX,hg]
   rw [this];rfl
  | false=>simp only [En,he,cond_false]
def kE (n lo hi:Int):Bool:=decide (n<lo)||decide (n>hi)
theorem wS (n lo hi:Int):aU n lo hi=some (kE n lo hi):=by
 unfold aU kE
 cases decide (n<lo) <;> cases decide (n>hi) <;> rfl
def leP (p:Option Int) (x:Int):Bool:=match p with
 | none=>false
 | some y=>decide (x<=y)
def Hg (p:Option Int) (x:Int):Int:=bif kE x 0 4000 then 1 else bif leP p x then 7 else 0
def exF (l:List Int):Int:=bif decide (l.length>100)then 2 else Pn Hg none l
theorem LV {l:List Int} {k:Nat} {x:Int} (h:l[k]? = some x) (hl:l.length<=1000000000) :
  (bif decide ((k:Int)>0)then (idx l (w64 ((k:Int)-1))).bind λy=>some (decide (x<=y))else some false)=some (leP (CX l k) x):=by
 by_cases hk:0<k
 ·obtain ⟨y,h1,h2⟩:=J3 h hk hl
  have hd:decide ((k:Int)>0)=true:=by simp;omega
  simp only [hd,cond_true,h1,ob_,CX,if_neg (show ¬k=0 by omega),h2,leP]
 ·have hk0:k=0:=by omega
  subst hk0
  rfl
theorem PS (n:Int):uW n=some (!kE n 0 4000):=by
 unfold uW kE
 have e1:decide (n>=0) = !decide (n<0):=by rw [Bool.eq_iff_iff];simp
 have e2:decide (n<=4000) = !decide (n>4000):=by rw [Bool.eq_iff_iff];simp
 rw [e1,e2]
 cases decide (n<0) <;> cases decide (n>4000) <;> rfl
theorem exK (l:List Int) (hl:l.length<=1000000000):iE l=some (exF l):=by
 unfold iE exF
 have e:decide ((l.length:Int)>100)=decide (l.length>100):=decide_eq_decide.2 (by omega)
 rw [e]
 cases decide (l.length>100)with
 | true=>rfl
 | false =>
  simp only [cond_false]
  rw [jG (by omega),HV (stp:=Hg) l l 0 rfl (λk x hx => ?_)]
  ·simp only [ob_,CJ];rfl
  ·simp only [jy,PS,ob_,Hg]
   cases kE x 0 4000 with
   | true=>rfl
   | false =>
    simp only [Bool.not_false,Bool.not_true,cond_false]
    rw [LV hx hl,ob_]
    cases leP (CX l k) x <;> rfl
def uX (e:Entry):Int :=
 bif !keyB e.Key || !keyB e.Item then 5 else
 bif kE e.Version 0 1000000||(kE e.First 0 e.Last||(decide (e.Last>4000)||(kE e.Every 1 400||kE e.Days 1 127)))then 1 else
 bif exF e.Except==0 then (bif kE e.From 0 1439||(kE e.To 0 1439||kE e.Prio 0 9)then 1 else tagsF e.Tags)else exF e.Except
theorem entK (e:Entry) (h:Gb e):gu e=some (uX e):=by
 obtain ⟨h1,h2,h3,h4,h5⟩:=h
 unfold vP at h1 h2
 unfold gu uX
 simp only [ng e.Key (by omega),ng e.Item (by omega),wS,exK e.Except (by omega),tagsK e.Tags h5 (by omega),ob_]
 cases keyB e.Key with
 | false=>rfl
 | true =>
 cases keyB e.Item with
 | false=>rfl
 | true =>
 simp only [Bool.not_true,cond_false,ob_,Bool.or_self,Bool.false_or]
 cases kE e.Version 0 1000000 with
 | true=>rfl
 | false =>
 cases kE e.First 0 e.Last with
 | true=>rfl
 | false =>
 cases decide (e.Last>4000)with
 | true=>rfl
 | false =>
 cases kE e.Every 1 400 with
 | true=>rfl
 | false =>
 cases kE e.Days 1 127 with
 | true=>rfl
 | false =>
 simp only [cond_false,ob_,Bool.or_self]
 cases hx:exF e.Except==0 with
 | false =>
  have:(exF e.Except != 0)=true:=by simp [bne,hx]
  simp only [this,cond_true,cond_false]
 | true =>
  have:(exF e.Except != 0)=false:=by simp [bne,hx]
  simp only [this,cond_true,cond_false]
  cases kE e.From 0 1439 with
  | true=>rfl
  | false =>
  cases kE e.To 0 1439 with
  | true=>rfl
  | false =>
  cases kE e.Prio 0 9 with
  | true=>rfl
  | false=>rfl
theorem JR {e:Entry} (h:uX e=0):e.Key.size≠0:=by
 unfold uX at h
 cases hk:keyB e.Key with
 | false=>rw [hk]at h;cases h
 | true=>exact Eb hk
def vG (p:Player):Int:=bif !keyB p.Key || !keyB p.Screen then 5 else bif kE p.Zone (-1440) 1440 then 1 else tagsF p.Tags
theorem playK (p:Player) (h:NZ p):iC p=some (vG p):=by
 obtain ⟨h1,h2,h4,h5⟩:=h
 unfold vP at h1 h2
 unfold iC vG
 simp only [ng p.Key (by omega),ng p.Screen (by omega),wS,tagsK p.Tags h5 (by omega),ob_]
 cases keyB p.Key with
 | false=>rfl
 | true =>
 cases keyB p.Screen with
 | false=>rfl
 | true=>cases kE p.Zone (-1440) 1440 <;> rfl
def winF (w:Window):Int:=bif kE w.From 0 w.To||decide (w.To>345686400000)then 1 else bif decide (w64 (w.To-w.From)>34560000000)then 2 else 0
theorem winK (w:Window):fP w=some (winF w):=by
 unfold fP winF
 simp only [wS,ob_]
 cases kE w.From 0 w.To with
 | true=>rfl
 | false =>
 cases decide (w.To>345686400000)with
 | true=>rfl
 | false=>cases decide (w64 (w.To-w.From)>34560000000) <;> rfl
def or0 (a b:Int):Int:=bif a==0 then b else a
end Go.Proofs.YtmkljmjhcegapaaGreatDoor.Law

