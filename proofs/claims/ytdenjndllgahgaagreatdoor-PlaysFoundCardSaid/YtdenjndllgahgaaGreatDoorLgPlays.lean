import Derived.Test.YtdenjndllgahgaaGreatDoorLgSeq
import Derived.Test.YtdenjndllgahgaaGreatDoorLgGen
import Derived.Test.YtdenjndllgahgaaGreatDoorCkLaw
/-
  PLAIN LAW: plays that were found are those of the document.
-/
open Go Go.Eng
namespace Go.Proofs.YtdenjndllgahgaaGreatDoor.Law
set_option linter.unusedVariables false
set_option linter.unusedSimpArgs false
theorem Bh {B:List Beat} (hB:BOk B) (k:Nat) (x:Log_) (hx:inM x.Clock) (D:List Dated) (F:List Int) (hl:D.length+F.length<=100000) :
  iA B k x (D,F)=some (.go (D++(match atF B x with | some a=>[⟨a,(k:Int)⟩] | none=>[]),F++(match atF B x with | some _=>[] | none=>[(k:Int)]))):=by
 obtain ⟨_,h2,h3⟩:=CQ hB x hx
 unfold iA atF
 rw [h2,ob_]
 have aD:∀d:Dated,jr D [d]=some (D++[d]):=λd=>iM _ _ (by simp;omega)
 have aF:∀d:Int,jr F [d]=some (F++[d]):=λd=>iM _ _ (by simp;omega)
 rcases h3 with⟨h0,_⟩|h0|h0|h0
 ·have e8:((plF B x).2==8)=false:=by rw [h0];rfl
  have e11:((plF B x).2==11)=false:=by rw [h0];rfl
  have e2:((plF B x).2==2)=false:=by rw [h0];rfl
  have e0:((plF B x).2==0)=true:=by rw [h0];rfl
  simp only [e8,e11,e2,e0,cond_true,cond_false,ob_,aD,List.append_nil]
 ·have e8:((plF B x).2==8)=true:=by rw [h0];rfl
  have e0:((plF B x).2==0)=false:=by rw [h0];rfl
  simp only [e8,e0,cond_true,cond_false,ob_,aD,List.append_nil]
 ·have e8:((plF B x).2==8)=false:=by rw [h0];rfl
  have e11:((plF B x).2==11)=false:=by rw [h0];rfl
  have e2:((plF B x).2==2)=true:=by rw [h0];rfl
  have e0:((plF B x).2==0)=false:=by rw [h0];rfl
  simp only [e8,e11,e2,e0,cond_true,cond_false,ob_,aF,List.append_nil]
 ·have e8:((plF B x).2==8)=false:=by rw [h0];rfl
  have e11:((plF B x).2==11)=true:=by rw [h0];rfl
  have e0:((plF B x).2==0)=false:=by rw [h0];rfl
  simp only [e8,e11,e0,cond_true,cond_false,ob_,aF,List.append_nil]
theorem xK {B:List Beat} (hB:BOk B):∀(xs:List Log_) (k:Nat) (D:List Dated) (F:List Int),(∀x∈xs,inM x.Clock)->D.length+F.length+xs.length<=10000 ->
  dY (λk x s=>iA B k x s) xs k (D,F)=some (.go (D++dts B k xs,F++lfs B k xs))
 | [],k,D,F,hx,hl=>by rw [dts,lfs,List.append_nil,List.append_nil];rfl
 | x::xs,k,D,F,hx,hl=>by
  simp only [List.length_cons]at hl
  rw [dY,Bh hB k x (hx x (by simp)) D F (by omega),ob_]
  simp only
  rw [xK hB xs (k+1) _ _ (λy hy=>hx y (List.mem_cons_of_mem _ hy)) (by cases atF B x <;> simp <;> omega),dts,lfs,List.append_assoc,List.append_assoc]
  rfl
def gP (d:Dated):Placed:=⟨d.f_i,d.f_at⟩
theorem Cc {B:List Beat} (hB:BOk B) {L:List Log_} {j:Nat} {to:Int} {x:Log_} (hj:L[j]? = some x) (ht:(j:Int)<to) (hx:inM x.Clock) (hjl:j<=1000000) (P:List Placed) (F:List Int) (hl:P.length+F.length<=100000) :
  dR to L (MB B x.Player) (P,F,(j:Int))=some (.go (P++(match atF B x with | some a=>[⟨(j:Int),a⟩] | none=>[]),F++(match atF B x with | some _=>[] | none=>[(j:Int)]),((j+1:Nat):Int))):=by
 obtain ⟨h2,_,h3⟩:=CQ hB x hx
 unfold dR atF
 have hd:decide ((j:Int)<to)=true:=decide_eq_true ht
 have hw:w64 ((j:Int)+1)=((j+1:Nat):Int):=by rw [dx (by omega)];omega
 simp only [hd,cond_true,jL,hj,ob_,h2,hw]
 have aD:∀d:Placed,jr P [d]=some (P++[d]):=λd=>iM _ _ (by simp;omega)
 have aF:∀d:Int,jr F [d]=some (F++[d]):=λd=>iM _ _ (by simp;omega)
 rcases h3 with⟨h0,_⟩|h0|h0|h0
 ·have e0:((plF B x).2==0)=true:=by rw [h0];rfl
  simp only [e0,cond_true,cond_false,ob_,aD,List.append_nil]
 ·have e8:((plF B x).2==8)=true:=by rw [h0];rfl
  have e0:((plF B x).2==0)=false:=by rw [h0];rfl
  simp only [e8,e0,cond_true,cond_false,ob_,aD,List.append_nil]
 ·have e8:((plF B x).2==8)=false:=by rw [h0];rfl
  have e0:((plF B x).2==0)=false:=by rw [h0];rfl
  simp only [e8,e0,cond_true,cond_false,ob_,aF,List.append_nil]
 ·have e8:((plF B x).2==8)=false:=by rw [h0];rfl
  have e0:((plF B x).2==0)=false:=by rw [h0];rfl
  simp only [e8,e0,cond_true,cond_false,ob_,aF,List.append_nil]
theorem uO {B:List Beat} (hB:BOk B) {L post:List Log_} {p:ByteArray} {to:Nat} (hL:L.length<=1000):∀(xs:List Log_) (j:Nat) (P:List Placed) (F:List Int),L.drop j=xs++post->j+xs.length=to->(∀x∈xs,x.Player=p/\inM x.Clock)->P.length+F.length+xs.length<=10000 ->
  bL (λs=>dR (to:Int) L (MB B p) s) (xs.length+1) (P,F,(j:Int))=some (.go (P++(dts B j xs).map gP,F++lfs B j xs,(to:Int)))
 | [],j,P,F,hd,ht,hx,hl=>by
  have hc:decide ((j:Int)<(to:Int))=false:=decide_eq_false (by simp at ht;omega)
  simp only [List.length_nil,bL,dR,hc,cond_false,ob_,dts,lfs,List.map_nil,List.append_nil]
  simp at ht;rw [ht]
 | x::xs,j,P,F,hd,ht,hx,hl=>by
  simp only [List.length_cons]at hl ht
  have hg:L[j]? = some x:=nH (by rw [hd];rfl)
  obtain ⟨hp,hc⟩:=hx x (by simp)
  have hjl:=(List.getElem?_eq_some_iff.1 hg).1
  have hs:=Cc hB (to:=(to:Int)) hg (by omega) hc (by omega) P F (by omega)
  rw [hp]at hs
  rw [List.length_cons,bL,hs,ob_]
  simp only
  rw [uO hB hL xs (j+1) _ _ (show L.drop (j+1)=xs++post from aU (show L.drop j=x::(xs++post) from hd)) (by omega) (λy hy=>hx y (List.mem_cons_of_mem _ hy)) (by cases atF B x <;> simp <;> omega),dts,lfs,List.map_append,List.append_assoc,List.append_assoc]
  cases atF B x <;> rfl
def cP (a b:Placed):Int:=zW a.f_at b.f_at
def cD (a b:Dated):Int:=zW a.f_at b.f_at
def c2 (L:List Log_) (a b:Dated):Int:=or0 (mK (yL L a).Player (yL L b).Player) (zW a.f_at b.f_at)
theorem stableP (l:List Placed) (hl:l.length<=19):aN l=some (iO cP l):=by
 unfold aN
 have h1:bO l (l.length:Int)=Dy ic l (l.length:Int):=rfl
 rw [h1,Aw (p:=λ_=>True) (c:=cP) (λa b _ _=>by unfold ic cP;rw [uu];rfl) l hl (λ_ _=>trivial),ob_]
 unfold iE;rw [if_pos (mG cP l)];rfl
theorem cmpD {L:List Log_} {a b:Dated} (ha:VD L a) (hb:VD L b):iX a b L=some (c2 L a b):=by
 unfold iX c2 or0
 simp only [ha.at,hb.at,ob_,oM]
 have hs:=Ea (a:=a.f_at) (b:=b.f_at) (by have:=ha.a0;have:=ha.al;unfold Med;omega) (by have:=hb.a0;have:=hb.al;unfold Med;omega)
 by_cases h:mK (yL L a).Player (yL L b).Player=0
 ·have e1:(mK (yL L a).Player (yL L b).Player != 0)=false:=by simp [h]
  have e2:(mK (yL L a).Player (yL L b).Player==0)=true:=by simp [h]
  simp only [e1,e2,cond_false,cond_true,hs,ob_]
 ·have e1:(mK (yL L a).Player (yL L b).Player != 0)=true:=by simp [h]
  have e2:(mK (yL L a).Player (yL L b).Player==0)=false:=by simp [h]
  simp only [e1,e2,cond_false,cond_true]
theorem stableD (L:List Log_) (l:List Dated) (hl:l.length<=19) (hv:∀d∈l,VD L d):aS l L=some (iO (c2 L) l):=by
 unfold aS
 have h1:cK l (l.length:Int) L=Dy (λa b=>iX a b L) l (l.length:Int):=rfl
 rw [h1,Aw (p:=VD L) (c:=c2 L) (λa b ha hb=>cmpD ha hb) l hl hv,ob_]
 unfold iE;rw [if_pos (mG _ l)];rfl
theorem Ex {a b:List Int} (h:a.Perm b) (hl:a.length<=100000):∃s,bD a=some s/\bD b=some s/\s.length=a.length:=by
 have hlb:b.length=a.length:=h.length_eq.symm
 have hs:∀l:List Int,(l.mergeSort (λx y=>decide (x<=y))).Pairwise (· <= ·):=λl=>by
  have:=List.pairwise_mergeSort (le:=λ(x y:Int)=>decide (x<=y)) (λa b c=>by simp;omega) (λa b=>by simp;omega) l
  exact this.imp (by simp)
 have e:a.mergeSort (λx y=>decide (x<=y))=b.mergeSort (λx y=>decide (x<=y)) :=
  List.Perm.eq_of_pairwise (le:=(· <= ·)) (λa b _ _ h1 h2=>Int.le_antisymm h1 h2) (hs a) (hs b) ((List.mergeSort_perm a _).trans (h.trans (List.mergeSort_perm b _).symm))
 refine⟨a.mergeSort (λx y=>decide (x<=y)),?_,?_,List.length_mergeSort a⟩
 ·unfold bD Bo;rw [if_pos (by omega)]
 ·unfold bD Bo;rw [if_pos (by omega),e]
theorem BK {α:Type} (l:List α) (q:α):(l++[q]).getLast? = some q:=by simp
theorem stp_ref {L:List Log_} (k:Nat) {d:Dated} (hd:VD L d) (F:List Int) (pl:List Play) (hp:∀q∈pl,uE q) (hl:F.length+pl.length<=10000) :
  iB L k d (F,pl)=some (.go (match stp L pl d with | some q=>(F,pl++[q]) | none=>(F++[d.f_i],pl))):=by
 have hy:=hd.at
 obtain ⟨h1,h2,h3,h4,h5,h6⟩:=hd
 have key:(bif (decide ((w64 ((pl.length:Int)-1))>=0))then (inR (w64 ((pl.length:Int)-1)) pl).bind λ_=>(pl[(0+((w64 ((pl.length:Int)-1))).toNat)]?).bind λe_67=>some (sEq e_67.Player (yL L d).Player)else some false).bind (λv_63=>(bif v_63 then (inR (w64 ((pl.length:Int)-1)) pl).bind λ_=>(pl[(0+((w64 ((pl.length:Int)-1))).toNat)]?).bind λe_73=>(inR (w64 ((pl.length:Int)-1)) pl).bind λ_=>(pl[(0+((w64 ((pl.length:Int)-1))).toNat)]?).bind λe_76=>bif (decide ((w64 (e_73.At+e_76.Long))>d.f_at))then some ((w64 (e_73.At+e_76.Long)),(w64 ((w64 (d.f_at+(yL L d).Long))-(w64 (e_73.At+e_76.Long)))))else some (d.f_at,(yL L d).Long)else some (d.f_at,(yL L d).Long)))=some (kM L pl d):=by
  rcases List.eq_nil_or_concat pl with rfl|⟨l,q,hlq⟩
  ·have:decide ((w64 ((([]:List Play).length:Int)-1))>=0)=false:=by decide
   rw [this];rfl
  ·rw [List.concat_eq_append]at hlq
   subst hlq
   have hq:=hp q (by simp)
   obtain ⟨q1,q2,q3,q4⟩:=hq
   have hw:w64 (((l++[q]).length:Int)-1)=(l.length:Int):=by
    simp only [List.length_append,List.length_cons,List.length_nil]at *
    rw [dx (by omega)];omega
   have hd:decide ((l.length:Int)>=0)=true:=decide_eq_true (by omega)
   have hi:inR (l.length:Int) (l++[q])=some ():=Ad (by omega) (by simp;omega)
   have hg:(l++[q])[0+(l.length:Int).toNat]? = some q:=by simp
   have w1:w64 (q.At+q.Long)=q.At+q.Long:=dx (by omega)
   have w2:w64 (d.f_at+(yL L d).Long)=d.f_at+(yL L d).Long:=dx (by omega)
   have w3:w64 (d.f_at+(yL L d).Long-(q.At+q.Long))=d.f_at+(yL L d).Long-(q.At+q.Long):=dx (by omega)
   simp only [hw,hd,hi,hg,cond_true,ob_,w1,w2,w3,qy]
   unfold kM
   rw [BK]
   simp only
   cases decide (q.Player=(yL L d).Player) <;> cases decide (q.At+q.Long>d.f_at) <;> rfl
 unfold iB stp
 simp only [hy,ob_]
 have e:∀(f:Int×Int->Option (Ctl (List Int×List Play) Unit)) (g:Bool->Option (Int×Int)) (u:Option Bool),(u.bind λv=>(g v).bind f)=(u.bind g).bind f:=λf g u=>by cases u <;> rfl
 rw [e,key,ob_]
 simp only [lU,ob_]
 have aF:jr F [d.f_i]=some (F++[d.f_i]):=iM _ _ (by simp;omega)
 have aP:∀q:Play,jr pl [q]=some (pl++[q]):=λq=>iM _ _ (by simp;omega)
 cases h7:decide ((kM L pl d).2<=0)with
 | true=>simp only [cond_true,ob_,Bool.true_or,aF]
 | false =>
  cases h8:momB (kM L pl d).1 with
  | true=>simp only [cond_true,cond_false,ob_,Bool.or_self,Bool.not_true,aP]
  | false=>simp only [cond_true,cond_false,ob_,Bool.false_or,Bool.not_false,aF]
theorem qZ {L:List Log_}:∀(ds:List Dated) (k:Nat) (F:List Int) (pl:List Play),(∀d∈ds,VD L d)->(∀q∈pl,uE q)->F.length+pl.length+ds.length<=10000 ->
  dY (λk x s=>iB L k x s) ds k (F,pl)=some (.go (F++(jP L pl ds).2,(jP L pl ds).1))
 | [],k,F,pl,hd,hp,hl=>by simp only [jP,List.append_nil];rfl
 | d::ds,k,F,pl,hd,hp,hl=>by
  simp only [List.length_cons]at hl
  rw [dY,stp_ref k (hd d (by simp)) F pl hp (by omega),ob_,jP]
  cases hs:stp L pl d with
  | some q =>
   obtain ⟨g1,g2⟩:=xz (hd d (by simp)) hp hs
   simp only
   rw [qZ ds (k+1) F (pl++[q]) (λd hd'=>hd d (List.mem_cons_of_mem _ hd')) (λz hz=>by
    rcases List.mem_append.1 hz with hz|hz
    ·exact hp z hz
    ·rw [List.mem_singleton.1 hz];exact g1) (by simp;omega)]
  | none =>
   simp only
   rw [qZ ds (k+1) (F++[d.f_i]) pl (λd hd'=>hd d (List.mem_cons_of_mem _ hd')) hp (by simp;omega)]
   simp
def yh (pl:List Play) (p:ByteArray):Int:=match pl.getLast? with
 | some q=>bif decide (q.Player=p)then q.At+q.Long else 0
 | none=>0
theorem Fx (pl:List Play) (q:Play) (p:ByteArray) (h:q.Player=p):yh (pl++[q]) p=q.At+q.Long:=by
 unfold yh;rw [BK];simp only [decide_eq_true h,cond_true]
theorem GR {L:List Log_} (k:Nat) {d:Dated} (hd:VD L d) (F:List Int) (pl:List Play) (hp:∀q∈pl,uE q) (hl:F.length+pl.length<=10000) :
  ik L k (gP d) (pl,F,yh pl (yL L d).Player)=some (.go (match stp L pl d with | some q=>(pl++[q],F,q.At+q.Long) | none=>(pl,F++[d.f_i],yh pl (yL L d).Player))):=by
 have hy:=hd.at
 obtain ⟨h1,h2,h3,h4,h5,h6⟩:=hd
 have key:kF d.f_at (yh pl (yL L d).Player)=(kM L pl d).1/\d.f_at+(yL L d).Long-(kM L pl d).1=(kM L pl d).2/\(0<=(kM L pl d).1/\(kM L pl d).1<=345772799999):=by
  have m0:kF d.f_at 0=d.f_at:=by unfold kF;rw [if_neg (by omega)]
  unfold yh kM
  cases hg:pl.getLast? with
  | none=>show kF d.f_at 0=d.f_at/\d.f_at+(yL L d).Long-d.f_at=(yL L d).Long/\(0<=d.f_at/\d.f_at<=345772799999);exact⟨m0,by omega,by omega,by omega⟩
  | some q =>
   obtain ⟨q1,q2,q3,q4⟩:=hp q (List.mem_of_getLast? hg)
   show kF d.f_at (bif decide (q.Player=(yL L d).Player)then q.At+q.Long else 0)=(bif decide (q.Player=(yL L d).Player)&&decide (q.At+q.Long>d.f_at)then (q.At+q.Long,d.f_at+(yL L d).Long-(q.At+q.Long))else (d.f_at,(yL L d).Long)).1 /\
    d.f_at+(yL L d).Long-(bif decide (q.Player=(yL L d).Player)&&decide (q.At+q.Long>d.f_at)then (q.At+q.Long,d.f_at+(yL L d).Long-(q.At+q.Long))else (d.f_at,(yL L d).Long)).1=(bif decide (q.Player=(yL L d).Player)&&decide (q.At+q.Long>d.f_at)then (q.At+q.Long,d.f_at+(yL L d).Long-(q.At+q.Long))else (d.f_at,(yL L d).Long)).2 /\
    (0<=(bif decide (q.Player=(yL L d).Player)&&decide (q.At+q.Long>d.f_at)then (q.At+q.Long,d.f_at+(yL L d).Long-(q.At+q.Long))else (d.f_at,(yL L d).Long)).1/\(bif decide (q.Player=(yL L d).Player)&&decide (q.At+q.Long>d.f_at)then (q.At+q.Long,d.f_at+(yL L d).Long-(q.At+q.Long))else (d.f_at,(yL L d).Long)).1<=345772799999)
   cases hpl:decide (q.Player=(yL L d).Player)with
   | true =>
    cases hgt:decide (q.At+q.Long>d.f_at)with
    | true =>
     have hgt:=of_decide_eq_true hgt
     have m1:kF d.f_at (q.At+q.Long)=q.At+q.Long:=by unfold kF;rw [if_pos hgt]
     show kF d.f_at (q.At+q.Long)=q.At+q.Long/\d.f_at+(yL L d).Long-(q.At+q.Long)=d.f_at+(yL L d).Long-(q.At+q.Long)/\(0<=q.At+q.Long/\q.At+q.Long<=345772799999)
     exact⟨m1,rfl,by omega,by omega⟩
    | false =>
     have hgt:=of_decide_eq_false hgt
     have m1:kF d.f_at (q.At+q.Long)=d.f_at:=by unfold kF;rw [if_neg hgt]
     show kF d.f_at (q.At+q.Long)=d.f_at/\d.f_at+(yL L d).Long-d.f_at=(yL L d).Long/\(0<=d.f_at/\d.f_at<=345772799999)
     exact⟨m1,by omega,by omega,by omega⟩
   | false =>
    show kF d.f_at 0=d.f_at/\d.f_at+(yL L d).Long-d.f_at=(yL L d).Long/\(0<=d.f_at/\d.f_at<=345772799999)
    exact⟨m0,by omega,by omega,by omega⟩
 obtain ⟨k1,k2,k3,k4⟩:=key
 have w2:w64 (d.f_at+(yL L d).Long)=d.f_at+(yL L d).Long:=dx (by omega)
 have w3:w64 (d.f_at+(yL L d).Long-(kM L pl d).1)=(kM L pl d).2:=by rw [dx (by omega)];exact k2
 have hr:decide ((kM L pl d).1>=d.f_at+(yL L d).Long)=decide ((kM L pl d).2<=0):=decide_eq_decide.2 (by omega)
 have aF:jr F [d.f_i]=some (F++[d.f_i]):=iM _ _ (by simp;omega)
 have aP:∀q:Play,jr pl [q]=some (pl++[q]):=λq=>iM _ _ (by simp;omega)
 have hend:d.f_at+(yL L d).Long=(kM L pl d).1+(kM L pl d).2:=by omega
 unfold ik stp
 simp only [gP,hy,ob_,k1,w2,hr,w3,mP]
 cases h7:decide ((kM L pl d).2<=0)with
 | true=>simp only [cond_true,ob_,Bool.true_or,aF]
 | false =>
  cases h8:momB (kM L pl d).1 with
  | true=>simp only [cond_true,cond_false,ob_,Bool.or_self,Bool.not_true,aP,hend]
  | false=>simp only [cond_true,cond_false,ob_,Bool.false_or,Bool.not_false,aF]
theorem uC {L:List Log_} {p:ByteArray}:∀(ds:List Dated) (k:Nat) (F:List Int) (pl:List Play),(∀d∈ds,VD L d/\(yL L d).Player=p)->(∀q∈pl,uE q)->F.length+pl.length+ds.length<=10000 ->
  dY (λk x s=>ik L k x s) (ds.map gP) k (pl,F,yh pl p)=some (.go ((jP L pl ds).1,F++(jP L pl ds).2,yh (jP L pl ds).1 p))
 | [],k,F,pl,hd,hp,hl=>by simp only [jP,List.append_nil];rfl
 | d::ds,k,F,pl,hd,hp,hl=>by
  simp only [List.length_cons]at hl
  obtain ⟨v,hpd⟩:=hd d (by simp)
  have hs1:=GR k v F pl hp (by omega)
  rw [hpd]at hs1
  rw [List.map_cons,dY,hs1,ob_,jP]
  cases hs:stp L pl d with
  | some q =>
   obtain ⟨g1,g2⟩:=xz v hp hs
   simp only
   rw [<- Fx pl q p (g2.trans hpd),uC ds (k+1) F (pl++[q]) (λd hd'=>hd d (List.mem_cons_of_mem _ hd')) (λz hz=>by
    rcases List.mem_append.1 hz with hz|hz
    ·exact hp z hz
    ·rw [List.mem_singleton.1 hz];exact g1) (by simp;omega)]
  | none =>
   simp only
   rw [uC ds (k+1) (F++[d.f_i]) pl (λd hd'=>hd d (List.mem_cons_of_mem _ hd')) hp (by simp;omega)]
   simp
end Go.Proofs.YtdenjndllgahgaaGreatDoor.Law

