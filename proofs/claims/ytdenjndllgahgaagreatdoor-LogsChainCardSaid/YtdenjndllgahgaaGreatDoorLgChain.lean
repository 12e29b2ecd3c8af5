import Derived.Test.YtdenjndllgahgaaGreatDoorLgGen
import Derived.Test.YtdenjndllgahgaaGreatDoorCkLaw
/-
  PLAIN LAW: sums and chains of logs.
-/
open Go Go.Eng
namespace Go.Proofs.YtdenjndllgahgaaGreatDoor.Law
set_option linter.unusedVariables false
set_option linter.unusedSimpArgs false
def jL (s:ByteArray):Int:=bif sNe s (⟨#[]⟩:ByteArray)then (bif !oC s then 3 else 0)else 0
theorem lastP {s:ByteArray} (h:bN s):eO s=some (jL s):=by
 unfold eO jL
 cases sNe s (⟨#[]⟩:ByteArray)with
 | true=>simp only [cond_true,xe h,ob_];cases oC s <;> rfl
 | false=>rfl
theorem lastR {s:ByteArray} (h:bN s):fO s=some (jL s):=by
 unfold fO jL
 cases sNe s (⟨#[]⟩:ByteArray)with
 | true=>simp only [cond_true,qm h,ob_];cases oC s <;> rfl
 | false=>rfl
theorem sI (s:ByteArray):jL s=0\/jL s=3:=by
 unfold jL
 cases sNe s (⟨#[]⟩:ByteArray)with
 | true=>cases oC s with
  | true=>exact .inl rfl
  | false=>exact .inr rfl
 | false=>exact .inl rfl
def yF (last:ByteArray) (x:Log_):ByteArray:=mk (last.data.toList++[32]++r9 x)
theorem sumP (last:ByteArray) {x:Log_} (hl:bN last) (h:dJ x):kI last x=some (yF last x):=by
 have l1:=wZ h;have l2:=iL hl
 unfold kI
 rw [line_eq h,show last=BB last.data.toList from rfl,show (⟨#[32]⟩:ByteArray)=BB [32] from rfl]
 simp only [ob_]
 rw [kw _ _ (by simp only [List.length_append,List.length_cons,List.length_nil];omega)];simp only [ob_]
 rw [kw _ _ (by simp only [List.length_append,List.length_cons,List.length_nil];omega)];simp only [ob_]
 rw [markP _ (by simp only [List.length_append,List.length_cons,List.length_nil];omega)]
 rfl
theorem sumR (last:ByteArray) {x:Log_} (hl:bN last) (h:dJ x):iT last x=some (yF last x):=yS last hl h
theorem Bi (last:ByteArray) (x:Log_):bN (yF last x):=mE _
theorem Ev (r:ByteArray×Stream) (hr:bN r.1) (k:Nat) {x:Log_} (h:dJ x):dV r k x ()=some (.go ()):=by
 have e1:lY r.1 x=some (bif or0 (jL r.1) (fe x) != 0 then ((⟨#[]⟩:ByteArray),or0 (jL r.1) (fe x))else (yF r.1 x,0)):=by
  unfold lY or0
  rw [lastP hr,ob_,oD h,ob_,sumP r.1 hr h,ob_]
  rcases sI r.1 with h0|h0
  ·rw [h0]
   show (bif fe x != 0 then _ else _)=some (bif fe x != 0 then _ else _)
   cases fe x != 0 <;> rfl
  ·rw [h0];rfl
 unfold dV
 rw [e1,ob_,lastR hr,ob_,qg h,ob_,errs2,ob_,sumR r.1 hr h]
 by_cases h0:or0 (jL r.1) (fe x)=0
 ·have n0:(or0 (jL r.1) (fe x) != 0)=false:=by simp [h0]
  have n1:(or0 (jL r.1) (fe x)==0)=true:=by simp [h0]
  have n2:((0:Int) != or0 (jL r.1) (fe x))=false:=by simp [h0]
  simp only [n0,n1,n2,cond_true,cond_false,ob_,oI,decide_true,Bool.not_true]
 ·have n0:(or0 (jL r.1) (fe x) != 0)=true:=by simp [h0]
  have n1:(or0 (jL r.1) (fe x)==0)=false:=by simp [h0]
  have n2:(or0 (jL r.1) (fe x) != or0 (jL r.1) (fe x))=false:=by simp
  simp only [n0,n1,n2,cond_true,cond_false,ob_,oI,decide_true,Bool.not_true]
theorem zR (y:Log_) (p:Stream) {b:Int} (hp:Ok p b) (hb:b<=900000):∃r,cZ y p=some r/\Ok r.2 (b+1):=by
 unfold cZ
 cases sNe y.Player (⟨#[112,97]⟩:ByteArray)with
 | true =>
  obtain ⟨a,h1,h2⟩:=qZ p 20 hp (by omega) (by decide) (by decide)
  rw [cond_true,h1]
  exact⟨_,rfl,h2⟩
 | false=>exact⟨_,rfl,hp.mono (by omega)⟩
theorem BI (xs:List Log_) (hx:xs.length<=1000):∀(ys:List Nat) (k:Nat) (s:Stream) (b:Int),k+ys.length=xs.length->Ok s b->b+ys.length<=900000 ->
  (∃s':Stream,dF (λk x s=>aI xs k x s) ys k (s.L,s.f_at)=some (.go (s'.L,s'.f_at))/\Ok s' (b+ys.length)/\(ys=[]->s'=s)) \/
  (∃(j:Nat) (s':Stream),dF (λk x s=>aI xs k x s) ys k (s.L,s.f_at)=some (.ret ((j:Int),s'))/\j<xs.length/\Ok s' (b+ys.length))
 | [],k,s,b,hk,hs,hb => .inl ⟨s,rfl,hs.mono (by simp),λ_=>rfl⟩
 | y::ys,k,s,b,hk,hs,hb=>by
  simp only [List.length_cons]at hk hb
  have hlt:k<xs.length:=by omega
  have hi:inR (k:Int) xs=some ():=rq (by omega) (by omega)
  have hg:xs[0+(k:Int).toNat]? = some xs[k]:=by rw [show 0+(k:Int).toNat=k by omega];exact List.getElem?_eq_getElem hlt
  obtain ⟨r,h1,h2⟩:=zR xs[k] s hs (by omega)
  have hst:aI xs k y (s.L,s.f_at)=bif r.1 then some (.ret ((k:Int),r.2))else some (.go (r.2.L,r.2.f_at)):=by
   unfold aI
   rw [hi,ob_,hg,ob_]
   show ((cZ xs[k] s).bind _)=_
   rw [h1];rfl
  rw [dF,hst]
  cases r.1 with
  | true=>exact .inr ⟨k,r.2,rfl,hlt,h2.mono (by simp;omega)⟩
  | false =>
   simp only [cond_false,ob_]
   rcases BI xs hx ys (k+1) r.2 (b+1) (by omega) h2 (by omega)with⟨s',q1,q2,_⟩|⟨j,s',q1,q2,q3⟩
   ·exact .inl ⟨s',q1,q2.mono (by simp;omega),λe=>by cases e⟩
   ·exact .inr ⟨j,s',q1,q2,q3.mono (by simp;omega)⟩
theorem rW (n:Nat) (hn:n<=1000):∀(m:Nat) (data:List Log_) (i j:Nat) (s:Stream) (b:Int),j+m=n->data.length=n->(∀y∈data,dJ y)->i<=j->Ok s b->b+m<=900000 ->
  ∃(data':List Log_) (i':Nat) (s':Stream),fE (λs=>aJ s) (m+1) (data,(i:Int),(j:Int),s.L,s.f_at)=some (.go (data',(i':Int),(n:Int),s'.L,s'.f_at))/\data'.length=n/\(∀y∈data',dJ y)/\i'<=n/\Ok s' (b+m)
 | 0,data,i,j,s,b,hm,hd,hg,hi,hs,hb=>by
  refine⟨data,i,s,?_,hd,hg,by omega,hs.mono (by simp)⟩
  have hc:decide ((j:Int)<(data.length:Int))=false:=decide_eq_false (by omega)
  simp only [fE,aJ,hc,cond_false,ob_]
  rw [show j=n by omega]
 | m+1,data,i,j,s,b,hm,hd,hg,hi,hs,hb=>by
  have hlt:j<data.length:=by omega
  have hil:i<data.length:=by omega
  have hc:decide ((j:Int)<(data.length:Int))=true:=decide_eq_true (by omega)
  have r1:inR (j:Int) data=some ():=rq (by omega) (by omega)
  have r2:inR (i:Int) data=some ():=rq (by omega) (by omega)
  have g1:data[0+(j:Int).toNat]? = some data[j]:=by rw [show 0+(j:Int).toNat=j by omega];exact List.getElem?_eq_getElem hlt
  have g2:data[0+(i:Int).toNat]? = some data[i]:=by rw [show 0+(i:Int).toNat=i by omega];exact List.getElem?_eq_getElem hil
  have w1:w64 ((j:Int)+1)=((j+1:Nat):Int):=by rw [dI (by omega)];omega
  have w2:w64 ((i:Int)+1)=((i+1:Nat):Int):=by rw [dI (by omega)];omega
  obtain ⟨r,h1,h2⟩:=zR data[j] s hs (by omega)
  have hst:aJ (data,(i:Int),(j:Int),s.L,s.f_at)=some (.go (bif (!r.1)then (data.set (0+(i:Int).toNat) data[j],((i+1:Nat):Int),((j+1:Nat):Int),r.2.L,r.2.f_at)else (data,(i:Int),((j+1:Nat):Int),r.2.L,r.2.f_at))):=by
   unfold aJ
   simp only [hc,cond_true,r1,g1,ob_]
   show ((cZ data[j] s).bind _)=_
   rw [h1,ob_]
   simp only [r2,g2,w1,w2,ob_]
   cases r.1 <;> rfl
  rw [fE,hst]
  cases r.1 with
  | true =>
   obtain ⟨d',i',s',q1,q2,q3,q4,q5⟩:=rW n hn m data i (j+1) r.2 (b+1) (by omega) hd hg (by omega) h2 (by omega)
   exact⟨d',i',s',q1,q2,q3,q4,q5.mono (by omega)⟩
  | false =>
   obtain ⟨d',i',s',q1,q2,q3,q4,q5⟩:=rW n hn m (data.set (0+(i:Int).toNat) data[j]) (i+1) (j+1) r.2 (b+1) (by omega) (by rw [List.length_set];exact hd) (jD hg (hg _ (List.getElem_mem _))) (by omega) h2 (by omega)
   exact⟨d',i',s',q1,q2,q3,q4,q5.mono (by omega)⟩
theorem delc_ok (xs:List Log_) (s:Stream) (hx:xs.length<=1000) (hg:∀y∈xs,dJ y) {b:Int} (hs:Ok s b) (hb:b<=800000) :
  ∃r,aW xs s=some r/\r.1.length<=xs.length/\(∀y∈r.1,dJ y)/\Ok r.2 (b+2000)/\(xs=[]->r.2=s):=by
 have hix:bf xs s=(dF (λk x s=>aI xs k x s) (List.range xs.length) 0 (s.L,s.f_at)).bind λo_12=>dE o_12 (λs_9=>some ((-1),(⟨s_9.1,s_9.2⟩:Stream))) (λr=>some r):=by
  unfold bf
  rw [fo (by simp;omega)];rfl
 unfold aW
 rw [hix]
 rcases BI xs hx (List.range xs.length) 0 s b (by simp) hs (by simp;omega)with⟨s',q1,q2,q3⟩|⟨j,s',q1,q2,q3⟩
 ·rw [q1]
  refine⟨(xs,s'),rfl,Nat.le_refl _,hg,q2.mono (by simp;omega),λe=>q3 (by rw [e];rfl)⟩
 ·rw [q1]
  simp only [ob_,xu]
  have hj:((j:Int) == -1)=false:=by
   cases hc:((j:Int) == -1)with
   | false=>rfl
   | true=>have:=eq_of_beq hc;omega
  have hw:w64 ((j:Int)+1)=((j+1:Nat):Int):=by rw [dI (by omega)];omega
  rw [hj,cond_false,hw]
  obtain ⟨d',i',s2,p1,p2,p3,p4,p5⟩:=rW xs.length hx (xs.length-(j+1)) xs j (j+1) s' (b+(List.range xs.length).length) (by omega) rfl hg (by omega) q3 (by simp;omega)
  rw [mX p1,ob_,gL]
  have n1:(i':Int).toNat=i':=by omega
  have n2:(d'.length:Int).toNat=d'.length:=by omega
  have c1:nH d' (i':Int) (d'.length:Int)=some ():=by unfold nH;rw [if_pos ⟨by omega,by omega,by omega,by omega⟩]
  have hlen:∀z:Log_,(d'.take i'++List.replicate (d'.length-i') z++d'.drop (i'+(d'.length-i'))).length=d'.length:=λz=>by simp;omega
  simp only [c1,n1,n2,ob_]
  have c2:∀z:Log_,nH (d'.take i'++List.replicate (d'.length-i') z++d'.drop (i'+(d'.length-i'))) 0 (i':Int)=some ():=λz=>by unfold nH;rw [if_pos ⟨by omega,by omega,by omega,by rw [hlen];omega⟩]
  rw [c2,ob_]
  refine⟨_,rfl,?_,?_,p5.mono (by simp;omega),λe => ?_⟩
  ·rw [List.length_take,hlen];omega
  ·intro y hy
   rw [List.append_assoc,List.take_append_of_le_length (by rw [List.length_take];omega),List.take_take]at hy
   exact p3 y (List.mem_of_mem_take hy)
  ·rw [e]at q2;simp at q2
theorem D8 (s:Stream):aX s=some s:=by
 have h:bz ([]:List Log_) s=some (-1,s):=rfl
 unfold aX
 rw [h];rfl
theorem wS (l:List Log_) (hl:l.length<=1000) (hg:∀x∈l,dJ x):∀(xs:List Log_) (k:Nat) (out:List Log_) (last:ByteArray),l.drop k=xs->k<=l.length->out.length=k->bN last ->
  (∃e,dF (λk x s=>dZ l k x s) xs k (out++xs,last)=some (.ret ([],e))/\dF (λk x s=>dW l k x s) xs k (out,last)=some (.ret ([],e))) \/
  ∃s:List Log_×ByteArray,dF (λk x s=>dZ l k x s) xs k (out++xs,last)=some (.go s)/\dF (λk x s=>dW l k x s) xs k (out,last)=some (.go s)/\s.1.length<=1000
 | [],k,out,last,hd,hkl,ho,hs => .inr ⟨(out,last),by rw [List.append_nil];rfl,rfl,by show out.length<=1000;omega⟩
 | x::xs,k,out,last,hd,hkl,ho,hs=>by
  have hx:l[k]? = some x:=yT hd
  have hlt:=(List.getElem?_eq_some_iff.1 hx).1
  have hgx:=hg x (List.mem_of_getElem? hx)
  have h0:idx l 0=some (l[0]'(by omega)):=by
   have:=mK l 0
   rw [show ((0:Nat):Int)=0 from rfl]at this
   rw [this];exact List.getElem?_eq_getElem _
  have hi:inR (k:Int) (out++x::xs)=some ():=rq (by omega) (by simp;omega)
  have hgk:(out++x::xs)[0+(k:Int).toNat]? = some x:=by
   rw [show 0+(k:Int).toNat=out.length by omega];simp
  have hsetk:∀a:Log_,(out++x::xs).set (0+(k:Int).toNat) a=(out++[a])++xs:=λa=>by
   rw [show 0+(k:Int).toNat=out.length by omega];simp
  have happ:∀a:Log_,pV out [a]=some (out++[a]):=λa=>mZ _ _ (by simp;omega)
  have hA:dZ l k x (out++x::xs,last)=bif (fe x != 0)then some (.ret ([],fe x))else (bif (decide ((k:Int)>0))then (idx l 0).bind λy_28=>some (sNe x.Player y_28.Player)else some false).bind λv_25=>bif v_25 then some (.ret ([],13))else (bif (decide ((k:Int)>0))then (idx l (w64 ((k:Int)-1))).bind λy_34=>some (x.No != (w64 (y_34.No+1)))else some false).bind λv_31=>bif v_31 then some (.ret ([],16))else some (.go ((out++[(⟨x.Player,x.Item,x.No,x.Clock,x.Long,yF last x⟩:Log_)])++xs,yF last x)):=by
   unfold dZ
   simp only [oD hgx,sumP last hs hgx,hi,hgk,hsetk,ob_]
  have hB:dW l k x (out,last)=bif (fe x != 0)then some (.ret ([],fe x))else (idx l 0).bind λy_24=>bif (sNe x.Player y_24.Player)then some (.ret ([],13))else (bif (decide ((k:Int)>0))then (idx l (w64 ((k:Int)-1))).bind λy_30=>some (x.No != (w64 (y_30.No+1)))else some false).bind λv_27=>bif v_27 then some (.ret ([],16))else some (.go (out++[(⟨x.Player,x.Item,x.No,x.Clock,x.Long,yF last x⟩:Log_)],yF last x)):=by
   unfold dW
   simp only [qg hgx,sumR last hs hgx,happ,ob_]
  have hplayer:(bif (decide ((k:Int)>0))then (idx l 0).bind λy_28=>some (sNe x.Player y_28.Player)else some false)=some (sNe x.Player (l[0]'(by omega)).Player):=by
   rw [h0]
   by_cases hk0:k=0
   ·subst hk0
    have:l[0]'(by omega)=x:=by
     rw [List.getElem?_eq_getElem (by omega)]at hx
     exact Option.some.inj hx
    rw [this,oI];simp
   ·have:decide ((k:Int)>0)=true:=decide_eq_true (by omega)
    rw [this];rfl
  rw [hplayer]at hA
  rw [h0]at hB
  rw [dF,dF,hA,hB]
  cases fe x != 0 with
  | true=>exact .inl ⟨_,rfl,rfl⟩
  | false =>
  simp only [cond_false,ob_]
  cases sNe x.Player (l[0]'(by omega)).Player with
  | true=>exact .inl ⟨_,rfl,rfl⟩
  | false =>
  simp only [cond_false]
  obtain ⟨v,hv⟩:∃v,(bif (decide ((k:Int)>0))then (idx l (w64 ((k:Int)-1))).bind λy_34=>some (x.No != (w64 (y_34.No+1)))else some false)=some v:=by
   by_cases hk0:0<k
   ·obtain ⟨y,h1,h2⟩:=qB hx hk0 (by omega)
    rw [h1]
    cases decide ((k:Int)>0) <;> exact⟨_,rfl⟩
   ·have:decide ((k:Int)>0)=false:=decide_eq_false (by omega)
    rw [this];exact⟨_,rfl⟩
  rw [hv]
  simp only [ob_]
  cases v with
  | true=>exact .inl ⟨_,rfl,rfl⟩
  | false =>
   simp only [cond_false,ob_]
   exact wS l hl hg xs (k+1) (out++[_]) (yF last x) (bv hd) (by omega) (by simp;omega) (Bi _ _)
theorem Ey (last:ByteArray) (l:List Log_) (hs:bN last) (hl:l.length<=1000) (hg:∀x∈l,dJ x):∃c,jQ last l=some c/\jV last l=some c/\c.1.length<=1000:=by
 unfold jQ jV
 rw [lastP hs,lastR hs]
 simp only [ob_]
 rcases sI last with h0|h0
 ·rw [h0]
  have hd:decide ((l.length:Int)>2000)=false:=decide_eq_false (by omega)
  have hcl:aR l=some l:=by
   unfold aR
   rw [mZ [] l (by simp;omega)];simp
  show ∃c,(bif decide ((l.length:Int)>2000)then _ else _)=some c/\(bif decide ((l.length:Int)>2000)then _ else _)=some c/\_
  rw [hd,hcl]
  simp only [cond_false,ob_]
  rw [fo (by omega),fo (by omega)]
  rcases wS l hl hg l 0 [] last rfl (by omega) rfl hs with⟨e,q1,q2⟩|⟨s,q1,q2,q3⟩
  ·rw [List.nil_append]at q1
   rw [q1,q2];exact⟨_,rfl,rfl,by simp⟩
  ·rw [List.nil_append]at q1
   rw [q1,q2];exact⟨_,rfl,rfl,q3⟩
 ·rw [h0];exact⟨_,rfl,rfl,by simp⟩
theorem vX (l2:List Log_):∀(xs:List Log_) (k:Nat),l2.drop k=xs->dF (λk x s=>aY l2 k x s) xs k ()=some (.go ())
 | [],k,h=>rfl
 | x::xs,k,h=>by
  have hstep:aY l2 k x ()=some (.go ()):=by
   unfold aY
   rw [eB h]
   simp
  simp only [dF,hstep,ob_]
  exact vX l2 xs (k+1) (bv h)
theorem zH (l:List Log_) (hl:l.length<=1000000000):bC l l=some true:=by
 unfold bC
 have e:((l.length:Int) != (l.length:Int))=false:=by simp
 rw [e,cond_false,fo (by omega),vX l l 0 rfl]
 rfl
theorem nos_ok (l:List Log_) (hl:l.length<=1000) (hg:∀x∈l,dJ x):∃r,jC (List.range ((l.length:Int)).toNat) l (λk x s=>dh k x s)=some (.go r)/\r.length=l.length/\∀x∈r,dJ x:=by
 have n1:(l.length:Int).toNat=l.length:=by omega
 rw [n1]
 obtain ⟨r,h1,h2⟩:=qK (ρ:=Unit) (xs:=List.range l.length) (s:=l) (body:=λk x s=>dh k x s) (λ_ (s:List Log_)=>s.length=l.length/\∀x∈s,dJ x) (by simp;omega) (λk x s _ hk hs=>by
  obtain ⟨s1,s2⟩:=hs
  have hk:k<l.length:=by simpa using hk
  have hi:inR (k:Int) s=some ():=rq (by omega) (by omega)
  have e:0+(k:Int).toNat=k:=by omega
  have hgk:s[k]? = some (s[k]'(by omega)):=List.getElem?_eq_getElem _
  have hgood:=s2 _ (List.getElem_mem (by omega:k<s.length))
  have hm:Med (w64 (7+(k:Int))):=by rw [dI (by omega)];unfold Med;omega
  have hst:dh k x s=some (.go (s.set k (⟨(s[k]'(by omega)).Player,(s[k]'(by omega)).Item,w64 (7+(k:Int)),(s[k]'(by omega)).Clock,(s[k]'(by omega)).Long,(s[k]'(by omega)).Sum⟩:Log_))):=by
   unfold dh
   simp only [hi,e,hgk,ob_]
  exact⟨_,hst,by rw [List.length_set];exact s1,jD s2 ⟨hgood.1,hgood.2.1,hgood.2.2.1,hm,hgood.2.2.2.2.1,hgood.2.2.2.2.2⟩⟩) ⟨rfl,hg⟩
 exact⟨r,h1,h2.1,h2.2⟩
theorem mf {α:Type} {E:Option α} {f:α->Option Bool} {P:α->Prop} (h:∃a,E=some a/\P a) (k:∀a,P a->f a=some true):E.bind f=some true:=by
 obtain ⟨a,h1,h2⟩:=h
 rw [h1];exact k a h2
theorem logsChain (l:List Int):jI l=some true:=by
 unfold jI
 refine mf (logs_ok ⟨l,0⟩ 5 (by decide) (b:=0) ⟨Int.le_refl _,Int.le_refl _⟩ (by decide)) (λx hx => ?_)
 obtain ⟨o1,hl,hg⟩:=hx
 have hl':x.1.length<=10:=hl
 rw [show (⟨#[120]⟩:ByteArray)=BB [120] from rfl,D9 [120] (by decide),ob_]
 refine mf (pQ x.2 _ o1 (by omega) (by simp) (by simp)) (λr hr => ?_)
 have hsr:bN r.1:=by
  refine kK hr.1 (λy hy => ?_)
  simp only [List.mem_cons,List.not_mem_nil,or_false]at hy
  rcases hy with rfl|rfl|rfl|rfl|rfl
  ·exact cK rfl
  ·exact cK rfl
  ·exact mE _
  ·exact cK rfl
  ·exact cK rfl
 rw [logsK x.1 hg (by omega),ob_,logsR x.1 hg (by omega),ob_]
 have e0:(xm x.1 != xm x.1)=false:=by simp
 rw [e0,cond_false]
 obtain ⟨_,f1,_⟩:=qK (ρ:=Bool) (xs:=x.1) (s:=()) (body:=λk y s=>dV r k y s) (λ_ _=>True) (by omega) (λk y s hy _ _=>⟨(),Ev r hsr k (hg y hy),trivial⟩) trivial
 rw [f1,ob_,gL]
 have hcl:aR x.1=some x.1:=by
  unfold aR
  rw [mZ [] x.1 (by simp;omega)];simp
 rw [hcl,ob_]
 obtain ⟨d,d1,d2,d3,d4,d5⟩:=delc_ok x.1 r.2 (by omega) hg hr.2 (by omega)
 rw [d1,ob_]
 have hle:leL d.1 x.1=some ():=by unfold leL;rw [if_pos d2]
 rw [hle,ob_,D8,ob_]
 have hkp:zU (false || !x.1.isEmpty) d.2 r.2=some ():=by
  unfold zU
  refine if_pos ?_
  cases hxe:x.1 with
  | nil=>exact .inr (d5 hxe)
  | cons a b=>exact .inl rfl
 rw [hkp,ob_]
 refine mf (qZ d.2 2 d4 (by omega) (by decide) (by decide)) (λc hc => ?_)
 obtain ⟨v,hv,v1,v2⟩:∃v:List Log_,(bif c.1 then (jC (List.range ((d.1.length:Int)).toNat) d.1 (λk x s=>dh k x s)).bind λo_70=>dE o_70 (λs_67=>some s_67) (λ_=>none)else some d.1)=some v/\v.length<=1000/\∀y∈v,dJ y:=by
  cases c.1 with
  | true =>
   obtain ⟨w,w1,w2,w3⟩:=nos_ok d.1 (by omega) d3
   rw [cond_true,w1]
   exact⟨w,rfl,by omega,w3⟩
  | false=>exact⟨d.1,rfl,by omega,d3⟩
 rw [hv,ob_]
 obtain ⟨q,q1,q2,q3⟩:=Ey r.1 v hsr v1 v2
 rw [q1,ob_,q2,ob_]
 have e1:(q.2==q.2)=true:=by simp
 simp only [e1,zH q.1 (by omega),Ce,cond_true,ob_]
end Go.Proofs.YtdenjndllgahgaaGreatDoor.Law

