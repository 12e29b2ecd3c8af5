/-
  THE PLAIN LAW (part 4).
-/
import Derived.Test.YtekmkepojbhafaeGreatDoorPl3
import Derived.Test.YtekmkepojbhafaeGreatDoorDefs
open Go Go.Eng
namespace Go.Proofs.YtekmkepojbhafaeGreatDoor.Law
set_option linter.unusedVariables false
set_option linter.unusedSimpArgs false
section
variable {K T:Type} {eq:K->K->Bool}
theorem Kq (k:K):qA eq ([]:List (K×T)) k=none:=rfl
theorem qw (e:K×T) (es:List (K×T)) (k:K):qA eq (e::es) k=if eq k e.1=true then some e.2 else qA eq es k:=by
 unfold qA
 rw [wQ]
 by_cases h:eq k e.1=true
 ·rw [if_pos h,if_pos h];rfl
 ·rw [if_neg h,if_neg h]
  cases wQ eq k es with
  | none=>rfl
  | some j=>rfl
theorem JF (k:K) (v:T):kQ eq ([]:List (K×T)) k v=[(k,v)]:=rfl
theorem BM (e:K×T) (es:List (K×T)) (k:K) (v:T):kQ eq (e::es) k v=if eq k e.1=true then (k,v)::es else e::kQ eq es k v:=by
 unfold kQ
 rw [wQ]
 by_cases h:eq k e.1=true
 ·rw [if_pos h,if_pos h];rfl
 ·rw [if_neg h,if_neg h]
  cases wQ eq k es with
  | none=>rfl
  | some j=>rfl
theorem xP (he:∀a b,eq a b=true↔a=b) (k k':K) (v:T):∀es:List (K×T),qA eq (kQ eq es k v) k'=if eq k' k=true then some v else qA eq es k'
 | []=>by rw [JF,qw]
 | e::es=>by
  rw [BM,qw]
  by_cases h:eq k e.1=true
  ·rw [if_pos h,qw]
   have h1:=(he _ _).1 h
   rw [<- h1]
   by_cases h2:eq k' k=true
   ·rw [if_pos h2,if_pos h2]
   ·rw [if_neg h2,if_neg h2,if_neg h2]
  ·rw [if_neg h,qw,xP he k k' v es]
   by_cases h2:eq k' e.1=true
   ·have h3:=(he _ _).1 h2
    have:¬eq k' k=true:=λq=>h (by rw [<- (he _ _).1 q];exact h2)
    rw [if_pos h2,if_neg this,if_pos h2]
   ·rw [if_neg h2,if_neg h2]
theorem y7 (k:K) (v:T):∀es:List (K×T),(kQ eq es k v).length=if (qA eq es k).isSome=true then es.length else es.length+1
 | []=>rfl
 | e::es=>by
  rw [BM,qw]
  by_cases h:eq k e.1=true
  ·rw [if_pos h,if_pos h];rfl
  ·rw [if_neg h,if_neg h,List.length_cons,y7 k v es,List.length_cons]
   split <;> rfl
end
theorem DD (a b:ByteArray):eqS a b=true↔a=b:=⟨eqS_eq,λh=>by
 subst h
 obtain ⟨x⟩:=a
 show (x==x)=true
 exact beq_self_eq_true x⟩
def wD (s:List (ByteArray×Bool)) (sn:List ByteArray):Prop:=∀k,qA eqS s k=if k∈sn then some true else none
theorem wD.nil:wD [] []:=λk=>by rw [Kq,if_neg (by simp)]
theorem wD.set {s:List (ByteArray×Bool)} {sn:List ByteArray} (h:wD s sn) (id:ByteArray):wD (kQ eqS s id true) (sn++[id]):=λk=>by
 rw [xP DD,h k]
 by_cases h1:eqS k id=true
 ·rw [if_pos h1,if_pos (by rw [(DD _ _).1 h1];simp)]
 ·rw [if_neg h1]
  have:k∈sn++[id]↔k∈sn:=by
   rw [List.mem_append,List.mem_singleton]
   exact⟨λq=>q.resolve_right (λe=>h1 ((DD _ _).2 e)),.inl⟩
  by_cases h2:k∈sn
  ·rw [if_pos h2,if_pos (this.2 h2)]
  ·rw [if_neg h2,if_neg (λq=>h2 (this.1 q))]
def vG:List ByteArray->List ByteArray->Bool
 | _,[]=>false
 | sn,x::l=>if x∈sn then true else vG (sn++[x]) l
theorem Hd:∀(xs:List Alert) (k:Nat) (s:List (ByteArray×Bool)) (sn:List ByteArray),wD s sn->(vG sn (xs.map (·.Id))=false/\∃s',forR (λk x s=>bN k x s) xs k s=some (.go s'))\/(vG sn (xs.map (·.Id))=true/\forR (λk x s=>bN k x s) xs k s=some (.ret 6))
 | [],k,s,sn,h => .inl ⟨rfl,s,rfl⟩
 | x::xs,k,s,sn,h=>by
  have hg:=h x.Id
  rw [List.map_cons]
  by_cases hm:x.Id∈sn
  ·rw [if_pos hm]at hg
   have e:bN k x s=some (.ret 6):=by unfold bN;rw [hg];rfl
   exact .inr ⟨by rw [vG,if_pos hm],by rw [forR,e];rfl⟩
  ·rw [if_neg hm]at hg
   have e:bN k x s=some (.go (kQ eqS s x.Id true)):=by unfold bN;rw [hg];rfl
   rw [vG,if_neg hm,forR,e,ob_]
   exact Hd xs (k+1) _ _ (h.set x.Id)
theorem Hq:∀(xs:List Alert) (k:Nat) (s:List (ByteArray×Bool)) (sn:List ByteArray),wD s sn->∃s',forR (λk x s=>ib k x s) xs k s=some (.go s')/\(if vG sn (xs.map (·.Id))=true then s'.length<s.length+xs.length else s'.length=s.length+xs.length)/\s'.length<=s.length+xs.length
 | [],k,s,sn,h=>⟨s,rfl,by rw [if_neg (by simp [vG])];rfl,Nat.le_refl _⟩
 | x::xs,k,s,sn,h=>by
  have hg:=h x.Id
  have e:ib k x s=some (.go (kQ eqS s x.Id true)):=rfl
  obtain ⟨s',e1,e2,e3⟩:=Hq xs (k+1) _ _ (h.set x.Id)
  refine⟨s',by rw [forR,e,ob_];exact e1,?_,?_⟩
  ·rw [List.map_cons,vG]
   have hl:=y7 (eq:=eqS) x.Id true s
   by_cases hm:x.Id∈sn
   ·rw [if_pos hm]at hg
    rw [if_pos hm,if_pos rfl]
    rw [hg]at hl
    simp only [Option.isSome_some,if_true]at hl
    rw [List.length_cons];omega
   ·rw [if_neg hm]at hg
    rw [hg]at hl
    rw [if_neg hm]
    have hl2:(kQ eqS s x.Id true).length=s.length+1:=by simpa using hl
    rw [hl2]at e2 e3
    rw [List.length_cons]
    by_cases hd:vG (sn++[x.Id]) (xs.map (·.Id))=true
    ·rw [if_pos hd]at e2;rw [if_pos hd];omega
    ·rw [if_neg hd]at e2;rw [if_neg hd];omega
  ·have hl:=y7 (eq:=eqS) x.Id true s
   have:(kQ eqS s x.Id true).length<=s.length+1:=by rw [hl];split <;> omega
   rw [List.length_cons];omega
theorem BO:∀(l sn:List ByteArray),vG sn l=false->l.Nodup/\∀x∈l,x∉sn
 | [],sn,_=>⟨List.nodup_nil,λx hx=>by cases hx⟩
 | y::l,sn,h=>by
  rw [vG]at h
  by_cases hm:y∈sn
  ·rw [if_pos hm]at h;cases h
  ·rw [if_neg hm]at h
   obtain ⟨h1,h2⟩:=BO l _ h
   refine⟨List.nodup_cons.2 ⟨λq=>h2 y q (by simp),h1⟩,λx hx => ?_⟩
   rcases List.mem_cons.1 hx with rfl|hx
   ·exact hm
   ·exact λq=>h2 x hx (List.mem_append_left _ q)
end Go.Proofs.YtekmkepojbhafaeGreatDoor.Law

open Go Go.Eng
namespace Go.Proofs.YtekmkepojbhafaeGreatDoor.Law
set_option linter.unusedVariables false
set_option linter.unusedSimpArgs false
theorem idx_map {α β:Type} {l:List α} {f:α->β} {k:Nat} {x:α} (hx:l[k]? = some x):idx (l.map f) (k:Int)=some (f x):=by
 rw [yV,List.getElem?_map,hx];rfl
theorem take_len {α:Type} (l:List α) (k:Nat):(l.take k).length<=l.length:=by rw [List.length_take];exact Nat.min_le_right _ _
theorem Hf (t:Int):gm t=some (bif qb t then 0 else 1):=by
 unfold gm
 rw [yf]
 cases qb t <;> rfl
theorem Gg {l:List Alert} (h:CA l) (hc:bB l=some 0) {t:Int} (ht:qb t=true):fU l t=some ((l.filter (onB l t)).map (·.Id),0):=by
 have hl:=h.len
 unfold fU
 rw [hc,ob_,bne_self_eq_false,cond_false,Hf,ht]
 simp only [cond_true,ob_,bne_self_eq_false,cond_false]
 rw [ends_eq h,ob_]
 obtain ⟨u,u1,u2⟩:=q8 (body:=λk x s=>iY (l.map (vE l)) t k x s) (λk s=>s=((l.take k).filter (onB l t)).map (·.Id)) (xs:=l) (s:=([]:List ByteArray)) (by omega) (λk x s hx hs=>by
  have et:l.take (k+1)=l.take k++[x]:=by rw [List.take_add_one,hx];rfl
  have h1:=take_len l k
  have h2:=List.length_filter_le (onB l t) (l.take k)
  have hf:(l.take (k+1)).filter (onB l t)=(l.take k).filter (onB l t)++(bif onB l t x then [x]else []):=by
   rw [et,List.filter_append]
   congr 1
  unfold iY
  rw [idx_map hx,ob_,isOn_eq,ob_,hf,List.map_append,<- hs]
  cases onB l t x with
  | false=>exact⟨_,rfl,by simp⟩
  | true =>
   rw [cond_true,jM _ _ (by rw [hs];simp only [List.length_map,List.length_cons,List.length_nil];omega)]
   exact⟨_,rfl,rfl⟩) rfl
 rw [u1,u2,List.take_length];rfl
end Go.Proofs.YtekmkepojbhafaeGreatDoor.Law

open Go Go.Eng
namespace Go.Proofs.YtekmkepojbhafaeGreatDoor.Law
set_option linter.unusedVariables false
set_option linter.unusedSimpArgs false
set_option maxRecDepth 100000
def oP (p:Option Alert) (x:Alert):Int:=bif alF x==0 then (bif yz (λy => !decide (befA y x)) p then 7 else 0)else alF x
def alV (l:List Alert):Int:=bif chA oP none l==0 then (bif vG [] (l.map (·.Id))then 6 else 0)else chA oP none l
theorem Bz {a b:Alert} (ha:GA a) (hb:GA b):∃n,gY a b=some n/\(n<0↔befA a b):=by
 have h1:=ha.at_
 have h2:=hb.at_
 unfold gY befA
 by_cases h:a.At=b.At
 ·have:(a.At != b.At)=false:=by simpa using h
  rw [this,cond_false,zf]
  refine⟨_,rfl,?_⟩
  rw [EP]
  exact⟨λq => .inr ⟨h,q⟩,λq=>by
   rcases q with q|q
   ·omega
   ·exact q.2⟩
 ·have:(a.At != b.At)=true:=by simpa using h
  rw [this,cond_true,gW (n:=a.At-b.At) (by omega)]
  unfold wF
  by_cases hn:a.At-b.At<0
  ·rw [decide_eq_true hn]
   exact⟨-1,rfl,⟨λ_ => .inl (by omega),λ_=>by decide⟩⟩
  ·rw [decide_eq_false hn,decide_eq_true (show a.At-b.At>0 by omega)]
   exact⟨1,rfl,⟨λq=>absurd q (by decide),λq=>by
    rcases q with q|q
    ·omega
    ·exact absurd q.1 h⟩⟩
theorem ge_of {n:Int} {P:Prop} [Decidable P] (h:n<0↔P):decide (n>=0) = !decide P:=by
 by_cases hp:P
 ·rw [decide_eq_true hp,decide_eq_false (by have:=h.2 hp;omega)];rfl
 ·rw [decide_eq_false hp,decide_eq_true (by
   rcases Int.lt_or_le n 0 with q|q
   ·exact absurd (h.1 q) hp
   ·exact q)];rfl
theorem Ac {α:Type} {l:List α} {k:Nat} {x:α} (h:l[k]? = some x) (hl:l.length<=1000000) (g:α->Option Bool) (f:α->Bool) (hg:∀y∈l,g y=some (f y)):(bif (decide ((k:Int)>0))then (idx l (w64 ((k:Int)-1))).bind g else some false)=some (yz f (kr l k)):=by
 rcases Nat.eq_zero_or_pos k with h0|h0
 ·subst h0
  rw [decide_eq_false (by omega)];rfl
 ·obtain ⟨y,q1,q2⟩:=Fe h h0 (by omega)
  rw [decide_eq_true (by omega),cond_true,q1,ob_,hg y (List.mem_of_getElem? q2)]
  unfold kr
  rw [if_neg (by omega),q2];rfl
theorem Ku {l:List Alert} (h:GAs l):∀k x,l[k]? = some x->dh l k x ()=some (rF (oP (kr l k) x)):=λk x hx=>by
 have hl:=h.2
 unfold dh oP
 rw [alF_K (h.1 x (List.mem_of_getElem? hx)),Ac hx (by omega) (λy_20=>(gN y_20 x).bind λr_22=>some (decide (r_22>=0))) (λy => !decide (befA y x)) (λy _=>by
  obtain ⟨n,n1,n2⟩:=yu y x
  rw [n1,ob_,ge_of n2])]
 simp only [ob_]
 by_cases h0:alF x=0
 ·rw [h0]
  cases yz (λy => !decide (befA y x)) (kr l k) <;> rfl
 ·have e1:(alF x==0)=false:=by simpa using h0
  have e2:(alF x != 0)=true:=by simp [bne,e1]
  rw [e1,e2]
  unfold rF
  rw [cond_false,e1];rfl
theorem Kr {l:List Alert} (h:GAs l):∀k x,l[k]? = some x->fP l k x ()=some (rF (oP (kr l k) x)):=λk x hx=>by
 have hl:=h.2
 have hgx:=h.1 x (List.mem_of_getElem? hx)
 unfold fP oP
 rw [alF_R hgx,Ac hx (by omega) (λy_20=>(gY y_20 x).bind λr_22=>some (decide (r_22>=0))) (λy => !decide (befA y x)) (λy hy=>by
  obtain ⟨n,n1,n2⟩:=Bz (h.1 y hy) hgx
  rw [n1,ob_,ge_of n2])]
 simp only [ob_]
 by_cases h0:alF x=0
 ·rw [h0]
  cases yz (λy => !decide (befA y x)) (kr l k) <;> rfl
 ·have e1:(alF x==0)=false:=by simpa using h0
  have e2:(alF x != 0)=true:=by simp [bne,e1]
  rw [e1,e2]
  unfold rF
  rw [cond_false,e1];rfl
theorem alV_K {l:List Alert} (h:GAs l):bB l=some (alV l):=by
 have hl:=h.2
 unfold bB alV
 rw [decide_eq_false (by omega),cond_false,uC (stp:=oP) (body:=λk x s=>dh l k x s) (by omega) (Ku h)]
 rcases mI (chA oP none l)with⟨e1,e2⟩|⟨e1,e2⟩
 ·rw [e2,e1]
  simp only [ob_,thenC]
  rw [iX (by omega)]
  rcases Hd l 0 [] [] wD.nil with⟨d,s',f⟩|⟨d,f⟩
  ·rw [f,d];rfl
  ·rw [f,d];rfl
 ·have:(chA oP none l==0)=false:=by simpa using e1
  rw [e2,this];rfl
theorem alV_R {l:List Alert} (h:GAs l):jy l=some (alV l):=by
 have hl:=h.2
 unfold jy alV
 rw [decide_eq_false (by omega),cond_false,uC (stp:=oP) (body:=λk x s=>fP l k x s) (by omega) (Kr h)]
 rcases mI (chA oP none l)with⟨e1,e2⟩|⟨e1,e2⟩
 ·rw [e2,e1]
  simp only [ob_,thenC]
  rw [iX (by omega)]
  obtain ⟨s',f,g,_⟩:=Hq l 0 [] [] wD.nil
  rw [f]
  simp only [ob_,thenC]
  cases hd:vG [] (l.map (·.Id))with
  | true =>
   rw [hd,if_pos rfl]at g
   simp only [List.length_nil,Nat.zero_add]at g
   rw [decide_eq_true (by omega)];rfl
  | false =>
   rw [hd,if_neg (by decide)]at g
   simp only [List.length_nil,Nat.zero_add]at g
   rw [decide_eq_false (by omega)];rfl
 ·have:(chA oP none l==0)=false:=by simpa using e1
  rw [e2,this];rfl
theorem Hu {x:Alert} (h:GA x) (h0:alF x=0):(0<=x.At/\x.At<=345686399999)/\(x.At+1<=x.Until/\x.Until<=x.At+2592000000)/\∀r∈x.Areas,Fine r:=by
 unfold alF at h0
 cases e1:(!lQ x.Id || !lQ x.Sender)with
 | true=>rw [e1]at h0;cases h0
 | false =>
 rw [e1,cond_false]at h0
 cases e2:jX x.Kind 1 3 with
 | true=>rw [e2]at h0;cases h0
 | false =>
 rw [e2,cond_false]at h0
 cases e3:rfV x==0 with
 | false=>rw [e3,cond_false]at h0;rw [h0]at e3;exact absurd e3 (by decide)
 | true =>
 rw [e3,cond_true]at h0
 cases e4:fmV x with
 | true=>rw [e4]at h0;cases h0
 | false =>
 rw [e4,cond_false]at h0
 cases e5:agV x with
 | true=>rw [e5]at h0;cases h0
 | false =>
 rw [e5,cond_false]at h0
 cases e6:arV x==0 with
 | false=>rw [e6,cond_false]at h0;rw [h0]at e6;exact absurd e6 (by decide)
 | true =>
 unfold agV at e5
 simp only [Bool.or_eq_false_iff]at e5
 obtain ⟨a1,a2,a3⟩:=e5
 have hm:qb x.At=true:=by cases hq:qb x.At with | true=>rfl | false=>rw [hq]at a1;cases a1
 unfold qb at hm
 have hm2:jX x.At 0 345686399999=false:=by cases hq:jX x.At 0 345686399999 with | false=>rfl | true=>rw [hq]at hm;cases hm
 have b1:=xS hm2
 have b2:=xS a2
 refine⟨b1,b2,λr hr => ?_⟩
 obtain ⟨i,hi⟩:=List.getElem?_of_mem hr
 obtain ⟨q,q1,_⟩:=J2 (eq_of_beq e6) i r hi
 unfold ll at q1
 refine Jo ?_
 cases hb:AZ r with
 | false=>rfl
 | true=>rw [hb]at q1;cases q1
theorem alStp_0 {p:Option Alert} {x:Alert} (h:oP p x=0):alF x=0:=by
 unfold oP at h
 cases e:alF x==0 with
 | true=>exact eq_of_beq e
 | false=>rw [e,cond_false]at h;exact h
theorem alV_ca {l:List Alert} (h:GAs l) (h0:alV l=0):CA l:=by
 have hl:=h.2
 unfold alV at h0
 cases e:chA oP none l==0 with
 | false=>rw [e,cond_false]at h0;rw [h0]at e;exact absurd e (by decide)
 | true =>
 rw [e,cond_true]at h0
 have hd:vG [] (l.map (·.Id))=false:=by
  cases hq:vG [] (l.map (·.Id))with
  | false=>rfl
  | true=>rw [hq]at h0;cases h0
 have one:∀x∈l,alF x=0:=λx hx=>by
  obtain ⟨i,hi⟩:=List.getElem?_of_mem hx
  obtain ⟨q,q1,_⟩:=J2 (eq_of_beq e) i x hi
  exact alStp_0 q1
 refine⟨(BO _ _ hd).1,by omega,λx hx => ?_,λx hx => ?_,λx hx=>(Hu (h.1 x hx) (one x hx)).2.2,λx hx => ?_,λx hx => ?_⟩
 ·have:=(h.1 x hx).rlen;omega
 ·have:=(h.1 x hx).alen;omega
 ·have:=(Hu (h.1 x hx) (one x hx)).1;omega
 ·have:=(Hu (h.1 x hx) (one x hx)).1
  have:=(Hu (h.1 x hx) (one x hx)).2.1
  omega
end Go.Proofs.YtekmkepojbhafaeGreatDoor.Law

open Go Go.Eng
namespace Go.Proofs.YtekmkepojbhafaeGreatDoor.Law
set_option linter.unusedVariables false
set_option linter.unusedSimpArgs false
set_option maxRecDepth 100000
theorem contS (l:List ByteArray) (v:ByteArray) (hl:l.length<=1000000):cZ l v=some (decide (v∈l)):=by
 unfold cZ fD
 rw [iX (by omega)]
 rcases qE (f:=λx=>some (sEq v x)) (p:=λx=>sEq v x) (B:=λk x s=>dZ v k x s) (λk x=>rfl) l 0 (λx _=>rfl)with⟨h1,h2⟩|⟨j,x,h1,h2,_,h4,_⟩
 ·rw [h2]
  have:v∉l:=λhm=>by
   have:l.any (λx=>sEq v x)=true:=List.any_eq_true.2 ⟨v,hm,(uy v v).2 rfl⟩
   rw [h1]at this;cases this
  rw [decide_eq_false this];rfl
 ·rw [h4]
  have:v∈l:=by rw [(uy _ _).1 h2];exact List.mem_of_getElem? h1
  rw [decide_eq_true this]
  simp only [ob_,thenC]
  rw [decide_eq_true (by omega)]
theorem IP {a o:Alert} (ha:GA a) (ho:GA o) (r:ByteArray):jU o r a=some (kN a o r):=by
 obtain ⟨n,n1,n2⟩:=Bz ho ha
 unfold jU kN
 rw [wL,wL,n1]
 have:decide (n<0)=decide (befA o a):=by rw [decide_eq_decide];exact n2
 cases decide (o.Id=r) <;> cases decide (o.Sender=a.Sender) <;> simp [this]
theorem zK {l:List Alert} (h:GAs l) {a:Alert} (ha:GA a) (r:ByteArray):mO l a r=some (l.any λo=>kN a o r):=by
 have hl:=h.2
 unfold mO aY aJ
 rw [iX (by omega)]
 rcases qE (f:=λx0=>jU x0 r a) (p:=λo=>kN a o r) (B:=λk x s=>aX (λx0=>jU x0 r a) k x s) (λk x=>rfl) l 0 (λx hx=>IP ha (h.1 x hx) r)with⟨h1,h2⟩|⟨j,x,h1,h2,_,h4,h5⟩
 ·rw [h2,h1];rfl
 ·rw [h4,h5]
  simp only [ob_,thenC]
  rw [decide_eq_true (by omega)]
theorem JO {l:List Alert} (hid:(l.map (·.Id)).Nodup) {z:Alert} (hz:z∈l) (a:Alert):(l.any λo=>kN a o z.Id)=kN a z z.Id:=by
 rw [Bool.eq_iff_iff,List.any_eq_true]
 constructor
 ·rintro ⟨o,ho,h⟩
  obtain ⟨i,hi⟩:=List.getElem?_of_mem ho
  obtain ⟨j,hj⟩:=List.getElem?_of_mem hz
  have:=wM hid hi hj (jZ.1 h).1
  subst this
  rw [hi]at hj
  rw [<- Option.some.inj hj]
  have e:=Option.some.inj hj
  rw [<- e]at h
  exact h
 ·exact λh=>⟨z,hz,h⟩
theorem Kg {l:List Alert} (h:GAs l) (hid:(l.map (·.Id)).Nodup) {z:Alert} (hz:z∈l):qR l z=some (vE l z):=by
 have hl:=h.2
 unfold qR
 obtain ⟨t,t1,t2⟩:=q8 (body:=λk x s=>lY z l k x s) (λk s=>s=vE (l.take k) z) (xs:=l) (s:=z.Until) (by omega) (λk x s hx hs=>by
  have et:l.take (k+1)=l.take k++[x]:=by rw [List.take_add_one,hx];rfl
  have hgx:=h.1 x (List.mem_of_getElem? hx)
  have hrl:=hgx.rlen
  unfold lY
  rw [contS _ _ (by omega),zK h hgx,JO hid hz,hs,et,Ci]
  have ec:JE x z=(decide (z.Id∈x.Refs)&&kN x z z.Id):=by
   unfold JE kN
   rw [decide_eq_true (rfl:z.Id=z.Id),Bool.true_and]
  rw [ec]
  simp only [ob_]
  cases decide (z.Id∈x.Refs)with
  | false=>exact⟨_,rfl,rfl⟩
  | true =>
   cases kN x z z.Id with
   | false=>exact⟨_,rfl,rfl⟩
   | true=>exact⟨_,rfl,by rw [<- La];rfl⟩) rfl
 rw [t1,t2,List.take_length];rfl
theorem Im {l:List Alert} (h:GAs l) (hid:(l.map (·.Id)).Nodup) {z:Alert} (hz:z∈l) (t:Int):oW l z t=some (onB l t z):=by
 unfold oW onB
 rw [Kg h hid hz]
 have e:(z.Kind != 3)=decide (z.Kind≠3):=by rw [Bool.eq_iff_iff];simp
 rw [e]
 cases decide (z.Kind≠3) <;> cases decide (z.At<=t) <;> rfl
end Go.Proofs.YtekmkepojbhafaeGreatDoor.Law

open Go Go.Eng
namespace Go.Proofs.YtekmkepojbhafaeGreatDoor.Law
set_option linter.unusedVariables false
set_option linter.unusedSimpArgs false
set_option maxRecDepth 100000
def mM (s_1:ByteArray):Option (Bool) :=
 (E9 0 (λs=>iJ s_1 s)).bind λo_10=>thenC o_10 (λs_7=>(bif (sNe s_1 (⟨#[]⟩:ByteArray))then some (decide ((s_1.size:Int)<=40))else some false).bind λv_30=>some v_30) (λr=>some r)
theorem rO (s_1:ByteArray):Le (mM s_1) (kit_IsKey s_1):=by
 unfold mM kit_IsKey
 repeat' (with_reducible first | exact Le.refl _ | refine Le.loop (λ_ => ?_) | refine Le.forL (λ_ _ _ => ?_) | refine Le.thenC (λ_ => ?_) (λ_ => ?_) | refine Le.cond ?_ ?_ | refine Le.bind ?_ (λ_ => ?_))
def kR (a_1:Alert) (k_4:Nat) (x_6:ByteArray) (s_9:Unit):Option (Ctl (Unit) (Int)) :=
 (mM x_6).bind λr_14=>bif (!r_14)then some (.ret 5)else (bif (decide ((k_4:Int)>0))then (idx a_1.Refs (w64 ((k_4:Int)-1))).bind λy_20=>some (sLe x_6 y_20)else some false).bind λv_17=>bif v_17 then some (.ret 7)else bif (sEq x_6 a_1.Id)then some (.ret 14)else some (.go ())
theorem sK (a_1:Alert) (k_4:Nat) (x_6:ByteArray) (s_9:Unit):Le (kR a_1 k_4 x_6 s_9) (dM a_1 k_4 x_6 s_9):=by
 unfold kR dM
 repeat' (with_reducible first | exact Le.refl _ | exact rO _ | refine Le.loop (λ_ => ?_) | refine Le.forL (λ_ _ _ => ?_) | refine Le.thenC (λ_ => ?_) (λ_ => ?_) | refine Le.cond ?_ ?_ | refine Le.bind ?_ (λ_ => ?_))
def mQ (a_1:Alert):Option (Int) :=
 bif (decide ((a_1.Refs.length:Int)>20))then some 2 else (forL a_1.Refs () (λk x s=>kR a_1 k x s)).bind λo_12=>thenC o_12 (λs_9=>bif (!((a_1.Kind==1)==((a_1.Refs.length:Int)==0)))then some 3 else some 0) (λr=>some r)
theorem vU (a_1:Alert):Le (mQ a_1) (gG a_1):=by
 unfold mQ gG
 repeat' (with_reducible first | exact Le.refl _ | exact sK _ _ _ _ | refine Le.loop (λ_ => ?_) | refine Le.forL (λ_ _ _ => ?_) | refine Le.thenC (λ_ => ?_) (λ_ => ?_) | refine Le.cond ?_ ?_ | refine Le.bind ?_ (λ_ => ?_))
def mq (a_1:Alert):Option (Int) :=
 ((mM a_1.Id).bind λr_5=>bif (!r_5)then some true else (mM a_1.Sender).bind λr_8=>some (!r_8)).bind λv_3=>bif v_3 then some 5 else (bZ a_1.Kind 1 3).bind λr_11=>bif r_11 then some 4 else (mQ a_1).bind λr_14=>bif (r_14 != 0)then some r_14 else ((jo a_1.At).bind λr_19=>bif (!r_19)then some true else (bZ a_1.Until (w64 (a_1.At+1)) (w64 (a_1.At+2592000000))).bind λr_22=>bif r_22 then some true else (bZ a_1.Weight 1 9).bind λr_25=>some r_25).bind λv_17=>bif v_17 then some 1 else bif (decide ((a_1.Areas.length:Int)>20))then some 2 else (forL a_1.Areas () (λk x s=>dY k x s)).bind λo_37=>thenC o_37 (λs_34=>bif (!((a_1.Kind==3)==((a_1.Areas.length:Int)==0)))then some 3 else bif (decide ((a_1.Text.size:Int)>500))then some 2 else ((eH a_1.Text).bind λr_47=>bif (!r_47)then some true else bif (sEq a_1.Text (⟨#[]⟩:ByteArray))then some (!(a_1.Kind==3))else some false).bind λv_45=>bif v_45 then some 3 else some 0) (λr=>some r)
theorem uF (a_1:Alert):Le (mq a_1) (fK a_1):=by
 unfold mq fK
 repeat' (with_reducible first | exact Le.refl _ | exact rO _ | exact vU _ | exact eG _ | exact yK _ | refine Le.loop (λ_ => ?_) | refine Le.forL (λ_ _ _ => ?_) | refine Le.thenC (λ_ => ?_) (λ_ => ?_) | refine Le.cond ?_ ?_ | refine Le.bind ?_ (λ_ => ?_))
def jL (l_1:(List Alert)) (k_3:Nat) (x_5:Alert) (s_8:Unit):Option (Ctl (Unit) (Int)) :=
 (mq x_5).bind λr_14=>bif (r_14 != 0)then some (.ret r_14)else (bif (decide ((k_3:Int)>0))then (idx l_1 (w64 ((k_3:Int)-1))).bind λy_20=>(gN y_20 x_5).bind λr_22=>some (decide (r_22>=0))else some false).bind λv_17=>bif v_17 then some (.ret 7)else some (.go ())
theorem qJ (l_1:(List Alert)) (k_3:Nat) (x_5:Alert) (s_8:Unit):Le (jL l_1 k_3 x_5 s_8) (dh l_1 k_3 x_5 s_8):=by
 unfold jL dh
 repeat' (with_reducible first | exact Le.refl _ | exact uF _ | refine Le.loop (λ_ => ?_) | refine Le.forL (λ_ _ _ => ?_) | refine Le.thenC (λ_ => ?_) (λ_ => ?_) | refine Le.cond ?_ ?_ | refine Le.bind ?_ (λ_ => ?_))
def lm (l_1:(List Alert)):Option (Int) :=
 bif (decide ((l_1.length:Int)>300))then some 2 else (forL l_1 () (λk x s=>jL l_1 k x s)).bind λo_11=>thenC o_11 (λs_8=>(forL l_1 ([]:List (ByteArray×Bool)) (λk x s=>bN k x s)).bind λo_34=>thenC o_34 (λs_31=>some 0) (λr=>some r)) (λr=>some r)
theorem tV (l_1:(List Alert)):Le (lm l_1) (bB l_1):=by
 unfold lm bB
 repeat' (with_reducible first | exact Le.refl _ | exact qJ _ _ _ _ | refine Le.loop (λ_ => ?_) | refine Le.forL (λ_ _ _ => ?_) | refine Le.thenC (λ_ => ?_) (λ_ => ?_) | refine Le.cond ?_ ?_ | refine Le.bind ?_ (λ_ => ?_))
def kH (l_1:(List Post)) (k_3:Nat) (x_5:Post) (s_8:Unit):Option (Ctl (Unit) (Int)) :=
 (mM x_5.Player).bind λr_14=>bif (!r_14)then some (.ret 5)else ((bZ x_5.X (-100000) 100000).bind λr_19=>bif r_19 then some true else (bZ x_5.Y (-100000) 100000).bind λr_22=>some r_22).bind λv_17=>bif v_17 then some (.ret 1)else (bif (decide ((k_3:Int)>0))then (idx l_1 (w64 ((k_3:Int)-1))).bind λy_28=>some (sLe x_5.Player y_28.Player)else some false).bind λv_25=>bif v_25 then some (.ret 7)else some (.go ())
theorem rA (l_1:(List Post)) (k_3:Nat) (x_5:Post) (s_8:Unit):Le (kH l_1 k_3 x_5 s_8) (gK l_1 k_3 x_5 s_8):=by
 unfold kH gK
 repeat' (with_reducible first | exact Le.refl _ | exact rO _ | refine Le.loop (λ_ => ?_) | refine Le.forL (λ_ _ _ => ?_) | refine Le.thenC (λ_ => ?_) (λ_ => ?_) | refine Le.cond ?_ ?_ | refine Le.bind ?_ (λ_ => ?_))
def lX (l_1:(List Post)):Option (Int) :=
 bif (decide ((l_1.length:Int)>500))then some 2 else (forL l_1 () (λk x s=>kH l_1 k x s)).bind λo_11=>thenC o_11 (λs_8=>some 0) (λr=>some r)
theorem uL (l_1:(List Post)):Le (lX l_1) (iZ l_1):=by
 unfold lX iZ
 repeat' (with_reducible first | exact Le.refl _ | exact rA _ _ _ _ | refine Le.loop (λ_ => ?_) | refine Le.forL (λ_ _ _ => ?_) | refine Le.thenC (λ_ => ?_) (λ_ => ?_) | refine Le.cond ?_ ?_ | refine Le.bind ?_ (λ_ => ?_))
def mU (l_1:(List Alert)) (posts_2:(List Post)):Option (Int) :=
 (lm l_1).bind λr_3=>bif (r_3 != 0)then some r_3 else (lX posts_2).bind λr_6=>some r_6
theorem vk (l_1:(List Alert)) (posts_2:(List Post)):Le (mU l_1 posts_2) (jw l_1 posts_2):=by
 unfold mU jw
 repeat' (with_reducible first | exact Le.refl _ | exact tV _ | exact uL _ | refine Le.loop (λ_ => ?_) | refine Le.forL (λ_ _ _ => ?_) | refine Le.thenC (λ_ => ?_) (λ_ => ?_) | refine Le.cond ?_ ?_ | refine Le.bind ?_ (λ_ => ?_))
def oU (a_1:Alert) (p_2:Post):Option (Bool×Int) :=
 (mU ([a_1]:List Alert) ([p_2]:List Post)).bind λr_5=>bif (r_5 != 0)then some (false,r_5)else (nu a_1 p_2).bind λr_8=>some (r_8,0)
theorem wY (a_1:Alert) (p_2:Post):Le (oU a_1 p_2) (lh a_1 p_2):=by
 unfold oU lh
 repeat' (with_reducible first | exact Le.refl _ | exact vk _ _ | refine Le.loop (λ_ => ?_) | refine Le.forL (λ_ _ _ => ?_) | refine Le.thenC (λ_ => ?_) (λ_ => ?_) | refine Le.cond ?_ ?_ | refine Le.bind ?_ (λ_ => ?_))
def sU  : Option (Bool) :=
 (oU (⟨(⟨#[97]⟩:ByteArray),(⟨#[115]⟩:ByteArray),1,([]:List ByteArray),0,5,1,([(⟨0,0,2,2⟩:Rect)]:List Rect),(⟨#[120]⟩:ByteArray)⟩:Alert) (⟨(⟨#[112]⟩:ByteArray),1,1⟩:Post)).bind λr_2=>(bif (r_2.2==0)then some r_2.1 else some false).bind λv_4=>some v_4
theorem AU  : Le (sU) (mR):=by
 unfold sU mR
 repeat' (with_reducible first | exact Le.refl _ | exact wY _ _ | refine Le.loop (λ_ => ?_) | refine Le.forL (λ_ _ _ => ?_) | refine Le.thenC (λ_ => ?_) (λ_ => ?_) | refine Le.cond ?_ ?_ | refine Le.bind ?_ (λ_ => ?_))
end Go.Proofs.YtekmkepojbhafaeGreatDoor.Law

open Go Go.Eng
namespace Go.Proofs.YtekmkepojbhafaeGreatDoor.Law
set_option linter.unusedVariables false
set_option maxRecDepth 100000
theorem Lg:sU=some true:=by kernel_rfl
theorem xM:mR=some true:=AU _ Lg
end Go.Proofs.YtekmkepojbhafaeGreatDoor.Law

open Go Go.Eng
namespace Go.Proofs.YtekmkepojbhafaeGreatDoor.Law
set_option linter.unusedVariables false
set_option linter.unusedSimpArgs false
set_option maxRecDepth 100000
theorem lerrs2 (a b:Int):sN [a,b]=some (or0 a b):=by
 unfold sN or0
 rw [iX (by simp)]
 simp only [forR,pW]
 cases ha:a==0 with
 | false =>
  have:(a != 0)=true:=by simp [bne,ha]
  simp only [this,cond_true,cond_false,ob_,thenC]
 | true =>
  have:(a != 0)=false:=by simp [bne,ha]
  simp only [this,cond_true,cond_false,ob_]
  cases hb:b==0 with
  | false =>
   have:(b != 0)=true:=by simp [bne,hb]
   simp only [this,cond_true,ob_,thenC]
  | true =>
   have:(b != 0)=false:=by simp [bne,hb]
   simp only [this,cond_false,ob_,thenC]
   rw [eq_of_beq hb]
def moV (t:Int):Int:=bif qb t then 0 else 1
theorem lmom (t:Int):jA t=some (moV t):=by
 have hm:jV t=some (qb t):=by unfold jV qb;rw [BC];rfl
 unfold jA moV oL
 rw [hm]
 cases qb t <;> rfl
theorem kmom (t:Int):gm t=some (moV t):=Hf t
theorem moV_0 {t:Int} (h:moV t=0):qb t=true:=by
 unfold moV at h
 cases hm:qb t with
 | true=>rfl
 | false=>rw [hm]at h;cases h
theorem BG (l:List ByteArray) (hl:l.length<=1000000):bG l l=some true:=by
 have key:∀(xs:List ByteArray) (k:Nat),l.drop k=xs->forR (λk x s=>bR l k x s) xs k ()=some (.go ()):=by
  intro xs
  induction xs with
  | nil=>exact λ_ _=>rfl
  | cons x xs ih =>
   intro k h
   have hg:idx l (k:Int)=some x:=by rw [yV];exact sW h
   rw [forR]
   have:bR l k x ()=some (.go ()):=by
    unfold bR
    rw [hg];simp [sNe,sEq]
   rw [this,ob_]
   exact ih (k+1) (aS h)
 unfold bG
 have:((l.length:Int) != (l.length:Int))=false:=by simp
 rw [this,cond_false,iX (by omega),key l 0 rfl];rfl
end Go.Proofs.YtekmkepojbhafaeGreatDoor.Law

open Go Go.Eng Go.Flow
namespace Go.Proofs.YtekmkepojbhafaeGreatDoor.Law
set_option linter.unusedVariables false
set_option linter.unusedSimpArgs false
set_option linter.unusedSectionVars false
def Ed (l:List Alert) (k i:Nat):Prop:=∃a z,l[k]? = some a/\l[i]? = some z/\z.Id∈a.Refs/\z.Sender=a.Sender/\befA z a
def Aj (l:List Alert) (i j:Nat):Prop:=Ed l i j\/Ed l j i
inductive Rc (l:List Alert) (f:Nat):Nat->Prop
 | base:Rc l f f
 | step {i j:Nat} (h:Rc l f i) (e:Aj l i j):Rc l f j
def idOf (l:List Alert) (i:Nat):ByteArray:=match l[i]? with | some a=>a.Id | none=>⟨#[]⟩
theorem ou {l:List Alert} {i:Nat} {a:Alert} (h:l[i]? = some a):idOf l i=a.Id:=by unfold idOf;rw [h]
theorem Ed.lt {l:List Alert} {k i:Nat} (h:Ed l k i):k<l.length/\i<l.length:=by
 obtain ⟨a,z,h1,h2,_⟩:=h
 exact⟨(List.getElem?_eq_some_iff.1 h1).1,(List.getElem?_eq_some_iff.1 h2).1⟩
theorem Aj.lt {l:List Alert} {i j:Nat} (h:Aj l i j):i<l.length/\j<l.length:=by
 rcases h with h|h
 ·exact h.lt
 ·exact⟨h.lt.2,h.lt.1⟩
theorem Aj.symm {l:List Alert} {i j:Nat} (h:Aj l i j):Aj l j i:=by
 rcases h with h|h
 ·exact .inr h
 ·exact .inl h
theorem Rc.lt {l:List Alert} {f i:Nat} (hf:f<l.length) (h:Rc l f i):i<l.length:=by
 cases h with
 | base=>exact hf
 | step h e=>exact e.lt.2
theorem Ey {l:List Alert} (hid:(l.map (·.Id)).Nodup) {i j:Nat} (hi:i<l.length) (hj:j<l.length) (e:idOf l i=idOf l j):i=j:=by
 rw [ou (List.getElem?_eq_getElem hi),ou (List.getElem?_eq_getElem hj)]at e
 exact wM hid (List.getElem?_eq_getElem hi) (List.getElem?_eq_getElem hj) e
def Dn (l:List Alert) (k j x i:Nat):Prop:=(x<k/\Ed l x i)\/(x=k/\∃a z,l[k]? = some a/\l[i]? = some z/\z.Id∈a.Refs.take j/\z.Sender=a.Sender/\befA z a)
section
variable {l:List Alert} {k j:Nat} {a:Alert} {r:ByteArray}
theorem wm (hk:l[k]? = some a) (hr:a.Refs[j]? = some r) (x i:Nat):Dn l k (j+1) x i↔Dn l k j x i\/(x=k/\∃z,l[i]? = some z/\kN a z r=true):=by
 unfold Dn
 constructor
 ·rintro (h|⟨h1,a',z,h2,h3,h4,h5,h6⟩)
  ·exact .inl (.inl h)
  ·rw [hk]at h2
   simp only [so_]at h2
   subst h2
   rw [List.take_add_one,hr]at h4
   rcases List.mem_append.1 h4 with h4|h4
   ·exact .inl (.inr ⟨h1,a,z,hk,h3,h4,h5,h6⟩)
   ·exact .inr ⟨h1,z,h3,jZ.2 ⟨by simpa using h4,h5,h6⟩⟩
 ·rintro ((h|⟨h1,a',z,h2,h3,h4,h5,h6⟩) | ⟨h1,z,h3,h4⟩)
  ·exact .inl h
  ·refine .inr ⟨h1,a',z,h2,h3,?_,h5,h6⟩
   rw [List.take_add_one]
   exact List.mem_append_left _ h4
  ·obtain ⟨g1,g2,g3⟩:=jZ.1 h4
   refine .inr ⟨h1,a,z,hk,h3,?_,g2,g3⟩
   rw [List.take_add_one,hr,g1]
   exact List.mem_append_right _ (by simp)
theorem yZ (hk:l[k]? = some a) (x i:Nat):Dn l (k+1) 0 x i↔Dn l k a.Refs.length x i:=by
 unfold Dn
 constructor
 ·rintro (⟨h1,h2⟩|⟨_,a',z,_,_,h4,_⟩)
  ·by_cases hx:x=k
   ·subst hx
    obtain ⟨a',z,g1,g2,g3,g4⟩:=h2
    refine .inr ⟨rfl,a',z,g1,g2,?_,g4⟩
    rw [hk]at g1
    simp only [so_]at g1
    subst g1
    rw [List.take_length];exact g3
   ·exact .inl ⟨by omega,h2⟩
  ·simp at h4
 ·rintro (⟨h1,h2⟩|⟨h1,a',z,h2,h3,h4,h5⟩)
  ·exact .inl ⟨by omega,h2⟩
  ·exact .inl ⟨by omega,a',z,by rw [h1];exact h2,h3,List.mem_of_mem_take h4,h5⟩
theorem y8 (x i:Nat):Dn l l.length 0 x i↔Ed l x i:=by
 unfold Dn
 constructor
 ·rintro (⟨_,h⟩|⟨_,a',z,_,_,h4,_⟩)
  ·exact h
  ·simp at h4
 ·exact λh => .inl ⟨h.lt.1,h⟩
theorem Dn_0 (x i:Nat):¬Dn l 0 0 x i:=by
 rintro (⟨h,_⟩|⟨_,a',z,_,_,h4,_⟩)
 ·omega
 ·simp at h4
structure Nr (l:List Alert) (k j:Nat) (rows:List (List Int)):Prop where
 len:rows.length=l.length
 sz:∀(i:Nat) (r:List Int),rows[i]? = some r->r.length<=4000*k+2*j
 in_:∀(i:Nat) (r:List Int),rows[i]? = some r->∀y∈r,∃x:Nat,y=(x:Int)/\(Dn l k j x i\/Dn l k j i x)
 has:∀(i x:Nat) (r:List Int),rows[i]? = some r->(Dn l k j x i\/Dn l k j i x)->(x:Int)∈r
theorem I7 (hca:CA l) (hk:l[k]? = some a) (hr:a.Refs[j]? = some r) {rows:List (List Int)} (h:Nr l k j rows):∃rows',iG l a l.length k j r rows=some (.go rows')/\Nr l k (j+1) rows':=by
 have hlen:=hca.len
 have hkl:k<l.length:=(List.getElem?_eq_some_iff.1 hk).1
 have hjl:j<a.Refs.length:=(List.getElem?_eq_some_iff.1 hr).1
 have hrefs:=hca.refs a (List.mem_of_getElem? hk)
 unfold iG
 rcases CO (Nat.le_trans hlen (by decide)) a r with⟨h1,h2⟩|⟨i,z,h1,h2,h3⟩
 ·rw [h1,ob_,decide_eq_false (by decide),cond_false]
  have hno:∀z,z∈l->kN a z r=true->False:=λz hz hb=>by
   have:l.any (λo=>kN a o r)=true:=List.any_eq_true.2 ⟨z,hz,hb⟩
   rw [h2]at this;cases this
  have hsame:∀x i,Dn l k (j+1) x i↔Dn l k j x i:=λx i=>by
   rw [wm hk hr]
   constructor
   ·rintro (h|⟨_,z,g1,g2⟩)
    ·exact h
    ·exact (hno z (List.mem_of_getElem? g1) g2).elim
   ·exact .inl
  refine⟨rows,rfl,h.len,λi r hi=>by have:=h.sz i r hi;omega,λi r hi y hy => ?_,λi x r hi hx => ?_⟩
  ·obtain ⟨x,e,hx⟩:=h.in_ i r hi y hy
   exact⟨x,e,by rw [hsame,hsame];exact hx⟩
  ·rw [hsame,hsame]at hx
   exact h.has i x r hi hx
 ·have hil:i<l.length:=(List.getElem?_eq_some_iff.1 h2).1
  obtain ⟨g1,g2,g3⟩:=jZ.1 h3
  have hik:i≠k:=λe=>by
   subst e
   rw [hk]at h2
   simp only [so_]at h2
   subst h2
   exact ER _ g3
  have hnew:∀x y,Dn l k (j+1) x y↔Dn l k j x y\/(x=k/\y=i):=λx y=>by
   rw [wm hk hr]
   constructor
   ·rintro (h|⟨e,z',q1,q2⟩)
    ·exact .inl h
    ·refine .inr ⟨e,wM hca.ids q1 h2 ?_⟩
     rw [(jZ.1 q2).1,g1]
   ·rintro (h|⟨e,e'⟩)
    ·exact .inl h
    ·exact .inr ⟨e,z,by rw [e'];exact h2,h3⟩
  have hri:rows[i]? = some (rows[i]'(by rw [h.len];exact hil)):=List.getElem?_eq_getElem _
  have hrk:rows[k]? = some (rows[k]'(by rw [h.len];exact hkl)):=List.getElem?_eq_getElem _
  generalize rows[i]'(by rw [h.len];exact hil)=ri at hri
  generalize rows[k]'(by rw [h.len];exact hkl)=rk at hrk
  have si:=h.sz i ri hri
  have sk:=h.sz k rk hrk
  have a1:lc ri [(k:Int)]=some (ri++[(k:Int)]):=jM _ _ (by simp;omega)
  have a2:lc rk [(i:Int)]=some (rk++[(i:Int)]):=jM _ _ (by simp;omega)
  have hne:neN i k=some ():=by unfold neN;rw [if_neg hik]
  have hset:(rows.set i (ri++[(k:Int)]))[k]? = some rk:=by rw [List.getElem?_set_ne hik];exact hrk
  rw [h1,ob_,decide_eq_true (by omega),cond_true]
  simp only [Di hil,Di hkl,toN,hri,hrk,a1,a2,hne,hset,ob_]
  have hget:∀m,((rows.set i (ri++[(k:Int)])).set k (rk++[(i:Int)]))[m]? = if m=k then some (rk++[(i:Int)])else if m=i then some (ri++[(k:Int)])else rows[m]? := λm=>by
   rw [List.getElem?_set,List.getElem?_set,List.length_set]
   by_cases e1:k=m
   ·subst e1;rw [if_pos rfl,if_pos rfl,if_pos (by rw [h.len];exact hkl)]
   ·rw [if_neg e1,if_neg (show ¬m=k from λe=>e1 e.symm)]
    by_cases e2:i=m
    ·subst e2;rw [if_pos (show i=i from rfl),if_pos (show i<rows.length by rw [h.len];exact hil),if_pos (show i=i from rfl)]
    ·rw [if_neg e2,if_neg (show ¬m=i from λe=>e2 e.symm)]
  refine⟨_,rfl,by rw [List.length_set,List.length_set];exact h.len,λm r hm => ?_,λm r hm y hy => ?_,λm x r hm hx => ?_⟩
  ·rw [hget]at hm
   split at hm
   ·simp only [so_]at hm;subst hm;simp;omega
   ·split at hm
    ·simp only [so_]at hm;subst hm;simp;omega
    ·have:=h.sz m r hm;omega
  ·rw [hget]at hm
   split at hm
   ·rename_i e;subst e
    simp only [so_]at hm;subst hm
    rcases List.mem_append.1 hy with hy|hy
    ·obtain ⟨x,e,hx⟩:=h.in_ _ _ hrk y hy
     exact⟨x,e,by rw [hnew,hnew];exact hx.imp .inl .inl⟩
    ·exact⟨i,List.mem_singleton.1 hy,.inr ((hnew _ _).2 (.inr ⟨rfl,rfl⟩))⟩
   ·split at hm
    ·rename_i e;subst e
     simp only [so_]at hm;subst hm
     rcases List.mem_append.1 hy with hy|hy
     ·obtain ⟨x,e,hx⟩:=h.in_ _ _ hri y hy
      exact⟨x,e,by rw [hnew,hnew];exact hx.imp .inl .inl⟩
     ·exact⟨k,List.mem_singleton.1 hy,.inl ((hnew _ _).2 (.inr ⟨rfl,rfl⟩))⟩
    ·obtain ⟨x,e,hx⟩:=h.in_ m r hm y hy
     exact⟨x,e,by rw [hnew,hnew];exact hx.imp .inl .inl⟩
  ·rw [hnew,hnew]at hx
   rw [hget]at hm
   split at hm
   ·rename_i e;subst e
    simp only [so_]at hm;subst hm
    rcases hx with (hx|⟨e1,e2⟩) | (hx|⟨e1,e2⟩)
    ·exact List.mem_append_left _ (h.has _ x _ hrk (.inl hx))
    ·exact absurd e2.symm hik
    ·exact List.mem_append_left _ (h.has _ x _ hrk (.inr hx))
    ·rw [e2];exact List.mem_append_right _ (by simp)
   ·rename_i hmk
    split at hm
    ·rename_i e;subst e
     simp only [so_]at hm;subst hm
     rcases hx with (hx|⟨e1,e2⟩) | (hx|⟨e1,e2⟩)
     ·exact List.mem_append_left _ (h.has _ x _ hri (.inl hx))
     ·rw [e1];exact List.mem_append_right _ (by simp)
     ·exact List.mem_append_left _ (h.has _ x _ hri (.inr hx))
     ·exact absurd e1 hmk
    ·rename_i hmi
     rcases hx with (hx|⟨e1,e2⟩) | (hx|⟨e1,e2⟩)
     ·exact h.has m x r hm (.inl hx)
     ·exact absurd e2 hmi
     ·exact h.has m x r hm (.inr hx)
     ·exact absurd e1 hmk
theorem near_ok (hca:CA l):∃rows,forL l (List.replicate l.length ([]:List Int)) (λk x s=>iA l l.length k x s)=some (.go rows)/\Nr l l.length 0 rows:=by
 have hlen:=hca.len
 refine uh (body:=λk x s=>iA l l.length k x s) (λk s=>Nr l k 0 s) (by omega) (λk a rows hk hN => ?_) ⟨by simp,λi r hi => ?_,λi r hi y hy => ?_,λi x r hi hx => ?_⟩
 ·have hrefs:=hca.refs a (List.mem_of_getElem? hk)
  obtain ⟨rows',r1,r2⟩:=uh (body:=λj x s=>iG l a l.length k j x s) (λj s=>Nr l k j s) (xs:=a.Refs) (s:=rows) (by omega) (λj r s hr hs=>I7 hca hk hr hs) hN
  unfold iA
  rw [r1,ob_,kU]
  refine⟨rows',rfl,r2.len,λi r hi=>by have:=r2.sz i r hi;omega,λi r hi y hy => ?_,λi x r hi hx => ?_⟩
  ·obtain ⟨x,e,hx⟩:=r2.in_ i r hi y hy
   exact⟨x,e,by rw [yZ hk,yZ hk];exact hx⟩
  ·rw [yZ hk,yZ hk]at hx
   exact r2.has i x r hi hx
 ·rw [List.getElem?_replicate]at hi
  split at hi
  ·simp only [so_]at hi;subst hi;simp
  ·cases hi
 ·rw [List.getElem?_replicate]at hi
  split at hi
  ·simp only [so_]at hi;subst hi;cases hy
  ·cases hi
 ·rcases hx with hx|hx
  ·exact absurd hx (Dn_0 _ _)
  ·exact absurd hx (Dn_0 _ _)
theorem Nr.near {rows:List (List Int)} (h:Nr l l.length 0 rows) {i:Nat} {r:List Int} (hi:rows[i]? = some r):(∀y∈r,∃x:Nat,y=(x:Int)/\Aj l i x)/\(∀x,Aj l i x->(x:Int)∈r):=by
 refine⟨λy hy => ?_,λx hx => ?_⟩
 ·obtain ⟨x,e,hx⟩:=h.in_ i r hi y hy
  rw [y8,y8]at hx
  exact⟨x,e,hx.symm⟩
 ·refine h.has i x r hi ?_
  rw [y8,y8]
  exact hx.symm
end
end Go.Proofs.YtekmkepojbhafaeGreatDoor.Law

open Go Go.Eng Go.Flow
namespace Go.Proofs.YtekmkepojbhafaeGreatDoor.Law
set_option linter.unusedVariables false
set_option linter.unusedSimpArgs false
set_option linter.unusedSectionVars false
theorem Cu (a b:Int):eqI a b=true↔a=b:=beq_iff_eq
def seenB (m:List (Int×Bool)) (i:Nat):Bool:=(qA eqI m (i:Int)).getD false
theorem uj (m:List (Int×Bool)) (x i:Nat):seenB (kQ eqI m (x:Int) true) i=if i=x then true else seenB m i:=by
 unfold seenB
 rw [xP Cu]
 by_cases h:i=x
 ·subst h;rw [if_pos ((Cu _ _).2 rfl),if_pos rfl];rfl
 ·rw [if_neg (λe=>h (by have:=(Cu _ _).1 e;omega)),if_neg h]
section
variable {l:List Alert} {f:Nat} {rows:List (List Int)}
structure Bs (l:List Alert) (f:Nat) (done wait:List Nat) (seen:List (Int×Bool)):Prop where
 nd:(done++wait).Nodup
 seen_:∀i,seenB seen i=true↔i∈done++wait
 rc:∀i∈done++wait,Rc l f i
 root:f∈done++wait
 clo:∀i∈done,∀x,Aj l i x->x∈done++wait
theorem Bs.add {done wait:List Nat} {seen:List (Int×Bool)} (h:Bs l f done wait seen) {x:Nat} (hx:¬seenB seen x=true) (hr:Rc l f x):Bs l f done (wait++[x]) (kQ eqI seen (x:Int) true):=by
 have hnx:x∉done++wait:=λhm=>hx ((h.seen_ x).2 hm)
 have hm:∀i,i∈done++(wait++[x])↔i∈done++wait\/i=x:=λi=>by
  simp only [List.mem_append,List.mem_singleton]
  exact⟨λq=>q.elim (λq => .inl (.inl q)) (λq=>q.elim (λq => .inl (.inr q)) .inr),λq=>q.elim (λq=>q.elim .inl (λq => .inr (.inl q))) (λq => .inr (.inr q))⟩
 refine⟨?_,λi => ?_,λi hi => ?_,(hm f).2 (.inl h.root),λi hi y hy=>(hm y).2 (.inl (h.clo i hi y hy))⟩
 ·rw [<- List.append_assoc]
  exact List.nodup_append.2 ⟨h.nd,by simp,λa ha b hb e=>by
   rw [List.mem_singleton]at hb
   subst hb;subst e;exact hnx ha⟩
 ·rw [uj,hm]
  by_cases e:i=x
  ·rw [if_pos e];simp [e]
  ·rw [if_neg e,h.seen_];simp [e]
 ·rcases (hm i).1 hi with q|q
  ·exact h.rc i q
  ·rw [q];exact hr
theorem Bs.len {done wait:List Nat} {seen:List (Int×Bool)} (h:Bs l f done wait seen) (hf:f<l.length):done.length+wait.length<=l.length:=by
 have h1:(done++wait).length<=(List.range l.length).length:=List.Nodup.length_le_of_subset h.nd (λi hi=>List.mem_range.2 ((h.rc i hi).lt hf))
 rw [List.length_append,List.length_range]at h1
 exact h1
structure Bi (l:List Alert) (f e:Nat) (done:List Nat) (r:List Int) (j:Nat) (t:List (Int×Bool)×List Int×Nat):Prop where
 le:t.2.2<=t.2.1.length
 ex:∃wait:List Nat,t.2.1.drop t.2.2=(e::wait).map (λi:Nat=>(i:Int))/\Bs l f done (e::wait) t.1
 dn:∀b,b<j->∀x:Nat,r[b]? = some (x:Int)->seenB t.1 x=true
theorem bfs_in (hca:CA l) (hf:f<l.length) (hN:Nr l l.length 0 rows) {e:Nat} {done:List Nat} {r:List Int} (hr:rows[e]? = some r) (he:Rc l f e) {j:Nat} (hj:j<r.length) {t:List (Int×Bool)×List Int×Nat} (h:Bi l f e done r j t) :
  ∃t',iE r rows (e:Int) j j t=some (.go t')/\Bi l f e done r (j+1) t':=by
 obtain ⟨seen,q,o⟩:=t
 obtain ⟨hle,⟨wait,h1,h2⟩,h3⟩:=h
 simp only at hle h1 h2 h3
 have hlen:=hca.len
 have hg:r[j]? = some r[j]:=List.getElem?_eq_getElem hj
 obtain ⟨x,e1,e2⟩:=(hN.near hr).1 r[j] (List.getElem_mem hj)
 rw [e1]at hg
 have hd:∀m:List (Int×Bool),(∀y,seenB seen y=true->seenB m y=true)->seenB m x=true->∀b,b<j+1->∀y:Nat,r[b]? = some (y:Int)->seenB m y=true:=λm hm hx b hb y hy=>by
  by_cases hbj:b=j
  ·subst hbj
   rw [hg]at hy
   simp only [so_]at hy
   have:x=y:=by omega
   rw [<- this];exact hx
  ·exact hm y (h3 b (by omega) y hy)
 unfold iE
 simp only [Go.Flow.inR_at hj,toN,hr,hg,ob_]
 have hsb:((qA eqI seen (x:Int)).getD false)=seenB seen x:=rfl
 rw [hsb]
 cases hs:seenB seen x with
 | true =>
  simp only [Bool.not_true,cond_false,ob_]
  exact⟨(seen,q,o),rfl,hle,⟨wait,h1,h2⟩,hd seen (λy hy=>hy) hs⟩
 | false =>
  have hns:¬seenB seen x=true:=by rw [hs];exact Bool.false_ne_true
  have hadd:=h2.add hns (he.step e2)
  have hl:=h2.len hf
  have hdl:(q.drop o).length=wait.length+1:=by rw [h1];simp
  have hap:lc (q.drop o) [(x:Int)]=some (q.drop o++[(x:Int)]):=jM _ _ (by simp only [List.length_cons]at hl;rw [hdl];simp;omega)
  simp only [Bool.not_false,cond_true,leN_at hle,hap,ob_]
  refine⟨(kQ eqI seen (x:Int) true,q.drop o++[(x:Int)],0),rfl,Nat.zero_le _,⟨wait++[x],?_,hadd⟩,hd _ (λy hy => ?_) ?_⟩
  ·show List.drop 0 (q.drop o++[(x:Int)])=_
   rw [h1];simp
  ·rw [uj];split
   ·rfl
   ·exact hy
  ·rw [uj,if_pos rfl]
structure Bo (l:List Alert) (f:Nat) (s:List (Int×Bool)×List Int×List ByteArray×Nat):Prop where
 le:s.2.2.2<=s.2.1.length
 ex:∃done wait:List Nat,s.2.1.drop s.2.2.2=wait.map (λi:Nat=>(i:Int))/\s.2.2.1=done.map (idOf l)/\Bs l f done wait s.1
theorem bfs_ok (hca:CA l) (hf:f<l.length) (hN:Nr l l.length 0 rows):∃s',iT ((kQ eqI ([]:List (Int×Bool)) (f:Int) true),([(f:Int)]:List Int),([]:List ByteArray),0) (λs=>iy l l.length rows s)=some (.go s')/\∃done:List Nat,s'.2.2.1=done.map (idOf l)/\done.Nodup/\∀i,i∈done↔Rc l f i:=by
 have hlen:=hca.len
 refine Bu (Bo l f) (λs=>l.length-s.2.2.1.length) (λs=>∃done:List Nat,s.2.2.1=done.map (idOf l)/\done.Nodup/\∀i,i∈done↔Rc l f i) (λs hs => ?_) ⟨Nat.zero_le _,[],[f],rfl,rfl,by simp,λi => ?_,λi hi => ?_,by simp,λi hi=>by cases hi⟩
 ·obtain ⟨seen,q,out,o⟩:=s
  obtain ⟨hle,done,wait,h1,h2,h3⟩:=hs
  simp only at hle h1 h2 h3
  unfold iy
  simp only
  have hl:=h3.len hf
  cases wait with
  | nil =>
   right
   have hlk:q.length-o=0:=by
    have:=congrArg List.length h1
    simpa using this
   rw [hlk]
   simp only [show decide ((((0:Nat):Nat):Int)>0)=false from rfl,cond_false]
   refine⟨_,rfl,done,h2,by have:=h3.nd;rwa [List.append_nil]at this,λi=>⟨λhi=>h3.rc i (List.mem_append_left _ hi),λhi => ?_⟩⟩
   induction hi with
   | base=>have:=h3.root;rwa [List.append_nil]at this
   | step hi e ih=>have:=h3.clo _ ih _ e;rwa [List.append_nil]at this
  | cons e wait =>
   left
   have h1:q.drop o=(e:Int)::wait.map (λi:Nat=>(i:Int)):=h1
   have hkl:=rz h1
   have hk:q[o]? = some (e:Int):=sW h1
   have hd1:decide (((q.length-o:Nat):Int)>0)=true:=decide_eq_true (by omega)
   have hin:inN 0 (q.length-o)=some ():=by
    have:=Di (i:=0) (n:=q.length-o) (by omega)
    simpa using this
   have hkt:(o+(0:Int).toNat)=o:=by simp
   have hrc:=h3.rc e (by simp)
   have hel:=hrc.lt hf
   have hla:l[e]? = some l[e]:=List.getElem?_eq_getElem hel
   have hdl:done.length+(wait.length+1)<=l.length:=by simpa using hl
   have hap:lc out [(l[e]).Id]=some (out++[(l[e]).Id]):=jM _ _ (by rw [h2];simp;omega)
   have hre:rows[e]? = some (rows[e]'(by rw [hN.len];exact hel)):=List.getElem?_eq_getElem _
   generalize rows[e]'(by rw [hN.len];exact hel)=re at hre
   have hrs:=hN.sz e re hre
   rw [hd1]
   simp only [cond_true,hin,hkt,hk,yV,hla,hap,Di hel,toN,hre,ob_]
   have hrn:((re.length:Int)).toNat=re.length:=by simp
   rw [hrn]
   obtain ⟨t',r1,r2⟩:=JB (body:=λk x s=>iE re rows (e:Int) k x s) (Bi l f e done re) (n:=re.length) (s:=(seen,q,o)) (by omega) (λj s hj hi=>bfs_in hca hf hN hre hrc hj hi) ⟨hle,⟨wait,h1,h3⟩,λb hb=>absurd hb (Nat.not_lt_zero b)⟩
   obtain ⟨seen',q',o'⟩:=t'
   obtain ⟨le',⟨wait',p1,p2⟩,p3⟩:=r2
   simp only at le' p1 p2 p3
   have p1:q'.drop o'=(e:Int)::wait'.map (λi:Nat=>(i:Int)):=p1
   have hlt:=rz p1
   have hl':=p2.len hf
   rw [r1,ob_,kU]
   simp only [ltN_at hlt,ob_]
   have hmm:∀i,i∈(done++[e])++wait'↔i∈done++e::wait':=λi=>by simp
   refine⟨_,rfl,⟨hlt,done++[e],wait',aS p1,?_,?_,λi => ?_,λi hi => ?_,?_,λi hi x hx => ?_⟩,?_⟩
   ·show out++[(l[e]).Id]=_
    rw [h2,List.map_append]
    show _=_++[idOf l e]
    rw [ou hla]
   ·have:=p2.nd
    rw [List.append_assoc];exact this
   ·rw [hmm];exact p2.seen_ i
   ·exact p2.rc i ((hmm i).1 hi)
   ·exact (hmm f).2 p2.root
   ·refine (hmm x).2 ?_
    rcases List.mem_append.1 hi with hi|hi
    ·exact p2.clo i hi x hx
    ·rw [List.mem_singleton]at hi
     subst hi
     obtain ⟨b,hb⟩:=List.getElem?_of_mem ((hN.near hre).2 x hx)
     exact (p2.seen_ x).1 (p3 b (List.getElem?_eq_some_iff.1 hb).1 x hb)
   ·show l.length-(out++[(l[e]).Id]).length<l.length-out.length
    rw [List.length_append,h2]
    simp only [List.length_map,List.length_singleton]
    omega
 ·rw [uj]
  have:seenB ([]:List (Int×Bool)) i=false:=rfl
  rw [this]
  by_cases e:i=f
  ·rw [if_pos e];simp [e]
  ·rw [if_neg e];simp [e]
 ·have:i=f:=by simpa using hi
  rw [this];exact .base
end
end Go.Proofs.YtekmkepojbhafaeGreatDoor.Law

open Go Go.Eng Go.Flow
namespace Go.Proofs.YtekmkepojbhafaeGreatDoor.Law
set_option linter.unusedVariables false
set_option linter.unusedSimpArgs false
set_option linter.unusedSectionVars false
def cS (a b:ByteArray):Option Int:=some (bif sLt a b then -1 else 0)
theorem less_eq (a b:ByteArray):cmp_Less_string a b=some (sLt a b):=by
 have hn:∀x,cmp_isNaN_string x=some false:=λx=>by unfold cmp_isNaN_string;rw [DJ];simp
 unfold cmp_Less_string
 simp only [hn,ob_,cond_false]
theorem insS_L1 (a:Int) (s:List ByteArray×Int):bz a s=Cf cS a s:=by
 have h:∀x y:ByteArray,(cmp_Less_string x y).bind (λr=>some r)=(cS x y).bind λr=>some (decide (r<0)):=λx y=>by
  rw [less_eq]
  unfold cS
  cases sLt x y <;> rfl
 unfold bz Cf
 simp only [h]
theorem pdqS_eq (x:List ByteArray) (b lim:Int):bX x 0 b lim=AP cS x 0 b lim:=by
 have h2:∀(d:List ByteArray) (a b:Int),bI d a b=zX cS d a b:=λd a b=>by
  have h1:∀s,bv b a s=zQ cS b a s:=λs=>by
   unfold bv zQ
   simp only [insS_L1]
  unfold bI zX
  simp only [h1]
 unfold bX AP
 have h3:∀s,bQ b 0 x lim s=DY cS b 0 x lim s:=λs=>by
  unfold bQ DY
  rw [h2]
 simp only [h3]
theorem JW {xs:List ByteArray} (hl:xs.length<=12):∃r,bu xs=some r/\r.Perm xs/\r.Pairwise (λa b=>¬lt b a):=by
 obtain ⟨k,hk⟩:=Js xs.length hl
 have hc:∀a b:ByteArray,True->True->∃c,cS a b=some c/\(c<0->¬lt b a)/\(¬c<0->¬lt a b):=λa b _ _=>by
  refine⟨bif sLt a b then -1 else 0,rfl,λh hb => ?_,λh hb => ?_⟩
  ·cases hs:sLt a b with
   | true=>exact xq _ (lt_trans ((wy _ _).1 hs) hb)
   | false=>rw [hs]at h;simp at h
  ·have:=(wy a b).2 hb
   rw [this]at h;simp at h
 have htr:∀a b d:ByteArray,¬lt b a->¬lt d b->¬lt d a:=λa b d h k q=>by
  rcases zz a b with g|g|g
  ·exact k (lt_trans q g)
  ·rw [g]at q;exact k q
  ·exact h g
 obtain ⟨s,h1,h2,h3⟩:=JN (cmp:=cS) (le:=λa b=>¬lt b a) (p:=λ_=>True) hc htr xs hl (λx hx=>trivial) k
 refine⟨s,?_,h2,h3⟩
 have hsm:kF s xs=some ():=by unfold kF;rw [if_pos h2.length_eq]
 unfold bu
 rw [hk,ob_,pdqS_eq,h1,ob_,hsm];rfl
theorem Je {a b:List ByteArray} (h:a.Perm b) (ha:a.Pairwise (λa b=>¬lt b a)) (hb:b.Pairwise (λa b=>¬lt b a)):a=b :=
 List.Perm.eq_of_pairwise (le:=λa b=>¬lt b a) (λx y _ _ h1 h2=>by
  rcases zz x y with g|g|g
  ·exact absurd g h2
  ·exact g
  ·exact absurd g h1) ha hb h
theorem KF {α:Type} {L:List α} {y:α} (h:y∈L):neL L=some ():=by
 cases L with
 | nil=>cases h
 | cons x L=>rfl
theorem Kw (l:List ByteArray) (v:ByteArray) (hl:l.length<=1000000):bJ l v=some (decide (v∈l)):=by
 have key:∀(n k:Nat),k+n=l.length->(∀x∈l.take k,x≠v)->(v∉l/\forR (λk x s=>bf l v k x s) (List.range' k n) k ()=some (.go ()))\/(v∈l/\∃j:Nat,forR (λk x s=>bf l v k x s) (List.range' k n) k ()=some (.ret (j:Int))):=by
  intro n
  induction n with
  | zero =>
   intro k hk h
   left
   refine⟨λhm=>h v ?_ rfl,rfl⟩
   rw [List.take_of_length_le (by omega)];exact hm
  | succ n ih =>
   intro k hk h
   have hkl:k<l.length:=by omega
   have hg:l[k]? = some l[k]:=List.getElem?_eq_getElem hkl
   rw [List.range'_succ,forR]
   have e:bf l v k k ()=bif sEq v l[k]then some (.ret (k:Int))else some (.go ()):=by
    unfold bf
    simp only [Go.Flow.inR_at hkl,toN,hg,ob_]
   rw [e]
   cases hs:sEq v l[k]with
   | true =>
    right
    exact⟨by rw [(uy _ _).1 hs];exact List.getElem_mem hkl,k,rfl⟩
   | false =>
    have hne:l[k]≠v:=λq=>by
     have:=(uy v l[k]).2 q.symm
     rw [hs]at this;cases this
    rcases ih (k+1) (by omega) (λx hx=>by
     rw [List.take_add_one,hg]at hx
     rcases List.mem_append.1 hx with hx|hx
     ·exact h x hx
     ·have:x=l[k]:=by simpa using hx
      rw [this];exact hne)with⟨h1,h2⟩ | ⟨h1,j,h2⟩
    ·left;exact⟨h1,h2⟩
    ·right;exact⟨h1,j,h2⟩
 unfold bJ d9
 have hn:((l.length:Int)).toNat=l.length:=by simp
 rw [hn,iX (by rw [List.length_range];omega),List.range_eq_range']
 rcases key l.length 0 (by omega) (λx hx=>by simp at hx)with⟨h1,h2⟩|⟨h1,j,h2⟩
 ·rw [h2,decide_eq_false h1];rfl
 ·rw [h2,decide_eq_true h1]
  simp only [ob_,thenC]
  rw [decide_eq_true (by omega)]
section
variable {l:List Alert} {f:Nat}
structure Th (l:List Alert) (f:Nat) (L:List ByteArray):Prop where
 nd:L.Nodup
 rc:∀y∈L,∃i,Rc l f i/\idOf l i=y
 root:idOf l f∈L
theorem Th.add {L:List ByteArray} (h:Th l f L) {i:Nat} (hr:Rc l f i) (hn:idOf l i∉L):Th l f (L++[idOf l i]):=by
 refine⟨List.nodup_append.2 ⟨h.nd,by simp,λa ha b hb e => ?_⟩,λy hy => ?_,List.mem_append_left _ h.root⟩
 ·rw [List.mem_singleton]at hb
  subst hb;subst e;exact hn ha
 ·rcases List.mem_append.1 hy with hy|hy
  ·exact h.rc y hy
  ·exact⟨i,hr,(List.mem_singleton.1 hy).symm⟩
theorem Th.len {L:List ByteArray} (h:Th l f L) (hf:f<l.length):L.length<=l.length:=by
 have h1:L.length<=(l.map (·.Id)).length:=List.Nodup.length_le_of_subset h.nd (λy hy=>by
  obtain ⟨i,h1,h2⟩:=h.rc y hy
  have hi:=h1.lt hf
  rw [<- h2,ou (List.getElem?_eq_getElem hi)]
  exact List.mem_map_of_mem (List.getElem_mem hi))
 rwa [List.length_map]at h1
structure Ps (l:List Alert) (f:Nat) (L0:List ByteArray) (k j:Nat) (L:List ByteArray):Prop where
 th:Th l f L
 le:L0.length<=L.length
 eq_:L.length=L0.length->L=L0/\∀x i,Dn l k j x i->(idOf l x∈L0↔idOf l i∈L0)
theorem KA (hca:CA l) (hg:GAs l) (hf:f<l.length) {L0:List ByteArray} {k j:Nat} {a:Alert} (hk:l[k]? = some a) {r:ByteArray} (hr:a.Refs[j]? = some r) {L:List ByteArray} (h:Ps l f L0 k j L) :
  ∃L',iC l a j r L=some (.go L')/\Ps l f L0 k (j+1) L':=by
 have hlen:=hca.len
 have hL:=h.th.len hf
 have hne:neL L=some ():=KF h.th.root
 unfold iC
 rw [zK hg (hg.1 a (List.mem_of_getElem? hk)) r,ob_]
 cases hany:l.any (λo=>kN a o r)with
 | false =>
  simp only [Bool.not_false,cond_true]
  refine⟨L,rfl,h.th,h.le,λe => ?_⟩
  obtain ⟨e1,e2⟩:=h.eq_ e
  refine⟨e1,λx i hx => ?_⟩
  rcases (wm hk hr x i).1 hx with hx|⟨_,z,g1,g2⟩
  ·exact e2 x i hx
  ·have:l.any (λo=>kN a o r)=true:=List.any_eq_true.2 ⟨z,List.mem_of_getElem? g1,g2⟩
   rw [hany]at this;cases this
 | true =>
  obtain ⟨z,hz,hb⟩:=List.any_eq_true.1 hany
  obtain ⟨i,hi⟩:=List.getElem?_of_mem hz
  obtain ⟨g1,g2,g3⟩:=jZ.1 hb
  have hil:i<l.length:=(List.getElem?_eq_some_iff.1 hi).1
  have hkl:k<l.length:=(List.getElem?_eq_some_iff.1 hk).1
  have hE:Ed l k i:=⟨a,z,hk,hi,by rw [g1];exact List.mem_of_getElem? hr,g2,g3⟩
  have ha:idOf l k=a.Id:=ou hk
  have hzi:idOf l i=r:=by rw [ou hi];exact g1
  have back:∀m,m<l.length->idOf l m∈L->Rc l f m:=λm hm hL=>by
   obtain ⟨m',q1,q2⟩:=h.th.rc _ hL
   rw [<- Ey hca.ids (q1.lt hf) hm q2];exact q1
  simp only [Bool.not_true,cond_false,hne,ob_,Kw L a.Id (by omega),Kw L r (by omega)]
  have grow:∀m,Rc l f m->idOf l m∉L->Ps l f L0 k (j+1) (L++[idOf l m]):=λm hm hn=>⟨h.th.add hm hn,by have:=h.le;rw [List.length_append];simp;omega,λe=>by
   have:=h.le
   rw [List.length_append]at e
   simp at e
   omega⟩
  by_cases h1:a.Id∈L
  ·by_cases h2:r∈L
   ·rw [decide_eq_true h1,decide_eq_true h2]
    simp only [cond_true,Bool.not_true,ob_,cond_false]
    refine⟨L,rfl,h.th,h.le,λe => ?_⟩
    obtain ⟨e1,e2⟩:=h.eq_ e
    refine⟨e1,λx y hx => ?_⟩
    rcases (wm hk hr x y).1 hx with hx|⟨e3,z',q1,q2⟩
    ·exact e2 x y hx
    ·have:idOf l y=r:=by rw [ou q1];exact (jZ.1 q2).1
     rw [e3,ha,this,<- e1]
     exact⟨λ_=>h2,λ_=>h1⟩
   ·rw [decide_eq_true h1,decide_eq_false h2]
    have hap:lc L [r]=some (L++[r]):=jM _ _ (by simp;omega)
    simp only [cond_true,Bool.not_false,ob_,hap]
    refine⟨L++[r],rfl,?_⟩
    have:=grow i ((back k hkl (by rw [ha];exact h1)).step (.inl hE)) (by rw [hzi];exact h2)
    rwa [hzi]at this
  ·by_cases h2:r∈L
   ·rw [decide_eq_false h1,decide_eq_true h2]
    have hap:lc L [a.Id]=some (L++[a.Id]):=jM _ _ (by simp;omega)
    simp only [cond_false,cond_true,Bool.not_false,Bool.not_true,ob_,hap]
    refine⟨L++[a.Id],rfl,?_⟩
    have:=grow k ((back i hil (by rw [hzi];exact h2)).step (.inr hE)) (by rw [ha];exact h1)
    rwa [ha]at this
   ·rw [decide_eq_false h1,decide_eq_false h2]
    simp only [cond_false,Bool.not_false,ob_]
    refine⟨L,rfl,h.th,h.le,λe => ?_⟩
    obtain ⟨e1,e2⟩:=h.eq_ e
    refine⟨e1,λx y hx => ?_⟩
    rcases (wm hk hr x y).1 hx with hx|⟨e3,z',q1,q2⟩
    ·exact e2 x y hx
    ·have:idOf l y=r:=by rw [ou q1];exact (jZ.1 q2).1
     rw [e3,ha,this,<- e1]
     exact⟨λq=>absurd q h1,λq=>absurd q h2⟩
theorem J5 (hca:CA l) (hg:GAs l) (hf:f<l.length) {L0:List ByteArray} (h0:Th l f L0):∃L,forL l L0 (λk x s=>iB l k x s)=some (.go L)/\Ps l f L0 l.length 0 L:=by
 have hlen:=hca.len
 refine uh (body:=λk x s=>iB l k x s) (λk s=>Ps l f L0 k 0 s) (by omega) (λk a L hk h => ?_) ⟨h0,Nat.le_refl _,λ_=>⟨rfl,λx i hx=>absurd hx (Dn_0 _ _)⟩⟩
 have hrefs:=hca.refs a (List.mem_of_getElem? hk)
 obtain ⟨L',r1,r2⟩:=uh (body:=λj x s=>iC l a j x s) (λj s=>Ps l f L0 k j s) (xs:=a.Refs) (s:=L) (by omega) (λj r s hr hs=>KA hca hg hf hk hr hs) h
 unfold iB
 rw [r1,ob_,kU]
 refine⟨L',rfl,r2.th,r2.le,λe => ?_⟩
 obtain ⟨e1,e2⟩:=r2.eq_ e
 exact⟨e1,λx i hx=>e2 x i ((yZ hk x i).1 hx)⟩
theorem doc_ok (hca:CA l) (hg:GAs l) (hf:f<l.length):∃s':List ByteArray×Int,iT (([idOf l f]:List ByteArray),(0:Int)) (λs=>iH l s)=some (.go s')/\Th l f s'.1/\∀i,Rc l f i->idOf l i∈s'.1:=by
 have hlen:=hca.len
 refine Bu (λs:List ByteArray×Int=>Th l f s.1/\0<=s.2/\s.2<=(s.1.length:Int)/\(s.2=(s.1.length:Int)->∀x i,Ed l x i->(idOf l x∈s.1↔idOf l i∈s.1))) (λs=>((l.length:Int)+1-s.2).toNat) (λs'=>Th l f s'.1/\∀i,Rc l f i->idOf l i∈s'.1) (λs hs => ?_) ⟨⟨by simp,λy hy=>⟨f,.base,(List.mem_singleton.1 hy).symm⟩,by simp⟩,Int.le_refl _,by simp,λe=>by simp at e⟩
 obtain ⟨L,n⟩:=s
 obtain ⟨h1,h2,h3,h4⟩:=hs
 simp only at h1 h2 h3 h4
 have hL:=h1.len hf
 unfold iH
 by_cases hn:n<(L.length:Int)
 ·left
  obtain ⟨L',r1,r2⟩:=J5 hca hg hf h1
  simp only [decide_eq_true hn,cond_true,r1,ob_,kU]
  have hle:=r2.le
  refine⟨_,rfl,⟨r2.th,by show (0:Int)<=(L.length:Int);omega,by show (L.length:Int)<=(L'.length:Int);omega,λe => ?_⟩,by show ((l.length:Int)+1-(L.length:Int)).toNat<((l.length:Int)+1-n).toNat;omega⟩
  have e:(L.length:Int)=(L'.length:Int):=e
  obtain ⟨e1,e2⟩:=r2.eq_ (by omega)
  intro x i hx
  show idOf l x∈L'↔idOf l i∈L'
  rw [e1]
  exact e2 x i ((y8 x i).2 hx)
 ·right
  simp only [decide_eq_false hn,cond_false]
  refine⟨_,rfl,h1,λi hi => ?_⟩
  have hc:=h4 (by omega)
  induction hi with
  | base=>exact h1.root
  | step hi e ih =>
   rcases e with e|e
   ·exact (hc _ _ e).1 ih
   ·exact (hc _ _ e).2 ih
theorem Er (hca:CA l) (hg:GAs l) (hf:f<l.length) {rows:List (List Int)} (hN:Nr l l.length 0 rows):∃(s':List (Int×Bool)×List Int×List ByteArray×Nat) (d':List ByteArray×Int) (T:List ByteArray),
  iT ((kQ eqI ([]:List (Int×Bool)) (f:Int) true),([(f:Int)]:List Int),([]:List ByteArray),0) (λs=>iy l l.length rows s)=some (.go s') /\
  iT (([idOf l f]:List ByteArray),(0:Int)) (λs=>iH l s)=some (.go d') /\
  bu s'.2.2.1=some T/\bu d'.1=some T/\kF T s'.2.2.1=some ()/\kF T d'.1=some ()/\neL d'.1=some ()/\T.length<=12:=by
 have hlen:=hca.len
 obtain ⟨s',b1,done,b2,b3,b4⟩:=bfs_ok hca hf hN
 obtain ⟨d',c1,c2,c3⟩:=doc_ok hca hg hf
 have hnd:(done.map (idOf l)).Nodup:=by
  refine List.pairwise_map.2 (b3.imp_of_mem (λ{i j} hi hj h e=>h ?_))
  exact Ey hca.ids (((b4 i).1 hi).lt hf) (((b4 j).1 hj).lt hf) e
 have hperm:s'.2.2.1.Perm d'.1:=by
  rw [b2]
  refine (List.perm_ext_iff_of_nodup hnd c2.nd).2 (λy=>⟨λhy => ?_,λhy => ?_⟩)
  ·obtain ⟨i,hi,rfl⟩:=List.mem_map.1 hy
   exact c3 i ((b4 i).1 hi)
  ·obtain ⟨i,h1,h2⟩:=c2.rc y hy
   exact List.mem_map.2 ⟨i,(b4 i).2 h1,h2⟩
 have hL:=c2.len hf
 have hLs:s'.2.2.1.length<=12:=by rw [hperm.length_eq];omega
 obtain ⟨T1,t1,t2,t3⟩:=JW (xs:=s'.2.2.1) hLs
 obtain ⟨T2,u1,u2,u3⟩:=JW (xs:=d'.1) (by omega)
 have he:T1=T2:=Je ((t2.trans hperm).trans u2.symm) t3 u3
 subst he
 refine⟨s',d',T1,b1,c1,t1,u1,Ec t2.length_eq,Ec u2.length_eq,?_,by rw [t2.length_eq];exact hLs⟩
 exact KF c2.root
end
end Go.Proofs.YtekmkepojbhafaeGreatDoor.Law

open Go Go.Eng Go.Flow
namespace Go.Proofs.YtekmkepojbhafaeGreatDoor.Law
set_option linter.unusedVariables false
set_option linter.unusedSimpArgs false
set_option linter.unusedSectionVars false
theorem zx (xs:List ByteArray) (f:ByteArray->Option Bool) (p:ByteArray->Bool) (hf:∀x∈xs,f x=some (p x)) (hl:xs.length<=1000000):bD xs f=some (xs.any p):=by
 unfold bD dS
 rw [iX (by omega)]
 rcases qE (f:=f) (p:=p) (B:=λk x s=>dD f k x s) (λk x=>rfl) xs 0 (λx hx=>hf x hx)with⟨h1,h2⟩|⟨j,x,h1,h2,_,h4,h5⟩
 ·rw [h2,h1];rfl
 ·rw [h4,h5]
  simp only [ob_,thenC]
  rw [decide_eq_true (by omega)]
section
variable {l:List Alert}
def I9 (l:List Alert) (a:Alert):Bool:=a.Refs.any λr => !(l.any λo=>kN a o r)
theorem xX {B:Nat->Alert->List ByteArray->Option (Ctl (List ByteArray) Unit)} (p:Alert->Bool) (hl:l.length<=1000) (h:∀k x s,l[k]? = some x->s.length<=1000->B k x s=(bif p x then (lc s [x.Id]).bind λa=>some a else some s).bind λv=>some (.go v)):forL l ([]:List ByteArray) B=some (.go ((l.filter p).map (·.Id))):=by
 obtain ⟨s,r1,r2⟩:=uh (body:=B) (λk s=>s=((l.take k).filter p).map (·.Id)) (xs:=l) (s:=([]:List ByteArray)) (by omega) (λk x s hk hs=>by
  have hsl:s.length<=k:=by
   rw [hs,List.length_map]
   have h1:=List.length_filter_le p (l.take k)
   rw [List.length_take]at h1;omega
  have hkl:k<l.length:=(List.getElem?_eq_some_iff.1 hk).1
  rw [h k x s hk (by omega)]
  rw [List.take_add_one,hk,List.filter_append,List.map_append,<- hs]
  cases hp:p x with
  | true =>
   rw [jM s [x.Id] (by simp;omega)]
   exact⟨s++[x.Id],rfl,by simp [hp]⟩
  | false=>exact⟨s,rfl,by simp [hp]⟩) rfl
 rw [r1,r2,List.take_length]
theorem stray_K (hca:CA l) (hg:GAs l) (hc:bB l=some 0):kz l=some ((l.filter (I9 l)).map (·.Id),0):=by
 have hlen:=hca.len
 unfold kz
 rw [hc,ob_]
 simp only [bne_self_eq_false,cond_false]
 rw [xX (I9 l) (by omega) (λk x s hk _ => ?_),ob_,kU]
 have hx:=hg.1 x (List.mem_of_getElem? hk)
 unfold mh
 rw [zx x.Refs _ (λr => !(l.any λo=>kN x o r)) (λr hr => ?_) (by have:=hx.rlen;omega)]
 ·rfl
 ·unfold nA
  rcases CO (Nat.le_trans hlen (by decide)) x r with⟨h1,h2⟩|⟨i,z,h1,h2,h3⟩
  ·rw [h1,h2];rfl
  ·have h4:(l.any λo=>kN x o r)=true:=List.any_eq_true.2 ⟨z,List.mem_of_getElem? h2,h3⟩
   rw [h1,h4,ob_,decide_eq_false (by omega)];rfl
theorem H7 (hg:GAs l):nK l=some ((l.filter (I9 l)).map (·.Id)):=by
 have hlen:=hg.2
 unfold nK
 rw [xX (I9 l) (by omega) (λk x s hk _ => ?_),ob_,kU]
 have hx:=hg.1 x (List.mem_of_getElem? hk)
 unfold lS
 rw [zx x.Refs _ (λr => !(l.any λo=>kN x o r)) (λr hr => ?_) (by have:=hx.rlen;omega)]
 ·rfl
 ·unfold ni
  rw [zK hg hx r];rfl
theorem force_R (hca:CA l) (hg:GAs l) (t:Int):lI l t=some ((l.filter (onB l t)).map (·.Id)):=by
 have hlen:=hg.2
 unfold lI
 rw [xX (onB l t) (by omega) (λk x s hk _ => ?_),ob_,kU]
 unfold mE
 rw [Im hg hca.ids (List.mem_of_getElem? hk) t];rfl
theorem Km (hl:l.length<=1000) (id:ByteArray):(aJ l (λx0=>eB x0 id)=some (-1)/\kK l id=some false)\/∃f:Nat,aJ l (λx0=>eB x0 id)=some (f:Int)/\kK l id=some true/\f<l.length/\idOf l f=id:=by
 unfold kK aY
 have e:(λx0=>l5 x0 id)=(λx0=>eB x0 id):=rfl
 rw [e]
 unfold aJ
 rw [iX (by omega)]
 rcases qE (f:=λx0=>eB x0 id) (p:=λo=>sEq o.Id id) (B:=λk x s=>aX (λx0=>eB x0 id) k x s) (λk x=>rfl) l 0 (λx _=>rfl)with⟨h1,h2⟩|⟨j,x,h1,h2,_,h4,_⟩
 ·rw [h2];exact .inl ⟨rfl,rfl⟩
 ·rw [h4]
  refine .inr ⟨j,by simp only [ob_,thenC,Nat.zero_add],?_,(List.getElem?_eq_some_iff.1 h1).1,by rw [ou h1];exact (uy _ _).1 h2⟩
  simp only [ob_,thenC,Nat.zero_add]
  rw [decide_eq_true (by omega)]
theorem Fj (hc:bB l=some 0) {id:ByteArray} (h:aJ l (λx0=>eB x0 id)=some (-1)):gL l id=some ([],8):=by
 unfold gL
 simp only [hc,ob_,bne_self_eq_false,cond_false,h]
 rfl
theorem EW (hca:CA l) (hg:GAs l) (hc:bB l=some 0) {id:ByteArray} {f:Nat} (h:aJ l (λx0=>eB x0 id)=some (f:Int)) (hf:f<l.length) (hid:idOf l f=id):∃T,gL l id=some (T,0)/\lU l id=some T/\T.length<=12:=by
 have hlen:=hca.len
 obtain ⟨rows,n1,n2⟩:=near_ok hca
 obtain ⟨s',d',T,b1,c1,t1,u1,t2,u2,u3,t3⟩:=Er hca hg hf n2
 refine⟨T,?_,?_,t3⟩
 ·have hmk:mkN (l.length:Int) 24=some l.length:=by
   unfold mkN
   rw [if_pos (by omega)];simp
  have hnz:nzI (l.length:Int)=some ():=by unfold nzI;rw [if_pos (by omega)]
  unfold gL
  simp only [hc,ob_,bne_self_eq_false,cond_false,h,decide_eq_false (show ¬((f:Int)<0) by omega),hmk,hnz,n1,kU,b1,t1,t2]
 ·unfold lU
  rw [<- hid]
  simp only [c1,ob_,kU,u1,u2,u3]
end
theorem alertsInForce (l:List Int):jP l=some true:=by
 have h0:Ok (⟨l,0⟩:Stream) 0:=⟨Int.le_refl _,Int.le_refl _⟩
 obtain ⟨a,s1,a1,a2,a3⟩:=FR _ h0 (by decide)
 obtain ⟨id,s2,b1,b2,b3⟩:=rM s1 [(⟨#[97,97]⟩:ByteArray),(⟨#[97,98]⟩:ByteArray),(⟨#[97,99]⟩:ByteArray),(⟨#[122,122]⟩:ByteArray)] a3 (by decide) (by simp) (by simp)
 obtain ⟨t,s3,c1,c2,c3⟩:=pU s2 [0,5,10,15,20,25,30,60,(-1)] b3 (by decide) (by simp) (by simp)
 have hal:=a2.2
 have hK:=alV_K a2
 have hR:=alV_R a2
 have hfl:∀p:Alert->Bool,((a.filter p).map (·.Id)).length<=1000000:=λp=>by
  rw [List.length_map];have:=List.length_filter_le p a;omega
 have e0:bG [] []=some true:=BG [] (by simp)
 unfold jP
 simp only [a1,b1,c1,hR,lmom,lerrs2,ob_]
 by_cases hz:alV a=0
 ·have hca:=alV_ca a2 hz
  rw [hz]at hK
  have hKt:=stray_K hca a2 hK
  rw [hz]
  have hin:∃N,fU a t=some (N,moV t)/\(bif or0 0 (moV t)==0 then (lI a t).bind λr=>some r else some ([]:List ByteArray))=some N/\N.length<=1000000:=by
   by_cases hm:moV t=0
   ·refine⟨_,by rw [Gg hca hK (moV_0 hm),hm],?_,hfl (onB a t)⟩
    rw [hm,force_R hca a2 t];rfl
   ·have e1:(moV t==0)=false:=by simpa using hm
    have e2:(moV t != 0)=true:=by simp [bne,e1]
    refine⟨[],?_,?_,by simp⟩
    ·unfold fU
     rw [hK,ob_]
     simp only [bne_self_eq_false,cond_false]
     rw [kmom,ob_,e2];rfl
    ·have:(or0 0 (moV t)==0)=false:=e1
     rw [this];rfl
  obtain ⟨N,i1,i2,i3⟩:=hin
  have ho:or0 0 (moV t)=moV t:=rfl
  rw [ho]at i2
  rcases Km (l:=a) (by omega) id with⟨f1,f2⟩|⟨f,f1,f2,f3,f4⟩
  ·rw [Fj hK f1]
   simp only [hKt,H7 a2,i1,f2,ho,oL,ob_,beq_self_eq_true,cond_true,Bool.not_false,i2]
   rw [show ((8:Int)==0)=false from rfl]
   simp only [cond_false,ob_,e0,BG _ (hfl (I9 a)),BG N i3,cond_true,beq_self_eq_true,xM]
  ·obtain ⟨T,t1,t2,t3⟩:=EW hca a2 hK f1 f3 f4
   simp only [t1,t2,hKt,H7 a2,i1,f2,ho,oL,ob_,beq_self_eq_true,cond_true,Bool.not_true,cond_false,i2,BG T (by omega),BG _ (hfl (I9 a)),BG N i3,xM]
 ·have e1:(alV a==0)=false:=by simpa using hz
  have e2:(alV a != 0)=true:=by simp [bne,e1]
  have k1:gL a id=some ([],alV a):=by unfold gL;rw [hK,ob_,e2];rfl
  have k2:kz a=some ([],alV a):=by unfold kz;rw [hK,ob_,e2];rfl
  have k3:fU a t=some ([],alV a):=by unfold fU;rw [hK,ob_,e2];rfl
  have ho:or0 (alV a) (moV t)=alV a:=by unfold or0;rw [e1];rfl
  simp only [k1,k2,k3,ho,e1,cond_false,ob_,beq_self_eq_true,cond_true,e0,xM]
end Go.Proofs.YtekmkepojbhafaeGreatDoor.Law

