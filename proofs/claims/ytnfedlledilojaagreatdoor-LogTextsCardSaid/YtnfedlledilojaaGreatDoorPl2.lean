/-
  THE PLAIN LAW (part 2).
-/
import Derived.Test.YtnfedlledilojaaGreatDoorPl1
import Derived.Test.YtnfedlledilojaaGreatDoorEng5
open Go Go.Eng
namespace Go.Proofs.YtnfedlledilojaaGreatDoor.Law
set_option linter.unusedVariables false
set_option linter.unusedSimpArgs false
theorem Fh {c:UInt8}:∀{l:List UInt8},c∉l->Lib.indexByte l c = -1
 | [],_=>rfl
 | b::l,h=>by
  have hb:(b==c)=false:=by rw [beq_eq_false_iff_ne];exact λe=>h (by simp [e])
  have ih:=Fh (c:=c) (l:=l) (λe=>h (List.mem_cons_of_mem _ e))
  rw [Lib.indexByte,hb,ih];rfl
theorem Db {c:UInt8}:∀{x:List UInt8} (y:List UInt8),c∉x->Lib.indexByte (x++c::y) c=(x.length:Int)
 | [],y,_=>by
  show Lib.indexByte (c::y) c=0
  rw [Lib.indexByte,beq_self_eq_true];rfl
 | b::x,y,h=>by
  have hb:(b==c)=false:=by rw [beq_eq_false_iff_ne];exact λe=>h (by simp [e])
  have ih:=Db (c:=c) (x:=x) y (λe=>h (List.mem_cons_of_mem _ e))
  show Lib.indexByte (b::(x++c::y)) c=_
  rw [Lib.indexByte,hb,ih]
  have:(((x.length:Nat):Int) == -1)=false:=by rw [beq_eq_false_iff_ne];omega
  simp only [this,Bool.false_eq_true,if_false,List.length_cons]
  omega
theorem Fg (l:List UInt8):bT (BB l) (⟨#[10]⟩:ByteArray)=some (Lib.indexByte l 10):=by
 unfold bT
 have h0:(((⟨#[10]⟩:ByteArray).size:Int)==0)=false:=rfl
 have h1:(((⟨#[10]⟩:ByteArray).size:Int)==1)=true:=rfl
 have h2:qI (⟨#[10]⟩:ByteArray) 0=some 10:=rfl
 rw [h0,cond_false,ob_,h1,h2]
 cases hs:sEq (⟨#[10]⟩:ByteArray) (BB l)with
 | true =>
  have : [10]=l:=Bo (a:=[10]) ((iG _ _).1 hs)
  subst this
  rfl
 | false=>rfl
theorem zJ (l:List UInt8) (a b:Nat) (h1:a<=b) (h2:b<=l.length):ik (BB l) (a:Int) (b:Int)=some (BB ((l.take b).drop a)):=by
 unfold ik
 rw [if_pos (by rw [dz];omega),Int.toNat_natCast,Int.toNat_natCast]
 congr 1
 apply ByteArray.ext
 apply Array.ext'
 rw [ByteArray.data_extract,Array.toList_extract]
 show l.extract a b=(l.take b).drop a
 rw [List.drop_take]
theorem cut_no {l:List UInt8} (h:(10:UInt8)∉l):strings_Cut (BB l) (⟨#[10]⟩:ByteArray)=some (BB l,(⟨#[]⟩:ByteArray),false):=by
 unfold strings_Cut cO
 rw [Fg,Fh h];rfl
theorem cut_yes {x:List UInt8} (y:List UInt8) (h:(10:UInt8)∉x) (hl:x.length+y.length<=1000000):strings_Cut (BB (x++10::y)) (⟨#[10]⟩:ByteArray)=some (BB x,BB y,true):=by
 have hlen:(x++10::y).length=x.length+1+y.length:=by simp;omega
 have e1:=zJ (x++10::y) 0 x.length (by omega) (by rw [hlen];omega)
 have e2:=zJ (x++10::y) (x.length+1) (x++10::y).length (by rw [hlen];omega) (Nat.le_refl _)
 rw [List.take_length]at e2
 have e3:((x++10::y).take x.length).drop 0=x:=by simp
 have e4:(x++10::y).drop (x.length+1)=y:=by
  rw [List.drop_append,List.drop_of_length_le (by omega),show x.length+1-x.length=1 by omega];rfl
 rw [e3]at e1
 rw [e4]at e2
 unfold strings_Cut cO
 rw [Fg,Db y h,ob_,decide_eq_true (by omega),cond_true]
 rw [show ((0:Nat):Int)=0 from rfl]at e1
 have hs1:((⟨#[10]⟩:ByteArray).size:Int)=1:=rfl
 have hw:w64 (((x.length:Nat):Int)+((⟨#[10]⟩:ByteArray).size:Int))=((x.length+1:Nat):Int):=by rw [hs1,dC (by omega)];rfl
 rw [e1,ob_,hw]
 rw [show ((BB (x++10::y)).size:Int)=(((x++10::y).length:Nat):Int) by rw [dz],e2]
 rfl
theorem FE (l:List UInt8):(10:UInt8)∉l\/∃x y,l=x++10::y/\(10:UInt8)∉x:=by
 by_cases h:(10:UInt8)∈l
 ·right
  induction l with
  | nil=>cases h
  | cons b l ih =>
   by_cases hb:b=10
   ·exact⟨[],l,by rw [hb];rfl,by simp⟩
   ·have:(10:UInt8)∈l:=by
     rcases List.mem_cons.1 h with h|h
     ·exact absurd h.symm hb
     ·exact h
    obtain ⟨x,y,e,hx⟩:=ih this
    refine⟨b::x,y,by rw [e];rfl,λhm => ?_⟩
    rcases List.mem_cons.1 hm with hm|hm
    ·exact hb hm.symm
    ·exact hx hm
 ·exact .inl h
noncomputable def E8 (x:List UInt8):Option Log_:=match fu (BB x)with
 | some (lg,true)=>some lg
 | _=>none
theorem lJ (x:List UInt8) (hx:x.length<=1000):∃lg ok,fu (BB x)=some (lg,ok)/\E8 x=(bif ok then some lg else none)/\(ok=true->GoodL lg) /\
  ∀out:List Log_,out.length<=1000000->∃out',fO (BB x) out=some (ok,out')/\(ok=true->out'=out++[lg]):=by
 obtain ⟨lg,ok,h1,h2,h3⟩:=DC x hx
 refine⟨lg,ok,h1,?_,h2,h3⟩
 unfold E8
 rw [h1]
 cases ok <;> rfl
noncomputable def lns:List (List UInt8)->Nat->List Log_->Sum Nat (List Log_)
 | [],_,out => .inr out
 | [x],k,out=>if x=[]then .inr out else .inl k
 | x::y::r,k,out=>match E8 x with
  | none => .inl k
  | some lg=>lns (y::r) (k+1) (out++[lg])
theorem Bi:∀(qs:List (List UInt8)) (k:Nat) (out o:List Log_),(∀q∈qs,q.length<=1000)->(∀x∈out,GoodL x)->lns qs k out = .inr o->(∀x∈o,GoodL x)/\o.length<=out.length+qs.length
 | [],_,out,o,_,hg,h=>by
  simp only [lns,Sum.inr.injEq]at h
  subst h
  exact⟨hg,by simp⟩
 | [x],k,out,o,_,hg,h=>by
  unfold lns at h
  split at h
  ·simp only [Sum.inr.injEq]at h
   subst h
   exact⟨hg,by simp⟩
  ·cases h
 | x::y::r,k,out,o,hq,hg,h=>by
  obtain ⟨lg,ok,a1,a2,a3,_⟩:=lJ x (hq x (by simp))
  unfold lns at h
  rw [a2]at h
  cases ok with
  | false=>cases h
  | true =>
   simp only [cond_true]at h
   obtain ⟨b1,b2⟩:=Bi (y::r) (k+1) (out++[lg]) o (λq hm=>hq q (by simp [hm])) (λz hz=>by
    rcases List.mem_append.1 hz with hz|hz
    ·exact hg z hz
    ·rw [List.mem_singleton.1 hz];exact a3 rfl) h
   refine⟨b1,?_⟩
   simp only [List.length_append,List.length_cons,List.length_nil]at b2 ⊢
   omega
theorem yz:∀(n:Nat) (l:List UInt8) (k:Nat) (out:List Log_),l.length<=n->l.length<=1000->k+l.length<=100000->out.length+l.length<=100000 ->
  ∃m,match lns (spl 10 l) k out with
   | .inl i=>∃o,dR bK m (out,BB l,(k:Int))=some (.ret ((i:Int),false,o))
   | .inr o=>∃t j,dR bK m (out,BB l,(k:Int))=some (.go (o,t,j))
 | n,l,k,out,hn,hl,hk,ho=>by
  cases hle:l with
  | nil =>
   refine⟨1,?_⟩
   simp only [spl,lns,if_true]
   refine⟨BB [],(k:Int),?_⟩
   simp only [dR,bK]
   rw [show sNe (BB []) (⟨#[]⟩:ByteArray)=false by show (!sEq (BB []) (⟨#[]⟩:ByteArray))=false;rw [zA];rfl]
   rfl
  | cons b0 l0 =>
  have hne:l ≠ []:=by rw [hle];simp
  rw [<- hle]
  have hsn:sNe (BB l) (⟨#[]⟩:ByteArray)=true:=by show (!sEq (BB l) (⟨#[]⟩:ByteArray))=true;rw [zA,hle];rfl
  rcases FE l with h|⟨x,y,e,hx⟩
  ·refine⟨1,?_⟩
   rw [FK h]
   simp only [lns,if_neg hne]
   refine⟨out,?_⟩
   simp only [dR,bK]
   rw [hsn,cond_true,cut_no h];rfl
  ·have hlen:l.length=x.length+1+y.length:=by rw [e];simp;omega
   obtain ⟨lg,ok,a1,a2,a3,a4⟩:=lJ x (by omega)
   obtain ⟨out',b1,b2⟩:=a4 out (by omega)
   have hspl:spl 10 l=x::spl 10 y:=by rw [e];exact CL y hx
   obtain ⟨y0,r,hy⟩:∃y0 r,spl 10 y=y0::r:=by
    cases h:spl 10 y with
    | nil=>exact absurd h (Fv 10 y)
    | cons y0 r=>exact⟨y0,r,rfl⟩
   have hstep:bK (out,BB l,(k:Int))=some (bif ok then .go (out',BB y,((k+1:Nat):Int))else .ret ((k:Int),false,out')):=by
    unfold bK
    simp only []
    rw [hsn,cond_true,e,cut_yes y hx (by omega),ob_]
    simp only [Bool.not_true,cond_false,b1,ob_]
    cases ok with
    | false=>rfl
    | true =>
     simp only [Bool.not_true,cond_false,cond_true]
     rw [dC (by omega)];rfl
   rw [hspl,hy]
   unfold lns
   rw [a2]
   cases ok with
   | false =>
    refine⟨1,?_⟩
    simp only [cond_false]
    refine⟨out',?_⟩
    simp only [dR,hstep];rfl
   | true =>
    simp only [cond_true]
    match n,hn with
    | 0,hn=>omega
    | n+1,hn =>
    obtain ⟨m,hm⟩:=yz n y (k+1) (out++[lg]) (by omega) (by omega) (by omega) (by simp only [List.length_append,List.length_cons,List.length_nil];omega)
    rw [hy]at hm
    refine⟨m+1,?_⟩
    have hit:dR bK (m+1) (out,BB l,(k:Int))=dR bK m (out++[lg],BB y,((k+1:Nat):Int)):=by
     rw [dR,hstep,b2 rfl];rfl
    rw [hit]
    exact hm
theorem yH (r:(List ByteArray)×Bool) (hr:r.2=true):∀(qs:List (List UInt8)) (k:Nat) (out:List Log_),qs ≠ []->qs.getLast? = some []->(∀q∈qs,q.length<=1000)->out.length+qs.length<=100000 ->
  eD (λk x s=>cB r k x s) (qs.dropLast.map BB) k out=some (match lns qs k out with | .inl i => .ret ([],(i:Int),9) | .inr o => .go o)
 | [],_,_,h,_,_,_=>absurd rfl h
 | [x],k,out,_,hx,_,_=>by
  simp only [List.getLast?_singleton,so_]at hx
  subst hx
  simp only [lns,if_true];rfl
 | x::y::t,k,out,_,hx,hq,ho=>by
  obtain ⟨lg,ok,a1,a2,a3,_⟩:=lJ x (hq x (by simp))
  have ho2:out.length+(t.length+1+1)<=100000:=by simpa using ho
  have hstep:cB r k (BB x) out=some (bif ok then .go (out++[lg])else .ret ([],(k:Int),9)):=by
   unfold cB
   rw [a1,ob_,hr]
   cases ok with
   | false=>rfl
   | true =>
    simp only [Bool.not_true,cond_false,ob_,cond_true]
    rw [kF _ _ (by simp only [List.length_cons,List.length_nil];omega)];rfl
  rw [List.dropLast_cons_cons,List.map_cons,eD,hstep,ob_]
  unfold lns
  rw [a2]
  cases ok with
  | false=>rfl
  | true =>
   simp only [cond_true]
   exact yH r hr (y::t) (k+1) (out++[lg]) (by simp) (by rw [<- hx];simp) (λq hm=>hq q (by simp [hm])) (by simp only [List.length_append,List.length_cons,List.length_nil];omega)
theorem vQ (r:(List ByteArray)×Bool) (hr:r.2=false) (hrl:r.1.length<=100000):∀(qs:List (List UInt8)) (k:Nat) (out:List Log_),qs ≠ []->qs.getLast? ≠ some []->k+qs.length=r.1.length->(∀q∈qs,q.length<=1000)->out.length+qs.length<=100000 ->
  eD (λk x s=>cB r k x s) (qs.map BB) k out=some (match lns qs k out with | .inl i => .ret ([],(i:Int),9) | .inr o => .go o)
 | [],_,_,h,_,_,_,_=>absurd rfl h
 | [x],k,out,_,hx,hk,hq,_=>by
  simp only [List.getLast?_singleton,ne_eq,so_]at hx
  simp only [List.length_cons,List.length_nil]at hk
  obtain ⟨lg,ok,a1,a2,a3,_⟩:=lJ x (hq x (by simp))
  have hstep:cB r k (BB x) out=some (.ret ([],(k:Int),9)):=by
   unfold cB
   rw [a1,ob_,hr,dC (by omega),show ((k:Int)==((r.1.length:Int)-1))=true by rw [beq_iff_eq];omega]
   cases ok <;> rfl
  rw [List.map_cons,eD,hstep]
  simp only [lns,if_neg hx];rfl
 | x::y::t,k,out,_,hx,hk,hq,ho=>by
  obtain ⟨lg,ok,a1,a2,a3,_⟩:=lJ x (hq x (by simp))
  have ho2:out.length+(t.length+1+1)<=100000:=by simpa using ho
  simp only [List.length_cons]at hk
  have hstep:cB r k (BB x) out=some (bif ok then .go (out++[lg])else .ret ([],(k:Int),9)):=by
   unfold cB
   rw [a1,ob_,hr,dC (by omega),show ((k:Int)==((r.1.length:Int)-1))=false by rw [beq_eq_false_iff_ne];omega]
   cases ok with
   | false=>rfl
   | true =>
    simp only [Bool.not_true,Bool.not_false,cond_false,ob_,cond_true]
    rw [kF _ _ (by simp only [List.length_cons,List.length_nil];omega)];rfl
  rw [List.map_cons,eD,hstep,ob_]
  unfold lns
  rw [a2]
  cases ok with
  | false=>rfl
  | true =>
   simp only [cond_true]
   exact vQ r hr hrl (y::t) (k+1) (out++[lg]) (by simp) (by simpa using hx) (by simp only [List.length_cons];omega) (λq hm=>hq q (by simp [hm])) (by simp only [List.length_append,List.length_cons,List.length_nil];omega)
theorem mb {α β:Type} {E:Option α} {f:α->Option β} {P:α->Prop} {Q:β->Prop} (h:∃a,E=some a/\P a) (k:∀a,P a->∃r,f a=some r/\Q r):∃r,E.bind f=some r/\Q r:=by
 obtain ⟨a,h1,h2⟩:=h
 obtain ⟨r,h3,h4⟩:=k a h2
 exact⟨r,by rw [h1];exact h3,h4⟩
theorem mc {β:Type} {c:Bool} {X Y:Option β} {Q:β->Prop} (h1:c=true->∃r,X=some r/\Q r) (h2:c=false->∃r,Y=some r/\Q r):∃r,(bif c then X else Y)=some r/\Q r:=by
 cases c with
 | true=>exact h1 rfl
 | false=>exact h2 rfl
theorem mr {β:Type} {a:β} {Q:β->Prop} (h:Q a):∃r,some a=some r/\Q r:=⟨a,rfl,h⟩
theorem BP (s:Stream) (n:Int) {b:Int} (hs:Ok s b) (hb:b<=1000000) (h:1<=n) (hn:n<=4611686018427387904):∃a,bg s n=some a/\(0<=a.1/\a.1<n/\Ok a.2 (b+1)):=by
 obtain ⟨r,s',h1,h2,h3,h4⟩:=lX s n hs hb h hn
 exact⟨(r,s'),h1,h2,h3,h4⟩
theorem vX (s:Stream) (n:Int) {b:Int} (hs:Ok s b) (hb:b<=1000000) (h:1<=n) (hn:n<=1000):∃a,dB s n=some a/\Ok a.2 (b+1):=by
 obtain ⟨r,s',h1,h2⟩:=flip_ok s n hs hb h hn
 exact⟨(r,s'),h1,h2⟩
theorem ou (s:Stream) (l:List Int) {b:Int} (hs:Ok s b) (hb:b<=1000000) (h:1<=l.length) (hn:l.length<=1000):∃a,cK s l=some a/\(a.1∈l/\Ok a.2 (b+1)):=by
 obtain ⟨r,s',h1,h2,h3⟩:=pick_ok s l hs hb h hn
 exact⟨(r,s'),h1,h2,h3⟩
theorem qJ (s:Stream) (l:List ByteArray) {b:Int} (hs:Ok s b) (hb:b<=1000000) (h:1<=l.length) (hn:l.length<=1000):∃a,bU s l=some a/\(a.1∈l/\Ok a.2 (b+1)):=by
 obtain ⟨r,s',h1,h2,h3⟩:=some_ok s l hs hb h hn
 exact⟨(r,s'),h1,h2,h3⟩
theorem zz (s:Stream) (lo hi:Int) {b:Int} (hs:Ok s b) (hb:b<=1000000) (h:lo<=hi) (h1 : -1000000000000<=lo) (h2:hi<=1000000000000):∃a,dS s lo hi=some a/\(lo<=a.1/\a.1<=hi/\Ok a.2 (b+1)):=by
 obtain ⟨r,s',k1,k2,k3,k4⟩:=EZ s lo hi hs hb h h1 h2
 exact⟨(r,s'),k1,k2,k3,k4⟩
theorem F6 (s:Stream) (lo hi:Int) {b:Int} (hs:Ok s b) (hb:b<=900000) (h:lo<=hi) (h1 : -1000000000000<=lo) (h2:hi<=1000000000000):∃a,fw s lo hi=some a/\(Med a.1/\Ok a.2 (b+2)):=by
 unfold fw
 refine mb (vX s 12 hs (by omega) (by decide) (by decide)) (λc hc=>mc (λ_ => ?_) (λ_ => ?_))
 ·refine mb (ou c.2 _ hc (by omega) (by simp) (by simp)) (λr hr=>mr ⟨?_,hr.2.mono (by omega)⟩)
  have e1:w64 (lo-1)=lo-1:=dC (by omega)
  have e2:w64 (hi+1)=hi+1:=dC (by omega)
  have hm:=hr.1
  rw [e1,e2]at hm
  simp only [List.mem_cons,List.not_mem_nil,or_false]at hm
  unfold Med
  rcases hm with h|h|h|h|h|h <;> omega
 ·refine mb (zz c.2 lo hi hc (by omega) h h1 h2) (λr hr=>mr ⟨?_,hr.2.2.mono (by omega)⟩)
  unfold Med
  have:=hr.1;have:=hr.2.1
  omega
theorem AL (last:ByteArray) {x:Log_} (hl:cZ last) (h:GoodL x):mO last x=some (mk (last.data.toList++[32]++ql x)):=by
 have l1:=pU h;have l2:=gy hl
 unfold mO
 rw [vM h,show last=BB last.data.toList from rfl,show (⟨#[32]⟩:ByteArray)=BB [32] from rfl]
 simp only [ob_]
 rw [iB _ _ (by simp only [List.length_append,List.length_cons,List.length_nil];omega)];simp only [ob_]
 rw [iB _ _ (by simp only [List.length_append,List.length_cons,List.length_nil];omega)];simp only [ob_]
 rw [markR _ (by simp only [List.length_append,List.length_cons,List.length_nil];omega)]
 rfl
theorem kP {a:ByteArray} {l:List ByteArray} (h:a∈l) (hl:∀x∈l,cZ x):cZ a:=hl a h
theorem rD {a b:ByteArray} (ha:cZ a) (hb:cZ b):∀x ∈ [a,b],cZ x:=λx hx=>by
 simp only [List.mem_cons,List.not_mem_nil,or_false]at hx
 rcases hx with rfl|rfl
 ·exact ha
 ·exact hb
theorem shorts3 {a b c:ByteArray} (ha:cZ a) (hb:cZ b) (hc:cZ c):∀x ∈ [a,b,c],cZ x:=λx hx=>by
 simp only [List.mem_cons,List.not_mem_nil,or_false]at hx
 rcases hx with rfl|rfl|rfl
 ·exact ha
 ·exact hb
 ·exact hc
theorem yP (s:Stream) (most:Int) (hm:0<=most/\most<=20) {b:Int} (hs:Ok s b) (hb:b<=700000):∃r,bu s most=some r/\(Ok r.2 (b+300)/\r.1.length<=2*most.toNat/\∀x∈r.1,GoodL x):=by
 unfold bu
 obtain ⟨s',h1,h2,h3,h4⟩:=oM (body:=λk x s=>aR most k x s) (λk s=>Ok ⟨s.2.1,s.2.2⟩ (b+150*k)/\s.1.length<=most.toNat*k/\∀x∈s.1,GoodL x)
  (xs:=[(⟨#[112,97]⟩:ByteArray),(⟨#[112,98]⟩:ByteArray)]) (s:=(([]:List Log_),s.L,s.f_at)) (by simp) (λk x t hxm hk ⟨i1,i2,i3⟩=>by
   have hk2:k<2:=hk
   have hsh:cZ x:=by
    simp only [List.mem_cons,List.not_mem_nil,or_false]at hxm
    rcases hxm with rfl|rfl <;> exact bX rfl
   obtain ⟨a,a1,a2,a3⟩:=ou _ [0,50,1000] i1 (by omega) (by simp) (by simp)
   have ha:0<=a.1/\a.1<=1000:=by
    simp only [List.mem_cons,List.not_mem_nil,or_false]at a2
    rcases a2 with h|h|h <;> omega
   obtain ⟨n,n1,n2,n3,n4⟩:=zz a.2 0 most a3 (by omega) hm.1 (by omega) (by omega)
   obtain ⟨u,m1,m2,m3,m4,m5,m6⟩:=oM (body:=λk y s=>aZ x k y s) (λj s=>Ok ⟨s.2.2.2.1,s.2.2.2.2⟩ (b+150*k+2+4*j)/\cZ s.2.1/\(0<=s.2.2.1/\s.2.2.1<=1000+100*j)/\s.1.length<=most.toNat*k+j/\∀x∈s.1,GoodL x)
    (xs:=List.range n.1.toNat) (s:=(t.1,(⟨#[]⟩:ByteArray),a.1,n.2.L,n.2.f_at)) (by simp;omega) (λj y v _ hj ⟨j1,j2,j3,j4,j5⟩=>by
     have hj3:j<20:=by rw [List.length_range]at hj;omega
     have hmk:most.toNat*k<=20*2:=Nat.mul_le_mul (by omega) (by omega)
     obtain ⟨p,p1,p2,p3⟩:=qJ _ [(⟨#[105,97]⟩:ByteArray),(⟨#[105,98]⟩:ByteArray)] j1 (by omega) (by simp) (by simp)
     have hp:cZ p.1:=kP p2 (rD (bX rfl) (bX rfl))
     obtain ⟨q,q1,q2,q3⟩:=ou p.2 [1,10,30,100] p3 (by omega) (by simp) (by simp)
     have hq:Med q.1:=by
      unfold Med
      simp only [List.mem_cons,List.not_mem_nil,or_false]at q2
      rcases q2 with h|h|h|h <;> omega
     have hw:w64 ((j:Int)+1)=(j:Int)+1:=dC (by omega)
     have hg0:GoodL (⟨x,p.1,w64 ((j:Int)+1),v.2.2.1,q.1,(⟨#[]⟩:ByteArray)⟩:Log_):=⟨hsh,hp,bX rfl,by rw [hw];show Med ((j:Int)+1);unfold Med;omega,by show Med v.2.2.1;unfold Med;omega,hq⟩
     obtain ⟨r,r1,r2,r3⟩:=ou q.2 [0,5,10,50,100] q3 (by omega) (by simp) (by simp)
     have hr:0<=r.1/\r.1<=100:=by
      simp only [List.mem_cons,List.not_mem_nil,or_false]at r2
      rcases r2 with h|h|h|h|h <;> omega
     obtain ⟨c,c1,c2⟩:=vX r.2 6 r3 (by omega) (by decide) (by decide)
     have hsum:=AL v.2.1 j2 hg0
     have hw2:w64 (v.2.2.1+r.1)=v.2.2.1+r.1:=dC (by omega)
     have hgl:∀z∈v.1++[(⟨x,p.1,w64 ((j:Int)+1),v.2.2.1,q.1,mk (v.2.1.data.toList++[32]++ql (⟨x,p.1,w64 ((j:Int)+1),v.2.2.1,q.1,(⟨#[]⟩:ByteArray)⟩:Log_))⟩:Log_)],GoodL z:=λz hz=>by
      rcases List.mem_append.1 hz with hz|hz
      ·exact j5 z hz
      ·rw [List.mem_singleton.1 hz];exact⟨hsh,hp,lF _,hg0.2.2.2.1,hg0.2.2.2.2.1,hq⟩
     simp only [aZ,p1,q1,hsum,r1,c1,ob_]
     cases c.1 with
     | true =>
      simp only [Bool.not_true,cond_false,ob_]
      exact⟨_,rfl,c2.mono (by omega),lF _,by show 0<=w64 (v.2.2.1+r.1)/\w64 (v.2.2.1+r.1)<=_;rw [hw2];omega,by show v.1.length<=_;omega,j5⟩
     | false =>
      simp only [Bool.not_false,cond_true]
      rw [kF v.1 [_] (by simp;omega)]
      simp only [ob_]
      exact⟨_,rfl,c2.mono (by omega),lF _,by show 0<=w64 (v.2.2.1+r.1)/\w64 (v.2.2.1+r.1)<=_;rw [hw2];omega,by simp;omega,hgl⟩) ⟨n4.mono (by omega),bX rfl,by simpa using ha,by simpa using i2,i3⟩
   have hstep:aR most k x t=some (.go (u.1,u.2.2.2.1,u.2.2.2.2)):=by
    unfold aR
    rw [a1];simp only [ob_]
    rw [n1];simp only [ob_]
    rw [m1];rfl
   rw [hstep]
   have hl:(List.range n.1.toNat).length<=most.toNat:=by rw [List.length_range];omega
   refine⟨_,rfl,m2.mono (by omega),?_,m6⟩
   show u.1.length<=most.toNat*(k+1)
   rw [Nat.mul_succ];omega) ⟨by simpa using hs,by simp,by simp⟩
 rw [h1]
 refine mr ⟨h2.mono (by simp),?_,h4⟩
 show s'.1.length<=_
 have:s'.1.length<=most.toNat*2:=h3
 omega
theorem qm {xs:List Log_} {k:Nat} (h:k<xs.length) (hs:∀x∈xs,GoodL x):∃a,xs[k]? = some a/\GoodL a:=⟨xs[k],List.getElem?_eq_getElem h,hs _ (List.getElem_mem _)⟩
theorem inR_w {xs:List Log_} {k:Int} (h0:0<=k) (h:k<(xs.length:Int)):∃a,inR k xs=some a/\True:=⟨(),inR_ok h0 h,trivial⟩
theorem logs_ok (s:Stream) (most:Int) (hm:0<=most/\most<=20) {b:Int} (hs:Ok s b) (hb:b<=600000):∃r,gU s most=some r/\(Ok r.2 (b+400)/\r.1.length<=2*most.toNat/\∀x∈r.1,GoodL x):=by
 unfold gU
 refine mb (yP s most hm hs (by omega)) (λr hr => ?_)
 obtain ⟨r1,r2,r3⟩:=hr
 refine mb (P:=λv=>Ok ⟨v.2.1,v.2.2⟩ (b+301)/\(v.1=true->0<r.1.length)) (mc (λh => ?_) (λ_ => ?_)) (λv hv => ?_)
 ·refine mb (vX r.2 4 r1 (by omega) (by decide) (by decide)) (λc hc=>mr ⟨hc.mono (by omega),λ_ => ?_⟩)
  simp only [decide_eq_true_eq]at h;omega
 ·exact mr ⟨r1.mono (by omega),λh=>by cases h⟩
 refine mb (P:=λu=>Ok ⟨u.2.1,u.2.2⟩ (b+320)/\u.1.length=r.1.length/\∀x∈u.1,GoodL x) (mc (λh => ?_) (λ_ => ?_)) (λu hu => ?_)
 ·have hpos:=hv.2 h
  refine mb (BP _ _ hv.1 (by omega) (by omega) (by omega)) (λi hi => ?_)
  have hlt:0+i.1.toNat<r.1.length:=by omega
  refine mb (inR_w hi.1 hi.2.1) (λ_ _ => ?_)
  refine mb (qJ i.2 _ hi.2.2 (by omega) (by simp) (by simp)) (λp hp => ?_)
  have hps:cZ p.1:=kP hp.1 (rD (bX rfl) (bX rfl))
  refine mb (qm hlt r3) (λe he => ?_)
  refine mb (P:=λm=>cZ m) ⟨mk [120],markR [120] (by simp),lF _⟩ (λm hmk => ?_)
  refine mb (qJ p.2 _ hp.2 (by omega) (by simp) (by simp)) (λq hq => ?_)
  have hqs:cZ q.1:=kP hq.1 (rD he.2.2.1 hmk)
  refine mb (qm hlt r3) (λe2 he2 => ?_)
  have hs1:∀x∈r.1.set (0+i.1.toNat) (⟨e2.Player,p.1,e2.No,e2.Clock,e2.Long,e2.Sum⟩:Log_),GoodL x:=lZ r3 ⟨he2.1,hps,he2.2.2⟩
  refine mb (qm (by simpa using hlt) hs1) (λe3 he3=>mr ⟨hq.2.mono (by omega),by simp,lZ hs1 ⟨he3.1,he3.2.1,hqs,he3.2.2.2⟩⟩)
 ·exact mr ⟨hv.1.mono (by omega),rfl,r3⟩
 obtain ⟨u1,u2,u3⟩:=hu
 refine mb (P:=λv=>Ok ⟨v.2.1,v.2.2⟩ (b+321)/\(v.1=true->0<u.1.length)) (mc (λh => ?_) (λ_ => ?_)) (λv hv => ?_)
 ·refine mb (vX _ 12 u1 (by omega) (by decide) (by decide)) (λc hc=>mr ⟨hc.mono (by omega),λ_ => ?_⟩)
  simp only [decide_eq_true_eq]at h;omega
 ·exact mr ⟨u1.mono (by omega),λh=>by cases h⟩
 refine mb (P:=λz=>Ok ⟨z.2.1,z.2.2⟩ (b+390)/\z.1.length=u.1.length/\∀x∈z.1,GoodL x) (mc (λh => ?_) (λ_ => ?_)) (λz hz=>mr ⟨hz.1.mono (by omega),by rw [hz.2.1,u2];exact r2,hz.2.2⟩)
 ·have hpos:=hv.2 h
  refine mb (BP _ _ hv.1 (by omega) (by omega) (by omega)) (λi hi => ?_)
  have hlt:0+i.1.toNat<u.1.length:=by omega
  refine mb (inR_w hi.1 hi.2.1) (λ_ _ => ?_)
  refine mb (BP i.2 4 hi.2.2 (by omega) (by omega) (by omega)) (λj hj => ?_)
  refine mc (λ_ => ?_) (λ_=>mc (λ_ => ?_) (λ_=>mc (λ_ => ?_) (λ_ => ?_)))
  ·refine mb (qm hlt u3) (λe he => ?_)
   refine mb (qJ j.2 _ hj.2.2 (by omega) (by simp) (by simp)) (λp hp => ?_)
   refine mb (qJ p.2 _ hp.2 (by omega) (by simp) (by simp)) (λq hq => ?_)
   have hps:cZ p.1:=kP hp.1 (shorts3 he.1 (bX rfl) (bX rfl))
   have hqs:cZ q.1:=kP hq.1 (rD (bX rfl) (bX rfl))
   refine mb (qm hlt u3) (λe2 he2 => ?_)
   have hs1:∀x∈u.1.set (0+i.1.toNat) (⟨p.1,e2.Item,e2.No,e2.Clock,e2.Long,e2.Sum⟩:Log_),GoodL x:=lZ u3 ⟨hps,he2.2⟩
   refine mb (qm (by simpa using hlt) hs1) (λe3 he3=>mr ⟨hq.2.mono (by omega),by simp,lZ hs1 ⟨he3.1,hqs,he3.2.2⟩⟩)
  ·refine mb (F6 j.2 1 1000000 hj.2.2 (by omega) (by omega) (by omega) (by omega)) (λp hp => ?_)
   refine mb (qm hlt u3) (λe he=>mr ⟨hp.2.mono (by omega),by simp,lZ u3 ⟨he.1,he.2.1,he.2.2.1,hp.1,he.2.2.2.2⟩⟩)
  ·refine mb (F6 j.2 0 1000 hj.2.2 (by omega) (by omega) (by omega) (by omega)) (λp hp => ?_)
   refine mb (F6 p.2 1 1000 hp.2 (by omega) (by omega) (by omega) (by omega)) (λq hq => ?_)
   refine mb (qm hlt u3) (λe2 he2 => ?_)
   have hs1:∀x∈u.1.set (0+i.1.toNat) (⟨e2.Player,e2.Item,e2.No,p.1,e2.Long,e2.Sum⟩:Log_),GoodL x:=lZ u3 ⟨he2.1,he2.2.1,he2.2.2.1,he2.2.2.2.1,hp.1,he2.2.2.2.2.2⟩
   refine mb (qm (by simpa using hlt) hs1) (λe3 he3=>mr ⟨hq.2.mono (by omega),by simp,lZ hs1 ⟨he3.1,he3.2.1,he3.2.2.1,he3.2.2.2.1,he3.2.2.2.2.1,hq.1⟩⟩)
  ·refine mb (qJ j.2 _ hj.2.2 (by omega) (by simp) (by simp)) (λp hp => ?_)
   have hps:cZ p.1:=by
    have:=hp.1
    simp only [List.mem_cons,List.not_mem_nil,or_false]at this
    rcases this with h|h|h|h <;> rw [h] <;> exact bX rfl
   refine mb (qm hlt u3) (λe he=>mr ⟨hp.2.mono (by omega),by simp,lZ u3 ⟨he.1,he.2.1,hps,he.2.2.2⟩⟩)
 ·exact mr ⟨hv.1.mono (by omega),rfl,u3⟩
def GoodB (x:Beat):Prop:=cZ x.Player
def gZ (o b:Beat):Prop:=lt o.Player b.Player\/o.Player=b.Player/\o.At<b.At
instance (o b:Beat):Decidable (gZ o b):=by unfold gZ lt;infer_instance
def DZ (p:Option Beat) (b:Beat):Int :=
 bif !keyB b.Player then 5 else bif !jY b.At || !jY b.Clock then 1 else match p with
  | none=>0
  | some o=>if gZ o b then (if b.Player=o.Player/\b.Clock<=o.Clock then 16 else 0)else 7
def iP (l:List Beat):Int:=bif decide (l.length>500)then 2 else zf DZ none l
theorem uB (a b:Beat):∃n,ek a b=some n/\(n>=0↔¬gZ a b):=by
 refine⟨_,by simp only [ek,qA,yC,F4,ob_];rfl,?_⟩
 unfold or0 gZ Ef
 rcases sj a.Player b.Player with⟨h,k⟩|⟨h,k⟩|⟨h,k⟩
 ·rw [k];simp [h]
 ·rw [k,h]
  have:=u7 b.Player
  by_cases h1:a.At<b.At
  ·simp [h1]
  ·by_cases h2:a.At>b.At
   ·simp [h1,h2,this]
   ·simp [h1,h2,this]
 ·rw [k]
  have h1:¬lt a.Player b.Player:=λh2=>u7 _ (lt_trans h h2)
  have h2:a.Player≠b.Player:=λe=>u7 _ (e ▸ h)
  simp [h1,h2]
theorem beatsK (l:List Beat) (hs:∀x∈l,GoodB x) (hl:l.length<=1000000):fJ l=some (iP l):=by
 unfold fJ iP
 have e:decide ((l.length:Int)>500)=decide (l.length>500):=decide_eq_decide.2 (by omega)
 rw [e]
 cases decide (l.length>500)with
 | true=>rfl
 | false =>
  simp only [cond_false]
  rw [eX (by omega),pu (stp:=DZ) l l 0 rfl (λk x hx => ?_)]
  ·simp only [ob_,sG];rfl
  ·have hxs:cZ x.Player:=hs x (List.mem_of_getElem? hx)
   have eo:fq x.Clock 0 345686399999=some (!jY x.Clock):=by rw [wW];simp [jY]
   simp only [fB,qV x.Player (by unfold cZ at hxs;omega),og,eo,ob_,DZ]
   cases hk:keyB x.Player with
   | false=>rfl
   | true =>
   simp only [Bool.not_true,cond_false]
   cases jY x.At with
   | false=>rfl
   | true =>
   simp only [Bool.not_true,cond_false,Bool.false_or,ob_]
   cases jY x.Clock with
   | false=>rfl
   | true =>
   simp only [Bool.not_true,cond_false]
   by_cases hk0:0<k
   ·obtain ⟨y,h1,h2⟩:=wJ hx hk0 (by omega)
    have hd:decide ((k:Int)>0)=true:=by simp;omega
    obtain ⟨n,hn,hn2⟩:=uB y x
    simp only [hd,cond_true,h1,ob_,sZ,if_neg (show ¬k=0 by omega),h2,hn]
    by_cases hb:gZ y x
    ·have:decide (n>=0)=false:=by simp only [decide_eq_false_iff_not];exact λh=>(hn2.1 h) hb
     simp only [this,cond_false,if_pos hb,CX]
     by_cases he:x.Player=y.Player
     ·by_cases hc:x.Clock<=y.Clock
      ·simp [he,hc,uC]
      ·simp [he,hc,uC]
     ·simp [he,uC]
    ·have:decide (n>=0)=true:=decide_eq_true (hn2.2 hb)
     simp only [this,cond_true,if_neg hb,uC];rfl
   ·have hk0:k=0:=by omega
    subst hk0
    rfl
theorem before_trans {a b c:Beat} (h:gZ a b) (k:gZ b c):gZ a c:=by
 rcases h with h|⟨h1,h2⟩
 ·rcases k with k|⟨k1,_⟩
  ·exact .inl (lt_trans h k)
  ·exact .inl (k1 ▸ h)
 ·rcases k with k|⟨k1,k2⟩
  ·exact .inl (h1 ▸ k)
  ·exact .inr ⟨h1.trans k1,by omega⟩
theorem bStp_0 {p:Option Beat} {b:Beat} (h:DZ p b=0):jY b.At=true/\jY b.Clock=true/\∀o,p=some o->gZ o b:=by
 unfold DZ at h
 cases hk:keyB b.Player with
 | false=>rw [hk]at h;cases h
 | true =>
 rw [hk]at h
 simp only [Bool.not_true,cond_false]at h
 cases ha:jY b.At with
 | false=>rw [ha]at h;cases h
 | true =>
 cases hc:jY b.Clock with
 | false=>rw [ha,hc]at h;cases h
 | true =>
 rw [ha,hc]at h
 simp only [Bool.not_true,Bool.or_self,cond_false]at h
 refine⟨rfl,rfl,λo ho => ?_⟩
 subst ho
 simp only at h
 by_cases hb:gZ o b
 ·exact hb
 ·rw [if_neg hb]at h;cases h
def yM:List Beat->Prop
 | []=>True
 | x::xs=>(∀y∈xs,gZ x y)/\yM xs
theorem tV:∀{l:List Beat} {p:Option Beat},zf DZ p l=0->(∀o,p=some o->∀y∈l,gZ o y)/\yM l/\∀x∈l,jY x.At=true/\jY x.Clock=true
 | [],_,_=>⟨λ_ _ y hy=>(by cases hy),trivial,λx hx=>(by cases hx)⟩
 | x::xs,p,h=>by
  obtain ⟨h1,h2⟩:=chkG_0 h
  obtain ⟨i1,i2,i3⟩:=tV h2
  obtain ⟨j1,j2,j3⟩:=bStp_0 h1
  refine⟨λo ho y hy => ?_,⟨i1 x rfl,i2⟩,λy hy => ?_⟩
  ·rcases List.mem_cons.1 hy with rfl|hy
   ·exact j3 o ho
   ·exact before_trans (j3 o ho) (i1 x rfl y hy)
  ·rcases List.mem_cons.1 hy with rfl|hy
   ·exact⟨j1,j2⟩
   ·exact i3 y hy
theorem FI {l:List Beat} (h:iP l=0):yM l/\∀x∈l,jY x.At=true/\jY x.Clock=true:=by
 unfold iP at h
 cases hl:decide (l.length>500)with
 | true=>rw [hl]at h;cases h
 | false=>rw [hl,cond_false]at h;exact (tV h).2
end Go.Proofs.YtnfedlledilojaaGreatDoor.Law

namespace Go.Eng
set_option linter.unusedVariables false
set_option linter.unusedSimpArgs false
end Go.Eng

open Go Go.Eng
namespace Go.Proofs.YtnfedlledilojaaGreatDoor.Law
set_option linter.unusedVariables false
set_option linter.unusedSimpArgs false
structure Cut (m:List Beat_) (n:Int) (k:Nat):Prop where
 le:k<=m.length
 lo:∀i (h:i<m.length),i<k->m[i].f_from<=n
 hi:∀(h:k<m.length),n<m[k].f_from
theorem cut_ex (m:List Beat_) (n:Int):∃k,Cut m n k:=by
 induction m with
 | nil=>exact⟨0,⟨Nat.le_refl _,λi h=>absurd h (Nat.not_lt_zero i),λh=>absurd h (Nat.lt_irrefl 0)⟩⟩
 | cons x m ih =>
  by_cases hx:x.f_from<=n
  ·obtain ⟨k,h1,h2,h3⟩:=ih
   refine⟨k+1,⟨by simp;omega,λi h hik => ?_,λh => ?_⟩⟩
   ·cases i with
    | zero=>exact hx
    | succ i=>exact h2 i (by simpa using h) (by omega)
   ·exact h3 (by simpa using h)
  ·exact⟨0,⟨Nat.zero_le _,λi h hik=>absurd hik (Nat.not_lt_zero i),λh=>by simpa using hx⟩⟩
def D5 (x:Int):Int×Int:=bif jY x then (x,0)else (0,11)
def farB (p q:Beat_):Bool:=decide (w64 (q.f_from-p.f_from)>2592000000)||decide (w64 (q.f_to-p.f_to)>2592000000)
def between (p q:Beat_) (n:Int):Int:=w64 (p.f_to+w64 ((w64 ((w64 (n-p.f_from))*(w64 (q.f_to-p.f_to)))).tdiv (w64 (q.f_from-p.f_from))))
def z2:Beat_:=⟨0,0⟩
def mapV (m:List Beat_) (n:Int) (k:Nat):Int×Int :=
 if m.length=0 then (0,8)else if k=0 then D5 ((m.getD 0 z2).f_to+n-(m.getD 0 z2).f_from)else
 if k=m.length then D5 (w64 (w64 ((m.getD (k-1) z2).f_to+n)-(m.getD (k-1) z2).f_from))else
 bif farB (m.getD (k-1) z2) (m.getD k z2)then (0,2)else D5 (between (m.getD (k-1) z2) (m.getD k z2) n)
def inM (x:Int):Prop:=0<=x/\x<=345686399999
def BndM (m:List Beat_):Prop:=∀x∈m,inM x.f_from/\inM x.f_to
theorem getD_at {α:Type} {m:List α} {i:Nat} {z:α} (h:i<m.length):m.getD i z=m[i]:=by
 rw [List.getD_eq_getElem?_getD,List.getElem?_eq_getElem h];rfl
theorem y7 (x:Int):((dK x).bind λr=>bif (!r)then some (0,11)else some (x,0))=some (D5 x):=by
 rw [og,ob_];unfold D5
 cases jY x <;> rfl
theorem tX {m:List Beat_} {n:Int} {k:Nat} (hc:Cut m n k) (hl:m.length<=1000000):∀(d j:Nat),j+d=k->dR (λs=>dE m n s) (d+1) (j:Int)=some (.go (k:Int))
 | 0,j,h=>by
  have hj:j=k:=by omega
  subst hj
  have hst:dE m n (j:Int)=some (.brk (j:Int)):=by
   unfold dE
   by_cases hlt:j<m.length
   ·have h1:decide ((j:Int)<(m.length:Int))=true:=by simp;omega
    have h2:decide ((m[j]).f_from<=n)=false:=by have:=hc.hi hlt;simp;omega
    simp only [h1,cond_true,nO,List.getElem?_eq_getElem hlt,ob_,h2,cond_false]
   ·have h1:decide ((j:Int)<(m.length:Int))=false:=by simp;omega
    simp only [h1,cond_false,ob_]
  rw [dR,hst];rfl
 | d+1,j,h=>by
  have hjk:j<k:=by omega
  have hlt:j<m.length:=by have:=hc.le;omega
  have hst:dE m n (j:Int)=some (.go ((j+1:Nat):Int)):=by
   unfold dE
   have h1:decide ((j:Int)<(m.length:Int))=true:=by simp;omega
   have h2:decide ((m[j]).f_from<=n)=true:=decide_eq_true (hc.lo j hlt hjk)
   simp only [h1,cond_true,nO,List.getElem?_eq_getElem hlt,ob_,h2]
   rw [dC (by omega)];congr 2
  rw [dR,hst,ob_]
  exact tX hc hl d (j+1) (by omega)
theorem DV {m:List Beat_} {n:Int} {k:Nat} (hc:Cut m n k) (hb:BndM m) (hn:inM n) (hl:m.length<=1000000):jr m n=some (mapV m n k):=by
 unfold jr mapV
 by_cases h0:m.length=0
 ·have:((m.length:Int)==0)=true:=by simp [h0]
  simp only [this,cond_true,if_pos h0]
 ·have:((m.length:Int)==0)=false:=by simpa using h0
  have hlo:=ll (tX hc hl k 0 (by omega))
  rw [show ((0:Nat):Int)=0 from rfl]at hlo
  simp only [this,cond_false,if_neg h0,hlo,ob_,jk]
  by_cases hk0:k=0
  ·subst hk0
   have h1:(((0:Nat):Int)==0)=true:=rfl
   have h2:idx m 0=some (m.getD 0 z2):=by
    have:=nO m 0
    rw [show ((0:Nat):Int)=0 from rfl]at this
    rw [this,getD_at (by omega)];exact List.getElem?_eq_getElem _
   have hm:m.getD 0 z2∈m:=by rw [getD_at (by omega)];exact List.getElem_mem _
   obtain ⟨⟨b1,b2⟩,b3,b4⟩:=hb _ hm
   obtain ⟨n1,n2⟩:=hn
   simp only [h1,cond_true,h2,ob_,if_true]
   rw [dC (n:=(m.getD 0 z2).f_from-n) (by omega),dC (by omega),show (m.getD 0 z2).f_to-((m.getD 0 z2).f_from-n)=(m.getD 0 z2).f_to+n-(m.getD 0 z2).f_from by omega]
   exact y7 _
  ·have h1:((k:Int)==0)=false:=by simpa using hk0
   have hle:=hc.le
   have hw:w64 ((k:Int)-1)=((k-1:Nat):Int):=by rw [dC (by omega)];omega
   have hp:idx m (w64 ((k:Int)-1))=some (m.getD (k-1) z2):=by rw [hw,nO,getD_at (by omega)];exact List.getElem?_eq_getElem _
   have hpl:(m.getD (k-1) z2).f_from<=n:=by rw [getD_at (by omega)];exact hc.lo _ _ (by omega)
   simp only [h1,cond_false,if_neg hk0,hp,ob_]
   by_cases hkl:k=m.length
   ·have h2:((k:Int)==(m.length:Int))=true:=by simp [hkl]
    simp only [h2,cond_true,if_pos hkl]
    exact y7 _
   ·have hlt:k<m.length:=by omega
    have h2:((k:Int)==(m.length:Int))=false:=by simp;omega
    have hq:idx m (k:Int)=some (m.getD k z2):=by rw [nO,getD_at hlt];exact List.getElem?_eq_getElem _
    have hqh:n<(m.getD k z2).f_from:=by rw [getD_at hlt];exact hc.hi hlt
    have hbp:=hb (m.getD (k-1) z2) (by rw [getD_at (by omega)];exact List.getElem_mem _)
    have hbq:=hb (m.getD k z2) (by rw [getD_at hlt];exact List.getElem_mem _)
    obtain ⟨⟨b1,b2⟩,_⟩:=hbp
    obtain ⟨⟨b5,b6⟩,_⟩:=hbq
    have hdne:w64 ((m.getD k z2).f_from-(m.getD (k-1) z2).f_from)≠0:=by rw [dC (by omega)];omega
    simp only [h2,cond_false,if_neg hkl,hq,ob_]
    have hfar:(bif (decide ((w64 ((m.getD k z2).f_from-(m.getD (k-1) z2).f_from))>2592000000))then some true else some (decide ((w64 ((m.getD k z2).f_to-(m.getD (k-1) z2).f_to))>2592000000)))=some (farB (m.getD (k-1) z2) (m.getD k z2)):=by
     unfold farB
     cases decide ((w64 ((m.getD k z2).f_from-(m.getD (k-1) z2).f_from))>2592000000) <;> rfl
    rw [hfar,ob_]
    cases farB (m.getD (k-1) z2) (m.getD k z2)with
    | true=>rfl
    | false =>
     simp only [cond_false,Eg,if_neg hdne,ob_]
     exact y7 _
def gB (b:Beat):Beat_:=⟨b.Clock,b.At⟩
def ofB (p:ByteArray) (b:Beat):Bool:=decide (b.Player=p)
def gK (b:Beat):Beat_:=⟨b.At,b.Clock⟩
theorem Cv (l:List Beat) (p:ByteArray) (back:Bool) (hl:l.length<=1000000):iC l p back=some ((l.filter (ofB p)).map (bif back then gK else gB)):=by
 have run:∀(xs:List Beat) (k:Nat) (acc:List Beat_),acc.length+xs.length<=1000000->eD (λk x s=>dY p back k x s) xs k acc=some (.go (acc++(xs.filter (ofB p)).map (bif back then gK else gB))):=by
  intro xs
  induction xs with
  | nil=>intro k acc _;simp [eD]
  | cons x xs ih =>
   intro k acc hlen
   simp only [List.length_cons]at hlen
   have hst:dY p back k x acc=some (.go (acc++(bif ofB p x then [(bif back then gK else gB) x]else []))):=by
    have hsn:sNe x.Player p = !ofB p x:=zk _ _
    unfold dY
    rw [hsn]
    cases ofB p x with
    | false=>simp
    | true =>
     simp only [Bool.not_true,cond_false,cond_true]
     cases back with
     | true=>simp only [cond_true,kF acc [_] (show acc.length+1<=_ by omega),ob_];rfl
     | false=>simp only [cond_false,kF acc [_] (show acc.length+1<=_ by omega),ob_];rfl
   rw [eD,hst,ob_]
   simp only
   rw [ih _ _ (by cases ofB p x <;> simp <;> omega),List.filter_cons]
   cases ofB p x <;> simp
 unfold iC
 rw [eX (by omega),run l 0 [] (by simpa using hl),ob_,jk,List.nil_append]
def oF (p:ByteArray):Int:=bif keyB p then 0 else 5
def zR (n:Int):Int:=bif jY n then 0 else 1
theorem bnd_of {l:List Beat} {p:ByteArray} (h:∀x∈l,jY x.At=true/\jY x.Clock=true) (back:Bool):BndM ((l.filter (ofB p)).map (bif back then gK else gB)):=by
 intro y hy
 obtain ⟨x,hx,rfl⟩:=List.mem_map.1 hy
 obtain ⟨h1,h2⟩:=h x (List.mem_filter.1 hx).1
 cases back with
 | true=>exact⟨wT h1,wT h2⟩
 | false=>exact⟨wT h2,wT h1⟩
theorem FH (l:List Beat) (p:ByteArray) (n:Int) (back:Bool) (hs:∀x∈l,GoodB x) (hl:l.length<=1000000) (hp:cZ p) :
  ∃k,(or0 (iP l) (or0 (oF p) (zR n))=0->Cut ((l.filter (ofB p)).map (bif back then gK else gB)) n k) /\
   iU l p n back=some (bif or0 (iP l) (or0 (oF p) (zR n))==0 then mapV ((l.filter (ofB p)).map (bif back then gK else gB)) n k else (0,or0 (iP l) (or0 (oF p) (zR n)))):=by
 obtain ⟨k,hk⟩:=cut_ex ((l.filter (ofB p)).map (bif back then gK else gB)) n
 refine⟨k,λ_=>hk,?_⟩
 unfold iU
 simp only [beatsK l hs hl,ob_,qV p (by unfold cZ at hp;omega),og,Cv l p back hl]
 cases hb:iP l==0 with
 | false =>
  have h1:(iP l != 0)=true:=by simp [bne,hb]
  have h2:or0 (iP l) (or0 (oF p) (zR n))=iP l:=by unfold or0;rw [hb];rfl
  simp only [h1,cond_true,h2,hb,cond_false]
 | true =>
  have h1:(iP l != 0)=false:=by simp [bne,hb]
  have h0:iP l=0:=eq_of_beq hb
  have h2:or0 (iP l) (or0 (oF p) (zR n))=or0 (oF p) (zR n):=by rw [h0];rfl
  simp only [h1,cond_false,h2]
  unfold oF zR or0
  cases keyB p with
  | false=>rfl
  | true =>
   simp only [Bool.not_true,cond_false,cond_true]
   cases hm:jY n with
   | false=>rfl
   | true =>
    simp only [Bool.not_true,cond_false,cond_true]
    have hlen:(l.filter (ofB p)).length<=1000000:=Nat.le_trans (List.length_filter_le _ _) hl
    rw [DV hk (bnd_of (FI h0).2 back) (wT hm) (by simpa using hlen)]
    rfl
theorem eta2 {α β:Type} (o:Option (α×β)):(o.bind λr=>some (r.1,r.2))=o:=by cases o <;> rfl
theorem rightA (b:List Beat) (p:ByteArray) (n:Int):ma b p n=iU b p n false:=eta2 _
theorem DL:lh=some true:=by
 unfold lh
 rw [rightA]
 obtain ⟨k,hk,h⟩:=FH ([(⟨(⟨#[112]⟩:ByteArray),0,100⟩:Beat),(⟨(⟨#[112]⟩:ByteArray),1000,1300⟩:Beat)]:List Beat) (⟨#[112]⟩:ByteArray) 700 false
  (by intro x hx;simp only [List.mem_cons,List.not_mem_nil,or_false]at hx;rcases hx with rfl | rfl <;> exact bX rfl) (by simp) (bX rfl)
 rw [h]
 have h0:or0 (iP ([(⟨(⟨#[112]⟩:ByteArray),0,100⟩:Beat),(⟨(⟨#[112]⟩:ByteArray),1000,1300⟩:Beat)]:List Beat)) (or0 (oF (⟨#[112]⟩:ByteArray)) (zR 700))=0:=by decide +kernel
 have hc:=hk h0
 have hf:(([(⟨(⟨#[112]⟩:ByteArray),0,100⟩:Beat),(⟨(⟨#[112]⟩:ByteArray),1000,1300⟩:Beat)]:List Beat).filter (ofB (⟨#[112]⟩:ByteArray))).map (bif false then gK else gB)=[⟨100,0⟩,⟨1300,1000⟩]:=by kernel_rfl
 have hk1:k=1:=by
  rw [hf]at hc
  have h1:=hc.le
  have h2:k<=2:=h1
  by_cases e0:k=0
  ·subst e0;have:=hc.hi (by decide);simp at this
  ·by_cases e2:k=2
   ·subst e2;have:=hc.lo 1 (by decide) (by decide);simp at this
   ·omega
 subst hk1
 rw [h0,hf]
 decide +kernel
end Go.Proofs.YtnfedlledilojaaGreatDoor.Law

