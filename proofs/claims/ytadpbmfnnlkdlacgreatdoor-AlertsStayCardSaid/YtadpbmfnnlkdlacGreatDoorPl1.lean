/-
  THE PLAIN LAW (part 1).
-/
import Derived.Test.YtadpbmfnnlkdlacGreatDoorEng5
import Derived.Test.YtadpbmfnnlkdlacGreatDoorDefs
import Derived.Lib.ItoaLen
namespace Go.Eng
set_option linter.unusedVariables false
set_option linter.unusedSimpArgs false
theorem ja {α σ ρ:Type} {body:Nat->α->σ->Option (Ctl σ ρ)} {xs:List α} {s:σ} (hl:xs.length<=1000000000000):forL xs s body=forR body xs 0 s:=by unfold forL;rw [if_pos hl]
theorem ME {α σ ρ:Type} {body:Nat->α->σ->Option (Ctl σ ρ)} (I:Nat->σ->Prop) (N:Nat):∀(xs:List α) (k:Nat) (s:σ),k+xs.length=N->(∀k x s,x∈xs->k<N->I k s->∃o,body k x s=some (.go o)/\I (k+1) o)->I k s->∃o,forR body xs k s=some (.go o)/\I N o
 | [],k,s,A,h,hi=>⟨s,rfl,by simp only [List.length_nil,Nat.add_zero]at A;rw [<- A];exact hi⟩
 | x::xs,k,s,A,h,hi=>by
  simp only [List.length_cons]at A
  obtain ⟨J,h1,h2⟩:=h k x s (by simp) (by omega) hi
  obtain ⟨F,L,M⟩:=ME I N xs (k+1) J (by omega) (λk x s B=>h k x s (by simp [B])) h2
  exact⟨F,by simp only [forR,h1,ob_];exact L,M⟩
theorem RL {α σ ρ:Type} {body:Nat->α->σ->Option (Ctl σ ρ)} (I:Nat->σ->Prop) {xs:List α} {s:σ} (hl:xs.length<=1000000000000) (h:∀k x s,x∈xs->k<xs.length->I k s->∃o,body k x s=some (.go o)/\I (k+1) o) (A:I 0 s):∃o,forL xs s body=some (.go o)/\I xs.length o:=by
 obtain ⟨o,h1,h2⟩:=ME I xs.length xs 0 s (by omega) h A
 exact⟨o,by rw [ja hl];exact h1,h2⟩
theorem tY {σ ρ τ:Type} (s:σ) (f:σ->Option τ) (g:ρ->Option τ):thenC (.go s) f g=f s:=rfl
theorem QN {σ ρ τ:Type} (r:ρ) (f:σ->Option τ) (g:ρ->Option τ):thenC (.ret r) f g=g r:=rfl
theorem uT {α:Type} (xs:List α) (k:Nat):idx xs (k:Int)=xs[k]? := by simp [idx]
theorem eD {n:Int} (h : -9223372036854775808<=n/\n<=9223372036854775807):w64 n=n:=IC n h
theorem toL (s:ByteArray):s.toList=s.data.toList:=Go.Lib.toList_data s
theorem Dl {a b:ByteArray} (h:a.toList=b.toList):a=b:=by
 rw [toL,toL]at h
 obtain ⟨⟨a⟩⟩:=a
 obtain ⟨⟨b⟩⟩:=b
 simp only at h
 rw [h]
theorem OI (a b:ByteArray):sEq a b=true↔a=b:=by
 simp only [sEq,beq_iff_eq]
 exact⟨Dl,λh=>by rw [h]⟩
theorem ym (a b:ByteArray):sEq a b=decide (a=b):=by
 rw [Bool.eq_iff_iff,OI];simp
theorem uY (a b:ByteArray):sNe a b = !decide (a=b):=by
 have:=ym a b;simp only [sEq,sNe]at *;rw [this]
abbrev bl:=Op.bytesLess
theorem bl_lt:∀(x y:List UInt8),bl x y=decide (x<y)
 | _,[]=>by simp [bl,Op.bytesLess]
 | [],_::_=>by simp [bl,Op.bytesLess]
 | a::x,b::y=>by
  have:=bl_lt x y
  simp only [bl,Op.bytesLess]at this ⊢
  rw [this,Bool.eq_iff_iff]
  simp only [Bool.or_eq_true,decide_eq_true_eq,Bool.and_eq_true,beq_iff_eq,List.cons_lt_cons_iff]
def lt (a b:ByteArray):Prop:=a.toList<b.toList
theorem FY (a b:ByteArray):sLt a b=true↔lt a b:=by
 show bl a.toList b.toList=true↔_
 rw [bl_lt];simp [lt]
theorem gG (a:ByteArray):¬lt a a:=List.lt_irrefl a.toList
theorem lt_trans {a b c:ByteArray} (h:lt a b) (k:lt b c):lt a c:=List.lt_trans h k
theorem vT (a b:ByteArray):lt a b\/a=b\/lt b a:=by
 rcases Classical.em (lt a b)with h|h
 ·exact .inl h
 ·rcases Classical.em (lt b a)with h2|h2
  ·exact .inr (.inr h2)
  ·exact .inr (.inl (Dl (List.le_antisymm (List.not_lt.1 h2) (List.not_lt.1 h))))
theorem O4 (a b:ByteArray):sLe a b=true↔¬lt b a:=by
 have h1:=FY a b
 have h2:=OI a b
 simp only [sLe,Bool.or_eq_true]
 constructor
 ·rintro (h|h)
  ·exact λk=>gG _ (lt_trans (h1.1 h) k)
  ·rw [h2.1 h];exact gG _
 ·intro h
  rcases vT a b with k|k|k
  ·exact .inl (h1.2 k)
  ·exact .inr (h2.2 k)
  ·exact absurd k h
theorem sNe_nil (a:ByteArray):sNe a ⟨#[]⟩=decide (a.size≠0):=by
 rw [uY,Go.Lib.size_eq,Bool.eq_iff_iff]
 simp only [Bool.not_eq_true',decide_eq_false_iff_not,decide_eq_true_eq,ne_eq]
 refine not_congr ⟨λh=>by rw [h];rfl,λh => ?_⟩
 exact Dl (by rw [toL,List.eq_nil_of_length_eq_zero h,toL])
end Go.Eng

open Go Go.Eng
namespace Go.Proofs.YtadpbmfnnlkdlacGreatDoor.Law
set_option linter.unusedVariables false
set_option linter.unusedSimpArgs false
def Ok (s:Stream) (b:Int):Prop:=0<=s.f_at/\s.f_at<=b
theorem Ok.mono {s:Stream} {b c:Int} (h:Ok s b) (hc:b<=c):Ok s c:=⟨h.1,Int.le_trans h.2 hc⟩
theorem Gg (x n:Int) (h:1<=n) (A:n<=4611686018427387904):∃r,wG x n=some r/\0<=r/\r<n:=by
 have h1:x.tmod n<n:=Int.tmod_lt_of_pos x (by omega)
 have h2 : -n<x.tmod n:=Int.lt_tmod_of_pos x (by omega)
 have hb:decide (n<1)=false:=by simp;omega
 have o:n≠0:=by omega
 simp only [wG,hb,cond_false,Nf,if_neg o,ob_]
 cases hd:decide (x.tmod n<0)with
 | true =>
  simp only [decide_eq_true_eq]at hd
  exact⟨_,rfl,by rw [eD (by omega)];omega,by rw [eD (by omega)];omega⟩
 | false =>
  simp only [decide_eq_false_iff_not]at hd
  exact⟨_,rfl,by omega,h1⟩
theorem yU (s:Stream) (n:Int) {b:Int} (hs:Ok s b) (hb:b<=1000000) (h:1<=n) (J:n<=4611686018427387904):∃r I,jh s n=some (r,I)/\0<=r/\r<n/\Ok I (b+1):=by
 obtain ⟨R,h1⟩:=hs
 have X:w64 (s.f_at+1)=s.f_at+1:=eD (by omega)
 have M:w64 (s.f_at+1-1)=s.f_at:=by rw [eD (by omega)];omega
 simp only [jh,X,M]
 by_cases hl:s.L.length=0
 ·have:((s.L.length:Int)==0)=true:=by simp [hl]
  simp only [this,cond_true]
  obtain ⟨r,B,h2,F⟩:=Gg (w64 ((s.f_at+1)*7919)) n h J
  exact⟨r,_,by rw [B];rfl,h2,F,⟨by show 0<=s.f_at+1;omega,by show s.f_at+1<=b+1;omega⟩⟩
 ·have A:(s.L.length:Int)≠0:=by omega
  have:((s.L.length:Int)==0)=false:=by simpa using hl
  simp only [this,cond_false,Nf,OD,if_neg A,ob_]
  have h2:0<=s.f_at.tmod s.L.length:=Int.tmod_nonneg _ R
  have N:(0:Int)<(s.L.length:Int):=by have:=Nat.pos_of_ne_zero hl;omega
  have F:s.f_at.tmod s.L.length<s.L.length:=Int.tmod_lt_of_pos _ N
  have hi:idx s.L (s.f_at.tmod s.L.length)=some s.L[(s.f_at.tmod s.L.length).toNat]:=by
   simp only [idx,if_pos h2]
   exact List.getElem?_eq_getElem (by omega)
  obtain ⟨W,o,_,_⟩:=Gg s.L[(s.f_at.tmod s.L.length).toNat] 1073741824 (by decide) (by decide)
  simp only [hi,o,ob_]
  generalize w64 (W+_)=y
  obtain ⟨r,B,Y,O⟩:=Gg y n h J
  exact⟨r,_,by rw [B];rfl,Y,O,⟨by show 0<=s.f_at+1;omega,by show s.f_at+1<=b+1;omega⟩⟩
theorem Dv (s:Stream) (n:Int) {b:Int} (hs:Ok s b) (hb:b<=1000000) (h:1<=n) (A:n<=1000):∃r o,je s n=some (r,o)/\Ok o (b+1):=by
 obtain ⟨r,o,h1,_,_,h2⟩:=yU s n hs hb h (by omega)
 exact⟨r==0,o,by simp only [je,h1,ob_],h2⟩
theorem Pq {α:Type} {l:List α} {r:Int} (h:0<=r) (h1:r<l.length):∃y,idx l r=some y/\y∈l:=by
 refine⟨l[r.toNat]'(by omega),?_,List.getElem_mem _⟩
 simp only [idx,if_pos h]
 exact List.getElem?_eq_getElem (by omega)
theorem FT (s:Stream) (l:List Int) {b:Int} (hs:Ok s b) (hb:b<=1000000) (h:1<=l.length) (I:l.length<=1000):∃r o,jQ s l=some (r,o)/\r∈l/\Ok o (b+1):=by
 obtain ⟨r,o,h1,h2,A,F⟩:=yU s l.length hs hb (by omega) (by omega)
 obtain ⟨y,B,hm⟩:=Pq h2 A
 exact⟨y,o,by simp only [jQ,h1,B,ob_],hm,F⟩
theorem CB (s:Stream) (l:List ByteArray) {b:Int} (hs:Ok s b) (hb:b<=1000000) (h:1<=l.length) (I:l.length<=1000):∃r o,iH s l=some (r,o)/\r∈l/\Ok o (b+1):=by
 obtain ⟨r,o,h1,h2,A,F⟩:=yU s l.length hs hb (by omega) (by omega)
 obtain ⟨y,B,hm⟩:=Pq h2 A
 exact⟨y,o,by simp only [iH,h1,B,ob_],hm,F⟩
theorem mE (s:Stream) (o hi:Int) {b:Int} (hs:Ok s b) (hb:b<=1000000) (h:o<=hi) (h1 : -1000000000000<=o) (h2:hi<=1000000000000):∃r A,dn s o hi=some (r,A)/\o<=r/\r<=hi/\Ok A (b+1):=by
 have B:decide (hi<o)=false:=by simp;omega
 have L:w64 (hi-o)=hi-o:=eD (by omega)
 have I:w64 (hi-o+1)=hi-o+1:=eD (by omega)
 obtain ⟨r,A,J,M,N,F⟩:=yU s (hi-o+1) hs hb (by omega) (by omega)
 simp only [dn,B,cond_false,L,I,J,ob_]
 exact⟨_,A,rfl,by rw [eD (by omega)];omega,by rw [eD (by omega)];omega,F⟩
end Go.Proofs.YtadpbmfnnlkdlacGreatDoor.Law

open Go Go.Eng
namespace Go.Proofs.YtadpbmfnnlkdlacGreatDoor.Law
set_option linter.unusedVariables false
set_option linter.unusedSimpArgs false
def lowB (b:UInt8):Bool:=decide (97<=b.toNat)&&decide (b.toNat<=122)
def moreB (b:UInt8):Bool:=(decide (48<=b.toNat)&&decide (b.toNat<=57))||(b.toNat==45)||(b.toNat==95)
def okB (i:Nat) (b:UInt8):Bool:=lowB b||(decide (0<i)&&moreB b)
def ut (s:ByteArray) (i:Nat):UInt8:=s.data.toList.getD i 0
def keyB (s:ByteArray):Bool:=decide (s.size≠0)&&(decide (s.size<=40)&&(List.range s.size).all λi=>okB i (ut s i))
theorem Rn (s:ByteArray) (k:Nat) (h:k<s.size):AX s (k:Int)=some (ut s k):=by
 have h1:s[k]? = some s[k]:=by simp [h]
 have h2:ut s k=s[k]:=by
  have hl:k<s.data.toList.length:=by rw [<- Go.Lib.size_eq];exact h
  simp only [ut,List.getD_eq_getElem?_getD,List.getElem?_eq_getElem hl,Option.getD_some]
  simp
  rfl
 simp only [AX,if_pos (Int.natCast_nonneg k),Int.toNat_natCast,h1,h2]
theorem Np (s:ByteArray) (k:Nat) (hs:s.size<=1000000000):lQ s (k:Int)=some (if k<s.size then (bif okB k (ut s k)then .go ((k+1:Nat):Int)else .ret false)else .brk (k:Int)):=by
 unfold lQ
 by_cases h:k<s.size
 ·have o:decide ((k:Int)<(s.size:Int))=true:=by simp;omega
  have A:w64 ((k:Int)+1)=((k+1:Nat):Int):=by rw [eD (by omega)];omega
  simp only [o,cond_true,Rn s k h,ob_,if_pos h,A]
  generalize ut s k=b
  simp only [okB,lowB,moreB]
  have L:decide ((b.toNat:Int)>=97)=decide (97<=b.toNat):=decide_eq_decide.2 (by omega)
  have I:decide ((b.toNat:Int)<=122)=decide (b.toNat<=122):=decide_eq_decide.2 (by omega)
  have B:decide ((k:Int)>0)=decide (0<k):=decide_eq_decide.2 (by omega)
  have F:decide ((b.toNat:Int)>=48)=decide (48<=b.toNat):=decide_eq_decide.2 (by omega)
  have e5:decide ((b.toNat:Int)<=57)=decide (b.toNat<=57):=decide_eq_decide.2 (by omega)
  have e6:((b.toNat:Int)==45)=(b.toNat==45):=by rw [Bool.eq_iff_iff];simp;omega
  have J:((b.toNat:Int)==95)=(b.toNat==95):=by rw [Bool.eq_iff_iff];simp;omega
  rw [L,I,B,F,e5,e6,J]
  cases decide (97<=b.toNat) <;> cases decide (b.toNat<=122) <;> cases decide (0<k) <;> cases decide (48<=b.toNat) <;> cases decide (b.toNat<=57) <;> cases (b.toNat==45) <;> cases (b.toNat==95) <;> rfl
 ·have o:decide ((k:Int)<(s.size:Int))=false:=by simp;omega
  simp only [o,cond_false,if_neg h]
theorem GH (s:ByteArray) (hs:s.size<=1000000000):∀(n k:Nat),k+n=s.size->iterN (λi=>lQ s i) (n+1) (k:Int)=some (bif (List.range' k n).all (λj=>okB j (ut s j))then .go (s.size:Int)else .ret false)
 | 0,k,h=>by
  have o:¬k<s.size:=by omega
  simp only [iterN,Np s k hs,if_neg o,ob_,List.range'_zero,List.all_nil,cond_true]
  rw [show (k:Int)=s.size by omega]
 | n+1,k,h=>by
  have o:k<s.size:=by omega
  rw [iterN,Np s k hs,if_pos o,ob_,List.range'_succ,List.all_cons]
  cases okB k (ut s k)with
  | true=>simp only [cond_true,Bool.true_and];exact GH s hs n (k+1) (by omega)
  | false=>rfl
theorem rD (s:ByteArray) (hs:s.size<=1000000000):kit_IsKey s=some (keyB s):=by
 have h:=jZ (GH s hs s.size 0 (by omega))
 unfold kit_IsKey
 have A:jk (0:Int) (λo=>lQ s o)=_:=h
 rw [A,ob_,<- List.range_eq_range']
 have e:decide ((s.size:Int)<=40)=decide (s.size<=40):=decide_eq_decide.2 (by omega)
 simp only [keyB]
 cases (List.range s.size).all (λi=>okB i (ut s i))with
 | true =>
  rw [cond_true,tY,sNe_nil,e,Bool.and_true]
  cases decide (s.size≠0) <;> rfl
 | false=>simp only [cond_false,QN,Bool.and_false]
end Go.Proofs.YtadpbmfnnlkdlacGreatDoor.Law

open Go Go.Eng
namespace Go.Proofs.YtadpbmfnnlkdlacGreatDoor.Law
set_option linter.unusedVariables false
set_option linter.unusedSimpArgs false
def AP:Int->List Run->Prop
 | _,[]=>True
 | lo,r::h=>lo<r.f_from/\r.f_from<r.f_to/\AP r.f_to h
theorem AP.mono {L:List Run} {A o:Int} (h:AP A L) (hl:o<=A):AP o L:=by
 cases L with
 | nil=>trivial
 | cons r L=>exact⟨by have:=h.1;omega,h.2⟩
def sub (h:Int):Int->List Run->List Run
 | rf,[]=>bif decide (rf<h)then [⟨rf,h⟩]else []
 | rf,q::M=>bif decide (q.f_from<h)then (bif decide (q.f_from>rf)then [⟨rf,q.f_from⟩]else [])++sub h (max rf q.f_to) M else bif decide (rf<h)then [⟨rf,h⟩]else []
end Go.Proofs.YtadpbmfnnlkdlacGreatDoor.Law

namespace Go.Eng
set_option linter.unusedVariables false
set_option linter.unusedSimpArgs false
def PH {α:Type} (cmp:α->α->Option Int) (L:Int) (h:(List α)×Int):Option (Ctl ((List α)×Int) (Unit)) :=
 (bif (decide (h.2>L))then (inR h.2 h.1).bind λ_=>(h.1[(0+(h.2).toNat)]?).bind λJ=>(inR (w64 (h.2-1)) h.1).bind λ_=>(h.1[(0+((w64 (h.2-1))).toNat)]?).bind λA=>(cmp J A).bind λI=>some (decide (I<0))else some false).bind λF=>bif F then (inR (w64 (h.2-1)) h.1).bind λ_=>(h.1[(0+((w64 (h.2-1))).toNat)]?).bind λo=>(inR h.2 h.1).bind λ_=>(h.1[(0+(h.2).toNat)]?).bind λB=>(inR h.2 h.1).bind λ_=>(h.1[(0+(h.2).toNat)]?).bind λN=>(inR (w64 (h.2-1)) (h.1.set (0+(h.2).toNat) o)).bind λ_=>((h.1.set (0+(h.2).toNat) o)[(0+((w64 (h.2-1))).toNat)]?).bind λM=>some (.go (((h.1.set (0+(h.2).toNat) o).set (0+((w64 (h.2-1))).toNat) B),(w64 (h.2-1))))else some (.brk (h.1,h.2))
noncomputable def Mv {α:Type} (cmp:α->α->Option Int) (F:Int) (B:Int) (h:(List α)×Int):Option (Ctl ((List α)×Int) (Unit)) :=
 bif (decide (h.2<F))then (jk (h.1,h.2) (λs=>PH cmp B s)).bind λA=>thenC A (λo=>some (.go (o.1,(w64 (h.2+1))))) (λ_=>none)else some (.brk (h.1,h.2))
noncomputable def NS {α:Type} (cmp:α->α->Option Int) (h:(List α)) (B:Int) (F:Int):Option ((List α)) :=
 (jk (h,(w64 (B+1))) (λs=>Mv cmp F B s)).bind λA=>thenC A (λo=>some o.1) (λ_=>none)
noncomputable def Tz {α:Type} (cmp:α->α->Option Int) (F:Int) (B:Int) (h:(List α)) (o:Int) (I:Unit):Option (Ctl (Unit) ((List α))) :=
 bif (decide ((w64 (F-B))<=12))then (NS cmp h B F).bind λA=>(iQ A h).bind λ_=>some (.ret A)else bif (o==0)then none else none
noncomputable def J5 {α:Type} (cmp:α->α->Option Int) (h:(List α)) (B:Int) (F:Int) (o:Int):Option ((List α)) :=
 (jk () (λs=>Tz cmp F B h o s)).bind λA=>thenC A (λI=>some h) (λr=>some r)
theorem PO {α:Type} (u v:α) (C:List α):∀A:List α,((A++u::v::C).set (A.length+1) u).set A.length v=A++v::u::C
 | []=>rfl
 | a::A=>by simp only [List.cons_append,List.length_cons,List.set_cons_succ,PO u v C A]
theorem get_0 {α:Type} (u:α) (C A:List α):(A++u::C)[A.length]? = some u:=by simp
theorem get_1 {α:Type} (u v:α) (C A:List α):(A++u::v::C)[A.length+1]? = some v:=by
 rw [List.getElem?_append_right (by omega)];simp
theorem TG {α:Type} (u v w:α) (C:List α):∀A:List α,(A++u::v::C).set (A.length+1) w=A++u::w::C
 | []=>rfl
 | a::A=>by simp only [List.cons_append,List.length_cons,List.set_cons_succ,TG u v w C A]
theorem NT {α:Type} {xs:List α} {i:Nat} (h:i<xs.length):inR (i:Int) xs=some ():=by
 unfold inR;rw [if_pos ⟨by omega,by simpa using h⟩]
section
variable {α:Type} {cmp:α->α->Option Int} {le:α->α->Prop} {p:α->Prop}
theorem insL1_s (u v:α) (A C:List α) {c:Int} (hc:cmp v u=some c) (hl:A.length<=1000000000):PH cmp 0 (A++u::v::C,((A.length+1:Nat):Int))=some (bif decide (c<0)then .go (A++v::u::C,(A.length:Int))else .brk (A++u::v::C,((A.length+1:Nat):Int))):=by
 have h:w64 (((A.length+1:Nat):Int)-1)=(A.length:Int):=by rw [IC _ (by omega)];omega
 have h1:inR ((A.length+1:Nat):Int) (A++u::v::C)=some ():=NT (by simp)
 have h2:inR (A.length:Int) (A++u::v::C)=some ():=NT (by simp)
 have F:inR (A.length:Int) (A++u::u::C)=some ():=NT (by simp)
 have B:decide (((A.length+1:Nat):Int)>0)=true:=by simp <;> omega
 have I:0+((A.length+1:Nat):Int).toNat=A.length+1:=by omega
 have o:0+((A.length:Nat):Int).toNat=A.length:=by omega
 unfold PH
 simp only [h,h1,h2,B,I,o,get_0,get_1,ob_,hc,cond_true,TG,F]
 cases decide (c<0)with
 | false=>rfl
 | true =>
  simp only [cond_true]
  have:=PO u v C A
  rw [TG]at this
  rw [this]
theorem Jn (hc:∀a b,p a->p b->∃c,cmp a b=some c/\(c<0->le a b)/\(¬c<0->le b a)) (tr:∀a b c,le a b->le b c->le a c) (v:α) (hv:p v) (R:List α):∀(n:Nat) (A B:List α),A.length=n->n<=1000000000->(∀a∈A,p a)->(A++B).Pairwise le->(∀b∈B,le v b) ->
  ∃L O,iterN (λs=>PH cmp 0 s) (n+1) (A++v::(B++R),(A.length:Int))=some (.go (L++v::(O++R),(L.length:Int)))/\L++O=A++B/\(L++v::O).Pairwise le
 | 0,A,B,N,hn,I,M,hb=>by
  have:A=[]:=List.eq_nil_of_length_eq_zero N
  subst this
  exact⟨[],B,by simp only [List.nil_append,List.length_nil,iterN,Option.bind];rfl,rfl,by simpa using ⟨hb,M⟩⟩
 | n+1,A,B,N,hn,I,M,hb=>by
  rcases List.eq_nil_or_concat A with h|⟨F,u,h⟩
  ·rw [h]at N;cases N
  ·subst h
   simp only [List.concat_eq_append]at N M I ⊢
   have Y:F.length=n:=by simpa using N
   have hl:(F++[u]).length=F.length+1:=by simp
   have e:F++[u]++v::(B++R)=F++u::v::(B++R):=by simp
   obtain ⟨c,h1,h2,h3⟩:=hc v u hv (I u (by simp))
   rw [hl,e,iterN,insL1_s u v F (B++R) h1 (by omega),ob_]
   by_cases hcn:c<0
   ·simp only [decide_eq_true hcn,cond_true]
    have X:(F++(u::B)).Pairwise le:=by simpa using M
    obtain ⟨L,O,k1,k2,k3⟩:=Jn hc tr v hv R n F (u::B) Y (by omega) (λa J=>I a (by simp [J])) X (λb o=>by
     rcases List.mem_cons.1 o with rfl|o
     ·exact h2 hcn
     ·exact hb b o)
    refine⟨L,O,?_,by rw [k2];simp,k3⟩
    rw [<- k1];simp
   ·simp only [decide_eq_false hcn,cond_false]
    refine⟨F++[u],B,by simp,rfl,?_⟩
    have W:=h3 hcn
    rw [List.pairwise_append]at M ⊢
    obtain ⟨Z,p2,p3⟩:=M
    refine⟨Z,List.pairwise_cons.2 ⟨hb,p2⟩,λa J b o => ?_⟩
    rcases List.mem_cons.1 o with rfl|o
    ·rcases List.mem_append.1 J with J|J
     ·rw [List.pairwise_append]at Z
      exact tr _ _ _ (Z.2.2 a J u (by simp)) W
     ·rw [List.mem_singleton]at J;subst J;exact W
    ·exact p3 a J b o
theorem JK (hc:∀a b,p a->p b->∃c,cmp a b=some c/\(c<0->le a b)/\(¬c<0->le b a)) (W:∀a b c,le a b->le b c->le a c):∀(Q P:List α),P.length+Q.length<=1000000000->(∀x∈P++Q,p x)->P.Pairwise le ->
  ∃s,iterN (λs=>Mv cmp ((P.length+Q.length:Nat):Int) 0 s) (Q.length+1) (P++Q,(P.length:Int))=some (.go (s,((P.length+Q.length:Nat):Int)))/\s.Perm (P++Q)/\s.Pairwise le
 | [],P,hl,A,M=>by
  refine⟨P,?_,by simp,M⟩
  have N:decide ((P.length:Int)<((P.length+([]:List α).length:Nat):Int))=false:=by simp
  simp only [iterN,Mv,N,cond_false,ob_,List.append_nil]
  simp
 | v::Q,P,hl,A,M=>by
  simp only [List.length_cons]at hl
  have N:decide ((P.length:Int)<((P.length+(v::Q).length:Nat):Int))=true:=by simp only [decide_eq_true_eq,List.length_cons];omega
  obtain ⟨B,F,X,L,Z⟩:=Jn hc W v (A v (by simp)) Q P.length P [] rfl (by omega) (λa ha=>A a (by simp [ha])) (by simpa using M) (λb hb=>by cases hb)
  rw [List.nil_append]at X
  have J:=jZ X
  rw [List.length_cons,iterN]
  have hw:w64 ((P.length:Int)+1)=((B++v::F).length:Int):=by
   have:=congrArg List.length L
   simp only [List.length_append,List.length_nil]at this
   rw [IC _ (by omega)];simp only [List.length_append,List.length_cons];omega
  have h1:Mv cmp ((P.length+(Q.length+1):Nat):Int) 0 (P++v::Q,(P.length:Int))=some (.go (B++v::(F++Q),((B++v::F).length:Int))):=by
   have O:decide ((P.length:Int)<((P.length+(Q.length+1):Nat):Int))=true:=N
   unfold Mv
   simp only [O,cond_true,J,ob_,thenC,hw]
  have R:(B++v::F).length=P.length+1:=by
   have:=congrArg List.length L
   simp only [List.length_append,List.length_nil,List.length_cons]at this ⊢
   omega
  have hk:(B++F).Perm P:=by rw [L];simp
  have o:(B++v::F).Perm (P++[v]):=(List.perm_middle).trans ((List.Perm.cons v hk).trans (List.perm_append_comm (l₁:=[v]) (l₂:=P)))
  obtain ⟨s,m1,m2,m3⟩:=JK hc W Q (B++v::F) (by omega) (λx I=>by
   rcases List.mem_append.1 I with I|I
   ·have:=o.mem_iff.1 I
    exact A x (by rcases List.mem_append.1 this with h | h <;> simp_all)
   ·exact A x (by simp [I])) Z
  rw [h1,ob_]
  have e:B++v::(F++Q)=(B++v::F)++Q:=by simp
  have Y:P.length+(Q.length+1)=(B++v::F).length+Q.length:=by omega
  simp only
  rw [e,Y]
  refine⟨s,m1,m2.trans ?_,m3⟩
  have:=List.Perm.append_right Q o
  simpa using this
theorem Rz (hc:∀a b,p a->p b->∃c,cmp a b=some c/\(c<0->le a b)/\(¬c<0->le b a)) (N:∀a b c,le a b->le b c->le a c) (l:List α) (hl:l.length<=12) (B:∀x∈l,p x) (h:Int):∃s,J5 cmp l 0 (l.length:Int) h=some s/\s.Perm l/\s.Pairwise le:=by
 have key:∃s,NS cmp l 0 (l.length:Int)=some s/\s.Perm l/\s.Pairwise le:=by
  unfold NS
  have L:w64 (0+1)=1:=rfl
  rw [L]
  cases l with
  | nil=>exact⟨[],by rw [jZ (n:=1) (o := .go ([],1)) rfl];rfl,.nil,.nil⟩
  | cons v Q =>
   obtain ⟨s,F,I,R⟩:=JK hc N Q [v] (by simp only [List.length_cons,List.length_nil]at hl ⊢;omega) (λx J=>B x (by simpa using J)) (List.pairwise_singleton _ _)
   have e:([v].length+Q.length:Nat)=(v::Q).length:=by simp only [List.length_cons,List.length_nil];omega
   rw [e]at F
   have:=jZ F
   refine⟨s,?_,I,R⟩
   show (jk (v::Q,1) _).bind _=_
   have M:(([v]++Q,(([v]:List α).length:Int)):List α×Int)=(v::Q,1):=rfl
   rw [M]at this
   rw [this];rfl
 obtain ⟨s,h1,h2,W⟩:=key
 refine⟨s,?_,h2,W⟩
 have A:iQ s l=some ():=by unfold iQ;rw [if_pos h2.length_eq]
 have O:decide (w64 ((l.length:Int)-0)<=12)=true:=by
  have:(l.length:Int)-0=l.length:=by omega
  rw [this,IC _ (by omega)];simp;omega
 have:jk () (λs=>Tz cmp (l.length:Int) 0 l h s)=some (.ret s):=by
  refine jZ (n:=1) ?_
  simp only [iterN,Tz,O,cond_true,h1,A,ob_]
 unfold J5
 rw [this];rfl
end
end Go.Eng

open Go Go.Eng
namespace Go.Proofs.YtadpbmfnnlkdlacGreatDoor.Law
set_option linter.unusedVariables false
set_option linter.unusedSimpArgs false
theorem kU {α:Type} (xs ys:List α) (h:xs.length+ys.length<=1000000000):mJ xs ys=some (xs++ys):=by unfold mJ;rw [if_pos h]
def Fine (r:Rect):Prop:=(-100000<=r.X/\r.X<=100000)/\(-100000<=r.Y/\r.Y<=100000)/\(1<=r.W/\r.X+r.W<=100000)/\1<=r.H/\r.Y+r.H<=100000
theorem Sj:∀n:Nat,n<=12->∃k,iK (IntKind.u64.wrap (n:Int))=some k:=by
 have h:(List.range 13).all (λn=>(iK (IntKind.u64.wrap (n:Int))).isSome)=true:=by kernel_rfl
 intro n o
 have:=List.all_eq_true.1 h n (by simp;omega)
 exact Option.isSome_iff_exists.1 this
end Go.Proofs.YtadpbmfnnlkdlacGreatDoor.Law

open Go Go.Eng
namespace Go.Proofs.YtadpbmfnnlkdlacGreatDoor.Law
set_option linter.unusedVariables false
set_option linter.unusedSimpArgs false
abbrev SB (l:List UInt8):ByteArray:=⟨l.toArray⟩
theorem sb_of (s:ByteArray):SB s.data.toList=s:=rfl
theorem sb_inj {l m:List UInt8} (h:SB l=SB m):l=m:=by
 have:=congrArg (λs:ByteArray=>s.data.toList) h
 simpa using this
theorem KV {a b:ByteArray} (h:a.data.toList=b.data.toList):a=b:=by rw [<- sb_of a,<- sb_of b,h]
def Med (n:Int):Prop := -1000000000000000<=n/\n<=1000000000000000
theorem itoa_eq {n:Int} (h:Med n):strconv_Itoa n=some (SB (Go.Lib.itoa n)):=by
 unfold strconv_Itoa Pn
 unfold Med at h
 rw [if_pos ⟨by omega,by omega⟩]
theorem MB {n:Int} (h:Med n):(Go.Lib.itoa n).length<=21:=by
 unfold Med at h
 exact Go.Lib.itoa_length_le n (by omega) (by omega)
theorem HZ (h y:List UInt8) (r:List (List UInt8)):Go.Lib.joinTail h (y::r)=h++y++Go.Lib.joinTail h r:=by simp [Go.Lib.joinTail]
theorem MF (h:List UInt8) (m:Nat):∀(r:List (List UInt8)),(∀x∈r,x.length<=m)->(Go.Lib.joinTail h r).length<=r.length*(m+h.length)
 | [],_=>by simp [Go.Lib.joinTail]
 | y::r,o=>by
  rw [HZ,List.length_append,List.length_append,List.length_cons,Nat.add_mul]
  have:=MF h m r (λx A=>o x (List.mem_cons_of_mem _ A))
  have:=o y (by simp)
  omega
theorem Pj (o:List UInt8) (m:Nat):∀(A:List (List UInt8)),(∀x∈A,x.length<=m)->(Go.Lib.join A o).length<=A.length*(m+o.length)
 | [],h=>by simp [Go.Lib.join_nil]
 | x::r,h=>by
  rw [Go.Lib.join_cons,List.length_append,List.length_cons,Nat.add_mul]
  have:=MF o m r (λx B=>h x (List.mem_cons_of_mem _ B))
  have:=h x (by simp)
  omega
theorem SA (A:List (List UInt8)) (o:List UInt8) (m:Nat) (h:∀x∈A,x.length<=m) (hl:A.length<=1000000) (hm:m+o.length<=10000):strings_Join (A.map SB) (SB o)=some (SB (Go.Lib.join A o)):=by
 have h1:=Pj o m A h
 have h2:A.length*(m+o.length)<=1000000*10000:=Nat.mul_le_mul hl hm
 have e:(A.map SB).map (λx=>x.data.toList)=A:=by rw [List.map_map];exact List.map_id' A
 unfold strings_Join OH
 rw [e]
 have B:(SB o).data.toList=o:=rfl
 rw [B,if_pos ⟨by simp;omega,by omega⟩]
theorem EL:∀(l:List Int) (k:Nat) (o:List ByteArray),(∀n∈l,Med n)->l.length+o.length<=1000000->forR (λk x s=>mH k x s) l k o=some (.go (o++l.map λn=>SB (Go.Lib.itoa n)))
 | [],k,o,h,hl=>by simp [forR]
 | n::l,k,o,h,hl=>by
  simp only [List.length_cons]at hl
  have F:=EL l (k+1) (o++[SB (Go.Lib.itoa n)]) (λx B=>h x (List.mem_cons_of_mem _ B)) (by simp;omega)
  have A:mH k n o=some (.go (o++[SB (Go.Lib.itoa n)])):=by
   unfold mH
   rw [itoa_eq (h n (by simp))]
   simp only [ob_]
   rw [kU _ _ (by simp;omega)]
   rfl
  simp only [forR,A,ob_]
  rw [F]
  simp
theorem GK (l:List Int) (h:∀n∈l,Med n) (hl:l.length<=1000000):ou l=some (SB (Go.Lib.join (l.map Go.Lib.itoa) [32])):=by
 unfold ou
 rw [ja (by omega),EL l 0 [] h (by simpa using hl)]
 simp only [ob_,tY,List.nil_append]
 have e:(l.map λn=>SB (Go.Lib.itoa n))=(l.map Go.Lib.itoa).map SB:=by rw [List.map_map];rfl
 rw [e,SA _ [32] 21 (λx o=>by
  obtain ⟨n,A,rfl⟩:=List.mem_map.1 o
  exact MB (h n A)) (by simpa using hl) (by decide)]
 rfl
def KH (b:UInt8):Bool:=decide (48<=b.toNat)&&decide (b.toNat<=57)
def numOf (l:List UInt8):Nat:=l.foldl (λa b=>a*10+(b.toNat-48)) 0
theorem FX {n:Nat} (h:n<10):(UInt8.ofNat (48+n)).toNat=48+n:=by
 rw [UInt8.toNat_ofNat',Nat.mod_eq_of_lt (by omega)]
theorem GM {u:Nat} (h:u<10):Go.Lib.decDigits u=[UInt8.ofNat (48+u)]:=by rw [Go.Lib.decDigits,dif_pos h]
theorem M3 {u:Nat} (h:¬u<10):Go.Lib.decDigits u=Go.Lib.decDigits (u / 10)++[UInt8.ofNat (48+u % 10)]:=by rw [Go.Lib.decDigits,dif_neg h]
theorem Du (u:Nat):(Go.Lib.decDigits u).all KH=true:=by
 induction u using Nat.strongRecOn with
 | ind u o =>
  by_cases h:u<10
  ·rw [GM h]
   have:=FX h
   simp only [List.all_cons,List.all_nil,Bool.and_true,KH,this,Bool.and_eq_true,decide_eq_true_eq]
   omega
  ·rw [M3 h,List.all_append,o (u / 10) (by omega)]
   have:=FX (show u % 10<10 by omega)
   simp only [List.all_cons,List.all_nil,Bool.and_true,Bool.true_and,KH,this,Bool.and_eq_true,decide_eq_true_eq]
   omega
theorem Jl (u:Nat):numOf (Go.Lib.decDigits u)=u:=by
 induction u using Nat.strongRecOn with
 | ind u o =>
  by_cases h:u<10
  ·rw [GM h]
   have:=FX h
   simp only [numOf,List.foldl_cons,List.foldl_nil,this]
   omega
  ·rw [M3 h]
   have:=FX (show u % 10<10 by omega)
   have h2:=o (u / 10) (by omega)
   unfold numOf at h2 ⊢
   rw [List.foldl_append,h2]
   simp only [List.foldl_cons,List.foldl_nil,this]
   omega
theorem Mx {u v:Nat} (h:Go.Lib.decDigits u=Go.Lib.decDigits v):u=v:=by rw [<- Jl u,<- Jl v,h]
theorem LH {n:Int} (h:0<=n):Go.Lib.itoa n=Go.Lib.decDigits n.toNat:=by unfold Go.Lib.itoa;rw [if_neg (by omega)]
theorem Qt {n m:Int} (o:0<=n) (hm:0<=m) (h:Go.Lib.itoa n=Go.Lib.itoa m):n=m:=by
 rw [LH o,LH hm]at h
 have:=Mx h
 omega
theorem K9 {c:UInt8} (hc:KH c=false) {l:List UInt8} (h:l.all KH=true):c∉l:=λhm=>by
 have:=List.all_eq_true.1 h c hm
 rw [hc]at this;cases this
theorem itoa_no {n:Int} (h:0<=n) {c:UInt8} (hc:KH c=false):c∉Go.Lib.itoa n:=by rw [LH h];exact K9 hc (Du _)
theorem wS {c:UInt8}:∀{a b x y:List UInt8},c∉a->c∉b->a++c::x=b++c::y->a=b/\x=y
 | [],[],x,y,_,_,h=>⟨rfl,by simpa using h⟩
 | [],b::bs,x,y,_,hb,h=>by
  simp only [List.nil_append,List.cons_append,List.cons.injEq]at h
  exact absurd (List.mem_cons.2 (.inl h.1)) hb
 | a::r,[],x,y,o,_,h=>by
  simp only [List.nil_append,List.cons_append,List.cons.injEq]at h
  exact absurd (List.mem_cons.2 (.inl h.1.symm)) o
 | a::r,b::bs,x,y,o,hb,h=>by
  simp only [List.cons_append,List.cons.injEq]at h
  obtain ⟨h1,h2⟩:=wS (λhm=>o (List.mem_cons_of_mem _ hm)) (λhm=>hb (List.mem_cons_of_mem _ hm)) h.2
  exact⟨by rw [h.1,h1],h2⟩
theorem key_all {s:ByteArray} (h:keyB s=true):∀b∈s.data.toList,okB 1 b=true:=λb hb=>by
 simp only [keyB,Bool.and_eq_true,List.all_eq_true]at h
 obtain ⟨i,hi,rfl⟩:=List.getElem_of_mem hb
 have hs:i<s.size:=by rw [Go.Lib.size_eq];exact hi
 have:=h.2.2 i (by simpa using hs)
 have e:ut s i=s.data.toList[i]:=by
  simp only [ut,List.getD_eq_getElem?_getD,List.getElem?_eq_getElem hi,Option.getD_some]
 rw [e]at this
 simp only [okB,Bool.or_eq_true,Bool.and_eq_true]at this ⊢
 rcases this with k|k
 ·exact .inl k
 ·exact .inr ⟨by decide,k.2⟩
theorem DJ {s:ByteArray} (h:keyB s=true) {c:UInt8} (hc:okB 1 c=false):c∉s.data.toList:=λhm=>by
 have:=key_all h c hm
 rw [hc]at this;cases this
end Go.Proofs.YtadpbmfnnlkdlacGreatDoor.Law

open Go Go.Eng
namespace Go.Proofs.YtadpbmfnnlkdlacGreatDoor.Law
set_option linter.unusedVariables false
set_option linter.unusedSimpArgs false
theorem sb_app (l m:List UInt8):SB l++SB m=SB (l++m):=by
 apply Dl;rw [toL,toL];simp
theorem OJ (l:List UInt8):(SB l).size=l.length:=by show l.toArray.size=_;simp
theorem xJ (l m:List UInt8) (h:l.length+m.length<=1000000000000):pJ (SB l) (SB m)=some (SB (l++m)):=by
 rw [<- sb_app]
 unfold pJ
 rw [if_neg]
 have:IntKind.i64.max=9223372036854775807:=by decide
 rw [this,OJ,OJ];omega
theorem itoa_neg {n:Int} (h:n<0):Go.Lib.itoa n=45::Go.Lib.decDigits n.natAbs:=by unfold Go.Lib.itoa;rw [if_pos h]
theorem MR {n m:Int} (h:Go.Lib.itoa n=Go.Lib.itoa m):n=m:=by
 have o:KH 45=false:=by decide
 by_cases hn:0<=n <;> by_cases hm:0<=m
 ·exact Qt hn hm h
 ·rw [LH hn,itoa_neg (show m<0 by omega)]at h
  exact absurd (by rw [h];simp) (K9 o (Du n.toNat))
 ·rw [LH hm,itoa_neg (show n<0 by omega)]at h
  exact absurd (by rw [<- h];simp) (K9 o (Du m.toNat))
 ·rw [itoa_neg (show n<0 by omega),itoa_neg (show m<0 by omega),List.cons.injEq]at h
  have:=Mx h.2
  omega
theorem CW (n:Int) {c:UInt8} (hc:KH c=false) (o:c≠45):c∉Go.Lib.itoa n:=by
 by_cases hn:0<=n
 ·exact itoa_no hn hc
 ·rw [itoa_neg (show n<0 by omega)]
  intro hm
  rcases List.mem_cons.1 hm with h|h
  ·exact o h
  ·exact K9 hc (Du _) h
theorem join2' (x y:List UInt8) (r:List (List UInt8)) (h:List UInt8):Go.Lib.join (x::y::r) h=x++(h++Go.Lib.join (y::r) h):=by
 rw [Go.Lib.join_cons,HZ,Go.Lib.join_cons,List.append_assoc]
theorem Oy (n m:Int) (r:List Int):Go.Lib.join ((n::m::r).map Go.Lib.itoa) [32]=Go.Lib.itoa n++32::Go.Lib.join ((m::r).map Go.Lib.itoa) [32]:=by
 simp only [List.map_cons,join2'];rfl
theorem D5:∀{l m:List Int},l.length=m.length->Go.Lib.join (l.map Go.Lib.itoa) [32]=Go.Lib.join (m.map Go.Lib.itoa) [32]->l=m
 | [],[],_,_=>rfl
 | [n],[m],_,h=>by
  simp only [List.map_cons,List.map_nil,Go.Lib.join_one]at h
  rw [MR h]
 | n::A::l,m::o::r,hl,h=>by
  rw [Oy,Oy]at h
  obtain ⟨h1,h2⟩:=wS (CW n (by decide) (by decide)) (CW m (by decide) (by decide)) h
  rw [MR h1,D5 (l:=A::l) (m:=o::r) (by simpa using hl) h2]
 | [],_::_,hl,_=>by simp at hl
 | _::_,[],hl,_=>by simp at hl
 | [_],_::_::_,hl,_=>by simp at hl
 | _::_::_,[_],hl,_=>by simp at hl
theorem Dj {c:UInt8} (hc:KH c=false) (o:c≠45) (A:c≠32):∀l:List Int,c∉Go.Lib.join (l.map Go.Lib.itoa) [32]
 | []=>by simp [Go.Lib.join_nil]
 | [n]=>by
  simp only [List.map_cons,List.map_nil,Go.Lib.join_one]
  exact CW n hc o
 | n::m::r=>by
  rw [Oy]
  intro h
  rcases List.mem_append.1 h with h|h
  ·exact CW n hc o h
  ·rcases List.mem_cons.1 h with h|h
   ·exact A h
   ·exact Dj hc o A (m::r) h
theorem IM (l:List Int) (h:∀n∈l,Med n):(Go.Lib.join (l.map Go.Lib.itoa) [32]).length<=l.length*22:=by
 have:=Pj [32] 21 (l.map Go.Lib.itoa) (λx o=>by
  obtain ⟨n,A,rfl⟩:=List.mem_map.1 o
  exact MB (h n A))
 simpa using this
end Go.Proofs.YtadpbmfnnlkdlacGreatDoor.Law

open Go Go.Eng
namespace Go.Proofs.YtadpbmfnnlkdlacGreatDoor.Law
set_option linter.unusedVariables false
set_option linter.unusedSimpArgs false
def qo (n h hi:Int):Bool:=decide (n<h)||decide (n>hi)
theorem rW (n h hi:Int):aY n h hi=some (qo n h hi):=by
 unfold aY qo
 cases decide (n<h) <;> cases decide (n>hi) <;> rfl
theorem BG {n o hi:Int} (h:qo n o hi=false):o<=n/\n<=hi:=by
 simp only [qo,Bool.or_eq_false_iff,decide_eq_false_iff_not]at h;omega
theorem tq {n o hi:Int} (h:o<=n/\n<=hi):qo n o hi=false:=by
 simp only [qo,Bool.or_eq_false_iff,decide_eq_false_iff_not];omega
def Ky (r:Rect):Bool:=qo r.X (-100000) 100000||qo r.Y (-100000) 100000||qo r.W 1 (w64 (100000-r.X))||qo r.H 1 (w64 (100000-r.Y))
theorem Cx (r:Rect):jI r=some (bif Ky r then 1 else 0):=by
 unfold jI Ky
 simp only [rW,ob_]
 cases qo r.X (-100000) 100000 <;> cases qo r.Y (-100000) 100000 <;> cases qo r.W 1 (w64 (100000-r.X)) <;> cases qo r.H 1 (w64 (100000-r.Y)) <;> rfl
end Go.Proofs.YtadpbmfnnlkdlacGreatDoor.Law

open Go Go.Eng
namespace Go.Proofs.YtadpbmfnnlkdlacGreatDoor.Law
set_option linter.unusedVariables false
set_option linter.unusedSimpArgs false
end Go.Proofs.YtadpbmfnnlkdlacGreatDoor.Law

open Go Go.Eng
namespace Go.Proofs.YtadpbmfnnlkdlacGreatDoor.Law
set_option linter.unusedVariables false
set_option linter.unusedSimpArgs false
def dd:List Int->List Int
 | []=>[]
 | [x]=>[x]
 | x::y::l=>bif x==y then dd (y::l)else x::dd (y::l)
theorem OW (x:Int):∀(l:List Int) (b:Int),l.getLast? = some b->dd (l++[x])=bif b==x then dd l else dd l++[x]
 | [],b,h=>by cases h
 | [a],b,h=>by
  simp only [List.getLast?_singleton,so_]at h
  subst h
  simp only [List.cons_append,List.nil_append,dd]
  cases hx:a==x with
  | true=>rw [eq_of_beq hx]
  | false=>rfl
 | a::c::l,b,h=>by
  have o:=OW x (c::l) b (by rw [<- h];simp [List.getLast?_cons_cons])
  simp only [List.cons_append]at o ⊢
  rw [dd,o,dd]
  cases a==c <;> cases b==x <;> rfl
theorem OO (s:List Int) (p:Nat) (a b:Int) (A:1<=p) (h:s[p]? = some a) (hb:s[p-1]? = some b):dd (s.take (p+1))=bif b==a then dd (s.take p)else dd (s.take p)++[a]:=by
 have o:=(List.getElem?_eq_some_iff.1 h).1
 have e:s.take (p+1)=s.take p++[a]:=by rw [List.take_add_one,h];rfl
 rw [e]
 refine OW a _ b ?_
 rw [List.getLast?_eq_getElem?,List.length_take,List.getElem?_take,if_pos (by omega),<- hb]
 congr 1;omega
theorem KW (x:Int):∀l:List Int,x∈dd l↔x∈l
 | []=>Iff.rfl
 | [a]=>Iff.rfl
 | a::b::l=>by
  rw [dd]
  cases h:a==b with
  | true =>
   rw [cond_true,KW x (b::l),eq_of_beq h];simp
  | false=>rw [cond_false,List.mem_cons,KW x (b::l),List.mem_cons (a:=x) (b:=a)]
theorem J9:∀l:List Int,l.Pairwise (· <= ·)->(dd l).Pairwise (· < ·)
 | [],_ => .nil
 | [a],_=>List.pairwise_singleton _ _
 | a::b::l,h=>by
  rw [dd]
  obtain ⟨h1,h2⟩:=List.pairwise_cons.1 h
  cases hx:a==b with
  | true=>exact J9 (b::l) h2
  | false =>
   refine List.pairwise_cons.2 ⟨λc hc => ?_,J9 (b::l) h2⟩
   have hc:=(KW c (b::l)).1 hc
   have o:a<b:=by
    have:=h1 b (by simp)
    have A:a≠b:=by simpa using hx
    omega
   rcases List.mem_cons.1 hc with rfl|hc
   ·exact o
   ·have:=(List.pairwise_cons.1 h2).1 c hc;omega
theorem Tc:∀l:List Int,(dd l).length<=l.length
 | []=>Nat.le_refl _
 | [a]=>Nat.le_refl _
 | a::b::l=>by
  have:=Tc (b::l)
  rw [dd]
  cases a==b with
  | true=>rw [cond_true];simp only [List.length_cons]at *;omega
  | false=>rw [cond_false];simp only [List.length_cons]at *;omega
theorem TI {i:Int} {n:Nat} (h:0<=i) (h1:i<n):inN i n=some ():=by unfold inN;rw [if_pos ⟨h,by omega⟩]
theorem La {α:Type} {xs:List α} {i:Nat} (h:i<xs.length):inR (i:Int) xs=some ():=by
 unfold inR;rw [if_pos ⟨by omega,by simpa using h⟩]
theorem comp_L1 (s data:List Int) (h i2 k:Nat) (a b:Int) (O:s.length<=1000000000) (X:data.length=s.length) (h1:1<=i2) (R:h+i2<s.length) (W:k<s.length) (L:data[h+i2]? = some a) (hb:data[h+i2-1]? = some b) :
  bX s (h:Int) (data,(k:Int),(i2:Int))=some (.go (bif b==a then (data,(k:Int),((i2+1:Nat):Int))else (data.set k a,((k+1:Nat):Int),((i2+1:Nat):Int)))):=by
 unfold bX
 have I:((s.length:Int).toNat-(h:Int).toNat)=s.length-h:=by omega
 have hc:decide ((i2:Int)<((s.length-h:Nat):Int))=true:=by simp;omega
 have M:w64 ((i2:Int)-1)=((i2-1:Nat):Int):=by rw [eD (by omega)];omega
 have A:w64 ((i2:Int)+1)=((i2+1:Nat):Int):=by rw [eD (by omega)];omega
 have o:w64 ((k:Int)+1)=((k+1:Nat):Int):=by rw [eD (by omega)];omega
 have J:inN (i2:Int) (s.length-h)=some ():=TI (by omega) (by omega)
 have i3:inN ((i2-1:Nat):Int) (s.length-h)=some ():=TI (by omega) (by omega)
 have i4:inR (k:Int) data=some ():=La (by omega)
 have g1:(h:Int).toNat+(i2:Int).toNat=h+i2:=by omega
 have N:(h:Int).toNat+((i2-1:Nat):Int).toNat=h+i2-1:=by omega
 have g3:0+(k:Int).toNat=k:=by omega
 have F:data[k]? = some data[k]:=List.getElem?_eq_getElem (by omega)
 simp only [I,hc,cond_true,M,A,o,J,i3,i4,g1,N,g3,ob_,L,hb,F]
 have B:(a != b) = !(b==a):=by rw [bne_comm];rfl
 rw [B]
 cases b==a <;> rfl
theorem Ck (s:List Int) (h:Nat) (L:s.length<=1000000000):∀(m i2 k:Nat) (data:List Int),h+i2+m=s.length->1<=i2->data.length=s.length->k<=h+i2-1->data.take k=dd (s.take (h+i2))->data.drop (h+i2-1)=s.drop (h+i2-1) ->
  ∃(o:List Int) (k':Nat),iterN (λt=>bX s (h:Int) t) (m+1) (data,(k:Int),(i2:Int))=some (.go (o,(k':Int),((s.length-h:Nat):Int)))/\o.length=s.length/\k'<=s.length/\o.take k'=dd s
 | 0,i2,k,data,hm,h1,B,R,ht,F=>by
  refine⟨data,k,?_,B,by omega,?_⟩
  ·have O:((s.length:Int).toNat-(h:Int).toNat)=s.length-h:=by omega
   have hc:decide ((i2:Int)<((s.length-h:Nat):Int))=false:=by simp;omega
   simp only [iterN,bX,O,hc,cond_false,ob_]
   rw [show s.length-h=i2 by omega]
  ·rw [ht,show h+i2=s.length by omega,List.take_length]
 | m+1,i2,k,data,hm,h1,B,R,ht,F=>by
  have I:h+i2<s.length:=by omega
  have N:data[h+i2]? = some s[h+i2]:=by
   have:=congrArg (λl=>l[1]?) F
   simp only [List.getElem?_drop]at this
   rw [show h+i2-1+1=h+i2 by omega]at this
   rw [this,List.getElem?_eq_getElem I]
  have M:data[h+i2-1]? = some (s[h+i2-1]'(by omega)):=by
   have:=congrArg (λl=>l[0]?) F
   simp only [List.getElem?_drop,Nat.add_zero]at this
   rw [this,List.getElem?_eq_getElem (by omega)]
  have A:=OO s (h+i2) s[h+i2] (s[h+i2-1]'(by omega)) (by omega) (List.getElem?_eq_getElem I) (List.getElem?_eq_getElem (by omega))
  rw [iterN,comp_L1 s data h i2 k _ _ L B h1 I (by omega) N M,ob_]
  cases hx:s[h+i2-1]'(by omega)==s[h+i2]with
  | true =>
   rw [hx,cond_true]at A
   simp only [cond_true]
   refine Ck s h L m (i2+1) k data (by omega) (by omega) B (by omega) (by rw [ht,<- A];rfl) ?_
   have:=congrArg (List.drop 1) F
   simp only [List.drop_drop]at this
   rw [show h+i2-1+1=h+(i2+1)-1 by omega]at this
   exact this
  | false =>
   rw [hx,cond_false]at A
   simp only [cond_false]
   have J:k<data.length:=by omega
   refine Ck s h L m (i2+1) (k+1) (data.set k s[h+i2]) (by omega) (by omega) (by simpa using B) (by omega) ?_ ?_
   ·rw [List.take_add_one,List.getElem?_set_self J,List.take_set_of_le (Nat.le_refl _),ht]
    show _=dd (s.take (h+i2+1))
    rw [A];rfl
   ·rw [List.drop_set_of_lt (by omega)]
    have:=congrArg (List.drop 1) F
    simp only [List.drop_drop]at this
    rw [show h+i2-1+1=h+(i2+1)-1 by omega]at this
    exact this
theorem IE (s:List Int) (hn:s.length<=1000000000):∀(m i:Nat),i+m=s.length->1<=i->dd (s.take i)=s.take i ->
  (iterN (λt=>bz s t) (m+1) (i:Int)=some (.go (s.length:Int))/\dd s=s)\/iterN (λt=>bz s t) (m+1) (i:Int)=some (.ret (dd s))
 | 0,i,hm,h1,M=>by
  refine .inl ⟨?_,?_⟩
  ·have hc:decide ((i:Int)<(s.length:Int))=false:=by simp;omega
   simp only [iterN,bz,hc,cond_false,ob_]
   rw [show i=s.length by omega]
  ·rw [show i=s.length by omega,List.take_length]at M;exact M
 | m+1,i,hm,h1,M=>by
  have hi:i<s.length:=by omega
  have hc:decide ((i:Int)<(s.length:Int))=true:=by simp;omega
  have hw:w64 ((i:Int)-1)=((i-1:Nat):Int):=by rw [eD (by omega)];omega
  have R:w64 ((i:Int)+1)=((i+1:Nat):Int):=by rw [eD (by omega)];omega
  have Z:0+(i:Int).toNat=i:=by omega
  have X:0+((i-1:Nat):Int).toNat=i-1:=by omega
  have B:s[i]? = some s[i]:=List.getElem?_eq_getElem hi
  have F:s[i-1]? = some (s[i-1]'(by omega)):=List.getElem?_eq_getElem (by omega)
  have A:=OO s i s[i] (s[i-1]'(by omega)) h1 B F
  have Y:inR (i:Int) s=some ():=La hi
  have i2:inR ((i-1:Nat):Int) s=some ():=La (by omega)
  rw [iterN]
  have o:(s[i]==s[i-1]'(by omega))=(s[i-1]'(by omega)==s[i]):=by rw [BEq.comm]
  cases hx:s[i-1]'(by omega)==s[i]with
  | false =>
   have:bz s (i:Int)=some (.go ((i+1:Nat):Int)):=by
    unfold bz
    simp only [hc,cond_true,hw,R,Z,X,Y,i2,B,F,ob_,o,hx,cond_false]
   rw [this,ob_]
   rw [hx,cond_false,M]at A
   refine IE s hn m (i+1) (by omega) (by omega) ?_
   rw [A,List.take_add_one,B];rfl
  | true =>
   right
   rw [hx,cond_true,M]at A
   obtain ⟨h,k',q1,q2,q3,q4⟩:=Ck s i hn (s.length-(i+1)) 1 i s (by omega) (by omega) rfl (by omega) A.symm rfl
   have J:=jZ q1
   have W:neL s=some ():=by
    cases s with
    | nil=>simp at hi
    | cons a l=>rfl
   have O:rY s (i:Int) (s.length:Int)=some ():=by unfold rY;rw [if_pos ⟨by omega,by omega,by omega,by omega⟩]
   have N:rY h (k':Int) (h.length:Int)=some ():=by unfold rY;rw [if_pos ⟨by omega,by omega,by omega,by omega⟩]
   have L:(h.take k'++List.replicate (h.length-k') (0:Int)++h.drop (k'+(h.length-k'))).length=h.length:=by simp;omega
   have I:rY (h.take k'++List.replicate (h.length-k') (0:Int)++h.drop (k'+(h.length-k'))) 0 (k':Int)=some ():=by unfold rY;rw [if_pos ⟨by omega,by omega,by omega,by rw [L];omega⟩]
   have n1:((h.length:Int)).toNat=h.length:=by omega
   have n2:(k':Int).toNat=k':=by omega
   have:bz s (i:Int)=some (.ret (dd s)):=by
    unfold bz
    have one:((1:Nat):Int)=1:=rfl
    rw [one]at J
    simp only [hc,cond_true,hw,Z,X,Y,i2,B,F,ob_,o,hx,W,O,J,thenC,N,n1,n2,I]
    congr 2
    show List.take k' (List.drop 0 _)=dd s
    rw [List.drop_zero,List.append_assoc,List.take_append_of_le_length (by rw [List.length_take];omega),List.take_take,Nat.min_self,q4]
   rw [this];rfl
theorem Nt (s:List Int) (A:s.length<=1000000000):dJ s=some (dd s):=by
 unfold dJ
 by_cases h:(s.length:Int)<2
 ·rw [decide_eq_true h,cond_true]
  match s,h with
  | [],_=>rfl
  | [a],_=>rfl
  | a::b::l,h=>simp at h;omega
 ·rw [decide_eq_false h,cond_false]
  have h1:dd (s.take 1)=s.take 1:=by
   match s with
   | []=>rfl
   | a::l=>rfl
  rcases IE s A (s.length-1) 1 (by omega) (Nat.le_refl _) h1 with⟨h2,o⟩|h2
  ·have:=jZ h2
   show (jk 1 _).bind _=_
   rw [show ((1:Nat):Int)=1 from rfl]at this
   rw [this,o];rfl
  ·have:=jZ h2
   show (jk 1 _).bind _=_
   rw [show ((1:Nat):Int)=1 from rfl]at this
   rw [this];rfl
theorem uM (e:List Int) (h:e.length<=1000000000):∃s c,fH e=some s/\s.length=e.length/\dJ s=some c/\c.Pairwise (· < ·)/\(∀x,x∈c↔x∈e)/\c.length<=e.length:=by
 have hs:fH e=some (e.mergeSort λx y=>decide (x<=y)):=by
  unfold fH LC;rw [if_pos (by omega)]
 have hl:(e.mergeSort λx y=>decide (x<=y)).length=e.length:=List.length_mergeSort e
 refine⟨_,_,hs,hl,Nt _ (by rw [hl];exact h),J9 _ ?_,λx => ?_,by rw [<- hl];exact Tc _⟩
 ·have:=List.pairwise_mergeSort (le:=λ(x y:Int)=>decide (x<=y)) (λa b c=>by simp;omega) (λa b=>by simp;omega) e
  exact this.imp (by simp)
 ·rw [KW];exact List.mem_mergeSort
end Go.Proofs.YtadpbmfnnlkdlacGreatDoor.Law

open Go Go.Eng
namespace Go.Proofs.YtadpbmfnnlkdlacGreatDoor.Law
set_option linter.unusedVariables false
set_option linter.unusedSimpArgs false
section
variable {is:Int->Int->Option Bool} {xs ys:List Int} {s13:(List Rect)×(List Rect)×Int} {y y2:Int} {j:Nat}
end
end Go.Proofs.YtadpbmfnnlkdlacGreatDoor.Law

