/-
  THE PLAIN LAW (part 1).
-/
import Derived.Test.YtadpbmfnnlkdlacGreatDoorEng5
import Derived.Test.YtadpbmfnnlkdlacGreatDoorDefs
import Derived.Lib.ItoaLen
namespace Go.Eng
set_option linter.unusedVariables false
set_option linter.unusedSimpArgs false
theorem je {α σ ρ:Type} {body:Nat->α->σ->Option (Ctl σ ρ)} {xs:List α} {s:σ} (hl:xs.length<=1000000000000):forL xs s body=forR body xs 0 s:=by unfold forL;rw [if_pos hl]
theorem Mq {α σ ρ:Type} {body:Nat->α->σ->Option (Ctl σ ρ)} (I:Nat->σ->Prop) (N:Nat):∀(xs:List α) (k:Nat) (s:σ),k+xs.length=N->(∀k x s,x∈xs->k<N->I k s->∃o,body k x s=some (.go o)/\I (k+1) o)->I k s->∃o,forR body xs k s=some (.go o)/\I N o
 | [],k,s,A,h,hi=>⟨s,rfl,by simp only [List.length_nil,Nat.add_zero]at A;rw [<- A];exact hi⟩
 | x::xs,k,s,A,h,hi=>by
  simp only [List.length_cons]at A
  obtain ⟨F,h1,h2⟩:=h k x s (by simp) (by omega) hi
  obtain ⟨B,J,M⟩:=Mq I N xs (k+1) F (by omega) (λk x s L=>h k x s (by simp [L])) h2
  exact⟨B,by simp only [forR,h1,ob_];exact J,M⟩
theorem Sq {α σ ρ:Type} {body:Nat->α->σ->Option (Ctl σ ρ)} (I:Nat->σ->Prop) {xs:List α} {s:σ} (hl:xs.length<=1000000000000) (h:∀k x s,x∈xs->k<xs.length->I k s->∃o,body k x s=some (.go o)/\I (k+1) o) (A:I 0 s):∃o,forL xs s body=some (.go o)/\I xs.length o:=by
 obtain ⟨o,h1,h2⟩:=Mq I xs.length xs 0 s (by omega) h A
 exact⟨o,by rw [je hl];exact h1,h2⟩
theorem tN {σ ρ τ:Type} (s:σ) (f:σ->Option τ) (g:ρ->Option τ):thenC (.go s) f g=f s:=rfl
theorem Qb {σ ρ τ:Type} (r:ρ) (f:σ->Option τ) (g:ρ->Option τ):thenC (.ret r) f g=g r:=rfl
theorem wW {α:Type} (xs:List α) (k:Nat):idx xs (k:Int)=xs[k]? := by simp [idx]
theorem fG {n:Int} (h : -9223372036854775808<=n/\n<=9223372036854775807):w64 n=n:=Ga n h
theorem toL (s:ByteArray):s.toList=s.data.toList:=Go.Lib.toList_data s
theorem CY {a b:ByteArray} (h:a.toList=b.toList):a=b:=by
 rw [toL,toL]at h
 obtain ⟨⟨a⟩⟩:=a
 obtain ⟨⟨b⟩⟩:=b
 simp only at h
 rw [h]
theorem Po (a b:ByteArray):sEq a b=true↔a=b:=by
 simp only [sEq,beq_iff_eq]
 exact⟨CY,λh=>by rw [h]⟩
theorem yK (a b:ByteArray):sEq a b=decide (a=b):=by
 rw [Bool.eq_iff_iff,Po];simp
theorem AA (a b:ByteArray):sNe a b = !decide (a=b):=by
 have:=yK a b;simp only [sEq,sNe]at *;rw [this]
abbrev bl:=Op.bytesLess
theorem bl_lt:∀(x y:List UInt8),bl x y=decide (x<y)
 | _,[]=>by simp [bl,Op.bytesLess]
 | [],_::_=>by simp [bl,Op.bytesLess]
 | a::x,b::y=>by
  have:=bl_lt x y
  simp only [bl,Op.bytesLess]at this ⊢
  rw [this,Bool.eq_iff_iff]
  simp only [Bool.or_eq_true,decide_eq_true_eq,Bool.and_eq_true,beq_iff_eq,List.cons_lt_cons_iff]
def lt (a b:ByteArray):Prop:=a.toList<b.toList
theorem FQ (a b:ByteArray):sLt a b=true↔lt a b:=by
 show bl a.toList b.toList=true↔_
 rw [bl_lt];simp [lt]
theorem gy (a:ByteArray):¬lt a a:=List.lt_irrefl a.toList
theorem lt_trans {a b c:ByteArray} (h:lt a b) (k:lt b c):lt a c:=List.lt_trans h k
theorem vK (a b:ByteArray):lt a b\/a=b\/lt b a:=by
 rcases Classical.em (lt a b)with h|h
 ·exact .inl h
 ·rcases Classical.em (lt b a)with h2|h2
  ·exact .inr (.inr h2)
  ·exact .inr (.inl (CY (List.le_antisymm (List.not_lt.1 h2) (List.not_lt.1 h))))
theorem PD (a b:ByteArray):sLe a b=true↔¬lt b a:=by
 have h1:=FQ a b
 have h2:=Po a b
 simp only [sLe,Bool.or_eq_true]
 constructor
 ·rintro (h|h)
  ·exact λk=>gy _ (lt_trans (h1.1 h) k)
  ·rw [h2.1 h];exact gy _
 ·intro h
  rcases vK a b with k|k|k
  ·exact .inl (h1.2 k)
  ·exact .inr (h2.2 k)
  ·exact absurd k h
theorem sNe_nil (a:ByteArray):sNe a ⟨#[]⟩=decide (a.size≠0):=by
 rw [AA,Go.Lib.size_eq,Bool.eq_iff_iff]
 simp only [Bool.not_eq_true',decide_eq_false_iff_not,decide_eq_true_eq,ne_eq]
 refine not_congr ⟨λh=>by rw [h];rfl,λh => ?_⟩
 exact CY (by rw [toL,List.eq_nil_of_length_eq_zero h,toL])
end Go.Eng

open Go Go.Eng
namespace Go.Proofs.YtadpbmfnnlkdlacGreatDoor.Law
set_option linter.unusedVariables false
set_option linter.unusedSimpArgs false
def Ok (s:Stream) (b:Int):Prop:=0<=s.f_at/\s.f_at<=b
theorem Ok.mono {s:Stream} {b c:Int} (h:Ok s b) (hc:b<=c):Ok s c:=⟨h.1,Int.le_trans h.2 hc⟩
theorem Ha (x n:Int) (h:1<=n) (A:n<=4611686018427387904):∃r,ve x n=some r/\0<=r/\r<n:=by
 have h1:x.tmod n<n:=Int.tmod_lt_of_pos x (by omega)
 have h2 : -n<x.tmod n:=Int.lt_tmod_of_pos x (by omega)
 have hb:decide (n<1)=false:=by simp;omega
 have o:n≠0:=by omega
 simp only [ve,hb,cond_false,MP,if_neg o,ob_]
 cases hd:decide (x.tmod n<0)with
 | true =>
  simp only [decide_eq_true_eq]at hd
  exact⟨_,rfl,by rw [fG (by omega)];omega,by rw [fG (by omega)];omega⟩
 | false =>
  simp only [decide_eq_false_iff_not]at hd
  exact⟨_,rfl,by omega,h1⟩
theorem yX (s:Stream) (n:Int) {b:Int} (hs:Ok s b) (hb:b<=1000000) (h:1<=n) (F:n<=4611686018427387904):∃r I,jd s n=some (r,I)/\0<=r/\r<n/\Ok I (b+1):=by
 obtain ⟨M,h1⟩:=hs
 have N:w64 (s.f_at+1)=s.f_at+1:=fG (by omega)
 have R:w64 (s.f_at+1-1)=s.f_at:=by rw [fG (by omega)];omega
 simp only [jd,N,R]
 by_cases hl:s.L.length=0
 ·have:((s.L.length:Int)==0)=true:=by simp [hl]
  simp only [this,cond_true]
  obtain ⟨r,A,h2,J⟩:=Ha (w64 ((s.f_at+1)*7919)) n h F
  exact⟨r,_,by rw [A];rfl,h2,J,⟨by show 0<=s.f_at+1;omega,by show s.f_at+1<=b+1;omega⟩⟩
 ·have B:(s.L.length:Int)≠0:=by omega
  have:((s.L.length:Int)==0)=false:=by simpa using hl
  simp only [this,cond_false,MP,N9,if_neg B,ob_]
  have h2:0<=s.f_at.tmod s.L.length:=Int.tmod_nonneg _ M
  have O:(0:Int)<(s.L.length:Int):=by have:=Nat.pos_of_ne_zero hl;omega
  have J:s.f_at.tmod s.L.length<s.L.length:=Int.tmod_lt_of_pos _ O
  have hi:idx s.L (s.f_at.tmod s.L.length)=some s.L[(s.f_at.tmod s.L.length).toNat]:=by
   simp only [idx,if_pos h2]
   exact List.getElem?_eq_getElem (by omega)
  obtain ⟨X,o,_,_⟩:=Ha s.L[(s.f_at.tmod s.L.length).toNat] 1073741824 (by decide) (by decide)
  simp only [hi,o,ob_]
  generalize w64 (X+_)=y
  obtain ⟨r,A,Y,W⟩:=Ha y n h F
  exact⟨r,_,by rw [A];rfl,Y,W,⟨by show 0<=s.f_at+1;omega,by show s.f_at+1<=b+1;omega⟩⟩
theorem Dn (s:Stream) (n:Int) {b:Int} (hs:Ok s b) (hb:b<=1000000) (h:1<=n) (A:n<=1000):∃r o,jf s n=some (r,o)/\Ok o (b+1):=by
 obtain ⟨r,o,h1,_,_,h2⟩:=yX s n hs hb h (by omega)
 exact⟨r==0,o,by simp only [jf,h1,ob_],h2⟩
theorem OP {α:Type} {l:List α} {r:Int} (h:0<=r) (h1:r<l.length):∃y,idx l r=some y/\y∈l:=by
 refine⟨l[r.toNat]'(by omega),?_,List.getElem_mem _⟩
 simp only [idx,if_pos h]
 exact List.getElem?_eq_getElem (by omega)
theorem FT (s:Stream) (l:List Int) {b:Int} (hs:Ok s b) (hb:b<=1000000) (h:1<=l.length) (I:l.length<=1000):∃r o,jM s l=some (r,o)/\r∈l/\Ok o (b+1):=by
 obtain ⟨r,o,h1,h2,A,F⟩:=yX s l.length hs hb (by omega) (by omega)
 obtain ⟨y,B,hm⟩:=OP h2 A
 exact⟨y,o,by simp only [jM,h1,B,ob_],hm,F⟩
theorem CK (s:Stream) (l:List ByteArray) {b:Int} (hs:Ok s b) (hb:b<=1000000) (h:1<=l.length) (I:l.length<=1000):∃r o,iG s l=some (r,o)/\r∈l/\Ok o (b+1):=by
 obtain ⟨r,o,h1,h2,A,F⟩:=yX s l.length hs hb (by omega) (by omega)
 obtain ⟨y,B,hm⟩:=OP h2 A
 exact⟨y,o,by simp only [iG,h1,B,ob_],hm,F⟩
theorem lY (s:Stream) (o hi:Int) {b:Int} (hs:Ok s b) (hb:b<=1000000) (h:o<=hi) (h1 : -1000000000000<=o) (h2:hi<=1000000000000):∃r A,cZ s o hi=some (r,A)/\o<=r/\r<=hi/\Ok A (b+1):=by
 have F:decide (hi<o)=false:=by simp;omega
 have I:w64 (hi-o)=hi-o:=fG (by omega)
 have B:w64 (hi-o+1)=hi-o+1:=fG (by omega)
 obtain ⟨r,A,L,N,M,J⟩:=yX s (hi-o+1) hs hb (by omega) (by omega)
 simp only [cZ,F,cond_false,I,B,L,ob_]
 exact⟨_,A,rfl,by rw [fG (by omega)];omega,by rw [fG (by omega)];omega,J⟩
end Go.Proofs.YtadpbmfnnlkdlacGreatDoor.Law

open Go Go.Eng
namespace Go.Proofs.YtadpbmfnnlkdlacGreatDoor.Law
set_option linter.unusedVariables false
set_option linter.unusedSimpArgs false
def lowB (b:UInt8):Bool:=decide (97<=b.toNat)&&decide (b.toNat<=122)
def moreB (b:UInt8):Bool:=(decide (48<=b.toNat)&&decide (b.toNat<=57))||(b.toNat==45)||(b.toNat==95)
def okB (i:Nat) (b:UInt8):Bool:=lowB b||(decide (0<i)&&moreB b)
def uj (s:ByteArray) (i:Nat):UInt8:=s.data.toList.getD i 0
def keyB (s:ByteArray):Bool:=decide (s.size≠0)&&(decide (s.size<=40)&&(List.range s.size).all λi=>okB i (uj s i))
theorem RY (s:ByteArray) (k:Nat) (h:k<s.size):Be s (k:Int)=some (uj s k):=by
 have h1:s[k]? = some s[k]:=by simp [h]
 have h2:uj s k=s[k]:=by
  have hl:k<s.data.toList.length:=by rw [<- Go.Lib.size_eq];exact h
  simp only [uj,List.getD_eq_getElem?_getD,List.getElem?_eq_getElem hl,Option.getD_some]
  simp
  rfl
 simp only [Be,if_pos (Int.natCast_nonneg k),Int.toNat_natCast,h1,h2]
theorem M8 (s:ByteArray) (k:Nat) (hs:s.size<=1000000000):lM s (k:Int)=some (if k<s.size then (bif okB k (uj s k)then .go ((k+1:Nat):Int)else .ret false)else .brk (k:Int)):=by
 unfold lM
 by_cases h:k<s.size
 ·have o:decide ((k:Int)<(s.size:Int))=true:=by simp;omega
  have J:w64 ((k:Int)+1)=((k+1:Nat):Int):=by rw [fG (by omega)];omega
  simp only [o,cond_true,RY s k h,ob_,if_pos h,J]
  generalize uj s k=b
  simp only [okB,lowB,moreB]
  have I:decide ((b.toNat:Int)>=97)=decide (97<=b.toNat):=decide_eq_decide.2 (by omega)
  have A:decide ((b.toNat:Int)<=122)=decide (b.toNat<=122):=decide_eq_decide.2 (by omega)
  have L:decide ((k:Int)>0)=decide (0<k):=decide_eq_decide.2 (by omega)
  have B:decide ((b.toNat:Int)>=48)=decide (48<=b.toNat):=decide_eq_decide.2 (by omega)
  have e5:decide ((b.toNat:Int)<=57)=decide (b.toNat<=57):=decide_eq_decide.2 (by omega)
  have e6:((b.toNat:Int)==45)=(b.toNat==45):=by rw [Bool.eq_iff_iff];simp;omega
  have F:((b.toNat:Int)==95)=(b.toNat==95):=by rw [Bool.eq_iff_iff];simp;omega
  rw [I,A,L,B,e5,e6,F]
  cases decide (97<=b.toNat) <;> cases decide (b.toNat<=122) <;> cases decide (0<k) <;> cases decide (48<=b.toNat) <;> cases decide (b.toNat<=57) <;> cases (b.toNat==45) <;> cases (b.toNat==95) <;> rfl
 ·have o:decide ((k:Int)<(s.size:Int))=false:=by simp;omega
  simp only [o,cond_false,if_neg h]
theorem Gl (s:ByteArray) (hs:s.size<=1000000000):∀(n k:Nat),k+n=s.size->iterN (λi=>lM s i) (n+1) (k:Int)=some (bif (List.range' k n).all (λj=>okB j (uj s j))then .go (s.size:Int)else .ret false)
 | 0,k,h=>by
  have o:¬k<s.size:=by omega
  simp only [iterN,M8 s k hs,if_neg o,ob_,List.range'_zero,List.all_nil,cond_true]
  rw [show (k:Int)=s.size by omega]
 | n+1,k,h=>by
  have o:k<s.size:=by omega
  rw [iterN,M8 s k hs,if_pos o,ob_,List.range'_succ,List.all_cons]
  cases okB k (uj s k)with
  | true=>simp only [cond_true,Bool.true_and];exact Gl s hs n (k+1) (by omega)
  | false=>rfl
theorem qY (s:ByteArray) (hs:s.size<=1000000000):kit_IsKey s=some (keyB s):=by
 have h:=ng (Gl s hs s.size 0 (by omega))
 unfold kit_IsKey
 have A:jK (0:Int) (λo=>lM s o)=_:=h
 rw [A,ob_,<- List.range_eq_range']
 have e:decide ((s.size:Int)<=40)=decide (s.size<=40):=decide_eq_decide.2 (by omega)
 simp only [keyB]
 cases (List.range s.size).all (λi=>okB i (uj s i))with
 | true =>
  rw [cond_true,tN,sNe_nil,e,Bool.and_true]
  cases decide (s.size≠0) <;> rfl
 | false=>simp only [cond_false,Qb,Bool.and_false]
end Go.Proofs.YtadpbmfnnlkdlacGreatDoor.Law

open Go Go.Eng
namespace Go.Proofs.YtadpbmfnnlkdlacGreatDoor.Law
set_option linter.unusedVariables false
set_option linter.unusedSimpArgs false
def AJ:Int->List Run->Prop
 | _,[]=>True
 | lo,r::h=>lo<r.f_from/\r.f_from<r.f_to/\AJ r.f_to h
theorem AJ.mono {L:List Run} {A o:Int} (h:AJ A L) (hl:o<=A):AJ o L:=by
 cases L with
 | nil=>trivial
 | cons r L=>exact⟨by have:=h.1;omega,h.2⟩
def sub (h:Int):Int->List Run->List Run
 | rf,[]=>bif decide (rf<h)then [⟨rf,h⟩]else []
 | rf,q::M=>bif decide (q.f_from<h)then (bif decide (q.f_from>rf)then [⟨rf,q.f_from⟩]else [])++sub h (max rf q.f_to) M else bif decide (rf<h)then [⟨rf,h⟩]else []
end Go.Proofs.YtadpbmfnnlkdlacGreatDoor.Law

namespace Go.Eng
set_option linter.unusedVariables false
set_option linter.unusedSimpArgs false
def OM {α:Type} (cmp:α->α->Option Int) (L:Int) (h:(List α)×Int):Option (Ctl ((List α)×Int) (Unit)) :=
 (bif (decide (h.2>L))then (inR h.2 h.1).bind λ_=>(h.1[(0+(h.2).toNat)]?).bind λI=>(inR (w64 (h.2-1)) h.1).bind λ_=>(h.1[(0+((w64 (h.2-1))).toNat)]?).bind λA=>(cmp I A).bind λF=>some (decide (F<0))else some false).bind λB=>bif B then (inR (w64 (h.2-1)) h.1).bind λ_=>(h.1[(0+((w64 (h.2-1))).toNat)]?).bind λo=>(inR h.2 h.1).bind λ_=>(h.1[(0+(h.2).toNat)]?).bind λJ=>(inR h.2 h.1).bind λ_=>(h.1[(0+(h.2).toNat)]?).bind λN=>(inR (w64 (h.2-1)) (h.1.set (0+(h.2).toNat) o)).bind λ_=>((h.1.set (0+(h.2).toNat) o)[(0+((w64 (h.2-1))).toNat)]?).bind λM=>some (.go (((h.1.set (0+(h.2).toNat) o).set (0+((w64 (h.2-1))).toNat) J),(w64 (h.2-1))))else some (.brk (h.1,h.2))
noncomputable def LY {α:Type} (cmp:α->α->Option Int) (B:Int) (F:Int) (h:(List α)×Int):Option (Ctl ((List α)×Int) (Unit)) :=
 bif (decide (h.2<B))then (jK (h.1,h.2) (λs=>OM cmp F s)).bind λA=>thenC A (λo=>some (.go (o.1,(w64 (h.2+1))))) (λ_=>none)else some (.brk (h.1,h.2))
noncomputable def Oq {α:Type} (cmp:α->α->Option Int) (h:(List α)) (o:Int) (F:Int):Option ((List α)) :=
 (jK (h,(w64 (o+1))) (λs=>LY cmp F o s)).bind λB=>thenC B (λA=>some A.1) (λ_=>none)
noncomputable def Sn {α:Type} (cmp:α->α->Option Int) (B:Int) (F:Int) (h:(List α)) (o:Int) (I:Unit):Option (Ctl (Unit) ((List α))) :=
 bif (decide ((w64 (B-F))<=12))then (Oq cmp h F B).bind λA=>(iP A h).bind λ_=>some (.ret A)else bif (o==0)then none else none
noncomputable def K6 {α:Type} (cmp:α->α->Option Int) (h:(List α)) (B:Int) (F:Int) (o:Int):Option ((List α)) :=
 (jK () (λs=>Sn cmp F B h o s)).bind λA=>thenC A (λI=>some h) (λr=>some r)
theorem Pg {α:Type} (u v:α) (C:List α):∀A:List α,((A++u::v::C).set (A.length+1) u).set A.length v=A++v::u::C
 | []=>rfl
 | a::A=>by simp only [List.cons_append,List.length_cons,List.set_cons_succ,Pg u v C A]
theorem get_0 {α:Type} (u:α) (C A:List α):(A++u::C)[A.length]? = some u:=by simp
theorem get_1 {α:Type} (u v:α) (C A:List α):(A++u::v::C)[A.length+1]? = some v:=by
 rw [List.getElem?_append_right (by omega)];simp
theorem TD {α:Type} (u v w:α) (C:List α):∀A:List α,(A++u::v::C).set (A.length+1) w=A++u::w::C
 | []=>rfl
 | a::A=>by simp only [List.cons_append,List.length_cons,List.set_cons_succ,TD u v w C A]
theorem Ot {α:Type} {xs:List α} {i:Nat} (h:i<xs.length):inR (i:Int) xs=some ():=by
 unfold inR;rw [if_pos ⟨by omega,by simpa using h⟩]
section
variable {α:Type} {cmp:α->α->Option Int} {le:α->α->Prop} {p:α->Prop}
theorem insL1_s (u v:α) (A C:List α) {c:Int} (hc:cmp v u=some c) (hl:A.length<=1000000000):OM cmp 0 (A++u::v::C,((A.length+1:Nat):Int))=some (bif decide (c<0)then .go (A++v::u::C,(A.length:Int))else .brk (A++u::v::C,((A.length+1:Nat):Int))):=by
 have I:w64 (((A.length+1:Nat):Int)-1)=(A.length:Int):=by rw [Ga _ (by omega)];omega
 have h1:inR ((A.length+1:Nat):Int) (A++u::v::C)=some ():=Ot (by simp)
 have h2:inR (A.length:Int) (A++u::v::C)=some ():=Ot (by simp)
 have o:inR (A.length:Int) (A++u::u::C)=some ():=Ot (by simp)
 have F:decide (((A.length+1:Nat):Int)>0)=true:=by simp <;> omega
 have h:0+((A.length+1:Nat):Int).toNat=A.length+1:=by omega
 have B:0+((A.length:Nat):Int).toNat=A.length:=by omega
 unfold OM
 simp only [I,h1,h2,F,h,B,get_0,get_1,ob_,hc,cond_true,TD,o]
 cases decide (c<0)with
 | false=>rfl
 | true =>
  simp only [cond_true]
  have:=Pg u v C A
  rw [TD]at this
  rw [this]
theorem JI (hc:∀a b,p a->p b->∃c,cmp a b=some c/\(c<0->le a b)/\(¬c<0->le b a)) (tr:∀a b c,le a b->le b c->le a c) (v:α) (hv:p v) (R:List α):∀(n:Nat) (A B:List α),A.length=n->n<=1000000000->(∀a∈A,p a)->(A++B).Pairwise le->(∀b∈B,le v b) ->
  ∃L O,iterN (λs=>OM cmp 0 s) (n+1) (A++v::(B++R),(A.length:Int))=some (.go (L++v::(O++R),(L.length:Int)))/\L++O=A++B/\(L++v::O).Pairwise le
 | 0,A,B,M,hn,I,N,hb=>by
  have:A=[]:=List.eq_nil_of_length_eq_zero M
  subst this
  exact⟨[],B,by simp only [List.nil_append,List.length_nil,iterN,Option.bind];rfl,rfl,by simpa using ⟨hb,N⟩⟩
 | n+1,A,B,M,hn,I,N,hb=>by
  rcases List.eq_nil_or_concat A with h|⟨F,u,h⟩
  ·rw [h]at M;cases M
  ·subst h
   simp only [List.concat_eq_append]at M N I ⊢
   have Y:F.length=n:=by simpa using M
   have hl:(F++[u]).length=F.length+1:=by simp
   have e:F++[u]++v::(B++R)=F++u::v::(B++R):=by simp
   obtain ⟨c,h1,h2,h3⟩:=hc v u hv (I u (by simp))
   rw [hl,e,iterN,insL1_s u v F (B++R) h1 (by omega),ob_]
   by_cases hcn:c<0
   ·simp only [decide_eq_true hcn,cond_true]
    have X:(F++(u::B)).Pairwise le:=by simpa using N
    obtain ⟨L,O,k1,k2,k3⟩:=JI hc tr v hv R n F (u::B) Y (by omega) (λa J=>I a (by simp [J])) X (λb o=>by
     rcases List.mem_cons.1 o with rfl|o
     ·exact h2 hcn
     ·exact hb b o)
    refine⟨L,O,?_,by rw [k2];simp,k3⟩
    rw [<- k1];simp
   ·simp only [decide_eq_false hcn,cond_false]
    refine⟨F++[u],B,by simp,rfl,?_⟩
    have W:=h3 hcn
    rw [List.pairwise_append]at N ⊢
    obtain ⟨Z,p2,p3⟩:=N
    refine⟨Z,List.pairwise_cons.2 ⟨hb,p2⟩,λa J b o => ?_⟩
    rcases List.mem_cons.1 o with rfl|o
    ·rcases List.mem_append.1 J with J|J
     ·rw [List.pairwise_append]at Z
      exact tr _ _ _ (Z.2.2 a J u (by simp)) W
     ·rw [List.mem_singleton]at J;subst J;exact W
    ·exact p3 a J b o
theorem JB (hc:∀a b,p a->p b->∃c,cmp a b=some c/\(c<0->le a b)/\(¬c<0->le b a)) (W:∀a b c,le a b->le b c->le a c):∀(Q P:List α),P.length+Q.length<=1000000000->(∀x∈P++Q,p x)->P.Pairwise le ->
  ∃s,iterN (λs=>LY cmp ((P.length+Q.length:Nat):Int) 0 s) (Q.length+1) (P++Q,(P.length:Int))=some (.go (s,((P.length+Q.length:Nat):Int)))/\s.Perm (P++Q)/\s.Pairwise le
 | [],P,hl,o,L=>by
  refine⟨P,?_,by simp,L⟩
  have M:decide ((P.length:Int)<((P.length+([]:List α).length:Nat):Int))=false:=by simp
  simp only [iterN,LY,M,cond_false,ob_,List.append_nil]
  simp
 | v::Q,P,hl,o,L=>by
  simp only [List.length_cons]at hl
  have M:decide ((P.length:Int)<((P.length+(v::Q).length:Nat):Int))=true:=by simp only [decide_eq_true_eq,List.length_cons];omega
  obtain ⟨F,B,X,J,Y⟩:=JI hc W v (o v (by simp)) Q P.length P [] rfl (by omega) (λa Z=>o a (by simp [Z])) (by simpa using L) (λb hb=>by cases hb)
  rw [List.nil_append]at X
  have O:=ng X
  rw [List.length_cons,iterN]
  have hw:w64 ((P.length:Int)+1)=((F++v::B).length:Int):=by
   have:=congrArg List.length J
   simp only [List.length_append,List.length_nil]at this
   rw [Ga _ (by omega)];simp only [List.length_append,List.length_cons];omega
  have h1:LY cmp ((P.length+(Q.length+1):Nat):Int) 0 (P++v::Q,(P.length:Int))=some (.go (F++v::(B++Q),((F++v::B).length:Int))):=by
   have N:decide ((P.length:Int)<((P.length+(Q.length+1):Nat):Int))=true:=M
   unfold LY
   simp only [N,cond_true,O,ob_,thenC,hw]
  have R:(F++v::B).length=P.length+1:=by
   have:=congrArg List.length J
   simp only [List.length_append,List.length_nil,List.length_cons]at this ⊢
   omega
  have hk:(F++B).Perm P:=by rw [J];simp
  have A:(F++v::B).Perm (P++[v]):=(List.perm_middle).trans ((List.Perm.cons v hk).trans (List.perm_append_comm (l₁:=[v]) (l₂:=P)))
  obtain ⟨s,m1,m2,m3⟩:=JB hc W Q (F++v::B) (by omega) (λx I=>by
   rcases List.mem_append.1 I with I|I
   ·have:=A.mem_iff.1 I
    exact o x (by rcases List.mem_append.1 this with h | h <;> simp_all)
   ·exact o x (by simp [I])) Y
  rw [h1,ob_]
  have e:F++v::(B++Q)=(F++v::B)++Q:=by simp
  have e2:P.length+(Q.length+1)=(F++v::B).length+Q.length:=by omega
  simp only
  rw [e,e2]
  refine⟨s,m1,m2.trans ?_,m3⟩
  have:=List.Perm.append_right Q A
  simpa using this
theorem Sw (hc:∀a b,p a->p b->∃c,cmp a b=some c/\(c<0->le a b)/\(¬c<0->le b a)) (J:∀a b c,le a b->le b c->le a c) (l:List α) (hl:l.length<=12) (B:∀x∈l,p x) (h:Int):∃s,K6 cmp l 0 (l.length:Int) h=some s/\s.Perm l/\s.Pairwise le:=by
 have key:∃s,Oq cmp l 0 (l.length:Int)=some s/\s.Perm l/\s.Pairwise le:=by
  unfold Oq
  have W:w64 (0+1)=1:=rfl
  rw [W]
  cases l with
  | nil=>exact⟨[],by rw [ng (n:=1) (o := .go ([],1)) rfl];rfl,.nil,.nil⟩
  | cons v Q =>
   obtain ⟨s,F,L,I⟩:=JB hc J Q [v] (by simp only [List.length_cons,List.length_nil]at hl ⊢;omega) (λx R=>B x (by simpa using R)) (List.pairwise_singleton _ _)
   have e:([v].length+Q.length:Nat)=(v::Q).length:=by simp only [List.length_cons,List.length_nil];omega
   rw [e]at F
   have:=ng F
   refine⟨s,?_,L,I⟩
   show (jK (v::Q,1) _).bind _=_
   have N:(([v]++Q,(([v]:List α).length:Int)):List α×Int)=(v::Q,1):=rfl
   rw [N]at this
   rw [this];rfl
 obtain ⟨s,h1,h2,M⟩:=key
 refine⟨s,?_,h2,M⟩
 have A:iP s l=some ():=by unfold iP;rw [if_pos h2.length_eq]
 have O:decide (w64 ((l.length:Int)-0)<=12)=true:=by
  have:(l.length:Int)-0=l.length:=by omega
  rw [this,Ga _ (by omega)];simp;omega
 have:jK () (λs=>Sn cmp (l.length:Int) 0 l h s)=some (.ret s):=by
  refine ng (n:=1) ?_
  simp only [iterN,Sn,O,cond_true,h1,A,ob_]
 unfold K6
 rw [this];rfl
end
end Go.Eng

open Go Go.Eng
namespace Go.Proofs.YtadpbmfnnlkdlacGreatDoor.Law
set_option linter.unusedVariables false
set_option linter.unusedSimpArgs false
theorem kW {α:Type} (xs ys:List α) (h:xs.length+ys.length<=1000000000):mK xs ys=some (xs++ys):=by unfold mK;rw [if_pos h]
def Fine (r:Rect):Prop:=(-100000<=r.X/\r.X<=100000)/\(-100000<=r.Y/\r.Y<=100000)/\(1<=r.W/\r.X+r.W<=100000)/\1<=r.H/\r.Y+r.H<=100000
theorem TB:∀n:Nat,n<=12->∃k,iI (IntKind.u64.wrap (n:Int))=some k:=by
 have h:(List.range 13).all (λn=>(iI (IntKind.u64.wrap (n:Int))).isSome)=true:=by kernel_rfl
 intro n o
 have:=List.all_eq_true.1 h n (by simp;omega)
 exact Option.isSome_iff_exists.1 this
end Go.Proofs.YtadpbmfnnlkdlacGreatDoor.Law

open Go Go.Eng
namespace Go.Proofs.YtadpbmfnnlkdlacGreatDoor.Law
set_option linter.unusedVariables false
set_option linter.unusedSimpArgs false
abbrev SB (l:List UInt8):ByteArray:=⟨l.toArray⟩
theorem sb_of (s:ByteArray):SB s.data.toList=s:=rfl
theorem sb_inj {l m:List UInt8} (h:SB l=SB m):l=m:=by
 have:=congrArg (λs:ByteArray=>s.data.toList) h
 simpa using this
theorem KH {a b:ByteArray} (h:a.data.toList=b.data.toList):a=b:=by rw [<- sb_of a,<- sb_of b,h]
def Med (n:Int):Prop := -1000000000000000<=n/\n<=1000000000000000
theorem itoa_eq {n:Int} (h:Med n):strconv_Itoa n=some (SB (Go.Lib.itoa n)):=by
 unfold strconv_Itoa PI
 unfold Med at h
 rw [if_pos ⟨by omega,by omega⟩]
theorem LC {n:Int} (h:Med n):(Go.Lib.itoa n).length<=21:=by
 unfold Med at h
 exact Go.Lib.itoa_length_le n (by omega) (by omega)
theorem F7 (h y:List UInt8) (r:List (List UInt8)):Go.Lib.joinTail h (y::r)=h++y++Go.Lib.joinTail h r:=by simp [Go.Lib.joinTail]
theorem LH (h:List UInt8) (m:Nat):∀(r:List (List UInt8)),(∀x∈r,x.length<=m)->(Go.Lib.joinTail h r).length<=r.length*(m+h.length)
 | [],_=>by simp [Go.Lib.joinTail]
 | y::r,o=>by
  rw [F7,List.length_append,List.length_append,List.length_cons,Nat.add_mul]
  have:=LH h m r (λx A=>o x (List.mem_cons_of_mem _ A))
  have:=o y (by simp)
  omega
theorem Oz (o:List UInt8) (m:Nat):∀(A:List (List UInt8)),(∀x∈A,x.length<=m)->(Go.Lib.join A o).length<=A.length*(m+o.length)
 | [],h=>by simp [Go.Lib.join_nil]
 | x::r,h=>by
  rw [Go.Lib.join_cons,List.length_append,List.length_cons,Nat.add_mul]
  have:=LH o m r (λx B=>h x (List.mem_cons_of_mem _ B))
  have:=h x (by simp)
  omega
theorem Te (A:List (List UInt8)) (o:List UInt8) (m:Nat) (h:∀x∈A,x.length<=m) (hl:A.length<=1000000) (hm:m+o.length<=10000):strings_Join (A.map SB) (SB o)=some (SB (Go.Lib.join A o)):=by
 have h1:=Oz o m A h
 have h2:A.length*(m+o.length)<=1000000*10000:=Nat.mul_le_mul hl hm
 have e:(A.map SB).map (λx=>x.data.toList)=A:=by rw [List.map_map];exact List.map_id' A
 unfold strings_Join Pb
 rw [e]
 have B:(SB o).data.toList=o:=rfl
 rw [B,if_pos ⟨by simp;omega,by omega⟩]
theorem ES:∀(l:List Int) (k:Nat) (o:List ByteArray),(∀n∈l,Med n)->l.length+o.length<=1000000->forR (λk x s=>l7 k x s) l k o=some (.go (o++l.map λn=>SB (Go.Lib.itoa n)))
 | [],k,o,h,hl=>by simp [forR]
 | n::l,k,o,h,hl=>by
  simp only [List.length_cons]at hl
  have F:=ES l (k+1) (o++[SB (Go.Lib.itoa n)]) (λx B=>h x (List.mem_cons_of_mem _ B)) (by simp;omega)
  have A:l7 k n o=some (.go (o++[SB (Go.Lib.itoa n)])):=by
   unfold l7
   rw [itoa_eq (h n (by simp))]
   simp only [ob_]
   rw [kW _ _ (by simp;omega)]
   rfl
  simp only [forR,A,ob_]
  rw [F]
  simp
theorem IC (l:List Int) (h:∀n∈l,Med n) (hl:l.length<=1000000):oF l=some (SB (Go.Lib.join (l.map Go.Lib.itoa) [32])):=by
 unfold oF
 rw [je (by omega),ES l 0 [] h (by simpa using hl)]
 simp only [ob_,tN,List.nil_append]
 have e:(l.map λn=>SB (Go.Lib.itoa n))=(l.map Go.Lib.itoa).map SB:=by rw [List.map_map];rfl
 rw [e,Te _ [32] 21 (λx A=>by
  obtain ⟨n,o,rfl⟩:=List.mem_map.1 A
  exact LC (h n o)) (by simpa using hl) (by decide)]
 rfl
def KG (b:UInt8):Bool:=decide (48<=b.toNat)&&decide (b.toNat<=57)
def numOf (l:List UInt8):Nat:=l.foldl (λa b=>a*10+(b.toNat-48)) 0
theorem F3 {n:Nat} (h:n<10):(UInt8.ofNat (48+n)).toNat=48+n:=by
 rw [UInt8.toNat_ofNat',Nat.mod_eq_of_lt (by omega)]
theorem GX {u:Nat} (h:u<10):Go.Lib.decDigits u=[UInt8.ofNat (48+u)]:=by rw [Go.Lib.decDigits,dif_pos h]
theorem MH {u:Nat} (h:¬u<10):Go.Lib.decDigits u=Go.Lib.decDigits (u / 10)++[UInt8.ofNat (48+u % 10)]:=by rw [Go.Lib.decDigits,dif_neg h]
theorem Dr (u:Nat):(Go.Lib.decDigits u).all KG=true:=by
 induction u using Nat.strongRecOn with
 | ind u o =>
  by_cases h:u<10
  ·rw [GX h]
   have:=F3 h
   simp only [List.all_cons,List.all_nil,Bool.and_true,KG,this,Bool.and_eq_true,decide_eq_true_eq]
   omega
  ·rw [MH h,List.all_append,o (u / 10) (by omega)]
   have:=F3 (show u % 10<10 by omega)
   simp only [List.all_cons,List.all_nil,Bool.and_true,Bool.true_and,KG,this,Bool.and_eq_true,decide_eq_true_eq]
   omega
theorem Jv (u:Nat):numOf (Go.Lib.decDigits u)=u:=by
 induction u using Nat.strongRecOn with
 | ind u o =>
  by_cases h:u<10
  ·rw [GX h]
   have:=F3 h
   simp only [numOf,List.foldl_cons,List.foldl_nil,this]
   omega
  ·rw [MH h]
   have:=F3 (show u % 10<10 by omega)
   have h2:=o (u / 10) (by omega)
   unfold numOf at h2 ⊢
   rw [List.foldl_append,h2]
   simp only [List.foldl_cons,List.foldl_nil,this]
   omega
theorem LU {u v:Nat} (h:Go.Lib.decDigits u=Go.Lib.decDigits v):u=v:=by rw [<- Jv u,<- Jv v,h]
theorem Ml {n:Int} (h:0<=n):Go.Lib.itoa n=Go.Lib.decDigits n.toNat:=by unfold Go.Lib.itoa;rw [if_neg (by omega)]
theorem Qw {n m:Int} (o:0<=n) (hm:0<=m) (h:Go.Lib.itoa n=Go.Lib.itoa m):n=m:=by
 rw [Ml o,Ml hm]at h
 have:=LU h
 omega
theorem KU {c:UInt8} (hc:KG c=false) {l:List UInt8} (h:l.all KG=true):c∉l:=λhm=>by
 have:=List.all_eq_true.1 h c hm
 rw [hc]at this;cases this
theorem itoa_no {n:Int} (h:0<=n) {c:UInt8} (hc:KG c=false):c∉Go.Lib.itoa n:=by rw [Ml h];exact KU hc (Dr _)
theorem wS {c:UInt8}:∀{a b x y:List UInt8},c∉a->c∉b->a++c::x=b++c::y->a=b/\x=y
 | [],[],x,y,_,_,h=>⟨rfl,by simpa using h⟩
 | [],b::bs,x,y,_,hb,h=>by
  simp only [List.nil_append,List.cons_append,List.cons.injEq]at h
  exact absurd (List.mem_cons.2 (.inl h.1)) hb
 | a::r,[],x,y,o,_,h=>by
  simp only [List.nil_append,List.cons_append,List.cons.injEq]at h
  exact absurd (List.mem_cons.2 (.inl h.1.symm)) o
 | a::r,b::bs,x,y,o,hb,h=>by
  simp only [List.cons_append,List.cons.injEq]at h
  obtain ⟨h1,h2⟩:=wS (λhm=>o (List.mem_cons_of_mem _ hm)) (λhm=>hb (List.mem_cons_of_mem _ hm)) h.2
  exact⟨by rw [h.1,h1],h2⟩
theorem key_all {s:ByteArray} (h:keyB s=true):∀b∈s.data.toList,okB 1 b=true:=λb hb=>by
 simp only [keyB,Bool.and_eq_true,List.all_eq_true]at h
 obtain ⟨i,hi,rfl⟩:=List.getElem_of_mem hb
 have hs:i<s.size:=by rw [Go.Lib.size_eq];exact hi
 have:=h.2.2 i (by simpa using hs)
 have e:uj s i=s.data.toList[i]:=by
  simp only [uj,List.getD_eq_getElem?_getD,List.getElem?_eq_getElem hi,Option.getD_some]
 rw [e]at this
 simp only [okB,Bool.or_eq_true,Bool.and_eq_true]at this ⊢
 rcases this with k|k
 ·exact .inl k
 ·exact .inr ⟨by decide,k.2⟩
theorem Ef {s:ByteArray} (h:keyB s=true) {c:UInt8} (hc:okB 1 c=false):c∉s.data.toList:=λhm=>by
 have:=key_all h c hm
 rw [hc]at this;cases this
end Go.Proofs.YtadpbmfnnlkdlacGreatDoor.Law

open Go Go.Eng
namespace Go.Proofs.YtadpbmfnnlkdlacGreatDoor.Law
set_option linter.unusedVariables false
set_option linter.unusedSimpArgs false
theorem sb_app (l m:List UInt8):SB l++SB m=SB (l++m):=by
 apply CY;rw [toL,toL];simp
theorem O6 (l:List UInt8):(SB l).size=l.length:=by show l.toArray.size=_;simp
theorem xU (l m:List UInt8) (h:l.length+m.length<=1000000000000):pJ (SB l) (SB m)=some (SB (l++m)):=by
 rw [<- sb_app]
 unfold pJ
 rw [if_neg]
 have:IntKind.i64.max=9223372036854775807:=by decide
 rw [this,O6,O6];omega
theorem itoa_neg {n:Int} (h:n<0):Go.Lib.itoa n=45::Go.Lib.decDigits n.natAbs:=by unfold Go.Lib.itoa;rw [if_pos h]
theorem MB {n m:Int} (h:Go.Lib.itoa n=Go.Lib.itoa m):n=m:=by
 have o:KG 45=false:=by decide
 by_cases hn:0<=n <;> by_cases hm:0<=m
 ·exact Qw hn hm h
 ·rw [Ml hn,itoa_neg (show m<0 by omega)]at h
  exact absurd (by rw [h];simp) (KU o (Dr n.toNat))
 ·rw [Ml hm,itoa_neg (show n<0 by omega)]at h
  exact absurd (by rw [<- h];simp) (KU o (Dr m.toNat))
 ·rw [itoa_neg (show n<0 by omega),itoa_neg (show m<0 by omega),List.cons.injEq]at h
  have:=LU h.2
  omega
theorem CZ (n:Int) {c:UInt8} (hc:KG c=false) (o:c≠45):c∉Go.Lib.itoa n:=by
 by_cases hn:0<=n
 ·exact itoa_no hn hc
 ·rw [itoa_neg (show n<0 by omega)]
  intro hm
  rcases List.mem_cons.1 hm with h|h
  ·exact o h
  ·exact KU hc (Dr _) h
theorem join2' (x y:List UInt8) (r:List (List UInt8)) (h:List UInt8):Go.Lib.join (x::y::r) h=x++(h++Go.Lib.join (y::r) h):=by
 rw [Go.Lib.join_cons,F7,Go.Lib.join_cons,List.append_assoc]
theorem Og (n m:Int) (r:List Int):Go.Lib.join ((n::m::r).map Go.Lib.itoa) [32]=Go.Lib.itoa n++32::Go.Lib.join ((m::r).map Go.Lib.itoa) [32]:=by
 simp only [List.map_cons,join2'];rfl
theorem Ec:∀{l m:List Int},l.length=m.length->Go.Lib.join (l.map Go.Lib.itoa) [32]=Go.Lib.join (m.map Go.Lib.itoa) [32]->l=m
 | [],[],_,_=>rfl
 | [n],[m],_,h=>by
  simp only [List.map_cons,List.map_nil,Go.Lib.join_one]at h
  rw [MB h]
 | n::A::l,m::o::r,hl,h=>by
  rw [Og,Og]at h
  obtain ⟨h1,h2⟩:=wS (CZ n (by decide) (by decide)) (CZ m (by decide) (by decide)) h
  rw [MB h1,Ec (l:=A::l) (m:=o::r) (by simpa using hl) h2]
 | [],_::_,hl,_=>by simp at hl
 | _::_,[],hl,_=>by simp at hl
 | [_],_::_::_,hl,_=>by simp at hl
 | _::_::_,[_],hl,_=>by simp at hl
theorem CW {c:UInt8} (hc:KG c=false) (o:c≠45) (A:c≠32):∀l:List Int,c∉Go.Lib.join (l.map Go.Lib.itoa) [32]
 | []=>by simp [Go.Lib.join_nil]
 | [n]=>by
  simp only [List.map_cons,List.map_nil,Go.Lib.join_one]
  exact CZ n hc o
 | n::m::r=>by
  rw [Og]
  intro h
  rcases List.mem_append.1 h with h|h
  ·exact CZ n hc o h
  ·rcases List.mem_cons.1 h with h|h
   ·exact A h
   ·exact CW hc o A (m::r) h
theorem GV (l:List Int) (h:∀n∈l,Med n):(Go.Lib.join (l.map Go.Lib.itoa) [32]).length<=l.length*22:=by
 have:=Oz [32] 21 (l.map Go.Lib.itoa) (λx A=>by
  obtain ⟨n,o,rfl⟩:=List.mem_map.1 A
  exact LC (h n o))
 simpa using this
end Go.Proofs.YtadpbmfnnlkdlacGreatDoor.Law

open Go Go.Eng
namespace Go.Proofs.YtadpbmfnnlkdlacGreatDoor.Law
set_option linter.unusedVariables false
set_option linter.unusedSimpArgs false
def qF (n h hi:Int):Bool:=decide (n<h)||decide (n>hi)
theorem sj (n h hi:Int):aY n h hi=some (qF n h hi):=by
 unfold aY qF
 cases decide (n<h) <;> cases decide (n>hi) <;> rfl
theorem BD {n o hi:Int} (h:qF n o hi=false):o<=n/\n<=hi:=by
 simp only [qF,Bool.or_eq_false_iff,decide_eq_false_iff_not]at h;omega
theorem sZ {n o hi:Int} (h:o<=n/\n<=hi):qF n o hi=false:=by
 simp only [qF,Bool.or_eq_false_iff,decide_eq_false_iff_not];omega
def KW (r:Rect):Bool:=qF r.X (-100000) 100000||qF r.Y (-100000) 100000||qF r.W 1 (w64 (100000-r.X))||qF r.H 1 (w64 (100000-r.Y))
theorem Dm (r:Rect):jI r=some (bif KW r then 1 else 0):=by
 unfold jI KW
 simp only [sj,ob_]
 cases qF r.X (-100000) 100000 <;> cases qF r.Y (-100000) 100000 <;> cases qF r.W 1 (w64 (100000-r.X)) <;> cases qF r.H 1 (w64 (100000-r.Y)) <;> rfl
end Go.Proofs.YtadpbmfnnlkdlacGreatDoor.Law

open Go Go.Eng
namespace Go.Proofs.YtadpbmfnnlkdlacGreatDoor.Law
set_option linter.unusedVariables false
set_option linter.unusedSimpArgs false
end Go.Proofs.YtadpbmfnnlkdlacGreatDoor.Law

open Go Go.Eng
namespace Go.Proofs.YtadpbmfnnlkdlacGreatDoor.Law
set_option linter.unusedVariables false
set_option linter.unusedSimpArgs false
end Go.Proofs.YtadpbmfnnlkdlacGreatDoor.Law

open Go Go.Eng
namespace Go.Proofs.YtadpbmfnnlkdlacGreatDoor.Law
set_option linter.unusedVariables false
set_option linter.unusedSimpArgs false
section
variable {is:Int->Int->Option Bool} {xs ys:List Int} {s13:(List Rect)×(List Rect)×Int} {y y2:Int} {j:Nat}
end
end Go.Proofs.YtadpbmfnnlkdlacGreatDoor.Law

open Go Go.Eng
namespace Go.Proofs.YtadpbmfnnlkdlacGreatDoor.Law
set_option linter.unusedVariables false
set_option linter.unusedSimpArgs false
end Go.Proofs.YtadpbmfnnlkdlacGreatDoor.Law

open Go Go.Eng
namespace Go.Proofs.YtadpbmfnnlkdlacGreatDoor.Law
set_option linter.unusedVariables false
set_option linter.unusedSimpArgs false
end Go.Proofs.YtadpbmfnnlkdlacGreatDoor.Law

open Go Go.Eng
namespace Go.Proofs.YtadpbmfnnlkdlacGreatDoor.Law
set_option linter.unusedVariables false
set_option linter.unusedSimpArgs false
theorem Qo {r:Rect} (h:KW r=false):Fine r:=by
 unfold KW at h
 simp only [Bool.or_eq_false_iff]at h
 obtain ⟨⟨⟨h1,h2⟩,o⟩,A⟩:=h
 have h1:=BD h1
 have h2:=BD h2
 rw [fG (by omega)]at o A
 have o:=BD o
 have A:=BD A
 exact⟨by omega,by omega,by omega,by omega,by omega⟩
def has1 (x y:Int) (r:Rect):Bool:=(decide (r.X<=x)&&decide (x<r.X+r.W))&&(decide (r.Y<=y)&&decide (y<r.Y+r.H))
def hasB (l:List Rect) (x y:Int):Bool:=l.any (has1 x y)
end Go.Proofs.YtadpbmfnnlkdlacGreatDoor.Law

open Go Go.Eng
namespace Go.Proofs.YtadpbmfnnlkdlacGreatDoor.Law
set_option linter.unusedVariables false
set_option linter.unusedSimpArgs false
def Bb (e:Int):Ctl Unit Int:=bif e==0 then .go ()else .ret e
theorem PV (e:Int):thenC (Bb e) (λ_=>some (0:Int)) (λr=>some r)=some e:=by
 unfold Bb
 cases h:e==0 with
 | true=>simp only [cond_true,tN];rw [eq_of_beq h]
 | false=>rfl
theorem zQ {α:Type} {l:List α} {k:Nat} {x:α} (h:l[k]? = some x) (A:0<k) (hl:l.length<=1000000000):∃y,idx l (w64 ((k:Int)-1))=some y/\l[k-1]? = some y:=by
 have o:k<l.length:=(List.getElem?_eq_some_iff.1 h).1
 rw [fG (by omega),show (k:Int)-1=((k-1:Nat):Int) by omega,wW]
 exact⟨l[k-1],List.getElem?_eq_getElem (by omega),List.getElem?_eq_getElem (by omega)⟩
end Go.Proofs.YtadpbmfnnlkdlacGreatDoor.Law

open Go Go.Eng
namespace Go.Proofs.YtadpbmfnnlkdlacGreatDoor.Law
set_option linter.unusedVariables false
set_option linter.unusedSimpArgs false
def Dk (n:Int):Bool := !qF n 0 345686399999
theorem zy (n:Int):bX n=some (Dk n):=by
 unfold bX Dk qF
 have h:decide (n>=0) = !decide (n<0):=by rw [Bool.eq_iff_iff];simp
 have o:decide (n<345686400000) = !decide (n>345686399999):=by rw [Bool.eq_iff_iff];simp;omega
 rw [h,o]
 cases decide (n<0) <;> cases decide (n>345686399999) <;> rfl
def or0 (a b:Int):Int:=bif a==0 then b else a
theorem Eo (a b:ByteArray):(lt a b/\zF a b = -1)\/(a=b/\zF a b=0)\/(lt b a/\zF a b=1):=by
 have key:∀(x y:List UInt8),(x<y/\Lib.compareBytes x y = -1)\/(x=y/\Lib.compareBytes x y=0)\/(y<x/\Lib.compareBytes x y=1):=by
  intro x
  induction x with
  | nil=>intro y;cases y with
   | nil=>exact .inr (.inl ⟨rfl,rfl⟩)
   | cons b y=>exact .inl ⟨by simp,rfl⟩
  | cons a x o=>intro y;cases y with
   | nil=>exact .inr (.inr ⟨by simp,rfl⟩)
   | cons b y =>
    simp only [Lib.compareBytes,List.cons_lt_cons_iff,List.cons.injEq]
    by_cases h1:a<b
    ·exact .inl ⟨.inl h1,by rw [if_pos h1]⟩
    ·by_cases h2:b<a
     ·exact .inr (.inr ⟨.inl h2,by rw [if_neg h1,if_pos h2]⟩)
     ·have e:a=b:=UInt8.le_antisymm (UInt8.not_lt.1 h2) (UInt8.not_lt.1 h1)
      subst e
      rw [if_neg h1,if_neg h1]
      rcases o y with⟨h,k⟩|⟨h,k⟩|⟨h,k⟩
      ·exact .inl ⟨.inr ⟨rfl,h⟩,k⟩
      ·exact .inr (.inl ⟨⟨rfl,h⟩,k⟩)
      ·exact .inr (.inr ⟨.inr ⟨rfl,h⟩,k⟩)
 unfold zF lt
 rw [toL,toL]
 rcases key a.data.toList b.data.toList with⟨h,k⟩|⟨h,k⟩|⟨h,k⟩
 ·exact .inl ⟨h,k⟩
 ·exact .inr (.inl ⟨CY (by rw [toL,toL];exact h),k⟩)
 ·exact .inr (.inr ⟨h,k⟩)
theorem sO (a b:ByteArray):strings_Compare a b=some (zF a b):=rfl
def Gb (a b:Int):Int:=if a<b then -1 else if a>b then 1 else 0
theorem xR (a b:Int):cmp_Compare_int a b=some (Gb a b):=by
 have e:∀x:Int,(x != x)=false:=by simp
 unfold cmp_Compare_int cmp_isNaN_int Gb
 simp only [e,ob_,cond_false]
 by_cases h:a<b
 ·simp only [decide_eq_true h,cond_true,if_pos h]
 ·by_cases h2:a>b
  ·simp only [decide_eq_false h,decide_eq_true h2,cond_true,cond_false,if_neg h,if_pos h2]
  ·simp only [decide_eq_false h,decide_eq_false h2,cond_false,if_neg h,if_neg h2]
theorem Ku (a b:Int):jG [a,b]=some (or0 a b):=by
 unfold jG or0
 rw [je (by simp)]
 simp only [forR,qb]
 cases ha:a==0 with
 | false =>
  have:(a != 0)=true:=by simp [bne,ha]
  simp only [this,cond_true,cond_false,ob_,thenC]
 | true =>
  have:(a != 0)=false:=by simp [bne,ha]
  simp only [this,cond_true,cond_false,ob_]
  cases hb:b==0 with
  | false =>
   have:(b != 0)=true:=by simp [bne,hb]
   simp only [this,cond_true,ob_,thenC]
  | true =>
   have:(b != 0)=false:=by simp [bne,hb]
   simp only [this,cond_false,ob_,thenC]
   rw [eq_of_beq hb]
theorem zK {α:Type} {i:Int} {xs:List α} (h:0<=i) (h1:i<xs.length):inR i xs=some ():=by unfold inR;rw [if_pos ⟨h,by omega⟩]
end Go.Proofs.YtadpbmfnnlkdlacGreatDoor.Law

open Go Go.Eng
namespace Go.Proofs.YtadpbmfnnlkdlacGreatDoor.Law
set_option linter.unusedVariables false
set_option linter.unusedSimpArgs false
theorem Td (a b c:Int):jG [a,b,c]=some (or0 a (or0 b c)):=by
 unfold jG or0
 rw [je (by simp)]
 simp only [forR,qb]
 cases ha:a==0 with
 | false =>
  have:(a != 0)=true:=by simp [bne,ha]
  simp only [this,cond_true,cond_false,ob_,thenC]
 | true =>
  have:(a != 0)=false:=by simp [bne,ha]
  simp only [this,cond_true,cond_false,ob_]
  cases hb:b==0 with
  | false =>
   have:(b != 0)=true:=by simp [bne,hb]
   simp only [this,cond_true,cond_false,ob_,thenC]
  | true =>
   have:(b != 0)=false:=by simp [bne,hb]
   simp only [this,cond_true,cond_false,ob_]
   cases hc:c==0 with
   | false =>
    have:(c != 0)=true:=by simp [bne,hc]
    simp only [this,cond_true,ob_,thenC]
   | true =>
    have:(c != 0)=false:=by simp [bne,hc]
    simp only [this,cond_false,ob_,thenC]
    rw [eq_of_beq hc]
theorem yY {a b:Int}:or0 a b<0↔a<0\/a=0/\b<0:=by
 unfold or0
 by_cases h:a=0
 ·subst h;simp
 ·have:(a==0)=false:=by simpa using h
  rw [this,cond_false];omega
theorem ME {a b:Int}:or0 a b=0↔a=0/\b=0:=by
 unfold or0
 by_cases h:a=0
 ·subst h;simp
 ·have:(a==0)=false:=by simpa using h
  rw [this,cond_false];omega
theorem Ab {a b:Int}:Gb a b<0↔a<b:=by
 unfold Gb
 split
 ·omega
 ·split <;> omega
theorem Aw {a b:Int}:Gb a b=0↔a=b:=by
 unfold Gb
 split
 ·omega
 ·split <;> omega
theorem xL {a b:ByteArray}:zF a b<0↔lt a b:=by
 rcases Eo a b with⟨h,e⟩|⟨h,e⟩|⟨h,e⟩
 ·rw [e];exact⟨λ_=>h,λ_=>by decide⟩
 ·rw [e,h];exact⟨λk=>absurd k (by decide),λk=>absurd k (gy _)⟩
 ·rw [e];exact⟨λk=>absurd k (by decide),λk=>absurd (lt_trans k h) (gy _)⟩
theorem xW {a b:ByteArray}:zF a b=0↔a=b:=by
 rcases Eo a b with⟨h,e⟩|⟨h,e⟩|⟨h,e⟩
 ·rw [e];exact⟨λk=>absurd k (by decide),λk=>by rw [k]at h;exact absurd h (gy _)⟩
 ·rw [e];exact⟨λ_=>h,λ_=>rfl⟩
 ·rw [e];exact⟨λk=>absurd k (by decide),λk=>by rw [k]at h;exact absurd h (gy _)⟩
theorem lt_ntr {a b c:ByteArray} (h:¬lt a b) (k:¬lt b c):¬lt a c:=λq=>by
 rcases vK a b with e|e|e
 ·exact h e
 ·rw [e]at q;exact k q
 ·exact k (lt_trans e q)
end Go.Proofs.YtadpbmfnnlkdlacGreatDoor.Law

open Go Go.Eng
namespace Go.Proofs.YtadpbmfnnlkdlacGreatDoor.Law
set_option linter.unusedVariables false
set_option linter.unusedSimpArgs false
theorem SY {α:Type} {cmp:α->α->Option Int} (c:α->α->Int) {S:List α->Option (List α)} (J:∀x,S x=(iI (IntKind.u64.wrap (x.length:Int))).bind λB=>(K6 cmp x 0 (x.length:Int) B).bind λo=>(iP o x).bind λ_=>some o)
  {xs:List α} (hl:xs.length<=12) (L:∀a∈xs,∀b∈xs,cmp a b=some (c a b)) (F:∀a b,c a b<0->¬c b a<0) (I:∀a b d,¬c a b<0->¬c b d<0->¬c a d<0) :
  ∃r,S xs=some r/\r.Perm xs/\r.Pairwise (λa b=>¬c b a<0):=by
 obtain ⟨k,M⟩:=TB xs.length hl
 obtain ⟨s,h1,h2,N⟩:=Sw (cmp:=cmp) (le:=λa b=>¬c b a<0) (p:=(· ∈ xs)) (λa b R hb=>⟨c a b,L a R b hb,λh=>F a b h,λh=>h⟩) (λa b d h k=>I d b a k h) xs hl (λx O=>O) k
 refine⟨s,?_,h2,N⟩
 have A:iP s xs=some ():=by unfold iP;rw [if_pos h2.length_eq]
 rw [J,M,ob_,h1,ob_,A];rfl
end Go.Proofs.YtadpbmfnnlkdlacGreatDoor.Law

open Go Go.Eng
namespace Go.Proofs.YtadpbmfnnlkdlacGreatDoor.Law
set_option linter.unusedVariables false
set_option linter.unusedSimpArgs false
theorem OW {α σ ρ:Type} {body:Nat->α->σ->Option (Ctl σ ρ)} (I:Nat->σ->Prop) (xs:List α):∀(l:List α) (k:Nat) (s:σ),xs.drop k=l->k<=xs.length->(∀k x s,xs[k]? = some x->I k s->∃o,body k x s=some (.go o)/\I (k+1) o)->I k s->∃o,forR body l k s=some (.go o)/\I xs.length o
 | [],k,s,A,J,h,hi=>by
  have:=List.drop_eq_nil_iff.1 A
  obtain rfl:k=xs.length:=by omega
  exact⟨s,rfl,hi⟩
 | x::l,k,s,A,J,h,hi=>by
  obtain ⟨F,h1,h2⟩:=h k x s (MC A) hi
  obtain ⟨B,L,M⟩:=OW I xs l (k+1) F (aP A) (by have:=FR A;omega) h h2
  exact⟨B,by rw [forR,h1,ob_];exact L,M⟩
theorem kS {α σ ρ:Type} {body:Nat->α->σ->Option (Ctl σ ρ)} (I:Nat->σ->Prop) {xs:List α} {s:σ} (hl:xs.length<=1000000000000) (h:∀k x s,xs[k]? = some x->I k s->∃o,body k x s=some (.go o)/\I (k+1) o) (A:I 0 s):∃o,forL xs s body=some (.go o)/\I xs.length o:=by
 rw [je hl]
 exact OW I xs xs 0 s rfl (Nat.zero_le _) h A
theorem Sz {α β:Type} {f:α->β} {ks:List β} {k:Nat} {x:β} {l:List α} (o:ks[k]? = some x) (h:(l.map f).Sublist (ks.take k)):(l.map f).Sublist (ks.take (k+1))/\∀c,f c=x->((l++[c]).map f).Sublist (ks.take (k+1)):=by
 have e:ks.take (k+1)=ks.take k++[x]:=by
  rw [List.take_add_one,o];rfl
 rw [e]
 refine⟨h.trans (List.sublist_append_left _ _),λc hc => ?_⟩
 rw [List.map_append]
 refine h.append ?_
 rw [List.map_cons,hc]
 exact List.Sublist.refl _
theorem ji {a b:ByteArray} (h:sLt a b=true):lt a b:=(FQ a b).1 h
end Go.Proofs.YtadpbmfnnlkdlacGreatDoor.Law

open Go Go.Eng
namespace Go.Proofs.YtadpbmfnnlkdlacGreatDoor.Law
set_option linter.unusedVariables false
set_option linter.unusedSimpArgs false
structure Band where
 a:Int
 b:Int
 row:List Run
end Go.Proofs.YtadpbmfnnlkdlacGreatDoor.Law

open Go Go.Eng
namespace Go.Proofs.YtadpbmfnnlkdlacGreatDoor.Law
set_option linter.unusedVariables false
set_option linter.unusedSimpArgs false
end Go.Proofs.YtadpbmfnnlkdlacGreatDoor.Law

open Go Go.Eng
namespace Go.Proofs.YtadpbmfnnlkdlacGreatDoor.Law
set_option linter.unusedVariables false
set_option linter.unusedSimpArgs false
end Go.Proofs.YtadpbmfnnlkdlacGreatDoor.Law

open Go Go.Eng
namespace Go.Proofs.YtadpbmfnnlkdlacGreatDoor.Law
set_option linter.unusedVariables false
set_option linter.unusedSimpArgs false
end Go.Proofs.YtadpbmfnnlkdlacGreatDoor.Law

open Go Go.Eng
namespace Go.Proofs.YtadpbmfnnlkdlacGreatDoor.Law
set_option linter.unusedVariables false
set_option linter.unusedSimpArgs false
end Go.Proofs.YtadpbmfnnlkdlacGreatDoor.Law

open Go Go.Eng
namespace Go.Proofs.YtadpbmfnnlkdlacGreatDoor.Law
set_option linter.unusedVariables false
set_option linter.unusedSimpArgs false
def b01 (b:Bool):Int:=bif b then 1 else 0
def ind (r:Rect) (x y:Int):Int:=b01 (has1 x y r)
end Go.Proofs.YtadpbmfnnlkdlacGreatDoor.Law

open Go Go.Eng
namespace Go.Proofs.YtadpbmfnnlkdlacGreatDoor.Law
set_option linter.unusedVariables false
set_option linter.unusedSimpArgs false
end Go.Proofs.YtadpbmfnnlkdlacGreatDoor.Law

open Go Go.Eng
namespace Go.Proofs.YtadpbmfnnlkdlacGreatDoor.Law
set_option linter.unusedVariables false
set_option linter.unusedSimpArgs false
theorem PT {r:Rect} (h:Fine r):KW r=false:=by
 unfold Fine at h
 unfold KW
 rw [fG (n:=100000-r.X) (by omega),fG (n:=100000-r.Y) (by omega),sZ (by omega),sZ (by omega),sZ (by omega),sZ (by omega)];rfl
end Go.Proofs.YtadpbmfnnlkdlacGreatDoor.Law

open Go Go.Eng
namespace Go.Proofs.YtadpbmfnnlkdlacGreatDoor.Law
set_option linter.unusedVariables false
set_option linter.unusedSimpArgs false
end Go.Proofs.YtadpbmfnnlkdlacGreatDoor.Law

open Go Go.Eng
namespace Go.Proofs.YtadpbmfnnlkdlacGreatDoor.Law
set_option linter.unusedVariables false
set_option linter.unusedSimpArgs false
end Go.Proofs.YtadpbmfnnlkdlacGreatDoor.Law

open Go Go.Eng
namespace Go.Proofs.YtadpbmfnnlkdlacGreatDoor.Law
set_option linter.unusedVariables false
set_option linter.unusedSimpArgs false
theorem NT (s:Stream) {b:Int} (hs:Ok s b) (hb:b<=900000):∃r h,ko s=some (r,h)/\Fine r/\(-2<=r.X/\r.X<=8 /\ -2<=r.Y/\r.Y<=8/\r.W<=5/\r.H<=5)/\Ok h (b+4):=by
 unfold ko
 obtain ⟨X,L,I,c2,c3,B⟩:=lY s (-2) 8 hs (by omega) (by decide) (by decide) (by decide)
 obtain ⟨Y,O,o,d2,d3,R⟩:=lY L (-2) 8 B (by omega) (by decide) (by decide) (by decide)
 obtain ⟨U,M,F,e2,e3,J⟩:=lY O 1 5 R (by omega) (by decide) (by decide) (by decide)
 obtain ⟨V,Z,A,f2,f3,N⟩:=lY M 1 5 J (by omega) (by decide) (by decide) (by decide)
 simp only [I,o,F,A,ob_]
 refine⟨_,_,rfl,?_,by simp only [];omega,N.mono (by omega)⟩
 unfold Fine
 simp only [];omega
theorem Md (f:Rect->Option Bool) (p:Rect->Bool):∀(l:List Rect) (k:Nat),(∀r∈l,f r=some (p r))->(forR (λk z s=>bN f k z s) l k ()=some (.go ())/\l.any p=false)\/∃j:Nat,forR (λk z s=>bN f k z s) l k ()=some (.ret (j:Int))/\l.any p=true
 | [],k,_ => .inl ⟨rfl,rfl⟩
 | r::l,k,h=>by
  have A:bN f k r ()=some (bif p r then .ret (k:Int)else .go ()):=by
   unfold bN
   rw [h r (by simp),ob_]
   cases p r <;> rfl
  rw [forR,A,ob_,List.any_cons]
  cases p r with
  | true=>exact .inr ⟨k,rfl,rfl⟩
  | false=>exact Md f p l (k+1) (λr o=>h r (by simp [o]))
theorem any_eq (f:Rect->Option Bool) (p:Rect->Bool) {l:List Rect} (h:∀r∈l,f r=some (p r)) (hl:l.length<=1000000):dz l f=some (l.any p):=by
 unfold dz fD
 rw [je (by omega)]
 rcases Md f p l 0 h with⟨h1,h2⟩|⟨j,h1,h2⟩
 ·rw [h1,h2];rfl
 ·rw [h1,h2]
  simp only [ob_,thenC]
  have:decide ((j:Int)>=0)=true:=by simp
  rw [this]
end Go.Proofs.YtadpbmfnnlkdlacGreatDoor.Law

open Go Go.Eng
namespace Go.Proofs.YtadpbmfnnlkdlacGreatDoor.Law
set_option linter.unusedVariables false
set_option linter.unusedSimpArgs false
def vO {σ ρ:Type} (s:σ) (body:σ->Option (Ctl σ ρ)):Option (Ctl σ ρ):=iterN body 300 s
def Le {α:Type} (a b:Option α):Prop:=∀r,a=some r->b=some r
theorem Le.refl {α:Type} (a:Option α):Le a a:=λ_ h=>h
theorem Le.bind {α β:Type} {a b:Option α} {f g:α->Option β} (h:Le a b) (k:∀x,Le (f x) (g x)):Le (a.bind f) (b.bind g):=λr e=>by
 obtain ⟨x,h1,h2⟩:=Option.bind_eq_some_iff.1 e
 rw [h x h1];exact k x r h2
theorem Le.cond {α:Type} {a b c d:Option α} {t:Bool} (h:Le a c) (k:Le b d):Le (bif t then a else b) (bif t then c else d):=by
 cases t
 ·exact k
 ·exact h
theorem Le.thenC {σ ρ τ:Type} {o:Ctl σ ρ} {f B:σ->Option τ} {g A:ρ->Option τ} (h:∀x,Le (f x) (B x)) (k:∀x,Le (g x) (A x)):Le (Go.Eng.thenC o f g) (Go.Eng.thenC o B A):=by
 cases o
 ·exact h _
 ·exact Le.refl _
 ·exact k _
theorem Le.forR {α σ ρ:Type} {b b':Nat->α->σ->Option (Ctl σ ρ)} (h:∀k x s,Le (b k x s) (b' k x s)):∀(xs:List α) (k:Nat) (s:σ),Le (Go.Eng.forR b xs k s) (Go.Eng.forR b' xs k s)
 | [],k,s=>Le.refl _
 | x::xs,k,s=>Le.bind (h k x s) (λc=>by
   cases c with
   | go o=>exact Le.forR h xs _ _
   | brk o=>exact Le.refl _
   | ret r=>exact Le.refl _)
theorem Le.forL {α σ ρ:Type} {xs:List α} {s:σ} {b b':Nat->α->σ->Option (Ctl σ ρ)} (h:∀k x s,Le (b k x s) (b' k x s)):Le (Go.Eng.forL xs s b) (Go.Eng.forL xs s b'):=by
 unfold Go.Eng.forL
 split
 ·exact Le.forR h xs 0 s
 ·exact Le.refl _
theorem Le.iterN {σ ρ:Type} {b b':σ->Option (Ctl σ ρ)} (h:∀s,Le (b s) (b' s)):∀(n:Nat) (s:σ),Le (Go.Eng.iterN b n s) (Go.Eng.iterN b' n s)
 | 0,s=>Le.refl _
 | n+1,s=>Le.bind (h s) (λc=>by
   cases c with
   | go o=>exact Le.iterN h n o
   | brk o=>exact Le.refl _
   | ret r=>exact Le.refl _)
theorem Le.loop {σ ρ:Type} {s:σ} {b b':σ->Option (Ctl σ ρ)} (h:∀s,Le (b s) (b' s)):Le (vO s b) (jK s b'):=λr e=>ng (Le.iterN h _ _ r e)
end Go.Proofs.YtadpbmfnnlkdlacGreatDoor.Law

open Go Go.Eng
namespace Go.Proofs.YtadpbmfnnlkdlacGreatDoor.Law
set_option linter.unusedVariables false
set_option linter.unusedSimpArgs false
set_option maxRecDepth 100000
def mW (B:ByteArray) (A:Int):Option (ByteArray) :=
 (vO B (λs=>jL A s)).bind λh=>thenC h (λo=>some o) (λ_=>none)
theorem xu (h:ByteArray) (o:Int):Le (mW h o) (strings_trimRightByte h o):=by
 unfold mW strings_trimRightByte
 repeat' (with_reducible first | exact Le.refl _ | refine Le.loop (λ_ => ?_) | refine Le.forL (λ_ _ _ => ?_) | refine Le.thenC (λ_ => ?_) (λ_ => ?_) | refine Le.cond ?_ ?_ | refine Le.bind ?_ (λ_ => ?_))
def nO (B:ByteArray) (A:Int):Option (ByteArray) :=
 (vO B (λs=>jT A s)).bind λh=>thenC h (λo=>some o) (λ_=>none)
theorem xY (h:ByteArray) (o:Int):Le (nO h o) (strings_trimLeftByte h o):=by
 unfold nO strings_trimLeftByte
 repeat' (with_reducible first | exact Le.refl _ | refine Le.loop (λ_ => ?_) | refine Le.forL (λ_ _ _ => ?_) | refine Le.thenC (λ_ => ?_) (λ_ => ?_) | refine Le.cond ?_ ?_ | refine Le.bind ?_ (λ_ => ?_))
def xw (o:ByteArray) (h:ByteArray):Option (ByteArray) :=
 (bif (sEq o (⟨#[]⟩:ByteArray))then some true else some (sEq h (⟨#[]⟩:ByteArray))).bind λM=>bif M then some o else (bif ((h.size:Int)==1)then (Be h 0).bind λJ=>some (decide ((J.toNat:Int)<128))else some false).bind λL=>bif L then (Be h 0).bind λF=>(mW o (F.toNat:Int)).bind λI=>(Be h 0).bind λB=>(nO I (B.toNat:Int)).bind λA=>some A else none
theorem FM (o:ByteArray) (h:ByteArray):Le (xw o h) (q8 o h):=by
 unfold xw q8
 repeat' (with_reducible first | exact Le.refl _ | exact xu _ _ | exact xY _ _ | refine Le.loop (λ_ => ?_) | refine Le.forL (λ_ _ _ => ?_) | refine Le.thenC (λ_ => ?_) (λ_ => ?_) | refine Le.cond ?_ ?_ | refine Le.bind ?_ (λ_ => ?_))
def eO (h:ByteArray):Option (Bool) :=
 (vO 0 (λs=>rH h s)).bind λB=>thenC B (λJ=>((lN h).bind λo=>bif o then (xw h (⟨#[32]⟩:ByteArray)).bind λI=>bif (sEq I h)then (strings_Contains h (⟨#[32,32]⟩:ByteArray)).bind λF=>some (!F)else some false else some false).bind λA=>some A) (λr=>some r)
theorem dY (h:ByteArray):Le (eO h) (mQ h):=by
 unfold eO mQ
 repeat' (with_reducible first | exact Le.refl _ | exact FM _ _ | refine Le.loop (λ_ => ?_) | refine Le.forL (λ_ _ _ => ?_) | refine Le.thenC (λ_ => ?_) (λ_ => ?_) | refine Le.cond ?_ ?_ | refine Le.bind ?_ (λ_ => ?_))
theorem FD (s:ByteArray):Le (eO s) (mQ s):=dY s
end Go.Proofs.YtadpbmfnnlkdlacGreatDoor.Law

open Go Go.Eng
namespace Go.Proofs.YtadpbmfnnlkdlacGreatDoor.Law
set_option linter.unusedVariables false
set_option linter.unusedSimpArgs false
set_option maxRecDepth 100000
def idL:List ByteArray:=[⟨#[97,97]⟩,⟨#[97,98]⟩,⟨#[97,99]⟩,⟨#[97,100]⟩,⟨#[97,101]⟩,⟨#[97,102]⟩]
def refL:List ByteArray:=[⟨#[97,97]⟩,⟨#[97,98]⟩,⟨#[97,99]⟩,⟨#[97,100]⟩,⟨#[122,122]⟩]
def zyS:ByteArray:=⟨#[122,121]⟩
def wxS:ByteArray:=⟨#[119,120]⟩
def fireS:ByteArray:=⟨#[102,105,114,101]⟩
def floodS:ByteArray:=⟨#[102,108,111,111,100]⟩
def mallS:ByteArray:=⟨#[102,105,114,101,32,105,110,32,116,104,101,32,109,97,108,108]⟩
def overS:ByteArray:=⟨#[111,118,101,114]⟩
theorem QL:eO ⟨#[]⟩=some true/\eO floodS=some true/\eO mallS=some true/\eO overS=some true :=
 ⟨by kernel_rfl,by kernel_rfl,by kernel_rfl,by kernel_rfl⟩
def SmallR (r:Rect):Prop:=Fine r/\(-2<=r.X/\r.X<=8 /\ -2<=r.Y/\r.Y<=8/\r.W<=5/\r.H<=5)
structure RightA (x:Alert):Prop where
 id:x.Id∈idL
 sender:x.Sender=wxS\/x.Sender=fireS
 kind:1<=x.Kind/\x.Kind<=3
 refs:x.Refs.Sublist refL\/x.Refs=[zyS]
 noId:∀r∈x.Refs,r≠x.Id
 new:x.Kind=1↔x.Refs=[]
 at_:0<=x.At/\x.At<=30
 until_:x.At+1<=x.Until/\x.Until<=x.At+50
 weight:1<=x.Weight/\x.Weight<=9
 areas:∀r∈x.Areas,SmallR r
 alen:x.Areas.length<=2
 cancel:x.Kind=3↔x.Areas=[]
 text:x.Text=floodS\/x.Text=mallS\/x.Kind=3/\(x.Text=⟨#[]⟩\/x.Text=overS)
theorem OB:∀k∈idL,keyB k=true/\Nat.ble k.size 1000=true:=by
 intro k h
 simp only [idL,List.mem_cons,List.not_mem_nil,or_false]at h
 rcases h with rfl|rfl|rfl|rfl|rfl|rfl <;> exact⟨by kernel_rfl,rfl⟩
theorem QS:∀k∈idL,uj k 0=97:=by
 intro k h
 simp only [idL,List.mem_cons,List.not_mem_nil,or_false]at h
 rcases h with rfl|rfl|rfl|rfl|rfl|rfl <;> rfl
theorem MO:∀k∈refL,keyB k=true/\Nat.ble k.size 1000=true:=by
 intro k h
 simp only [refL,List.mem_cons,List.not_mem_nil,or_false]at h
 rcases h with rfl|rfl|rfl|rfl|rfl <;> exact⟨by kernel_rfl,rfl⟩
theorem PU:refL.Pairwise lt:=by
 unfold refL
 simp only [List.pairwise_cons,List.mem_cons,List.not_mem_nil,or_false,forall_eq_or_imp,forall_eq]
 refine⟨⟨ji (by kernel_rfl),ji (by kernel_rfl),ji (by kernel_rfl),ji (by kernel_rfl)⟩,⟨ji (by kernel_rfl),ji (by kernel_rfl),ji (by kernel_rfl)⟩,⟨ji (by kernel_rfl),ji (by kernel_rfl)⟩,ji (by kernel_rfl),λa h=>(by cases h),List.Pairwise.nil⟩
theorem Sm:idL.Pairwise lt:=by
 unfold idL
 simp only [List.pairwise_cons,List.mem_cons,List.not_mem_nil,or_false,forall_eq_or_imp,forall_eq]
 refine⟨⟨ji (by kernel_rfl),ji (by kernel_rfl),ji (by kernel_rfl),ji (by kernel_rfl),ji (by kernel_rfl)⟩,⟨ji (by kernel_rfl),ji (by kernel_rfl),ji (by kernel_rfl),ji (by kernel_rfl)⟩,⟨ji (by kernel_rfl),ji (by kernel_rfl),ji (by kernel_rfl)⟩,⟨ji (by kernel_rfl),ji (by kernel_rfl)⟩,ji (by kernel_rfl),λa h=>(by cases h),List.Pairwise.nil⟩
theorem RightA.refsKey {x:Alert} (h:RightA x):∀r∈x.Refs,kit_IsKey r=some true:=λr o=>by
 have:keyB r=true/\Nat.ble r.size 1000=true:=by
  rcases h.refs with hs|hs
  ·exact MO r (hs.subset o)
  ·rw [hs]at o
   rw [List.mem_singleton.1 o];exact⟨by kernel_rfl,rfl⟩
 rw [qY r (by have:=Nat.le_of_ble_eq_true this.2;omega),this.1]
theorem RightA.refsRise {x:Alert} (h:RightA x):x.Refs.Pairwise lt:=by
 rcases h.refs with hs|hs
 ·exact PU.sublist hs
 ·rw [hs];exact List.pairwise_singleton _ _
theorem RightA.refsLen {x:Alert} (h:RightA x):x.Refs.length<=5:=by
 rcases h.refs with hs|hs
 ·exact hs.length_le
 ·rw [hs];decide
theorem RightA.plain {x:Alert} (h:RightA x):mQ x.Text=some true:=by
 obtain ⟨o,A,F,B⟩:=QL
 rcases h.text with e|e|⟨_,e|e⟩ <;> rw [e]
 ·exact dY _ _ A
 ·exact dY _ _ F
 ·exact dY _ _ o
 ·exact dY _ _ B
theorem Mt {x:Alert} (h:RightA x):iJ x=some 0:=by
 have hl:=h.refsLen
 unfold iJ
 rw [decide_eq_false (by omega),cond_false]
 obtain ⟨u,e,_⟩:=kS (body:=λk y s=>dZ x k y s) (λ_ _=>True) (xs:=x.Refs) (s:=()) (by omega) (λk y s B _=>by
  refine⟨(),?_,trivial⟩
  have hm:=List.mem_of_getElem? B
  unfold dZ
  rw [h.refsKey y hm]
  simp only [ob_,Bool.not_true,cond_false]
  have o:sEq y x.Id=false:=by rw [yK];exact decide_eq_false (h.noId y hm)
  rcases Nat.eq_zero_or_pos k with F|F
  ·rw [decide_eq_false (by omega),cond_false,ob_,cond_false,o];rfl
  ·rw [decide_eq_true (by omega),cond_true]
   obtain ⟨z,N,R⟩:=zQ B F (by omega)
   have J:lt z y:=by
    obtain ⟨O,L⟩:=List.getElem?_eq_some_iff.1 R
    obtain ⟨I,M⟩:=List.getElem?_eq_some_iff.1 B
    rw [<- L,<- M]
    exact List.pairwise_iff_getElem.1 h.refsRise _ _ O I (by omega)
   have A:sLe y z=false:=by rw [<- Bool.not_eq_true,PD];exact λk=>k J
   rw [N,ob_,A,ob_,cond_false,o];rfl) trivial
 rw [e]
 simp only [ob_,thenC]
 have:((x.Kind==1)==((x.Refs.length:Int)==0))=true:=by
  rw [beq_iff_eq,Bool.eq_iff_iff,beq_iff_eq,beq_iff_eq,h.new]
  constructor
  ·intro e;rw [e];rfl
  ·intro e;exact List.eq_nil_of_length_eq_zero (by omega)
 rw [this];rfl
theorem Ob {r:Rect} (h:Fine r):jI r=some 0:=by rw [Dm,PT h];rfl
theorem CP {x:Alert} (h:RightA x):gP x=some 0:=by
 have o:=OB _ h.id
 have M:kit_IsKey x.Id=some true:=by rw [qY _ (by have:=Nat.le_of_ble_eq_true o.2;omega),o.1]
 have B:kit_IsKey x.Sender=some true:=by
  rcases h.sender with e|e <;> rw [e,qY _ (by decide)] <;> exact congrArg some (by kernel_rfl)
 have h1:=h.at_
 have h2:=h.until_
 have J:=h.weight
 have N:=h.alen
 have A:Dk x.At=true:=by unfold Dk;rw [sZ (by omega)];rfl
 unfold gP
 rw [M,B,Mt h]
 simp only [ob_,Bool.not_true,cond_false,sj,sZ h.kind,bne_self_eq_false,zy,A,fG (n:=x.At+1) (by omega),fG (n:=x.At+2592000000) (by omega),sZ (show x.At+1<=x.Until/\x.Until<=x.At+2592000000 by omega),sZ J,decide_eq_false (show ¬(x.Areas.length:Int)>20 by omega)]
 obtain ⟨u,e,_⟩:=kS (body:=λk y s=>eQ k y s) (λ_ _=>True) (xs:=x.Areas) (s:=()) (by omega) (λk y s I _=>by
  refine⟨(),?_,trivial⟩
  unfold eQ
  rw [Ob (h.areas y (List.mem_of_getElem? I)).1];rfl) trivial
 rw [e]
 simp only [ob_,thenC,h.plain,Bool.not_true,cond_false]
 have F:((x.Kind==3)==((x.Areas.length:Int)==0))=true:=by
  rw [beq_iff_eq,Bool.eq_iff_iff,beq_iff_eq,beq_iff_eq,h.cancel]
  constructor
  ·intro e;rw [e];rfl
  ·intro e;exact List.eq_nil_of_length_eq_zero (by omega)
 rw [F]
 have O:x.Text.size<=16:=by
  rcases h.text with e|e|⟨_,e|e⟩ <;> rw [e] <;> decide
 rw [decide_eq_false (show ¬(x.Text.size:Int)>500 by omega)]
 have L:(bif sEq x.Text ⟨#[]⟩then some (!(x.Kind==3))else some false)=some false:=by
  rw [yK]
  rcases h.text with e|e|⟨k,_⟩
  ·rw [e,decide_eq_false (by decide)];rfl
  ·rw [e,decide_eq_false (by decide)];rfl
  ·rw [k]
   cases decide (x.Text=⟨#[]⟩) <;> rfl
 rw [L];rfl
theorem Rz (id:ByteArray) (s:Stream) {b:Int} (hs:Ok s b) (hb:b<=800000) :
  ∃l A,forL ([(⟨#[97,97]⟩:ByteArray),(⟨#[97,98]⟩:ByteArray),(⟨#[97,99]⟩:ByteArray),(⟨#[97,100]⟩:ByteArray),(⟨#[122,122]⟩:ByteArray)]:List ByteArray) (([]:List ByteArray),s.L,s.f_at) (λk x s=>eu id k x s)=some (.go (l,A.L,A.f_at))/\l.Sublist refL/\(∀r∈l,r≠id)/\Ok A (b+10):=by
 obtain ⟨t,J,t2,t3,t4⟩:=kS (body:=λk x s=>eu id k x s) (xs:=refL) (s:=(([]:List ByteArray),s.L,s.f_at)) (λk t=>t.1.Sublist (refL.take k)/\(∀r∈t.1,r≠id)/\Ok ⟨t.2.1,t.2.2⟩ (b+k)) (by decide) (λk x t I ⟨o,i2,i3⟩=>by
  have M:k<refL.length:=(List.getElem?_eq_some_iff.1 I).1
  have O:k<5:=M
  have et:refL.take (k+1)=refL.take k++[x]:=by rw [List.take_add_one,I];rfl
  have B:t.1.length<=5:=Nat.le_trans o.length_le (by rw [List.length_take];exact Nat.min_le_right _ _)
  unfold eu
  rw [AA]
  by_cases he:x=id
  ·rw [decide_eq_true he]
   exact⟨_,rfl,by rw [et];exact o.trans (List.sublist_append_left _ _),i2,i3.mono (by omega)⟩
  ·obtain ⟨f,R,N,F⟩:=Dn _ 3 i3 (by omega) (by decide) (by decide)
   rw [decide_eq_false he]
   simp only [Bool.not_false,cond_true,N,ob_]
   cases f with
   | true =>
    rw [cond_true,kW _ _ (by simp;omega)]
    refine⟨_,rfl,by rw [et];exact o.append (List.Sublist.refl _),λr h => ?_,F.mono (by omega)⟩
    rcases List.mem_append.1 h with h|h
    ·exact i2 r h
    ·rw [List.mem_singleton.1 h];exact he
   | false=>exact⟨_,rfl,by rw [et];exact o.trans (List.sublist_append_left _ _),i2,F.mono (by omega)⟩) ⟨List.Sublist.refl _,λr h=>(by cases h),hs.mono (by omega)⟩
 exact⟨t.1,⟨t.2.1,t.2.2⟩,J,by simpa using t2,t3,t4.mono (by show b+((5:Nat):Int)<=b+10;omega)⟩
theorem Qr (n:Int) (O:1<=n/\n<=2) (s:Stream) {b:Int} (hs:Ok s b) (hb:b<=800000) :
  ∃l o,forL (List.range n.toNat) (([]:List Rect),s.L,s.f_at) (λk x s=>d9 k x s)=some (.go (l,o.L,o.f_at))/\(l.length:Int)=n/\(∀r∈l,SmallR r)/\Ok o (b+10):=by
 obtain ⟨t,B,t2,t3,t4⟩:=Sq (body:=λk x s=>d9 k x s) (s:=(([]:List Rect),s.L,s.f_at)) (xs:=List.range n.toNat) (λj t=>t.1.length=j/\(∀r∈t.1,SmallR r)/\Ok ⟨t.2.1,t.2.2⟩ (b+4*j)) (by simp;omega) (λj x t W hj ⟨A,i2,i3⟩=>by
  simp only [List.length_range]at hj
  obtain ⟨r,R,J,I,M,F⟩:=NT _ i3 (by omega)
  unfold d9
  rw [J,ob_,kW _ _ (by simp;omega)]
  refine⟨_,rfl,by simp [A],λq h => ?_,F.mono (by omega)⟩
  rcases List.mem_append.1 h with h|h
  ·exact i2 q h
  ·rw [List.mem_singleton.1 h];exact⟨I,M⟩) ⟨rfl,λr N=>(by cases N),hs.mono (by omega)⟩
 rw [List.length_range]at t2 t4
 exact⟨t.1,⟨t.2.1,t.2.2⟩,B,by omega,t3,t4.mono (by omega)⟩
theorem QP (id:ByteArray) (R:id∈idL) (k:Nat) (l0:List Alert) (hl:l0.length<=100) (s:Stream) {b:Int} (hs:Ok s b) (hb:b<=700000) :
  ∃x s',fO k id (l0,s.L,s.f_at)=some (.go (l0++[x],s'.L,s'.f_at))/\RightA x/\x.Id=id/\Ok s' (b+40):=by
 obtain ⟨sd,s1,a1,a2,a3⟩:=CK s [(⟨#[119,120]⟩:ByteArray),(⟨#[119,120]⟩:ByteArray),(⟨#[102,105,114,101]⟩:ByteArray)] hs (by omega) (by simp) (by simp)
 obtain ⟨F,s2,b1,b2,b3⟩:=FT s1 [1,1,2,2,3] a3 (by omega) (by simp) (by simp)
 obtain ⟨n5,s3,c1,c2,c3,c4⟩:=lY s2 0 6 b3 (by omega) (by decide) (by decide) (by decide)
 obtain ⟨wt,s4,d1,d2,d3⟩:=FT s3 [1,5,5,9] c4 (by omega) (by simp) (by simp)
 obtain ⟨tx,s5,e1,e2,e3⟩:=CK s4 [(⟨#[102,108,111,111,100]⟩:ByteArray),(⟨#[102,105,114,101,32,105,110,32,116,104,101,32,109,97,108,108]⟩:ByteArray)] d3 (by omega) (by simp) (by simp)
 obtain ⟨un,W,f1,f2,f3⟩:=FT s5 [1,10,20,50] e3 (by omega) (by simp) (by simp)
 have hsd:sd=wxS\/sd=fireS:=by
  simp only [List.mem_cons,List.not_mem_nil,or_false]at a2
  rcases a2 with h|h|h
  ·exact .inl h
  ·exact .inl h
  ·exact .inr h
 have hkd:F=1\/F=2\/F=3:=by
  simp only [List.mem_cons,List.not_mem_nil,or_false]at b2;omega
 have hwt:1<=wt/\wt<=9:=by
  simp only [List.mem_cons,List.not_mem_nil,or_false]at d2;omega
 have hun:1<=un/\un<=50:=by
  simp only [List.mem_cons,List.not_mem_nil,or_false]at f2;omega
 have htx:tx=floodS\/tx=mallS:=by
  simp only [List.mem_cons,List.not_mem_nil,or_false]at e2;exact e2
 obtain ⟨rf,A,g1,g2,g3,g4,g5⟩:∃rf A,(bif F != 1 then (forL ([(⟨#[97,97]⟩:ByteArray),(⟨#[97,98]⟩:ByteArray),(⟨#[97,99]⟩:ByteArray),(⟨#[97,100]⟩:ByteArray),(⟨#[122,122]⟩:ByteArray)]:List ByteArray) (([]:List ByteArray),W.L,W.f_at) (λk x s=>eu id k x s)).bind λY=>thenC Y (λo=>bif ((o.1.length:Int)==0)then some (o.2.1,o.2.2,([(⟨#[122,121]⟩:ByteArray)]:List ByteArray))else some (o.2.1,o.2.2,o.1)) (λ_=>none)else some (W.L,W.f_at,([]:List ByteArray)))=some (Stream.L A,Stream.f_at A,rf)/\(rf.Sublist refL\/rf=[zyS])/\(∀r∈rf,r≠id)/\(F=1↔rf=[])/\Ok A (b+20):=by
  by_cases h1:F=1
  ·rw [h1]
   exact⟨[],W,rfl,.inl (List.nil_sublist _),λr Z=>(by cases Z),⟨λ_=>rfl,λ_=>rfl⟩,f3.mono (by omega)⟩
  ·have:(F != 1)=true:=by simpa using h1
   rw [this,cond_true]
   obtain ⟨l,A,g1,g2,g3,g4⟩:=Rz id W f3 (by omega)
   rw [g1]
   simp only [ob_,thenC]
   by_cases hl0:l=[]
   ·subst hl0
    refine⟨[zyS],A,rfl,.inr rfl,λr Z e => ?_,⟨λh=>absurd h h1,λh=>(by cases h)⟩,g4.mono (by omega)⟩
    rw [List.mem_singleton.1 Z]at e
    rw [<- e]at R
    have:=QS _ R
    exact absurd this (by decide)
   ·have:((l.length:Int)==0)=false:=by
     rw [beq_eq_false_iff_ne]
     intro e;exact hl0 (List.eq_nil_of_length_eq_zero (by omega))
    rw [this,cond_false]
    exact⟨l,A,rfl,.inl g2,g3,⟨λh=>absurd h h1,λh=>absurd h hl0⟩,g4.mono (by omega)⟩
 obtain ⟨O,B,N,j1,j2,j3,j4,j5,j6⟩:∃O B N,(bif F==3 then (iG (⟨Stream.L A,Stream.f_at A⟩:Stream) ([(⟨#[]⟩:ByteArray),(⟨#[111,118,101,114]⟩:ByteArray)]:List ByteArray)).bind λM=>some (([]:List Rect),M.2.L,M.2.f_at,M.1)else (cZ (⟨Stream.L A,Stream.f_at A⟩:Stream) 1 2).bind λJ=>(forL (List.range (J.1).toNat) (([]:List Rect),J.2.L,J.2.f_at) (λk x s=>d9 k x s)).bind λX=>thenC X (λI=>some (I.1,I.2.1,I.2.2,tx)) (λ_=>none))=some (O,Stream.L N,Stream.f_at N,B)/\(∀r∈O,SmallR r)/\O.length<=2/\(F=3↔O=[])/\(B=floodS\/B=mallS\/F=3/\(B=⟨#[]⟩\/B=overS))/\Ok N (b+40):=by
  have e7:(⟨Stream.L A,Stream.f_at A⟩:Stream)=A:=rfl
  rw [e7]
  by_cases h3:F=3
  ·have:(F==3)=true:=by simpa using h3
   rw [this,cond_true]
   obtain ⟨t2,N,q1,q2,q3⟩:=CK A [(⟨#[]⟩:ByteArray),(⟨#[111,118,101,114]⟩:ByteArray)] g5 (by omega) (by simp) (by simp)
   rw [q1]
   simp only [List.mem_cons,List.not_mem_nil,or_false]at q2
   exact⟨[],t2,N,rfl,λr Z=>(by cases Z),by decide,⟨λ_=>rfl,λ_=>h3⟩,.inr (.inr ⟨h3,q2⟩),q3.mono (by omega)⟩
  ·have:(F==3)=false:=by simpa using h3
   rw [this,cond_false]
   obtain ⟨m,N,q1,q2,q3,q4⟩:=lY A 1 2 g5 (by omega) (by decide) (by decide) (by decide)
   obtain ⟨O,s9,r1,r2,r3,r4⟩:=Qr m ⟨q2,q3⟩ N q4 (by omega)
   rw [q1,ob_,r1]
   refine⟨O,tx,s9,rfl,r3,by omega,⟨λh=>absurd h h3,λh => ?_⟩,htx.imp (λh=>h) .inl,r4.mono (by omega)⟩
   rw [h]at r2;simp at r2;omega
 refine⟨⟨id,sd,F,rf,n5*5,n5*5+un,wt,O,B⟩,N,?_,⟨R,hsd,by simp only [];omega,g2,g3,g4,by simp only [];omega,by simp only [];omega,hwt,j2,j3,j4,j5⟩,rfl,j6⟩
 unfold fO
 have e0:(⟨s.L,s.f_at⟩:Stream)=s:=rfl
 simp only [e0,a1,b1,c1,d1,e1,f1,g1,j1,ob_]
 rw [kW _ _ (by simp;omega),fG (n:=n5*5) (by omega),fG (n:=n5*5+un) (by omega)];rfl
def befA (a b:Alert):Prop:=a.At<b.At\/a.At=b.At/\lt a.Id b.Id
open Classical in
theorem Tj {a b:Alert} (h:RightA a) (hb:RightA b):nJ a b=some (bif a.At != b.At then a.At-b.At else bif sLt a.Id b.Id then -1 else 1):=by
 have h1:=h.at_
 have h2:=hb.at_
 unfold nJ
 cases a.At != b.At with
 | true=>rw [cond_true,cond_true,fG (by omega)]
 | false =>
  rw [cond_false,cond_false]
  cases sLt a.Id b.Id <;> rfl
theorem u6 {a b:Alert}:(bif a.At != b.At then a.At-b.At else bif sLt a.Id b.Id then (-1:Int)else 1)<0↔befA a b:=by
 unfold befA
 by_cases h:a.At=b.At
 ·have:(a.At != b.At)=false:=by simpa using h
  rw [this,cond_false]
  cases hl:sLt a.Id b.Id with
  | true =>
   rw [cond_true]
   exact⟨λ_ => .inr ⟨h,(FQ _ _).1 hl⟩,λ_=>by decide⟩
  | false =>
   rw [cond_false]
   refine⟨λh=>absurd h (by decide),λhb => ?_⟩
   rcases hb with hb|hb
   ·omega
   ·rw [(FQ _ _).2 hb.2]at hl;cases hl
 ·have:(a.At != b.At)=true:=by simpa using h
  rw [this,cond_true]
  refine⟨λk => .inl (by omega),λhb => ?_⟩
  rcases hb with hb|hb
  ·omega
  ·exact absurd hb.1 h
theorem MX (a:Alert):¬befA a a:=λh=>by
 rcases h with h|h
 ·omega
 ·exact gy _ h.2
theorem GM {a b c:Alert} (h:befA a b) (k:befA b c):befA a c:=by
 rcases h with h|h <;> rcases k with k|k
 ·exact .inl (by omega)
 ·exact .inl (by omega)
 ·exact .inl (by omega)
 ·exact .inr ⟨h.1.trans k.1,lt_trans h.2 k.2⟩
theorem Lt (a b:Alert) (o:a.Id≠b.Id):befA a b\/befA b a:=by
 rcases Int.lt_trichotomy a.At b.At with h|h|h
 ·exact .inl (.inl h)
 ·rcases vK a.Id b.Id with k|k|k
  ·exact .inl (.inr ⟨h,k⟩)
  ·exact absurd k o
  ·exact .inr (.inr ⟨h.symm,k⟩)
 ·exact .inr (.inl h)
theorem ER {a b c:Alert} (h:¬befA a b) (k:¬befA b c):¬befA a c:=λhc=>by
 unfold befA at *
 simp only [not_or,not_and]at h k
 rcases hc with hc|hc
 ·rcases Int.lt_trichotomy a.At b.At with q|q|q
  ·exact h.1 q
  ·rcases Int.lt_trichotomy b.At c.At with r|r|r
   ·exact k.1 r
   ·omega
   ·omega
  ·have:=k.1;omega
 ·have h1:=h.1
  have F:=k.1
  have B:a.At=b.At:=by omega
  have A:b.At=c.At:=by omega
  have h2:=h.2 B
  have o:=k.2 A
  rcases vK a.Id b.Id with q|q|q
  ·exact h2 q
  ·rw [q]at hc;exact o hc.2
  ·rcases vK b.Id c.Id with r|r|r
   ·exact o r
   ·rw [<- r]at hc;exact h2 hc.2
   ·exact gy _ (lt_trans (lt_trans hc.2 r) q)
structure RAlerts (l:List Alert) (n:Nat):Prop where
 right:∀x∈l,RightA x
 rise:l.Pairwise befA
 ids:(l.map (·.Id)).Nodup
 len:l.length<=n
theorem KN (o:Int) (hm:0<=o/\o<=6) (s:Stream) {b:Int} (hs:Ok s b) (hb:b<=600000):∃l s',fU s o=some (l,s')/\(RAlerts l o.toNat/\∀x∈l,x.Id∈idL.take o.toNat)/\Ok s' (b+250):=by
 obtain ⟨n,Z,a1,a2,a3,a4⟩:=lY s 0 o hs (by omega) (by omega) (by decide) (by omega)
 have N:J4 idL 0 n=some (idL.take n.toNat):=by
  unfold J4
  have h6:idL.length=6:=rfl
  rw [if_pos (by rw [h6];omega)]
  simp
 obtain ⟨t,t1,t2,t3,t4⟩:=kS (body:=λk x s=>fO k x s) (xs:=idL.take n.toNat) (s:=(([]:List Alert),Z.L,Z.f_at)) (λk t=>t.1.map (·.Id)=idL.take k/\(∀x∈t.1,RightA x)/\Ok ⟨t.2.1,t.2.2⟩ (b+1+40*k)) (by rw [List.length_take];show min n.toNat 6<=_;omega) (λk x t A ⟨Y,i2,i3⟩=>by
  have hk:k<(idL.take n.toNat).length:=(List.getElem?_eq_some_iff.1 A).1
  rw [List.length_take]at hk
  have hk6:k<6:=by have:idL.length=6:=rfl;omega
  have I:idL[k]? = some x:=by rw [List.getElem?_take_of_lt (by omega)]at A;exact A
  have F:t.1.length<=6:=by
   have:=congrArg List.length Y
   rw [List.length_map,List.length_take]at this
   omega
  obtain ⟨y,s2,c1,c2,c3,c4⟩:=QP x (List.mem_of_getElem? I) k t.1 (by omega) ⟨t.2.1,t.2.2⟩ i3 (by omega)
  refine⟨_,c1,?_,λz J => ?_,c4.mono (by omega)⟩
  ·rw [List.map_append,Y,List.take_add_one,I]
   simp [c3]
  ·rcases List.mem_append.1 J with J|J
   ·exact i2 z J
   ·rw [List.mem_singleton.1 J];exact c2) ⟨rfl,λx A=>(by cases A),a4.mono (by omega)⟩
 have X:(t.1.map (·.Id)).Nodup:=by
  rw [t2]
  exact (Sm.sublist (List.take_sublist _ _)).imp (λh e=>by rw [e]at h;exact gy _ h)
 have F:t.1.length<=o.toNat:=by
  have:=congrArg List.length t2
  rw [List.length_map,List.length_take,List.length_take]at this
  omega
 obtain ⟨r,r1,O,r3⟩:=SY (cmp:=nJ) (S:=dn) (λa b=>bif a.At != b.At then a.At-b.At else bif sLt a.Id b.Id then -1 else 1) (λ_=>rfl) (xs:=t.1) (by omega) (λx A y hy=>Tj (t3 x A) (t3 y hy))
  (λx y h k=>MX x (GM (u6.1 h) (u6.1 k))) (λx y z h k q=>ER (λe=>h (u6.2 e)) (λe=>k (u6.2 e)) (u6.1 q))
 have W:r.length=t.1.length:=O.length_eq
 have B:(r.map (·.Id)).Nodup:=(O.map (·.Id)).nodup_iff.2 X
 have R:∀x∈r,x.Id∈idL.take o.toNat:=λx A=>by
  have h1:x.Id∈t.1.map (·.Id):=List.mem_map.2 ⟨x,O.mem_iff.1 A,rfl⟩
  rw [t2]at h1
  have h2:(idL.take n.toNat).length<=o.toNat:=by rw [List.length_take];omega
  have h3:idL.take (idL.take n.toNat).length=(idL.take o.toNat).take (idL.take n.toNat).length:=by rw [List.take_take,Nat.min_eq_left h2]
  rw [h3]at h1
  exact List.mem_of_mem_take h1
 refine⟨r,⟨t.2.1,t.2.2⟩,?_,⟨⟨λx A=>t3 x (O.mem_iff.1 A),?_,B,by omega⟩,R⟩,t4.mono (by
  have:(idL.take n.toNat).length<=6:=by rw [List.length_take];exact Nat.min_le_right _ _
  omega)⟩
 ·unfold fU
  have e1:J4 ([(⟨#[97,97]⟩:ByteArray),(⟨#[97,98]⟩:ByteArray),(⟨#[97,99]⟩:ByteArray),(⟨#[97,100]⟩:ByteArray),(⟨#[97,101]⟩:ByteArray),(⟨#[97,102]⟩:ByteArray)]:List ByteArray) 0 n=some (idL.take n.toNat):=N
  simp only [a1,ob_,e1,t1,thenC]
  have e2:dn t.1=some r:=r1
  have e3:iP r t.1=some ():=by unfold iP;rw [if_pos W]
  rw [e2,ob_,e3];rfl
 ·refine List.pairwise_iff_getElem.2 (λi j hi hj M => ?_)
  have h1:=List.pairwise_iff_getElem.1 r3 i j hi hj M
  have h2:r[i].Id≠r[j].Id:=λe=>by
   have:=List.pairwise_iff_getElem.1 B i j (by simpa using hi) (by simpa using hj) M
   rw [List.getElem_map,List.getElem_map]at this
   exact this e
  rcases Lt r[i] r[j] h2 with h|h
  ·exact h
  ·exact absurd (u6.2 h) h1
theorem Nc (h:Int) (hm:0<=h/\h<=6) (s:Stream) {b:Int} (hs:Ok s b) (hb:b<=600000):∃l o,fU s h=some (l,o)/\RAlerts l h.toNat/\Ok o (b+250):=by
 obtain ⟨l,o,h1,h2,A⟩:=KN h hm s hs hb
 exact⟨l,o,h1,h2.1,A⟩
theorem KR {a b:Alert} (h:befA a b):∃n,ja a b=some n/\n<0:=by
 refine⟨_,by simp only [ja,sO,xR,Ku,ob_];rfl,?_⟩
 unfold or0 Gb
 rcases h with h|⟨h,k⟩
 ·simp [h]
 ·rw [h]
  rcases Eo a.Id b.Id with⟨_,e⟩|⟨e,_⟩|⟨e,_⟩
  ·rw [e];simp
  ·rw [e]at k;exact absurd k (gy _)
  ·exact absurd (lt_trans k e) (gy _)
end Go.Proofs.YtadpbmfnnlkdlacGreatDoor.Law

open Go Go.Eng
namespace Go.Proofs.YtadpbmfnnlkdlacGreatDoor.Law
set_option linter.unusedVariables false
set_option linter.unusedSimpArgs false
theorem Jt {K T:Type} {eq:K->K->Bool} {k:K}:∀{es:List (K×T)},(∀e∈es,eq k e.1=false)->A9 eq k es=none
 | [],_=>rfl
 | e::es,h=>by
  have h1:=h e (by simp)
  have h2:=Jt (es:=es) (λx o=>h x (by simp [o]))
  rw [A9,h1,h2];rfl
theorem Q0 {a b:ByteArray} (h:(a==b)=true):a=b:=by
 obtain ⟨x⟩:=a
 obtain ⟨y⟩:=b
 have h1:(x==y)=true:=h
 rw [eq_of_beq h1]
theorem idsLoop (l:List Alert) (o:(l.map (·.Id)).Nodup) (hl:l.length<=1000):∃s,forL l ([]:List (ByteArray×Bool)) (λk x s=>gJ k x s)=some (.go s):=by
 obtain ⟨s,e,_⟩:=kS (body:=λk x s=>gJ k x s) (λk s=>s=(l.take k).map λa=>(a.Id,true)) (xs:=l) (s:=([]:List (ByteArray×Bool))) (by omega) (λk x s B hs=>by
  have et:l.take (k+1)=l.take k++[x]:=by rw [List.take_add_one,B];rfl
  have F:A9 eqS x.Id s=none:=Jt (λe A=>by
   rw [hs]at A
   obtain ⟨a,J,rfl⟩:=List.mem_map.1 A
   obtain ⟨i,hi,rfl⟩:=List.getElem_of_mem J
   rw [List.length_take]at hi
   obtain ⟨I,h⟩:=List.getElem?_eq_some_iff.1 B
   rw [<- Bool.not_eq_true]
   intro e
   replace e:=Q0 e
   have:=List.pairwise_iff_getElem.1 o i k (by simp;omega) (by simpa using I) (by omega)
   rw [List.getElem_map,List.getElem_map,h]at this
   rw [List.getElem_take]at e
   exact this e.symm)
  unfold gJ mGet zY
  rw [F]
  refine⟨_,rfl,?_⟩
  rw [et,List.map_append,hs];rfl) rfl
 exact⟨s,e⟩
theorem w9 {l:List Alert} {n:Nat} (h:RAlerts l n) (O:n<=300):iA l=some 0:=by
 have hl:=h.len
 unfold iA
 rw [decide_eq_false (by omega),cond_false]
 obtain ⟨u,e,_⟩:=kS (body:=λk x s=>gK l k x s) (λ_ _=>True) (xs:=l) (s:=()) (by omega) (λk x s A _=>by
  refine⟨(),?_,trivial⟩
  have hm:=List.mem_of_getElem? A
  unfold gK
  rw [CP (h.right x hm)]
  simp only [ob_,bne_self_eq_false,cond_false]
  rcases Nat.eq_zero_or_pos k with B|B
  ·rw [decide_eq_false (by omega)];rfl
  ·rw [decide_eq_true (by omega),cond_true]
   obtain ⟨y,L,N⟩:=zQ A B (by omega)
   have hb:befA y x:=by
    obtain ⟨M,o⟩:=List.getElem?_eq_some_iff.1 N
    obtain ⟨I,F⟩:=List.getElem?_eq_some_iff.1 A
    rw [<- o,<- F]
    exact List.pairwise_iff_getElem.1 h.rise _ _ M I (by omega)
   obtain ⟨m,o,F⟩:=KR hb
   rw [L,ob_,o,ob_,decide_eq_false (by omega)];rfl) trivial
 rw [e]
 simp only [ob_,thenC]
 obtain ⟨s,J⟩:=idsLoop l h.ids (by omega)
 rw [J];rfl
structure RightPo (p:Post):Prop where
 key:kit_IsKey p.Player=some true
 x : -1000<=p.X/\p.X<=1000
 y : -1000<=p.Y/\p.Y<=1000
end Go.Proofs.YtadpbmfnnlkdlacGreatDoor.Law

open Go Go.Eng
namespace Go.Proofs.YtadpbmfnnlkdlacGreatDoor.Law
set_option linter.unusedVariables false
set_option linter.unusedSimpArgs false
set_option maxRecDepth 100000
def poL:List ByteArray:=[⟨#[112,97]⟩,⟨#[112,98]⟩,⟨#[112,99]⟩]
theorem poL_key:∀k∈poL,kit_IsKey k=some true:=by
 intro k h
 simp only [poL,List.mem_cons,List.not_mem_nil,or_false]at h
 rcases h with rfl|rfl|rfl <;> rw [qY _ (by decide)] <;> exact congrArg some (by kernel_rfl)
theorem RO:poL.Pairwise lt:=by
 unfold poL
 simp only [List.pairwise_cons,List.mem_cons,List.not_mem_nil,or_false,forall_eq_or_imp,forall_eq]
 exact⟨⟨ji (by kernel_rfl),ji (by kernel_rfl)⟩,ji (by kernel_rfl),λa h=>(by cases h),List.Pairwise.nil⟩
structure RPosts (l:List Post):Prop where
 right:∀p∈l,RightPo p
 sub:(l.map (·.Player)).Sublist poL
theorem RPosts.rise {l:List Post} (h:RPosts l):(l.map (·.Player)).Pairwise lt:=RO.sublist h.sub
theorem RPosts.len {l:List Post} (h:RPosts l):l.length<=3:=by
 have h1:=h.sub.length_le
 rw [List.length_map]at h1
 exact h1
theorem Oi (s:Stream) {b:Int} (hs:Ok s b) (hb:b<=800000):∃l J,iX s=some (l,J)/\RPosts l/\Ok J (b+20):=by
 obtain ⟨t,t1,t2,t3,t4⟩:=kS (body:=λk x s=>gz k x s) (xs:=poL) (s:=(([]:List Post),s.L,s.f_at)) (λk t=>(t.1.map (·.Player)).Sublist (poL.take k)/\(∀p∈t.1,RightPo p)/\Ok ⟨t.2.1,t.2.2⟩ (b+3*k)) (by decide) (λk x t o ⟨B,i2,i3⟩=>by
  have hk:k<3:=(List.getElem?_eq_some_iff.1 o).1
  have F:t.1.length<=3:=by
   have:=B.length_le
   rw [List.length_map,List.length_take]at this
   exact Nat.le_trans this (Nat.min_le_right _ _)
  obtain ⟨n1,R⟩:=Sz o B
  obtain ⟨f,O,X,I⟩:=Dn _ 5 i3 (by omega) (by decide) (by decide)
  unfold gz
  simp only [X,ob_]
  cases f with
  | true=>exact⟨_,rfl,n1,i2,I.mono (by omega)⟩
  | false =>
   obtain ⟨M,N,d1,d2,d3,Z⟩:=lY O (-2) 10 I (by omega) (by decide) (by decide) (by decide)
   obtain ⟨Y,s3,W,e2,e3,e4⟩:=lY N (-2) 10 Z (by omega) (by decide) (by decide) (by decide)
   simp only [Bool.not_false,cond_true,d1,W,ob_]
   rw [kW _ _ (by simp;omega)]
   refine⟨_,rfl,R ⟨x,M,Y⟩ rfl,λp h => ?_,e4.mono (by omega)⟩
   rcases List.mem_append.1 h with h|h
   ·exact i2 p h
   ·rw [List.mem_singleton.1 h]
    exact⟨poL_key x (List.mem_of_getElem? o),by simp only [];omega,by simp only [];omega⟩) ⟨List.Sublist.refl _,λp h=>(by cases h),hs.mono (by omega)⟩
 refine⟨t.1,⟨t.2.1,t.2.2⟩,?_,⟨t3,by rw [List.take_length]at t2;exact t2⟩,t4.mono (by show b+3*((3:Nat):Int)<=b+20;omega)⟩
 unfold iX
 have A:forL ([(⟨#[112,97]⟩:ByteArray),(⟨#[112,98]⟩:ByteArray),(⟨#[112,99]⟩:ByteArray)]:List ByteArray) (([]:List Post),s.L,s.f_at) (λk x s=>gz k x s)=some (.go t):=t1
 rw [A];rfl
theorem KY {l:List Post} (h:RPosts l):jE l=some 0:=by
 have hl:=h.len
 unfold jE
 rw [decide_eq_false (by omega),cond_false]
 obtain ⟨u,e,_⟩:=kS (body:=λk x s=>iy l k x s) (λ_ _=>True) (xs:=l) (s:=()) (by omega) (λk p s A _=>by
  refine⟨(),?_,trivial⟩
  have o:=h.right p (List.mem_of_getElem? A)
  have h1:=o.x
  have h2:=o.y
  unfold iy
  rw [o.key]
  simp only [ob_,Bool.not_true,cond_false,sj,sZ (show (-100000:Int)<=p.X/\p.X<=100000 by omega),sZ (show (-100000:Int)<=p.Y/\p.Y<=100000 by omega)]
  rcases Nat.eq_zero_or_pos k with F|F
  ·rw [decide_eq_false (by omega)];rfl
  ·rw [decide_eq_true (by omega),cond_true]
   obtain ⟨z,N,R⟩:=zQ A F (by omega)
   have J:lt z.Player p.Player:=by
    obtain ⟨O,L⟩:=List.getElem?_eq_some_iff.1 R
    obtain ⟨I,M⟩:=List.getElem?_eq_some_iff.1 A
    have:=List.pairwise_iff_getElem.1 h.rise (k-1) k (by simpa using O) (by simpa using I) (by omega)
    rwa [List.getElem_map,List.getElem_map,L,M]at this
   have B:sLe p.Player z.Player=false:=by rw [<- Bool.not_eq_true,PD];exact λk=>k J
   rw [N,ob_,B];rfl) trivial
 rw [e];rfl
end Go.Proofs.YtadpbmfnnlkdlacGreatDoor.Law

open Go Go.Eng
namespace Go.Proofs.YtadpbmfnnlkdlacGreatDoor.Law
set_option linter.unusedVariables false
set_option linter.unusedSimpArgs false
end Go.Proofs.YtadpbmfnnlkdlacGreatDoor.Law

open Go Go.Eng
namespace Go.Proofs.YtadpbmfnnlkdlacGreatDoor.Law
set_option linter.unusedVariables false
set_option linter.unusedSimpArgs false
set_option maxRecDepth 100000
theorem odd_bd (s:Stream) (o hi:Int) {b:Int} (hs:Ok s b) (hb:b<=900000) (h:o<=hi) (h1 : -1000000000000<=o) (h2:hi<=1000000000000):∃r L,p8 s o hi=some (r,L)/\(-1100000000000<=r/\r<=1100000000000)/\Ok L (b+2):=by
 unfold p8
 obtain ⟨c,J,N,a2⟩:=Dn s 12 hs (by omega) (by decide) (by decide)
 simp only [N,ob_]
 cases c with
 | true =>
  obtain ⟨k,B,A,F,I⟩:=FT J [(w64 (o-1)),(w64 (hi+1)),o,hi,(-1099511627776),1099511627776] a2 (by omega) (by simp) (by simp)
  rw [fG (n:=o-1) (by omega),fG (n:=hi+1) (by omega)]at A F
  rw [cond_true,fG (n:=o-1) (by omega),fG (n:=hi+1) (by omega),A,ob_]
  refine⟨k,B,rfl,?_,I.mono (by omega)⟩
  simp only [List.mem_cons,List.not_mem_nil,or_false]at F
  omega
 | false =>
  obtain ⟨k,B,A,F,I,M⟩:=lY J o hi a2 (by omega) h h1 h2
  rw [cond_false,A,ob_]
  exact⟨k,B,rfl,by omega,M.mono (by omega)⟩
def ShA (s:ByteArray):Prop:=s.size<=1000
theorem pz {s:ByteArray} (h:Nat.ble s.size 1000=true):ShA s:=Nat.le_of_ble_eq_true h
def txtL:List ByteArray:=[⟨#[]⟩,overS,floodS,mallS,⟨#[32,120]⟩,⟨#[97,32,32,98]⟩,⟨#[10]⟩,⟨#[255]⟩]
structure GA (x:Alert):Prop where
 id:ShA x.Id
 sender:ShA x.Sender
 refs:∀r∈x.Refs,ShA r
 rlen:x.Refs.length<=5
 alen:x.Areas.length<=2
 at_ : -1100000000000<=x.At/\x.At<=1100000000000
 until_ : -1100000000000<=x.Until/\x.Until<=1100000000000
 text:x.Text∈txtL
theorem RightA.ga {x:Alert} (h:RightA x):GA x:=by
 have h1:=h.at_
 have h2:=h.until_
 refine⟨(OB _ h.id).2 |> pz,?_,λr o => ?_,h.refsLen,h.alen,by omega,by omega,?_⟩
 ·rcases h.sender with e|e <;> rw [e] <;> exact pz rfl
 ·rcases h.refs with hs|hs
  ·exact pz (MO r (hs.subset o)).2
  ·rw [hs]at o;rw [List.mem_singleton.1 o];exact pz rfl
 ·unfold txtL
  rcases h.text with e|e|⟨_,e|e⟩ <;> rw [e] <;> simp
theorem set_all {α:Type} {p:α->Prop} {xs:List α} {i:Nat} {a:α} (h:∀x∈xs,p x) (A:p a):∀x∈xs.set i a,p x:=λx o=>by
 rcases List.mem_or_eq_of_mem_set o with h1|h1
 ·exact h x h1
 ·rw [h1];exact A
theorem tq {α:Type} {xs:List α} {i:Nat} {a:α} (h:i<xs.length):(xs.set i a)[i]? = some a:=by simp [h]
structure GP (p:Post):Prop where
 player:ShA p.Player
end Go.Proofs.YtadpbmfnnlkdlacGreatDoor.Law

open Go Go.Eng
namespace Go.Proofs.YtadpbmfnnlkdlacGreatDoor.Law
set_option linter.unusedVariables false
set_option linter.unusedSimpArgs false
theorem PZ {α : Type} {R : α->α->Prop} (o : ∀a b, R a b->¬R b a) {a b : List α} (h : a.Perm b) (A : a.Pairwise R) (hb : b.Pairwise R) : a=b :=
 List.Perm.eq_of_pairwise (λx y _ _ h1 h2=>absurd h2 (o x y h1)) A hb h
end Go.Proofs.YtadpbmfnnlkdlacGreatDoor.Law

open Go Go.Eng
namespace Go.Proofs.YtadpbmfnnlkdlacGreatDoor.Law
set_option linter.unusedVariables false
set_option linter.unusedSimpArgs false
def P8 {α:Type} (r:α->α->Bool) (x:α):List α->List α
 | []=>[x]
 | y::l=>bif r x y then x::y::l else y::P8 r x l
def Rm {α:Type} (r:α->α->Bool):List α->List α
 | []=>[]
 | x::l=>P8 r x (Rm r l)
theorem DJ {α:Type} (r:α->α->Bool) (x:α):∀l,(P8 r x l).Perm (x::l)
 | [] => .refl _
 | y::l=>by
  unfold P8
  cases r x y with
  | true=>exact .refl _
  | false=>exact ((DJ r x l).cons y).trans (List.Perm.swap x y l)
theorem DZ {α:Type} (r:α->α->Bool):∀l,(Rm r l).Perm l
 | [] => .refl _
 | x::l=>(DJ r x _).trans ((DZ r l).cons x)
theorem EP {α:Type} {r:α->α->Bool} (A:∀a b c,r a b=true->r b c=true->r a c=true) {x:α}:∀{l:List α},(∀y∈l,r x y=true\/r y x=true)->l.Pairwise (λa b=>r a b=true)->(P8 r x l).Pairwise (λa b=>r a b=true)
 | [],_,_=>List.pairwise_singleton _ _
 | y::l,h,F=>by
  obtain ⟨B,I⟩:=List.pairwise_cons.1 F
  unfold P8
  cases hxy:r x y with
  | true =>
   refine List.pairwise_cons.2 ⟨λz o => ?_,F⟩
   rcases List.mem_cons.1 o with rfl|o
   ·exact hxy
   ·exact A _ _ _ hxy (B z o)
  | false =>
   refine List.pairwise_cons.2 ⟨λz o => ?_,EP A (λz o=>h z (List.mem_cons_of_mem _ o)) I⟩
   rcases List.mem_cons.1 ((DJ r x l).mem_iff.1 o)with rfl|o
   ·exact (h y List.mem_cons_self).resolve_left (by rw [hxy];exact Bool.false_ne_true)
   ·exact B z o
theorem EZ {α:Type} {r:α->α->Bool} (o:∀a b c,r a b=true->r b c=true->r a c=true):∀{l:List α},l.Pairwise (λa b=>r a b=true\/r b a=true)->(Rm r l).Pairwise (λa b=>r a b=true)
 | [],_ => .nil
 | x::l,h=>by
  obtain ⟨B,F⟩:=List.pairwise_cons.1 h
  exact EP o (λy A=>B y ((DZ r l).mem_iff.1 A)) (EZ o F)
theorem srtG_is {α:Type} {r:α->α->Bool} (A:∀a,r a a=false) (o:∀a b c,r a b=true->r b c=true->r a c=true) {l s:List α} (ht:l.Pairwise (λa b=>r a b=true\/r b a=true)) (B:s.Perm l) (hs:s.Pairwise (λa b=>r b a=false)):s=Rm r l:=by
 have F:∀{x y:α},(r x y=true\/r y x=true)->(r y x=true\/r x y=true):=λh=>h.symm
 have h2:s.Pairwise (λa b=>r a b=true\/r b a=true):=(B.pairwise_iff (λh=>h.symm)).2 ht
 have I:s.Pairwise (λa b=>r a b=true):=by
  refine List.Pairwise.imp₂ (λa b h k => ?_) hs h2
  rcases k with k|k
  ·exact k
  ·rw [h]at k;cases k
 exact PZ (R:=λa b=>r a b=true) (λa b h k=>by have:=o a b a h k;rw [A]at this;cases this) (B.trans (DZ r l).symm) I (EZ o ht)
end Go.Proofs.YtadpbmfnnlkdlacGreatDoor.Law

open Go Go.Eng
namespace Go.Proofs.YtadpbmfnnlkdlacGreatDoor.Law
set_option linter.unusedVariables false
set_option linter.unusedSimpArgs false
instance (a b:Alert):Decidable (lt a.Id b.Id):=by unfold lt;exact inferInstance
instance (a b:Alert):Decidable (befA a b):=by unfold befA;exact inferInstance
instance (v:ByteArray) (l:List ByteArray):Decidable (v∈l):=decidable_of_iff (l.any (λx=>decide (v=x))=true) (by simp)
def BL (a o:Alert) (r:ByteArray):Bool:=decide (o.Id=r)&&(decide (o.Sender=a.Sender)&&decide (befA o a))
def cutB (a z:Alert):Bool:=decide (z.Id∈a.Refs)&&(decide (z.Sender=a.Sender)&&decide (befA z a))
def rX (l:List Alert) (z:Alert):Int:=l.foldl (λm a=>bif cutB a z then min m a.At else m) z.Until
def onB (l:List Alert) (t:Int) (z:Alert):Bool:=decide (z.Kind≠3)&&(decide (z.At<=t)&&decide (t<rX l z))
def zx (a b:Alert):Bool:=decide (b.Weight<a.Weight)||(decide (a.Weight=b.Weight)&&(decide (b.At<a.At)||(decide (a.At=b.At)&&decide (lt a.Id b.Id))))
theorem LD (a:Alert):zx a a=false:=by
 unfold zx
 rw [<- Bool.not_eq_true]
 simp only [Bool.or_eq_true,Bool.and_eq_true,decide_eq_true_eq,not_or,not_and]
 exact⟨Int.lt_irrefl _,λ_=>⟨Int.lt_irrefl _,λ_=>gy _⟩⟩
theorem Ae {a b:Alert}:zx a b=true↔b.Weight<a.Weight\/a.Weight=b.Weight/\(b.At<a.At\/a.At=b.At/\lt a.Id b.Id):=by
 unfold zx
 simp only [Bool.or_eq_true,Bool.and_eq_true,decide_eq_true_eq]
theorem Gj (a b c:Alert) (h:zx a b=true) (k:zx b c=true):zx a c=true:=by
 rw [Ae]at *
 rcases h with h|⟨h,h2⟩ <;> rcases k with k|⟨k,k2⟩
 ·exact .inl (by omega)
 ·exact .inl (by omega)
 ·exact .inl (by omega)
 ·refine .inr ⟨by omega,?_⟩
  rcases h2 with h2|⟨h2,o⟩ <;> rcases k2 with k2|⟨k2,k3⟩
  ·exact .inl (by omega)
  ·exact .inl (by omega)
  ·exact .inl (by omega)
  ·exact .inr ⟨by omega,lt_trans o k3⟩
theorem Rb {a b:Alert} (h:a.Id≠b.Id):zx a b=true\/zx b a=true:=by
 rw [Ae,Ae]
 rcases Int.lt_trichotomy a.Weight b.Weight with q|q|q
 ·exact .inr (.inl q)
 ·rcases Int.lt_trichotomy a.At b.At with w|w|w
  ·exact .inr (.inr ⟨q.symm,.inl w⟩)
  ·rcases vK a.Id b.Id with e|e|e
   ·exact .inl (.inr ⟨q,.inr ⟨w,e⟩⟩)
   ·exact absurd e h
   ·exact .inr (.inr ⟨q.symm,.inr ⟨w.symm,e⟩⟩)
  ·exact .inl (.inr ⟨q,.inl w⟩)
 ·exact .inl (.inl q)
theorem PQ {l:List Alert} (h:(l.map (·.Id)).Nodup):l.Pairwise (λa b=>zx a b=true\/zx b a=true):=by
 have h2:l.Pairwise (λa b=>a.Id≠b.Id):=by
  have:=h
  unfold List.Nodup at this
  rwa [List.pairwise_map]at this
 exact h2.imp Rb
def Dq (l:List Alert) (h o t:Int):List Alert:=l.filter λz=>onB l t z&&hasB z.Areas h o
def Tu (l:List Alert) (h o t:Int):List Alert:=Rm zx (Dq l h o t)
theorem M4 {l:List Alert} (h:(l.map (·.Id)).Nodup) (o A t:Int):((Dq l o A t).map (·.Id)).Nodup:=h.sublist ((List.filter_sublist (l:=l)).map _)
theorem rank_is {l:List Alert} (h:(l.map (·.Id)).Nodup) (o A t:Int) {s:List Alert} (B:s.Perm (Dq l o A t)) (hs:s.Pairwise (λa b=>zx b a=false)):s=Tu l o A t :=
 srtG_is LD Gj (PQ (M4 h o A t)) B hs
end Go.Proofs.YtadpbmfnnlkdlacGreatDoor.Law

