/-
  THE PLAIN LAW (part 1).
-/
import Derived.Test.YthcdokkcamcnmaaGreatDoorEng5
import Derived.Test.YthcdokkcamcnmaaGreatDoorDefs
namespace Go.Eng
set_option linter.unusedVariables false
set_option linter.unusedSimpArgs false
theorem fe {α σ ρ:Type} {body:Nat->α->σ->Option (Ctl σ ρ)} {xs:List α} {s:σ} (hl:xs.length<=1000000000000):je xs s body=eP body xs 0 s:=by unfold je;rw [if_pos hl]
theorem He {α σ ρ:Type} {body:Nat->α->σ->Option (Ctl σ ρ)} (I:Nat->σ->Prop) (N:Nat):∀(xs:List α) (k:Nat) (s:σ),k+xs.length=N->(∀k x s,x∈xs->k<N->I k s->∃s',body k x s=some (.go s')/\I (k+1) s')->I k s->∃s',eP body xs k s=some (.go s')/\I N s'
 | [],k,s,hN,h,hi=>⟨s,rfl,by simp only [List.length_nil,Nat.add_zero]at hN;rw [<- hN];exact hi⟩
 | x::xs,k,s,hN,h,hi=>by
  simp only [List.length_cons]at hN
  obtain ⟨s1,h1,h2⟩:=h k x s (by simp) (by omega) hi
  obtain ⟨s2,h3,h4⟩:=He I N xs (k+1) s1 (by omega) (λk x s hx=>h k x s (by simp [hx])) h2
  exact⟨s2,by simp only [eP,h1,ob_];exact h3,h4⟩
theorem C8 {α σ ρ:Type} {body:Nat->α->σ->Option (Ctl σ ρ)} (I:Nat->σ->Prop) {xs:List α} {s:σ} (hl:xs.length<=1000000000000) (h:∀k x s,x∈xs->k<xs.length->I k s->∃s',body k x s=some (.go s')/\I (k+1) s') (h0:I 0 s):∃s',je xs s body=some (.go s')/\I xs.length s':=by
 obtain ⟨s',h1,h2⟩:=He I xs.length xs 0 s (by omega) h h0
 exact⟨s',by rw [fe hl];exact h1,h2⟩
theorem lT {σ ρ τ:Type} (s:σ) (f:σ->Option τ) (g:ρ->Option τ):bv (.go s) f g=f s:=rfl
theorem FB {σ ρ τ:Type} (r:ρ) (f:σ->Option τ) (g:ρ->Option τ):bv (.ret r) f g=g r:=rfl
theorem jP {α:Type} (xs:List α) (k:Nat):idx xs (k:Int)=xs[k]? := by simp [idx]
theorem aP {n:Int} (h : -9223372036854775808<=n/\n<=9223372036854775807):w64 n=n:=Dn n h
theorem toL (s:ByteArray):s.toList=s.data.toList:=Go.Lib.toList_data s
theorem y7 {a b:ByteArray} (h:a.toList=b.toList):a=b:=by
 rw [toL,toL]at h
 obtain ⟨⟨a⟩⟩:=a
 obtain ⟨⟨b⟩⟩:=b
 simp only at h
 rw [h]
theorem rW (a b:ByteArray):sEq a b=true↔a=b:=by
 simp only [sEq,beq_iff_eq]
 exact⟨y7,λh=>by rw [h]⟩
theorem zq (a b:ByteArray):sEq a b=decide (a=b):=by
 rw [Bool.eq_iff_iff,rW];simp
theorem Gm (a b:ByteArray):sNe a b = !decide (a=b):=by
 have:=zq a b;simp only [sEq,sNe]at *;rw [this]
abbrev bl:=Op.bytesLess
theorem bl_lt:∀(x y:List UInt8),bl x y=decide (x<y)
 | _,[]=>by simp [bl,Op.bytesLess]
 | [],_::_=>by simp [bl,Op.bytesLess]
 | a::x,b::y=>by
  have:=bl_lt x y
  simp only [bl,Op.bytesLess]at this ⊢
  rw [this,Bool.eq_iff_iff]
  simp only [Bool.or_eq_true,decide_eq_true_eq,Bool.and_eq_true,beq_iff_eq,List.cons_lt_cons_iff]
def lt (a b:ByteArray):Prop:=a.toList<b.toList
theorem uT (a b:ByteArray):sLt a b=true↔lt a b:=by
 show bl a.toList b.toList=true↔_
 rw [bl_lt];simp [lt]
theorem ow (a:ByteArray):¬lt a a:=List.lt_irrefl a.toList
theorem lt_trans {a b c:ByteArray} (h:lt a b) (k:lt b c):lt a c:=List.lt_trans h k
theorem DW (a b:ByteArray):lt a b\/a=b\/lt b a:=by
 rcases Classical.em (lt a b)with h|h
 ·exact .inl h
 ·rcases Classical.em (lt b a)with h2|h2
  ·exact .inr (.inr h2)
  ·exact .inr (.inl (y7 (List.le_antisymm (List.not_lt.1 h2) (List.not_lt.1 h))))
theorem Cn (a b:ByteArray):sLe a b=true↔¬lt b a:=by
 have h1:=uT a b
 have h2:=rW a b
 simp only [sLe,Bool.or_eq_true]
 constructor
 ·rintro (h|h)
  ·exact λk=>ow _ (lt_trans (h1.1 h) k)
  ·rw [h2.1 h];exact ow _
 ·intro h
  rcases DW a b with k|k|k
  ·exact .inl (h1.2 k)
  ·exact .inr (h2.2 k)
  ·exact absurd k h
theorem sLe_nil (a:ByteArray):sLe a ⟨#[]⟩=decide (a.size=0):=by
 rw [Bool.eq_iff_iff,Cn,lt,toL,toL,Go.Lib.size_eq]
 cases a.data.toList <;> simp
theorem sNe_nil (a:ByteArray):sNe a ⟨#[]⟩=decide (a.size≠0):=by
 rw [Gm,Go.Lib.size_eq,Bool.eq_iff_iff]
 simp only [Bool.not_eq_true',decide_eq_false_iff_not,decide_eq_true_eq,ne_eq]
 refine not_congr ⟨λh=>by rw [h];rfl,λh => ?_⟩
 exact y7 (by rw [toL,List.eq_nil_of_length_eq_zero h,toL])
end Go.Eng

open Go Go.Eng
namespace Go.Proofs.YthcdokkcamcnmaaGreatDoor.Law
set_option linter.unusedVariables false
set_option linter.unusedSimpArgs false
def Ok (s:Stream) (b:Int):Prop:=0<=s.f_at/\s.f_at<=b
theorem Ok.mono {s:Stream} {b c:Int} (h:Ok s b) (hc:b<=c):Ok s c:=⟨h.1,Int.le_trans h.2 hc⟩
theorem Dx (x n:Int) (h:1<=n) (hn:n<=4611686018427387904):∃r,qR x n=some r/\0<=r/\r<n:=by
 have h1:x.tmod n<n:=Int.tmod_lt_of_pos x (by omega)
 have h2 : -n<x.tmod n:=Int.lt_tmod_of_pos x (by omega)
 have hb:decide (n<1)=false:=by simp;omega
 have hn0:n≠0:=by omega
 simp only [qR,hb,cond_false,BM,if_neg hn0,ob_]
 cases hd:decide (x.tmod n<0)with
 | true =>
  simp only [decide_eq_true_eq]at hd
  exact⟨_,rfl,by rw [aP (by omega)];omega,by rw [aP (by omega)];omega⟩
 | false =>
  simp only [decide_eq_false_iff_not]at hd
  exact⟨_,rfl,by omega,h1⟩
theorem ou (s:Stream) (n:Int) {b:Int} (hs:Ok s b) (hb:b<=1000000) (h:1<=n) (hn:n<=4611686018427387904):∃r s',dX s n=some (r,s')/\0<=r/\r<n/\Ok s' (b+1):=by
 obtain ⟨h0,h1⟩:=hs
 have e1:w64 (s.f_at+1)=s.f_at+1:=aP (by omega)
 have e2:w64 (s.f_at+1-1)=s.f_at:=by rw [aP (by omega)];omega
 simp only [dX,e1,e2]
 by_cases hl:s.L.length=0
 ·have:((s.L.length:Int)==0)=true:=by simp [hl]
  simp only [this,cond_true]
  obtain ⟨r,hr,h2,h3⟩:=Dx (w64 ((s.f_at+1)*7919)) n h hn
  exact⟨r,_,by rw [hr];rfl,h2,h3,⟨by show 0<=s.f_at+1;omega,by show s.f_at+1<=b+1;omega⟩⟩
 ·have hne:(s.L.length:Int)≠0:=by omega
  have:((s.L.length:Int)==0)=false:=by simpa using hl
  simp only [this,cond_false,BM,Kc,if_neg hne,ob_]
  have h2:0<=s.f_at.tmod s.L.length:=Int.tmod_nonneg _ h0
  have hp:(0:Int)<(s.L.length:Int):=by have:=Nat.pos_of_ne_zero hl;omega
  have h3:s.f_at.tmod s.L.length<s.L.length:=Int.tmod_lt_of_pos _ hp
  have hi:idx s.L (s.f_at.tmod s.L.length)=some s.L[(s.f_at.tmod s.L.length).toNat]:=by
   simp only [idx,if_pos h2]
   exact List.getElem?_eq_getElem (by omega)
  obtain ⟨r1,hr1,_,_⟩:=Dx s.L[(s.f_at.tmod s.L.length).toNat] 1073741824 (by decide) (by decide)
  simp only [hi,hr1,ob_]
  generalize w64 (r1+_)=y
  obtain ⟨r,hr,h4,h5⟩:=Dx y n h hn
  exact⟨r,_,by rw [hr];rfl,h4,h5,⟨by show 0<=s.f_at+1;omega,by show s.f_at+1<=b+1;omega⟩⟩
theorem sF (s:Stream) (n:Int) {b:Int} (hs:Ok s b) (hb:b<=1000000) (h:1<=n) (hn:n<=1000):∃r s',bX s n=some (r,s')/\Ok s' (b+1):=by
 obtain ⟨r,s',h1,_,_,h2⟩:=ou s n hs hb h (by omega)
 exact⟨r==0,s',by simp only [bX,h1,ob_],h2⟩
theorem y8 {α:Type} {l:List α} {r:Int} (h0:0<=r) (h1:r<l.length):∃y,idx l r=some y/\y∈l:=by
 refine⟨l[r.toNat]'(by omega),?_,List.getElem_mem _⟩
 simp only [idx,if_pos h0]
 exact List.getElem?_eq_getElem (by omega)
theorem nD (s:Stream) (l:List Int) {b:Int} (hs:Ok s b) (hb:b<=1000000) (h:1<=l.length) (hn:l.length<=1000):∃r s',cB s l=some (r,s')/\r∈l/\Ok s' (b+1):=by
 obtain ⟨r,s',h1,h2,h3,h4⟩:=ou s l.length hs hb (by omega) (by omega)
 obtain ⟨y,hy,hm⟩:=y8 h2 h3
 exact⟨y,s',by simp only [cB,h1,hy,ob_],hm,h4⟩
theorem zT (s:Stream) (l:List ByteArray) {b:Int} (hs:Ok s b) (hb:b<=1000000) (h:1<=l.length) (hn:l.length<=1000):∃r s',ig s l=some (r,s')/\r∈l/\Ok s' (b+1):=by
 obtain ⟨r,s',h1,h2,h3,h4⟩:=ou s l.length hs hb (by omega) (by omega)
 obtain ⟨y,hy,hm⟩:=y8 h2 h3
 exact⟨y,s',by simp only [ig,h1,hy,ob_],hm,h4⟩
theorem Ab (s:Stream) (lo hi:Int) {b:Int} (hs:Ok s b) (hb:b<=1000000) (h:lo<=hi) (h1 : -1000000000000<=lo) (h2:hi<=1000000000000):∃r s',jI s lo hi=some (r,s')/\lo<=r/\r<=hi/\Ok s' (b+1):=by
 have hd:decide (hi<lo)=false:=by simp;omega
 have e1:w64 (hi-lo)=hi-lo:=aP (by omega)
 have e2:w64 (hi-lo+1)=hi-lo+1:=aP (by omega)
 obtain ⟨r,s',k1,k2,k3,k4⟩:=ou s (hi-lo+1) hs hb (by omega) (by omega)
 simp only [jI,hd,cond_false,e1,e2,k1,ob_]
 exact⟨_,s',rfl,by rw [aP (by omega)];omega,by rw [aP (by omega)];omega,k4⟩
theorem sJ (s:Stream) (lo hi:Int) {b:Int} (hs:Ok s b) (hb:b<=900000) (h:lo<=hi) (h1 : -1000000000000<=lo) (h2:hi<=1000000000000):∃r s',ek s lo hi=some (r,s')/\Ok s' (b+2):=by
 obtain ⟨c,s1,k1,k2⟩:=sF s 12 hs (by omega) (by decide) (by decide)
 simp only [ek,k1,ob_]
 cases c with
 | true =>
  obtain ⟨r,s2,m1,_,m2⟩:=nD s1 [(w64 (lo-1)),(w64 (hi+1)),lo,hi,(-1099511627776),1099511627776] k2 (by omega) (by simp) (by simp)
  simp only [cond_true,m1,ob_]
  exact⟨_,_,rfl,m2.mono (by omega)⟩
 | false =>
  obtain ⟨r,s2,m1,_,_,m2⟩:=Ab s1 lo hi k2 (by omega) h h1 h2
  simp only [cond_false,m1,ob_]
  exact⟨_,_,rfl,m2.mono (by omega)⟩
def Er (b:UInt8):Bool:=decide (97<=b.toNat)&&decide (b.toNat<=122)
def HZ (b:UInt8):Bool:=(decide (48<=b.toNat)&&decide (b.toNat<=57))||(b.toNat==45)||(b.toNat==95)
def okB (i:Nat) (b:UInt8):Bool:=Er b||(decide (0<i)&&HZ b)
def jc (s:ByteArray) (i:Nat):UInt8:=s.data.toList.getD i 0
def nS (s:ByteArray):Bool:=decide (s.size≠0)&&(decide (s.size<=40)&&(List.range s.size).all λi=>okB i (jc s i))
theorem Ho (s:ByteArray) (k:Nat) (h:k<s.size):Jn s (k:Int)=some (jc s k):=by
 have h1:s[k]? = some s[k]:=by simp [h]
 have h2:jc s k=s[k]:=by
  have hl:k<s.data.toList.length:=by rw [<- Go.Lib.size_eq];exact h
  simp only [jc,List.getD_eq_getElem?_getD,List.getElem?_eq_getElem hl,Option.getD_some]
  simp
  rfl
 simp only [Jn,if_pos (Int.natCast_nonneg k),Int.toNat_natCast,h1,h2]
theorem Hy (s:ByteArray) (k:Nat) (hs:s.size<=1000000000):kP s (k:Int)=some (if k<s.size then (bif okB k (jc s k)then .go ((k+1:Nat):Int)else .ret false)else .brk (k:Int)):=by
 unfold kP
 by_cases h:k<s.size
 ·have hd:decide ((k:Int)<(s.size:Int))=true:=by simp;omega
  have hw:w64 ((k:Int)+1)=((k+1:Nat):Int):=by rw [aP (by omega)];omega
  simp only [hd,cond_true,Ho s k h,ob_,if_pos h,hw]
  generalize jc s k=b
  simp only [okB,Er,HZ]
  have e1:decide ((b.toNat:Int)>=97)=decide (97<=b.toNat):=decide_eq_decide.2 (by omega)
  have e2:decide ((b.toNat:Int)<=122)=decide (b.toNat<=122):=decide_eq_decide.2 (by omega)
  have e3:decide ((k:Int)>0)=decide (0<k):=decide_eq_decide.2 (by omega)
  have e4:decide ((b.toNat:Int)>=48)=decide (48<=b.toNat):=decide_eq_decide.2 (by omega)
  have e5:decide ((b.toNat:Int)<=57)=decide (b.toNat<=57):=decide_eq_decide.2 (by omega)
  have e6:((b.toNat:Int)==45)=(b.toNat==45):=by rw [Bool.eq_iff_iff];simp;omega
  have e7:((b.toNat:Int)==95)=(b.toNat==95):=by rw [Bool.eq_iff_iff];simp;omega
  rw [e1,e2,e3,e4,e5,e6,e7]
  cases decide (97<=b.toNat) <;> cases decide (b.toNat<=122) <;> cases decide (0<k) <;> cases decide (48<=b.toNat) <;> cases decide (b.toNat<=57) <;> cases (b.toNat==45) <;> cases (b.toNat==95) <;> rfl
 ·have hd:decide ((k:Int)<(s.size:Int))=false:=by simp;omega
  simp only [hd,cond_false,if_neg h]
theorem De (s:ByteArray) (hs:s.size<=1000000000):∀(n k:Nat),k+n=s.size->fA (λi=>kP s i) (n+1) (k:Int)=some (bif (List.range' k n).all (λj=>okB j (jc s j))then .go (s.size:Int)else .ret false)
 | 0,k,h=>by
  have hk:¬k<s.size:=by omega
  simp only [fA,Hy s k hs,if_neg hk,ob_,List.range'_zero,List.all_nil,cond_true]
  rw [show (k:Int)=s.size by omega]
 | n+1,k,h=>by
  have hk:k<s.size:=by omega
  rw [fA,Hy s k hs,if_pos hk,ob_,List.range'_succ,List.all_cons]
  cases okB k (jc s k)with
  | true=>simp only [cond_true,Bool.true_and];exact De s hs n (k+1) (by omega)
  | false=>rfl
theorem wV (s:ByteArray) (hs:s.size<=1000000000):mr s=some (nS s):=by
 have h:=iU (De s hs s.size 0 (by omega))
 unfold mr
 have h':iI (0:Int) (λs_1=>kP s s_1)=_:=h
 rw [h',ob_,<- List.range_eq_range']
 have e:decide ((s.size:Int)<=40)=decide (s.size<=40):=decide_eq_decide.2 (by omega)
 simp only [nS]
 cases (List.range s.size).all (λi=>okB i (jc s i))with
 | true =>
  rw [cond_true,lT,sNe_nil,e,Bool.and_true]
  cases decide (s.size≠0) <;> rfl
 | false=>simp only [cond_false,FB,Bool.and_false]
def tX (t:ByteArray) (b:UInt8):Bool := !decide (ixB t (b.toNat:Int)<0)
theorem only_L1 (s t:ByteArray) (k x:Nat) (h:k<s.size):nL s t k x ()=some (bif tX t (jc s k)then .go ()else .ret false):=by
 simp only [nL,Ho s k h,strings_IndexByte,fU,ob_,tX]
 cases decide (ixB t ((jc s k).toNat:Int)<0) <;> rfl
theorem IZ (s t:ByteArray):∀(xs:List Nat) (k:Nat),k+xs.length=s.size->eP (λk x u=>nL s t k x u) xs k ()=some (bif (List.range' k xs.length).all (λj=>tX t (jc s j))then .go ()else .ret false)
 | [],k,h=>rfl
 | x::xs,k,h=>by
  simp only [List.length_cons]at h ⊢
  have hk:k<s.size:=by omega
  rw [eP,only_L1 s t k x hk,ob_,List.range'_succ,List.all_cons]
  cases tX t (jc s k)with
  | true=>simp only [cond_true,Bool.true_and];exact IZ s t xs (k+1) (by omega)
  | false=>rfl
theorem KI (s t:ByteArray) (hs:s.size<=1000000000):uj s t=some ((List.range s.size).all λi=>tX t (jc s i)):=by
 unfold uj
 rw [Int.toNat_natCast,fe (by simp;omega),IZ s t _ 0 (by simp),ob_,List.length_range,<- List.range_eq_range']
 cases (List.range s.size).all (λi=>tX t (jc s i)) <;> rfl
def Fb:ByteArray:=⟨#[97,98,99,100,101,102,103,104,105,106,107,108,109,110,111,112,113,114,115,116,117,118,119,120,121,122]⟩
def DD:ByteArray:=⟨#[97,98,99,100,101,102,103,104,105,106,107,108,109,110,111,112,113,114,115,116,117,118,119,120,121,122,48,49,50,51,52,53,54,55,56,57,45,95]⟩
theorem Fq:∀n:Fin 256,tX Fb (UInt8.ofNat n.val)=Er (UInt8.ofNat n.val)/\tX DD (UInt8.ofNat n.val)=(Er (UInt8.ofNat n.val)||HZ (UInt8.ofNat n.val)):=by decide +kernel
theorem I9 (b:UInt8):tX Fb b=Er b:=by
 have:=(Fq ⟨b.toNat,b.toNat_lt⟩).1
 simpa using this
theorem Iw (b:UInt8):tX DD b=(Er b||HZ b):=by
 have:=(Fq ⟨b.toNat,b.toNat_lt⟩).2
 simpa using this
theorem tO (s:ByteArray) (hs:s.size<=1000000000):qx s=some (nS s):=by
 unfold qx kL
 have e1:decide ((1:Int)<=(s.size:Int))=decide (s.size≠0):=decide_eq_decide.2 (by omega)
 have e2:decide ((s.size:Int)<=40)=decide (s.size<=40):=decide_eq_decide.2 (by omega)
 rw [e1,e2]
 by_cases h1:s.size≠0
 ·by_cases h2:s.size<=40
  ·have hsub:IC s 0 1=some (s.extract 0 1):=by
    unfold IC;rw [if_pos ⟨by omega,by omega,by decide,by show 1<=s.size;omega⟩];rfl
   have hsz:(s.extract 0 1).size=1:=by simp [ByteArray.size_extract];omega
   have hb:jc (s.extract 0 1) 0=jc s 0:=by
    obtain ⟨⟨l⟩⟩:=s
    simp only [jc]
    cases l with
    | nil=>exact absurd rfl h1
    | cons b l=>simp [ByteArray.extract,ByteArray.copySlice]
   simp only [decide_eq_true h1,decide_eq_true h2,cond_true,ob_,hsub]
   have o1:=KI (s.extract 0 1) Fb (by omega)
   have o2:=KI s DD hs
   unfold Fb at o1
   unfold DD at o2
   rw [o1,ob_,o2]
   have e3:(List.range (s.extract 0 1).size).all (λi=>tX Fb (jc (s.extract 0 1) i))=Er (jc s 0):=by
    rw [hsz]
    simp only [List.range_succ,List.range_zero,List.nil_append,List.all_cons,List.all_nil,Bool.and_true]
    rw [hb,I9]
   have e3':=e3
   unfold Fb at e3'
   rw [e3']
   have e4:∀i,tX DD (jc s i)=(Er (jc s i)||HZ (jc s i)):=λi=>Iw _
   have e5:nS s=(Er (jc s 0)&&(List.range s.size).all (λi=>tX DD (jc s i))):=by
    simp only [nS,decide_eq_true h1,decide_eq_true h2,Bool.true_and,e4]
    rw [Bool.eq_iff_iff]
    simp only [List.all_eq_true,List.mem_range,Bool.and_eq_true,okB,Bool.or_eq_true,decide_eq_true_eq]
    constructor
    ·intro h
     refine⟨?_,λi hi=>(h i hi).imp id (λh=>h.2)⟩
     rcases h 0 (by omega)with h|h
     ·exact h
     ·exact absurd h.1 (by omega)
    ·rintro ⟨h3,h4⟩ i hi
     by_cases e:i=0
     ·rw [e];exact .inl h3
     ·exact (h4 i hi).imp id (λh=>⟨by omega,h⟩)
   unfold DD at e5
   rw [e5]
   cases Er (jc s 0) <;> rfl
  ·simp only [decide_eq_true h1,decide_eq_false h2,cond_true,cond_false,ob_,nS,Bool.false_and,Bool.and_false]
 ·simp only [decide_eq_false h1,cond_false,ob_,nS,Bool.false_and]
theorem GJ {s:ByteArray} (h:nS s=true):s.size≠0:=by
 simp only [nS,Bool.and_eq_true,decide_eq_true_eq]at h
 exact h.1
def nZ (s:ByteArray):Prop:=s.size<=1000
def sH (x:Entry):Prop:=nZ x.Key/\nZ x.Item/\x.Except.length<=50/\x.Tags.length<=20/\∀t∈x.Tags,nZ t
def HY (x:Player):Prop:=nZ x.Key/\nZ x.Screen/\x.Tags.length<=20/\∀t∈x.Tags,nZ t
theorem fF {s:ByteArray} (h:Nat.ble s.size 1000=true):nZ s:=Nat.le_of_ble_eq_true h
theorem jS {α:Type} (xs ys:List α) (h:xs.length+ys.length<=1000000000):kW xs ys=some (xs++ys):=by unfold kW;rw [if_pos h]
theorem KR {α:Type} {L:Nat->α->(List α×List Int×Int)->Option (Ctl (List α×List Int×Int) Unit)} {n:Int} (hn:1<=n) (hn2:n<=1000) (p:α->Prop)
  (hL:∀k x s,L k x s=(bX (⟨s.2.1,s.2.2⟩:Stream) n).bind λr=>(bif r.1 then (kW s.1 ([x]:List α)).bind λa=>some a else some s.1).bind λv=>some (.go (v,r.2.L,r.2.f_at)))
  {xs:List α} (hx:∀x∈xs,p x) (hl:xs.length<=10) (s:Stream) {b:Int} (hs:Ok s b) (hb:b<=900000) :
  ∃t s',je xs (([]:List α),s.L,s.f_at) (λk x s=>L k x s)=some (.go (t,s'.L,s'.f_at))/\Ok s' (b+10)/\t.length<=10/\∀x∈t,p x:=by
 obtain ⟨s',h1,h2,h3,h4⟩:=C8 (body:=λk x s=>L k x s) (λk s=>Ok ⟨s.2.1,s.2.2⟩ (b+k)/\s.1.length<=k/\∀x∈s.1,p x) (xs:=xs) (s:=(([]:List α),s.L,s.f_at)) (by omega) (λk x s hxm hk ⟨i1,i2,i3⟩=>by
   obtain ⟨c,s1,k1,k2⟩:=sF _ n i1 (by omega) hn hn2
   simp only [hL,k1,ob_]
   cases c with
   | true =>
    simp only [cond_true,jS s.1 [x] (by simp;omega),ob_]
    refine⟨_,rfl,k2.mono (by omega),by simp;omega,λy hy => ?_⟩
    rcases List.mem_append.1 hy with hy|hy
    ·exact i3 y hy
    ·rw [List.mem_singleton.1 hy];exact hx x hxm
   | false =>
    simp only [cond_false,ob_]
    exact⟨_,rfl,k2.mono (by omega),by show s.1.length<=_;omega,i3⟩) ⟨by simpa using hs,by simp,by simp⟩
 exact⟨s'.1,⟨s'.2.1,s'.2.2⟩,h1,h2.mono (by omega),by omega,h4⟩
theorem uM {α:Type} {xs:List α} {i:Nat} {a:α} (h:i<xs.length):(xs.set i a)[i]? = some a:=by simp [h]
theorem get_at {α:Type} {xs:List α} {i:Nat} (h:i<xs.length):xs[i]? = some xs[i]:=List.getElem?_eq_getElem h
theorem xh {α:Type} {p:α->Prop} {xs:List α} {i:Nat} {a:α} (h:∀x∈xs,p x) (ha:p a):∀x∈xs.set i a,p x:=λx hx=>by
 rcases List.mem_or_eq_of_mem_set hx with h1|h1
 ·exact h x h1
 ·rw [h1];exact ha
theorem yh {α:Type} {i:Int} {xs:List α} (h0:0<=i) (h1:i<xs.length):inR i xs=some ():=by unfold inR;rw [if_pos ⟨h0,by omega⟩]
theorem DU (s:Stream) {b:Int} (hs:Ok s b) (hb:b<=800000):∃p s',iM s=some (p,s')/\Ok s' (b+2)/\HY p:=by
 obtain ⟨z,s1,h1,_,h2⟩:=nD s [0,0,60,(-90),1440] hs (by omega) (by simp) (by simp)
 obtain ⟨j,s2,h3,h4,h5,h6⟩:=ou s1 3 h2 (by omega) (by decide) (by decide)
 obtain ⟨tg,n1,n2⟩:=y8 (l:=[([]:List ByteArray),([(⟨#[99,105,116,121]⟩:ByteArray)]:List ByteArray),([(⟨#[99,105,116,121]⟩:ByteArray),(⟨#[109,97,108,108]⟩:ByteArray)]:List ByteArray)]) h4 (by simpa using h5)
 simp only [iM,h1,h3,n1,ob_]
 refine⟨_,_,rfl,h6.mono (by omega),fF rfl,fF rfl,?_⟩
 simp only [List.mem_cons,List.not_mem_nil,or_false]at n2
 rcases n2 with rfl|rfl|rfl
 ·exact⟨by simp,by simp⟩
 ·exact⟨by simp,by intro t ht;simp only [List.mem_cons,List.not_mem_nil,or_false]at ht;rw [ht];exact fF rfl⟩
 ·exact⟨by simp,by intro t ht;simp only [List.mem_cons,List.not_mem_nil,or_false]at ht;rcases ht with rfl | rfl <;> exact fF rfl⟩
theorem LX (s:Stream) {b:Int} (hs:Ok s b) (hb:b<=800000):∃p s',kw s=some (p,s')/\Ok s' (b+20)/\HY p:=by
 obtain ⟨p,s1,h1,h2,h3⟩:=DU s hs hb
 obtain ⟨c,s2,h4,h5⟩:=sF s1 15 h2 (by omega) (by decide) (by decide)
 simp only [kw,h1,h4,ob_]
 cases c with
 | false=>exact⟨_,_,rfl,h5.mono (by omega),h3⟩
 | true =>
  obtain ⟨k1,s3,m1,m2,m3⟩:=zT s2 [(⟨#[112]⟩:ByteArray),(⟨#[]⟩:ByteArray)] h5 (by omega) (by simp) (by simp)
  obtain ⟨k2,s4,m4,m5,m6⟩:=zT s3 [(⟨#[115,97]⟩:ByteArray),(⟨#[65]⟩:ByteArray)] m3 (by omega) (by simp) (by simp)
  obtain ⟨z,s5,m7,m8⟩:=sJ s4 (-1440) 1440 m6 (by omega) (by decide) (by decide) (by decide)
  obtain ⟨j,s6,m9,m10,m11,m12⟩:=ou s5 3 m8 (by omega) (by decide) (by decide)
  obtain ⟨tg,n1,n2⟩:=y8 (l:=[([(⟨#[109,97,108,108]⟩:ByteArray),(⟨#[99,105,116,121]⟩:ByteArray)]:List ByteArray),([(⟨#[]⟩:ByteArray)]:List ByteArray),([]:List ByteArray)]) m10 (by simpa using m11)
  simp only [cond_true,m1,m4,m7,m9,n1,ob_]
  refine⟨_,_,rfl,m12.mono (by omega),?_,?_,?_⟩
  ·simp only [List.mem_cons,List.not_mem_nil,or_false]at m2
   rcases m2 with rfl|rfl <;> exact fF rfl
  ·simp only [List.mem_cons,List.not_mem_nil,or_false]at m5
   rcases m5 with rfl|rfl <;> exact fF rfl
  ·simp only [List.mem_cons,List.not_mem_nil,or_false]at n2
   rcases n2 with rfl|rfl|rfl
   ·exact⟨by simp,by intro t ht;simp only [List.mem_cons,List.not_mem_nil,or_false]at ht;rcases ht with rfl | rfl <;> exact fF rfl⟩
   ·exact⟨by simp,by intro t ht;simp only [List.mem_cons,List.not_mem_nil,or_false]at ht;rw [ht];exact fF rfl⟩
   ·exact⟨by simp,by simp⟩
theorem days_ok (s:Stream) {b:Int} (hs:Ok s b) (hb:b<=800000):∃w s',lS s=some (w,s')/\Ok s' (b+20):=by
 obtain ⟨a,s1,h1,_,h2⟩:=nD s [0,0,1,36000000,86400000] hs (by omega) (by simp) (by simp)
 obtain ⟨c,s2,h3,_,h4⟩:=nD s1 [1,42000000,86400000,259200000,777600000] h2 (by omega) (by simp) (by simp)
 simp only [lS,h1,h3,ob_]
 obtain ⟨v,s3,h5,h6⟩:∃(v:Bool) (s3:Stream),(bif decide (a>c)then (bX s2 3).bind λr_13=>some ((!r_13.1),r_13.2.L,r_13.2.f_at)else some (false,s2.L,s2.f_at))=some (v,s3.L,s3.f_at)/\Ok s3 (b+3):=by
  cases decide (a>c)with
  | true =>
   obtain ⟨f,s3,k1,k2⟩:=sF s2 3 h4 (by omega) (by decide) (by decide)
   exact⟨!f,s3,by simp only [cond_true,k1,ob_],k2.mono (by omega)⟩
  | false=>exact⟨false,s2,rfl,h4.mono (by omega)⟩
 simp only [h5,ob_]
 obtain ⟨u,hu⟩:∃u:Int,(bif v then some 0 else some a)=some u:=by cases v <;> exact⟨_,rfl⟩
 obtain ⟨f,s4,h7,h8⟩:=sF s3 25 h6 (by omega) (by decide) (by decide)
 have e3:(⟨s3.L,s3.f_at⟩:Stream)=s3:=rfl
 simp only [hu,e3,h7,ob_]
 cases f with
 | false=>exact⟨_,_,rfl,h8.mono (by omega)⟩
 | true =>
  obtain ⟨o,s5,m1,m2⟩:=sJ s4 0 100 h8 (by omega) (by decide) (by decide) (by decide)
  obtain ⟨q,s6,m3,_,m4⟩:=nD s5 [345686400000,345686400001,34646400000,34560000000,(-1)] m2 (by omega) (by simp) (by simp)
  simp only [cond_true,m1,m3,ob_]
  exact⟨_,_,rfl,m4.mono (by omega)⟩
theorem BQ (s:Stream) {b:Int} (hs:Ok s b) (hb:b<=800000):∃xs s',iC s=some (xs,s')/\Ok s' (b+200)/\xs.length<=4/\(∀x∈xs,sH x/\x.Except.length<=10):=by
 unfold iC
 obtain ⟨s',h1,h2,h3,h4⟩:=C8 (body:=λk x s=>gq k x s) (λk s=>Ok ⟨s.2.1,s.2.2⟩ (b+40*k)/\s.1.length<=k/\∀x∈s.1,sH x/\x.Except.length<=10)
  (xs:=[(⟨#[101,97]⟩:ByteArray),(⟨#[101,98]⟩:ByteArray),(⟨#[101,99]⟩:ByteArray),(⟨#[101,100]⟩:ByteArray)]) (s:=(([]:List Entry),s.L,s.f_at)) (by simp) (λk x t hxm hk ⟨i1,i2,i3⟩=>by
   have hk5:k<4:=hk
   obtain ⟨c,s1,k1,k2⟩:=sF _ 4 i1 (by omega) (by decide) (by decide)
   simp only [gq,k1,ob_]
   cases c with
   | true=>exact⟨_,rfl,k2.mono (by omega),by show t.1.length<=_;omega,i3⟩
   | false =>
    obtain ⟨it,s2,a1,ai,a2⟩:=zT s1 [(⟨#[105,97]⟩:ByteArray),(⟨#[105,98]⟩:ByteArray),(⟨#[105,99]⟩:ByteArray)] k2 (by omega) (by simp) (by simp)
    obtain ⟨v,s3,a3,_,_,a4⟩:=Ab s2 0 2 a2 (by omega) (by decide) (by decide) (by decide)
    obtain ⟨p1,s4,m1,_,n1⟩:=nD s3 [0,0,1,3] a4 (by omega) (by simp) (by simp)
    obtain ⟨p2,s5,m2,_,n2⟩:=nD s4 [1,1,2,3,7] n1 (by omega) (by simp) (by simp)
    obtain ⟨p3,s6,m3,_,n3⟩:=nD s5 [127,127,31,96,1,2] n2 (by omega) (by simp) (by simp)
    obtain ⟨p4,s7,m4,_,n4⟩:=nD s6 [0,0,60,600,1380] n3 (by omega) (by simp) (by simp)
    obtain ⟨p5,s8,m5,_,n5⟩:=nD s7 [0,60,120,600,720,1439] n4 (by omega) (by simp) (by simp)
    obtain ⟨p6,s9,m6,_,n6⟩:=nD s8 [0,0,1,5] n5 (by omega) (by simp) (by simp)
    obtain ⟨g,s10,m7,n7⟩:=sF s9 8 n6 (by omega) (by decide) (by decide)
    obtain ⟨p7,s11,m8,_,n8⟩:=nD s10 [0,1,5,10,30] n7 (by omega) (by simp) (by simp)
    obtain ⟨ex,s12,m9,n9,l9,_⟩:=KR (L:=iK) (n:=4) (by decide) (by decide) (λ_=>True) (λ_ _ _=>rfl) (xs:=[1,2,8]) (λ_ _=>trivial) (by simp) s11 n8 (by omega)
    obtain ⟨tg,s13,m10,n10,l10,q10⟩:=KR (L:=iL) (n:=4) (by decide) (by decide) nZ (λ_ _ _=>rfl) (xs:=[(⟨#[99,105,116,121]⟩:ByteArray),(⟨#[109,97,108,108]⟩:ByteArray)])
     (by intro x hx;simp only [List.mem_cons,List.not_mem_nil,or_false]at hx;rcases hx with rfl | rfl <;> exact fF rfl) (by simp) s12 n9 (by omega)
    simp only [cond_false,a1,a3,m1,m2,m3,m4,m5,m6,m7,m8,m9,m10,ob_,lT,jS t.1 _ (show t.1.length+[_].length<=_ by simp;omega)]
    refine⟨_,rfl,n10.mono (by omega),by simp;omega,λy hy => ?_⟩
    rcases List.mem_append.1 hy with hy|hy
    ·exact i3 y hy
    ·rw [List.mem_singleton.1 hy]
     refine⟨⟨?_,?_,by show ex.length<=50;omega,by show tg.length<=20;omega,q10⟩,l9⟩
     ·simp only [List.mem_cons,List.not_mem_nil,or_false]at hxm
      rcases hxm with rfl|rfl|rfl|rfl <;> exact fF rfl
     ·simp only [List.mem_cons,List.not_mem_nil,or_false]at ai
      rcases ai with rfl|rfl|rfl <;> exact fF rfl) ⟨by simpa using hs,by simp,by simp⟩
 rw [h1]
 exact⟨s'.1,⟨s'.2.1,s'.2.2⟩,rfl,h2.mono (by simp),h3,h4⟩
theorem Ke (s:Stream) {b:Int} (hs:Ok s b) (hb:b<=700000):∃xs s',jT s=some (xs,s')/\Ok s' (b+300)/\xs.length<=4/\∀x∈xs,sH x:=by
 obtain ⟨xs,s1,h1,h2,h3,h4'⟩:=BQ s hs (by omega)
 have h4:∀x∈xs,sH x:=λx hx=>(h4' x hx).1
 simp only [jT,h1,ob_]
 obtain ⟨v,s2,h5,h6,h7⟩:∃(v:Bool) (s2:Stream),(bif decide ((xs.length:Int)>0)then (bX s1 10).bind λr_9=>some (r_9.1,r_9.2.L,r_9.2.f_at)else some (false,s1.L,s1.f_at))=some (v,s2.L,s2.f_at)/\Ok s2 (b+201)/\(v=true->0<xs.length):=by
  cases hd:decide ((xs.length:Int)>0)with
  | true =>
   obtain ⟨c,s2,k1,k2⟩:=sF s1 10 h2 (by omega) (by decide) (by decide)
   simp only [decide_eq_true_eq]at hd
   exact⟨c,s2,by simp only [cond_true,k1,ob_],k2.mono (by omega),λ_=>by omega⟩
  | false=>exact⟨false,s1,rfl,h2.mono (by omega),λh=>by cases h⟩
 simp only [h5,ob_]
 cases v with
 | false=>exact⟨xs,_,rfl,h6.mono (by omega),h3,h4⟩
 | true =>
  have hpos:=h7 rfl
  have e2:(⟨s2.L,s2.f_at⟩:Stream)=s2:=rfl
  obtain ⟨i,s3,k1,k2,k3,k4⟩:=ou s2 xs.length h6 (by omega) (by omega) (by omega)
  have hi:0+i.toNat<xs.length:=by omega
  have ho:=(h4 _ (List.getElem_mem hi))
  have ho':=(h4' _ (List.getElem_mem hi)).2
  obtain ⟨w,s4,m1,_,_,m2⟩:=ou s3 6 k4 (by omega) (by decide) (by decide)
  have hset:∀a,0+i.toNat<(xs.set (0+i.toNat) a).length:=λa=>by simpa using hi
  simp only [cond_true,e2,k1,ob_,yh k2 k3,m1]
  cases hw0:(w==0)with
  | true =>
   obtain ⟨key,s5,n1,n2,n3⟩:=zT s4 [xs[0+i.toNat].Key,(⟨#[]⟩:ByteArray),(⟨#[65]⟩:ByteArray),(⟨#[101,97]⟩:ByteArray)] m2 (by omega) (by simp) (by simp)
   obtain ⟨cl,s6,n4,n5,n6⟩:=zT s5 [(⟨#[105,97]⟩:ByteArray),(⟨#[]⟩:ByteArray),(⟨#[66]⟩:ByteArray)] n3 (by omega) (by simp) (by simp)
   simp only [cond_true,get_at hi,n1,n4,ob_,uM hi,List.set_set]
   refine⟨_,_,rfl,n6.mono (by omega),by simpa using h3,xh h4 ⟨?_,?_,ho.2.2⟩⟩
   ·simp only [List.mem_cons,List.not_mem_nil,or_false]at n2
    rcases n2 with rfl|rfl|rfl|rfl
    ·exact ho.1
    ·exact fF rfl
    ·exact fF rfl
    ·exact fF rfl
   ·simp only [List.mem_cons,List.not_mem_nil,or_false]at n5
    rcases n5 with rfl|rfl|rfl <;> exact fF rfl
  | false =>
  simp only [cond_false]
  cases hw1:(w==1)with
  | true =>
   obtain ⟨a,s5,n1,n2⟩:=sJ s4 0 10 m2 (by omega) (by decide) (by decide) (by decide)
   obtain ⟨c,s6,n3,n4⟩:=sJ s5 0 4000 n2 (by omega) (by decide) (by decide) (by decide)
   simp only [cond_true,get_at hi,n1,n3,ob_,uM hi,uM (hset _),List.set_set]
   exact⟨_,_,rfl,n4.mono (by omega),by simpa using h3,xh h4 ho⟩
  | false =>
  simp only [cond_false]
  cases hw2:(w==2)with
  | true =>
   obtain ⟨a,s5,n1,n2⟩:=sJ s4 1 400 m2 (by omega) (by decide) (by decide) (by decide)
   obtain ⟨c,s6,n3,n4⟩:=sJ s5 1 127 n2 (by omega) (by decide) (by decide) (by decide)
   simp only [cond_true,get_at hi,n1,n3,ob_,uM hi,uM (hset _),List.set_set]
   exact⟨_,_,rfl,n4.mono (by omega),by simpa using h3,xh h4 ho⟩
  | false =>
  simp only [cond_false]
  cases hw3:(w==3)with
  | true =>
   obtain ⟨a,s5,n1,n2⟩:=sJ s4 0 4000 m2 (by omega) (by decide) (by decide) (by decide)
   generalize hx:xs[0+i.toNat]=e at *
   have a1:iX e.Except=some e.Except:=by
    simp only [iX,jS [] e.Except (show 0+e.Except.length<=_ by omega),List.nil_append,ob_]
   have a2:kW e.Except [a]=some (e.Except++[a]):=jS _ _ (show e.Except.length+1<=_ by omega)
   have a3:xs[0+i.toNat]? = some e:=by rw [get_at hi,hx]
   simp only [cond_true,a3,n1,a1,a2,ob_]
   exact⟨_,_,rfl,n2.mono (by omega),by simpa using h3,xh h4 ⟨ho.1,ho.2.1,by show (e.Except++[a]).length<=50;rw [List.length_append];show _+1<=50;omega,ho.2.2.2⟩⟩
  | false =>
  simp only [cond_false]
  cases hw4:(w==4)with
  | true =>
   obtain ⟨a,s5,n1,n2⟩:=sJ s4 0 1439 m2 (by omega) (by decide) (by decide) (by decide)
   obtain ⟨c,s6,n3,n4⟩:=sJ s5 0 1439 n2 (by omega) (by decide) (by decide) (by decide)
   simp only [cond_true,get_at hi,n1,n3,ob_,uM hi,uM (hset _),List.set_set]
   exact⟨_,_,rfl,n4.mono (by omega),by simpa using h3,xh h4 ho⟩
  | false =>
   obtain ⟨j,s5,n1,n2,n3,n4⟩:=ou s4 3 m2 (by omega) (by decide) (by decide)
   obtain ⟨tg,n5,n6⟩:=y8 (l:=[([(⟨#[109,97,108,108]⟩:ByteArray),(⟨#[99,105,116,121]⟩:ByteArray)]:List ByteArray),([(⟨#[]⟩:ByteArray)]:List ByteArray),([(⟨#[97]⟩:ByteArray),(⟨#[97]⟩:ByteArray)]:List ByteArray)]) n2 (by simpa using n3)
   obtain ⟨a,s6,n7,n8⟩:=sJ s5 0 9 n4 (by omega) (by decide) (by decide) (by decide)
   simp only [cond_false,get_at hi,n1,n5,n7,ob_,uM hi,uM (hset _),List.set_set]
   refine⟨_,_,rfl,n8.mono (by omega),by simpa using h3,xh h4 ⟨ho.1,ho.2.1,ho.2.2.1,?_⟩⟩
   simp only [List.mem_cons,List.not_mem_nil,or_false]at n6
   rcases n6 with rfl|rfl|rfl
   ·exact⟨by simp,by intro t ht;simp only [List.mem_cons,List.not_mem_nil,or_false]at ht;rcases ht with rfl | rfl <;> exact fF rfl⟩
   ·exact⟨by simp,by intro t ht;simp only [List.mem_cons,List.not_mem_nil,or_false]at ht;rw [ht];exact fF rfl⟩
   ·exact⟨by simp,by intro t ht;simp only [List.mem_cons,List.not_mem_nil,or_false,or_self]at ht;rw [ht];exact fF rfl⟩
def Ij:ByteArray:=⟨#[]⟩
def wo {α:Type} (key:α->ByteArray) (l:List α) (k:Nat):ByteArray:=if k=0 then Ij else match l[k-1]? with | some y=>key y | none=>Ij
def chk {α:Type} (key:α->ByteArray) (stp:ByteArray->α->Int):ByteArray->List α->Int
 | _,[]=>0
 | last,x::xs=>bif stp last x==0 then chk key stp (key x) xs else stp last x
def Ah (e:Int):Ctl Unit Int:=bif e==0 then .go ()else .ret e
theorem zi {α:Type} {key:α->ByteArray} {stp:ByteArray->α->Int} {body:Nat->α->Unit->Option (Ctl Unit Int)} (l:List α):∀(xs:List α) (k:Nat),l.drop k=xs->(∀k x,l[k]? = some x->body k x ()=some (Ah (stp (wo key l k) x))) ->
  eP body xs k ()=some (Ah (chk key stp (wo key l k) xs))
 | [],k,h,hb=>rfl
 | x::xs,k,h,hb=>by
  have hg:=CV h
  rw [eP,hb k x hg,ob_,chk]
  cases he:stp (wo key l k) x==0 with
  | true =>
   simp only [Ah,he,cond_true]
   rw [zi l xs (k+1) (aR h) hb]
   have:wo key l (k+1)=key x:=by simp [wo,hg]
   rw [this];rfl
  | false=>simp only [Ah,he,cond_false]
theorem I7 {α:Type} {key:α->ByteArray} {stp:ByteArray->α->Int} {body:Nat->α->ByteArray->Option (Ctl ByteArray Int)}:∀(xs:List α) (k:Nat) (last:ByteArray),(∀k x last,x∈xs->body k x last=some (bif stp last x==0 then .go (key x)else .ret (stp last x))) ->
  ∃o,eP body xs k last=some o/\bv o (λ_=>some (0:Int)) (λr=>some r)=some (chk key stp last xs)
 | [],k,last,hb=>⟨_,rfl,rfl⟩
 | x::xs,k,last,hb=>by
  rw [eP,hb k x last (by simp),ob_,chk]
  cases he:stp last x==0 with
  | true=>exact I7 xs (k+1) (key x) (λk y last hy=>hb k y last (by simp [hy]))
  | false=>exact⟨_,rfl,rfl⟩
theorem wX (e:Int):bv (Ah e) (λ_=>some (0:Int)) (λr=>some r)=some e:=by
 unfold Ah
 cases h:e==0 with
 | true=>simp only [cond_true,lT];rw [eq_of_beq h]
 | false=>rfl
def wE (last x:ByteArray):Int:=bif !nS x then 5 else bif sLe x last then 7 else 0
def tagsF (l:List ByteArray):Int:=bif decide (l.length>20)then 2 else chk id wE Ij l
theorem HV {α:Type} {l:List α} {k:Nat} {x:α} (h:l[k]? = some x) (hk:0<k) (hl:l.length<=1000000000):∃y,idx l (w64 ((k:Int)-1))=some y/\l[k-1]? = some y:=by
 have hlt:k<l.length:=(List.getElem?_eq_some_iff.1 h).1
 rw [aP (by omega),show (k:Int)-1=((k-1:Nat):Int) by omega,jP]
 exact⟨l[k-1],List.getElem?_eq_getElem (by omega),List.getElem?_eq_getElem (by omega)⟩
theorem AA {α:Type} {key:α->ByteArray} {l:List α} {k:Nat} {x:α} {s:ByteArray} (h:l[k]? = some x) (hl:l.length<=1000000000) (hs:s.size≠0) :
  (bif decide ((k:Int)>0)then (idx l (w64 ((k:Int)-1))).bind λy=>some (sLe s (key y))else some false)=some (sLe s (wo key l k)):=by
 by_cases hk:0<k
 ·obtain ⟨y,h1,h2⟩:=HV h hk hl
  have hd:decide ((k:Int)>0)=true:=by simp;omega
  simp only [hd,cond_true,h1,ob_,wo,if_neg (show ¬k=0 by omega),h2]
 ·have hk0:k=0:=by omega
  subst hk0
  simp only [wo,if_pos,Ij,sLe_nil,decide_eq_false hs]
  rfl
theorem tagsK (l:List ByteArray) (hs:∀t∈l,nZ t) (hl:l.length<=1000000000):iO l=some (tagsF l):=by
 unfold iO tagsF
 have e:decide ((l.length:Int)>20)=decide (l.length>20):=decide_eq_decide.2 (by omega)
 rw [e]
 cases decide (l.length>20)with
 | true=>rfl
 | false =>
  simp only [cond_false]
  unfold nH
  rw [fe (by omega),zi (key:=id) (stp:=wE) l l 0 rfl (λk x hx => ?_)]
  ·simp only [ob_,wX];rfl
  ·have hxs:nZ x:=hs x (List.mem_of_getElem? hx)
   simp only [kN,wV x (by unfold nZ at hxs;omega),ob_,wE]
   cases hk:nS x with
   | false=>rfl
   | true =>
    simp only [Bool.not_true,cond_false]
    have:=AA (key:=id) hx hl (GJ hk)
    simp only [id]at this
    rw [this,ob_]
    cases sLe x (wo id l k) <;> rfl
theorem tagsR (l:List ByteArray) (hs:∀t∈l,nZ t) (hl:l.length<=1000000000):lw l=some (tagsF l):=by
 unfold lw tagsF
 have e:decide ((l.length:Int)>20)=decide (l.length>20):=decide_eq_decide.2 (by omega)
 rw [e]
 cases decide (l.length>20)with
 | true=>rfl
 | false =>
  simp only [cond_false]
  unfold nC
  rw [fe (by omega),zi (key:=id) (stp:=wE) l l 0 rfl (λk x hx => ?_)]
  ·simp only [ob_,wX];rfl
  ·have hxs:nZ x:=hs x (List.mem_of_getElem? hx)
   simp only [kT,tO x (by unfold nZ at hxs;omega),ob_,wE]
   cases hk:nS x with
   | false=>rfl
   | true =>
    simp only [Bool.not_true,cond_false]
    have:=AA (key:=id) hx hl (GJ hk)
    simp only [id]at this
    rw [this,ob_]
    cases sLe x (wo id l k) <;> rfl
def IV {α:Type} (stp:Option α->α->Int):Option α->List α->Int
 | _,[]=>0
 | p,x::xs=>bif stp p x==0 then IV stp (some x) xs else stp p x
def zX {α:Type} (l:List α) (k:Nat):Option α:=if k=0 then none else l[k-1]?
theorem Am {α:Type} {stp:Option α->α->Int} {body:Nat->α->Unit->Option (Ctl Unit Int)} (l:List α):∀(xs:List α) (k:Nat),l.drop k=xs->(∀k x,l[k]? = some x->body k x ()=some (Ah (stp (zX l k) x))) ->
  eP body xs k ()=some (Ah (IV stp (zX l k) xs))
 | [],k,h,hb=>rfl
 | x::xs,k,h,hb=>by
  have hg:=CV h
  rw [eP,hb k x hg,ob_,IV]
  cases he:stp (zX l k) x==0 with
  | true =>
   simp only [Ah,he,cond_true]
   rw [Am l xs (k+1) (aR h) hb]
   have:zX l (k+1)=some x:=by simp [zX,hg]
   rw [this];rfl
  | false=>simp only [Ah,he,cond_false]
def jd (n lo hi:Int):Bool:=decide (n<lo)||decide (n>hi)
theorem rF (n lo hi:Int):fQ n lo hi=some (jd n lo hi):=by
 unfold fQ jd
 cases decide (n<lo) <;> cases decide (n>hi) <;> rfl
theorem I1 (n lo hi:Int):kL n lo hi=some (!jd n lo hi):=by
 unfold kL jd
 have e1:decide (lo<=n) = !decide (n<lo):=by rw [Bool.eq_iff_iff];simp
 have e2:decide (n<=hi) = !decide (n>hi):=by rw [Bool.eq_iff_iff];simp
 rw [e1,e2]
 cases decide (n<lo) <;> cases decide (n>hi) <;> rfl
def leP (p:Option Int) (x:Int):Bool:=match p with
 | none=>false
 | some y=>decide (x<=y)
def xY (p:Option Int) (x:Int):Int:=bif jd x 0 4000 then 1 else bif leP p x then 7 else 0
def exF (l:List Int):Int:=bif decide (l.length>100)then 2 else IV xY none l
theorem DK {l:List Int} {k:Nat} {x:Int} (h:l[k]? = some x) (hl:l.length<=1000000000) :
  (bif decide ((k:Int)>0)then (idx l (w64 ((k:Int)-1))).bind λy=>some (decide (x<=y))else some false)=some (leP (zX l k) x):=by
 by_cases hk:0<k
 ·obtain ⟨y,h1,h2⟩:=HV h hk hl
  have hd:decide ((k:Int)>0)=true:=by simp;omega
  simp only [hd,cond_true,h1,ob_,zX,if_neg (show ¬k=0 by omega),h2,leP]
 ·have hk0:k=0:=by omega
  subst hk0
  rfl
theorem Nz (n:Int):tK n=some (!jd n 0 4000):=by
 unfold tK jd
 have e1:decide (n>=0) = !decide (n<0):=by rw [Bool.eq_iff_iff];simp
 have e2:decide (n<=4000) = !decide (n>4000):=by rw [Bool.eq_iff_iff];simp
 rw [e1,e2]
 cases decide (n<0) <;> cases decide (n>4000) <;> rfl
theorem exK (l:List Int) (hl:l.length<=1000000000):jb l=some (exF l):=by
 unfold jb exF
 have e:decide ((l.length:Int)>100)=decide (l.length>100):=decide_eq_decide.2 (by omega)
 rw [e]
 cases decide (l.length>100)with
 | true=>rfl
 | false =>
  simp only [cond_false]
  rw [fe (by omega),Am (stp:=xY) l l 0 rfl (λk x hx => ?_)]
  ·simp only [ob_,wX];rfl
  ·simp only [ji,Nz,ob_,xY]
   cases jd x 0 4000 with
   | true=>rfl
   | false =>
    simp only [Bool.not_false,Bool.not_true,cond_false]
    rw [DK hx hl,ob_]
    cases leP (zX l k) x <;> rfl
def nY (e:Entry):Int :=
 bif !nS e.Key || !nS e.Item then 5 else
 bif jd e.Version 0 1000000||(jd e.First 0 e.Last||(decide (e.Last>4000)||(jd e.Every 1 400||jd e.Days 1 127)))then 1 else
 bif exF e.Except==0 then (bif jd e.From 0 1439||(jd e.To 0 1439||jd e.Prio 0 9)then 1 else tagsF e.Tags)else exF e.Except
theorem entK (e:Entry) (h:sH e):jm e=some (nY e):=by
 obtain ⟨h1,h2,h3,h4,h5⟩:=h
 unfold nZ at h1 h2
 unfold jm nY
 simp only [wV e.Key (by omega),wV e.Item (by omega),rF,exK e.Except (by omega),tagsK e.Tags h5 (by omega),ob_]
 cases nS e.Key with
 | false=>rfl
 | true =>
 cases nS e.Item with
 | false=>rfl
 | true =>
 simp only [Bool.not_true,cond_false,ob_,Bool.or_self,Bool.false_or]
 cases jd e.Version 0 1000000 with
 | true=>rfl
 | false =>
 cases jd e.First 0 e.Last with
 | true=>rfl
 | false =>
 cases decide (e.Last>4000)with
 | true=>rfl
 | false =>
 cases jd e.Every 1 400 with
 | true=>rfl
 | false =>
 cases jd e.Days 1 127 with
 | true=>rfl
 | false =>
 simp only [cond_false,ob_,Bool.or_self]
 cases hx:exF e.Except==0 with
 | false =>
  have:(exF e.Except != 0)=true:=by simp [bne,hx]
  simp only [this,cond_true,cond_false]
 | true =>
  have:(exF e.Except != 0)=false:=by simp [bne,hx]
  simp only [this,cond_true,cond_false]
  cases jd e.From 0 1439 with
  | true=>rfl
  | false =>
  cases jd e.To 0 1439 with
  | true=>rfl
  | false =>
  cases jd e.Prio 0 9 with
  | true=>rfl
  | false=>rfl
theorem entR (e:Entry) (h:sH e):l8 e=some (nY e):=by
 obtain ⟨h1,h2,h3,h4,h5⟩:=h
 unfold nZ at h1 h2
 unfold l8 nY
 simp only [tO e.Key (by omega),tO e.Item (by omega),I1,tagsR e.Tags h5 (by omega),ob_,Bool.not_not]
 cases nS e.Key with
 | false=>rfl
 | true =>
 cases nS e.Item with
 | false=>rfl
 | true =>
 simp only [Bool.not_true,cond_false,ob_,Bool.or_self,Bool.false_or]
 cases jd e.Version 0 1000000 with
 | true=>rfl
 | false =>
 cases jd e.First 0 e.Last with
 | true=>rfl
 | false =>
 cases decide (e.Last>4000)with
 | true=>rfl
 | false =>
 cases jd e.Every 1 400 with
 | true=>rfl
 | false =>
 cases jd e.Days 1 127 with
 | true=>rfl
 | false =>
 simp only [cond_false,ob_,Bool.or_self]
 have el:decide ((e.Except.length:Int)>100)=decide (e.Except.length>100):=decide_eq_decide.2 (by omega)
 rw [el]
 unfold exF
 cases decide (e.Except.length>100)with
 | true=>rfl
 | false =>
 simp only [cond_false]
 rw [fe (by omega),Am (stp:=xY) e.Except e.Except 0 rfl (λk x hx => ?_)]
 ·simp only [ob_]
  show bv (Ah (IV xY none e.Except)) _ _=_
  unfold Ah
  cases hx:IV xY none e.Except==0 with
  | false=>rfl
  | true =>
   simp only [cond_true,lT]
   cases jd e.From 0 1439 with
   | true=>rfl
   | false =>
   cases jd e.To 0 1439 with
   | true=>rfl
   | false =>
   cases jd e.Prio 0 9 with
   | true=>rfl
   | false=>rfl
 ·simp only [lM,I1,ob_,xY]
  cases jd x 0 4000 with
  | true=>rfl
  | false =>
   simp only [Bool.not_false,Bool.not_true,cond_false]
   rw [DK hx (by omega),ob_]
   cases leP (zX e.Except k) x <;> rfl
theorem Hr {e:Entry} (h:nY e=0):e.Key.size≠0:=by
 unfold nY at h
 cases hk:nS e.Key with
 | false=>rw [hk]at h;cases h
 | true=>exact GJ hk
theorem oneK (e:Entry) (h:sH e):dW [e]=some (nY e):=by
 unfold dW
 have:decide ((([e]:List Entry).length:Int)>200)=false:=rfl
 rw [this,cond_false,fe (by simp)]
 simp only [eP,gL,entK e h,ob_]
 cases hx:nY e==0 with
 | false =>
  have:(nY e != 0)=true:=by simp [bne,hx]
  simp only [this,cond_true,ob_,FB]
 | true =>
  have:(nY e != 0)=false:=by simp [bne,hx]
  rw [eq_of_beq hx]
  rfl
def rV (p:Player):Int:=bif !nS p.Key || !nS p.Screen then 5 else bif jd p.Zone (-1440) 1440 then 1 else tagsF p.Tags
theorem playK (p:Player) (h:HY p):ja p=some (rV p):=by
 obtain ⟨h1,h2,h4,h5⟩:=h
 unfold nZ at h1 h2
 unfold ja rV
 simp only [wV p.Key (by omega),wV p.Screen (by omega),rF,tagsK p.Tags h5 (by omega),ob_]
 cases nS p.Key with
 | false=>rfl
 | true =>
 cases nS p.Screen with
 | false=>rfl
 | true=>cases jd p.Zone (-1440) 1440 <;> rfl
theorem playR (p:Player) (h:HY p):lc p=some (rV p):=by
 obtain ⟨h1,h2,h4,h5⟩:=h
 unfold nZ at h1 h2
 unfold lc rV
 simp only [tO p.Key (by omega),tO p.Screen (by omega),I1,tagsR p.Tags h5 (by omega),ob_]
 cases nS p.Key with
 | false=>rfl
 | true =>
 cases nS p.Screen with
 | false=>rfl
 | true=>cases jd p.Zone (-1440) 1440 <;> rfl
def qC (w:Window):Int:=bif jd w.From 0 w.To||decide (w.To>345686400000)then 1 else bif decide (w64 (w.To-w.From)>34560000000)then 2 else 0
theorem winK (w:Window):gP w=some (qC w):=by
 unfold gP qC
 simp only [rF,ob_]
 cases jd w.From 0 w.To with
 | true=>rfl
 | false =>
 cases decide (w.To>345686400000)with
 | true=>rfl
 | false=>cases decide (w64 (w.To-w.From)>34560000000) <;> rfl
theorem winR (w:Window):nz w=some (qC w):=by
 unfold nz nE qC
 simp only [I1,ob_]
 cases jd w.From 0 w.To with
 | true=>rfl
 | false =>
 cases decide (w.To>345686400000)with
 | true=>rfl
 | false=>cases decide (w64 (w.To-w.From)>34560000000) <;> rfl
def or0 (a b:Int):Int:=bif a==0 then b else a
def memB (v:ByteArray) (l:List ByteArray):Bool:=l.any λx=>decide (v=x)
theorem wU {v:ByteArray} {l:List ByteArray}:memB v l=true↔v∈l:=by simp [memB]
theorem D7 {v:ByteArray} {l:List ByteArray} (h:v∉l):memB v l=false:=by
 cases hb:memB v l with
 | false=>rfl
 | true=>exact absurd (wU.1 hb) h
theorem tN (l:List ByteArray) (v:ByteArray):∀(xs:List ByteArray) (k:Nat),∃o,eP (λk x s=>dC v k x s) xs k ()=some o/\∃r:Int,bv o (λ_=>some (-1)) (λr=>some r)=some r/\decide (r>=0)=memB v xs
 | [],k=>⟨.go (),rfl,-1,rfl,by simp [memB]⟩
 | x::xs,k=>by
  have hst:dC v k x ()=some (bif decide (v=x)then .ret (k:Int)else .go ()):=by
   simp only [dC,zq];cases decide (v=x) <;> rfl
  rw [eP,hst,ob_]
  by_cases h:v=x
  ·simp only [decide_eq_true h,cond_true]
   exact⟨_,rfl,_,rfl,by simp [memB,h]⟩
  ·simp only [decide_eq_false h,cond_false]
   obtain ⟨o,h1,r,h2,h3⟩:=tN l v xs (k+1)
   exact⟨o,h1,r,h2,by rw [h3];simp [memB,h]⟩
theorem contains_eq (l:List ByteArray) (v:ByteArray) (hl:l.length<=1000000):eG l v=some (memB v l):=by
 obtain ⟨o,h1,r,h2,h3⟩:=tN l v l 0
 unfold eG ik
 rw [fe (by omega),h1,ob_,h2,ob_,h3]
theorem GZ (l:List ByteArray) (f:ByteArray->Option Bool) (p:ByteArray->Bool) (hf:∀x∈l,f x=some (p x)) (hl:l.length<=1000000):dG l f=some (l.any p):=by
 have run:∀(xs:List ByteArray) (k:Nat),(∀x∈xs,f x=some (p x))->∃o,eP (λk x s=>bQ f k x s) xs k ()=some o/\∃r:Int,bv o (λ_=>some (-1)) (λr=>some r)=some r/\decide (r>=0)=xs.any p:=by
  intro xs
  induction xs with
  | nil=>exact λk _=>⟨.go (),rfl,-1,rfl,by simp⟩
  | cons x xs ih =>
   intro k hf
   have hst:bQ f k x ()=some (bif p x then .ret (k:Int)else .go ()):=by
    simp only [bQ,hf x (by simp),ob_];cases p x <;> rfl
   rw [eP,hst,ob_]
   cases hp:p x with
   | true=>exact⟨_,rfl,_,rfl,by simp [hp]⟩
   | false =>
    simp only [cond_false]
    obtain ⟨o,h1,r,h2,h3⟩:=ih (k+1) (λy hy=>hf y (by simp [hy]))
    exact⟨o,h1,r,h2,by rw [h3];simp [hp]⟩
 obtain ⟨o,h1,r,h2,h3⟩:=run l 0 hf
 unfold dG fT
 rw [fe (by omega),h1,ob_,h2,ob_,h3]
def zM (l:List ByteArray):Prop:=∀i j (hi:i<l.length) (hj:j<l.length),i<j->lt l[i] l[j]
theorem uf:∀(l:List ByteArray) (last:ByteArray),chk id wE last l=0->zM l/\∀x∈l,lt last x
 | [],last,h=>⟨λi j hi=>absurd hi (Nat.not_lt_zero i),by simp⟩
 | x::xs,last,h=>by
  rw [chk]at h
  cases he:wE last x==0 with
  | false=>rw [he]at h;simp only [cond_false]at h;rw [h]at he;cases he
  | true =>
   rw [he]at h
   simp only [cond_true,id]at h
   obtain ⟨h1,h2⟩:=uf xs x h
   have hx:lt last x:=by
    unfold wE at he
    cases hk:nS x with
    | false=>rw [hk]at he;cases he
    | true =>
     cases hl:sLe x last with
     | true=>rw [hk,hl]at he;cases he
     | false =>
      have:=mt (Cn x last).2 (by rw [hl];simp)
      exact Classical.not_not.1 this
   refine⟨λi j hi hj hij => ?_,λy hy => ?_⟩
   ·cases i with
    | zero=>cases j with
     | zero=>omega
     | succ j=>exact h2 _ (List.getElem_mem _)
    | succ i=>cases j with
     | zero=>omega
     | succ j=>exact h1 i j (by simpa using hi) (by simpa using hj) (by omega)
   ·rcases List.mem_cons.1 hy with rfl|hy
    ·exact hx
    ·exact lt_trans hx (h2 y hy)
theorem Lc {l:List ByteArray} (h:tagsF l=0):l.length<=20/\zM l:=by
 unfold tagsF at h
 by_cases hl:l.length>20
 ·rw [decide_eq_true hl]at h;cases h
 ·rw [decide_eq_false hl]at h
  exact⟨by omega,(uf l Ij h).1⟩
theorem GK (x y:ByteArray):cmp_Less_string x y=some (sLt x y):=by
 unfold cmp_Less_string cmp_isNaN_string
 have:sNe x x=false:=by rw [Gm];simp
 rw [this];rfl
theorem half (i j:Nat) (h:i<=1000000/\j<=1000000):zD .u64 (IntKind.u64.wrap (w64 ((i:Int)+(j:Int)))) 1=some (((i+j) / 2:Nat):Int):=by
 have e1:w64 ((i:Int)+j)=((i+j:Nat):Int):=by rw [aP (by omega)];omega
 have e2:IntKind.u64.wrap ((i+j:Nat):Int)=((i+j:Nat):Int):=IntWalk.u64_in _ (by omega)
 rw [e1,e2]
 unfold zD
 rw [if_neg (by omega)]
 congr 1
 show Int.fdiv _ (2 ^ 1)=_
 rw [Int.fdiv_eq_ediv_of_nonneg _ (by decide)]
 omega
structure Ends (l:List ByteArray) (t:ByteArray) (i j:Nat):Prop where
 le:i<=j
 len:j<=l.length
 lo:∀k (h:k<l.length),k<i->lt l[k] t
 hi:∀k (h:k<l.length),j<=k->¬lt l[k] t
theorem Gl (l:List ByteArray) (t:ByteArray) (i j:Nat) (hij:i<j) (hm:(i+j) / 2<l.length) (hl:j<=1000) :
  aW l t ((i:Int),(j:Int))=some (bif sLt l[(i+j) / 2] t then .go ((((i+j) / 2+1:Nat):Int),(j:Int))else .go ((i:Int),(((i+j) / 2:Nat):Int))):=by
 have e1:decide ((i:Int)<(j:Int))=true:=by simp;omega
 have ew:w64 (((i+j) / 2:Nat):Int)=(((i+j) / 2:Nat):Int):=aP (by omega)
 have ew2:w64 ((((i+j) / 2:Nat):Int)+1)=(((i+j) / 2+1:Nat):Int):=by rw [aP (by omega)];omega
 simp only [aW,e1,cond_true,half i j (by omega),ob_,ew,ew2,jP,List.getElem?_eq_getElem hm,GK]
 cases sLt l[(i+j) / 2] t <;> rfl
theorem u7 (l:List ByteArray) (t:ByteArray) (hr:zM l) (hl:l.length<=1000):∀(d i j:Nat),j-i<=d->Ends l t i j->∃m:Nat,fA (λs=>aW l t s) (d+1) ((i:Int),(j:Int))=some (.go ((m:Int),(m:Int)))/\Ends l t m m
 | d,i,j,hd,he=>by
  have hlen:=he.len
  have hle:=he.le
  by_cases hij:i<j
  ·have hm:(i+j) / 2<l.length:=by omega
   rw [fA,Gl l t i j hij hm (by omega),ob_]
   cases d with
   | zero=>omega
   | succ d =>
    cases hc:sLt l[(i+j) / 2] t with
    | true =>
     have hlt:=(uT _ _).1 hc
     simp only [cond_true]
     refine u7 l t hr hl d ((i+j) / 2+1) j (by omega) ⟨by omega,hlen,λk hk hki => ?_,he.hi⟩
     rcases Nat.lt_or_ge k ((i+j) / 2)with h|h
     ·exact lt_trans (hr k _ hk hm h) hlt
     ·have:k=(i+j) / 2:=by omega
      subst this;exact hlt
    | false =>
     have hlt:=mt (uT _ _).2 (by rw [hc];simp)
     simp only [cond_false]
     refine u7 l t hr hl d i ((i+j) / 2) (by omega) ⟨by omega,by omega,he.lo,λk hk hki => ?_⟩
     rcases Nat.lt_or_ge ((i+j) / 2) k with h|h
     ·exact λhx=>hlt (lt_trans (hr _ k hm hk h) hx)
     ·have:k=(i+j) / 2:=by omega
      subst this;exact hlt
  ·have e1:decide ((i:Int)<(j:Int))=false:=by simp;omega
   have:i=j:=by omega
   subst this
   have hst:aW l t ((i:Int),(i:Int))=some (.brk ((i:Int),(i:Int))):=by simp only [aW,e1,cond_false]
   rw [fA,hst,ob_]
   exact⟨i,rfl,he⟩
theorem bs_eq (l:List ByteArray) (t:ByteArray) (hr:zM l) (hl:l.length<=1000):∃i:Int,dD l t=some (i,memB t l):=by
 obtain ⟨m,h1,h2⟩:=u7 l t hr hl l.length 0 l.length (by omega) ⟨by omega,Nat.le_refl _,λk _ h=>absurd h (Nat.not_lt_zero k),λk hk h=>absurd h (by omega)⟩
 have h3:=iU h1
 refine⟨m,?_⟩
 unfold dD
 have h4:iI ((0:Int),(l.length:Int)) (λs=>aW l t s)=some (Ctl.go ((m:Int),(m:Int))):=h3
 rw [h4,ob_,lT]
 have key:t∈l↔∃h:m<l.length,l[m]=t:=by
  constructor
  ·intro hm
   obtain ⟨k,hk,he⟩:=List.getElem_of_mem hm
   have hk1:¬k<m:=λh=>by have:=h2.lo k hk h;rw [he]at this;exact ow _ this
   have hml:m<l.length:=by omega
   refine⟨hml,?_⟩
   rcases Nat.lt_or_ge m k with h|h
   ·have h5:=hr m k hml hk h
    rw [he]at h5
    exact absurd h5 (h2.hi m hml (Nat.le_refl _))
   ·have:k=m:=by omega
    subst this;exact he
  ·rintro ⟨h,he⟩
   rw [<- he];exact List.getElem_mem _
 by_cases hml:m<l.length
 ·have e1:decide ((m:Int)<(l.length:Int))=true:=by simp;omega
  simp only [e1,cond_true,jP,List.getElem?_eq_getElem hml,ob_,zq]
  have hn:slices_isNaN_string l[m]=some false:=by
   unfold slices_isNaN_string;rw [Gm];simp
  rw [hn]
  by_cases he:l[m]=t
  ·simp only [decide_eq_true he,cond_true,ob_,wU.2 (key.2 ⟨hml,he⟩)]
  ·simp only [decide_eq_false he,cond_false,ob_,D7 (λh=>he (key.1 h).2)]
 ·have e1:decide ((m:Int)<(l.length:Int))=false:=by simp;omega
  simp only [e1,cond_false,ob_]
  rw [D7 (λh=>hml (key.1 h).1)]
namespace I
def lt (a b:Int):Prop:=a<b
theorem ow (a:Int):¬lt a a:=Int.lt_irrefl a
theorem lt_trans {a b c:Int} (h:lt a b) (k:lt b c):lt a c:=Int.lt_trans h k
def sLt (a b:Int):Bool:=decide (a<b)
theorem uT (a b:Int):sLt a b=true↔lt a b:=by simp [sLt,lt]
def memB (v:Int) (l:List Int):Bool:=l.any λx=>decide (v=x)
theorem wU {v:Int} {l:List Int}:memB v l=true↔v∈l:=by simp [memB]
theorem D7 {v:Int} {l:List Int} (h:v∉l):memB v l=false:=by
 cases hb:memB v l with
 | false=>rfl
 | true=>exact absurd (wU.1 hb) h
def zM (l:List Int):Prop:=∀i j (hi:i<l.length) (hj:j<l.length),i<j->lt l[i] l[j]
theorem GK (x y:Int):cmp_Less_int x y=some (sLt x y):=by
 unfold cmp_Less_int cmp_isNaN_int
 have:(x != x)=false:=by simp
 rw [this];rfl
structure Ends (l:List Int) (t:Int) (i j:Nat):Prop where
 le:i<=j
 len:j<=l.length
 lo:∀k (h:k<l.length),k<i->lt l[k] t
 hi:∀k (h:k<l.length),j<=k->¬lt l[k] t
theorem Gl (l:List Int) (t:Int) (i j:Nat) (hij:i<j) (hm:(i+j) / 2<l.length) (hl:j<=1000) :
  bC l t ((i:Int),(j:Int))=some (bif sLt l[(i+j) / 2] t then .go ((((i+j) / 2+1:Nat):Int),(j:Int))else .go ((i:Int),(((i+j) / 2:Nat):Int))):=by
 have e1:decide ((i:Int)<(j:Int))=true:=by simp;omega
 have ew:w64 (((i+j) / 2:Nat):Int)=(((i+j) / 2:Nat):Int):=aP (by omega)
 have ew2:w64 ((((i+j) / 2:Nat):Int)+1)=(((i+j) / 2+1:Nat):Int):=by rw [aP (by omega)];omega
 simp only [bC,e1,cond_true,half i j (by omega),ob_,ew,ew2,jP,List.getElem?_eq_getElem hm,GK]
 cases sLt l[(i+j) / 2] t <;> rfl
theorem u7 (l:List Int) (t:Int) (hr:zM l) (hl:l.length<=1000):∀(d i j:Nat),j-i<=d->Ends l t i j->∃m:Nat,fA (λs=>bC l t s) (d+1) ((i:Int),(j:Int))=some (.go ((m:Int),(m:Int)))/\Ends l t m m
 | d,i,j,hd,he=>by
  have hlen:=he.len
  have hle:=he.le
  by_cases hij:i<j
  ·have hm:(i+j) / 2<l.length:=by omega
   rw [fA,Gl l t i j hij hm (by omega),ob_]
   cases d with
   | zero=>omega
   | succ d =>
    cases hc:sLt l[(i+j) / 2] t with
    | true =>
     have hlt:=(uT _ _).1 hc
     simp only [cond_true]
     refine u7 l t hr hl d ((i+j) / 2+1) j (by omega) ⟨by omega,hlen,λk hk hki => ?_,he.hi⟩
     rcases Nat.lt_or_ge k ((i+j) / 2)with h|h
     ·exact lt_trans (hr k _ hk hm h) hlt
     ·have:k=(i+j) / 2:=by omega
      subst this;exact hlt
    | false =>
     have hlt:=mt (uT _ _).2 (by rw [hc];simp)
     simp only [cond_false]
     refine u7 l t hr hl d i ((i+j) / 2) (by omega) ⟨by omega,by omega,he.lo,λk hk hki => ?_⟩
     rcases Nat.lt_or_ge ((i+j) / 2) k with h|h
     ·exact λhx=>hlt (lt_trans (hr _ k hm hk h) hx)
     ·have:k=(i+j) / 2:=by omega
      subst this;exact hlt
  ·have e1:decide ((i:Int)<(j:Int))=false:=by simp;omega
   have:i=j:=by omega
   subst this
   have hst:bC l t ((i:Int),(i:Int))=some (.brk ((i:Int),(i:Int))):=by simp only [bC,e1,cond_false]
   rw [fA,hst,ob_]
   exact⟨i,rfl,he⟩
theorem bs_eq (l:List Int) (t:Int) (hr:zM l) (hl:l.length<=1000):∃i:Int,fB l t=some (i,memB t l):=by
 obtain ⟨m,h1,h2⟩:=u7 l t hr hl l.length 0 l.length (by omega) ⟨by omega,Nat.le_refl _,λk _ h=>absurd h (Nat.not_lt_zero k),λk hk h=>absurd h (by omega)⟩
 have h3:=iU h1
 refine⟨m,?_⟩
 unfold fB
 have h4:iI ((0:Int),(l.length:Int)) (λs=>bC l t s)=some (Ctl.go ((m:Int),(m:Int))):=h3
 rw [h4,ob_,lT]
 have key:t∈l↔∃h:m<l.length,l[m]=t:=by
  constructor
  ·intro hm
   obtain ⟨k,hk,he⟩:=List.getElem_of_mem hm
   have hk1:¬k<m:=λh=>by have:=h2.lo k hk h;rw [he]at this;exact ow _ this
   have hml:m<l.length:=by omega
   refine⟨hml,?_⟩
   rcases Nat.lt_or_ge m k with h|h
   ·have h5:=hr m k hml hk h
    rw [he]at h5
    exact absurd h5 (h2.hi m hml (Nat.le_refl _))
   ·have:k=m:=by omega
    subst this;exact he
  ·rintro ⟨h,he⟩
   rw [<- he];exact List.getElem_mem _
 by_cases hml:m<l.length
 ·have e1:decide ((m:Int)<(l.length:Int))=true:=by simp;omega
  simp only [e1,cond_true,jP,List.getElem?_eq_getElem hml,ob_,Bool.beq_eq_decide_eq]
  have hn:jA l[m]=some false:=by
   unfold jA;simp
  rw [hn]
  by_cases he:l[m]=t
  ·simp only [decide_eq_true he,cond_true,ob_,wU.2 (key.2 ⟨hml,he⟩)]
  ·simp only [decide_eq_false he,cond_false,ob_,D7 (λh=>he (key.1 h).2)]
 ·have e1:decide ((m:Int)<(l.length:Int))=false:=by simp;omega
  simp only [e1,cond_false,ob_]
  rw [D7 (λh=>hml (key.1 h).1)]
theorem tN (l:List Int) (v:Int):∀(xs:List Int) (k:Nat),∃o,eP (λk x s=>fG v k x s) xs k ()=some o/\∃r:Int,bv o (λ_=>some (-1)) (λr=>some r)=some r/\decide (r>=0)=memB v xs
 | [],k=>⟨.go (),rfl,-1,rfl,by simp [memB]⟩
 | x::xs,k=>by
  have hst:fG v k x ()=some (bif decide (v=x)then .ret (k:Int)else .go ()):=by
   simp only [fG,Bool.beq_eq_decide_eq];cases decide (v=x) <;> rfl
  rw [eP,hst,ob_]
  cases hd:decide (v=x)with
  | true=>exact⟨_,rfl,_,rfl,by simp [memB,hd]⟩
  | false =>
   simp only [cond_false]
   obtain ⟨o,h1,r,h2,h3⟩:=tN l v xs (k+1)
   exact⟨o,h1,r,h2,by rw [h3];simp [memB,hd]⟩
theorem contains_eq (l:List Int) (v:Int) (hl:l.length<=1000000):gQ l v=some (memB v l):=by
 obtain ⟨o,h1,r,h2,h3⟩:=tN l v l 0
 unfold gQ jR
 rw [fe (by omega),h1,ob_,h2,ob_,h3]
theorem uf:∀(l:List Int) (p:Option Int),IV xY p l=0->zM l/\∀x∈l,∀y,p=some y->lt y x
 | [],p,h=>⟨λi j hi=>absurd hi (Nat.not_lt_zero i),by simp⟩
 | x::xs,p,h=>by
  rw [IV]at h
  cases he:xY p x==0 with
  | false=>rw [he]at h;simp only [cond_false]at h;rw [h]at he;cases he
  | true =>
   rw [he]at h
   simp only [cond_true]at h
   obtain ⟨h1,h2⟩:=uf xs (some x) h
   have hx:∀y,p=some y->lt y x:=λy hy=>by
    subst hy
    unfold xY at he
    cases hk:jd x 0 4000 with
    | true=>rw [hk]at he;cases he
    | false =>
     cases hl:leP (some y) x with
     | true=>rw [hk,hl]at he;cases he
     | false =>
      simp only [leP,decide_eq_false_iff_not]at hl
      show y<x
      omega
   refine⟨λi j hi hj hij => ?_,λy hy z hz => ?_⟩
   ·cases i with
    | zero=>cases j with
     | zero=>omega
     | succ j=>exact h2 _ (List.getElem_mem _) x rfl
    | succ i=>cases j with
     | zero=>omega
     | succ j=>exact h1 i j (by simpa using hi) (by simpa using hj) (by omega)
   ·rcases List.mem_cons.1 hy with rfl|hy
    ·exact hx z hz
    ·exact lt_trans (hx z hz) (h2 y hy x rfl)
theorem exF_0 {l:List Int} (h:exF l=0):l.length<=100/\zM l:=by
 unfold exF at h
 by_cases hl:l.length>100
 ·rw [decide_eq_true hl]at h;cases h
 ·rw [decide_eq_false hl]at h
  exact⟨by omega,(uf l none h).1⟩
end I
def pX (e:Entry) (p:Player):Bool := !(e.Tags.any λt => !memB t p.Tags)
theorem fitR (e:Entry) (p:Player) (h1:e.Tags.length<=1000) (h2:p.Tags.length<=1000):o6 e p=some (pX e p):=by
 unfold o6 pX
 rw [GZ e.Tags (λx0=>oC x0 p) (λt => !memB t p.Tags) (λx _=>by simp only [oC,contains_eq _ _ (show p.Tags.length<=1000000 by omega),ob_]) (by omega)]
 rfl
theorem fitK (e:Entry) (p:Player) (h1:e.Tags.length<=1000) (h2:tagsF p.Tags=0):nu e p=some (pX e p):=by
 obtain ⟨hl,hr⟩:=Lc h2
 have run:∀(xs:List ByteArray) (k:Nat),eP (λk x u=>jy p k x u) xs k ()=some (bif xs.any (λt => !memB t p.Tags)then .ret false else .go ()):=by
  intro xs
  induction xs with
  | nil=>exact λk=>rfl
  | cons x xs ih =>
   intro k
   obtain ⟨i,hi⟩:=bs_eq p.Tags x hr (by omega)
   have hst:jy p k x ()=some (bif !memB x p.Tags then .ret false else .go ()):=by
    simp only [jy,hi,ob_];cases memB x p.Tags <;> rfl
   rw [eP,hst,ob_]
   cases hm:memB x p.Tags with
   | true=>simp only [Bool.not_true,cond_false,List.any_cons,hm,Bool.false_or];exact ih (k+1)
   | false=>simp [hm]
 unfold nu pX
 rw [fe (by omega),run e.Tags 0,ob_]
 cases e.Tags.any (λt => !memB t p.Tags) <;> rfl
def collect (p:Int->Bool) (f:Int->Window):Nat->Int->List Window
 | 0,_=>[]
 | n+1,d=>(bif p d then [f d]else [])++collect p f n (d+1)
theorem sj (p:Int->Bool) (f:Int->Window):∀(n:Nat) (d:Int),(collect p f n d).length<=n
 | 0,_=>Nat.le_refl 0
 | n+1,d=>by
  have:=sj p f n (d+1)
  simp only [collect,List.length_append]
  cases p d <;> simp <;> omega
theorem kH {p:Int->Bool} {f:Int->Window}:∀(n:Nat) (d:Int),(∀x,d<=x->x<d+n->p x=false)->collect p f n d=[]
 | 0,_,_=>rfl
 | n+1,d,h=>by
  simp only [collect,h d (by omega) (by omega),cond_false,List.nil_append]
  exact kH n (d+1) (λx h1 h2=>h x (by omega) (by omega))
theorem sM {p p':Int->Bool} {f f':Int->Window}:∀(n:Nat) (d:Int),(∀x,d<=x->x<d+n->p x=p' x/\f x=f' x)->collect p f n d=collect p' f' n d
 | 0,_,_=>rfl
 | n+1,d,h=>by
  obtain ⟨h1,h2⟩:=h d (by omega) (by omega)
  simp only [collect,h1,h2]
  rw [sM n (d+1) (λx h1 h2=>h x (by omega) (by omega))]
theorem sK (p:Int->Bool) (f:Int->Window):∀(n m:Nat) (d:Int),collect p f (n+m) d=collect p f n d++collect p f m (d+n)
 | 0,m,d=>by simp [collect]
 | n+1,m,d=>by
  rw [show n+1+m=(n+m)+1 by omega]
  simp only [collect,List.append_assoc]
  rw [sK p f n m (d+1),show d+1+(n:Int)=d+((n+1:Nat):Int) by omega]
theorem Bn (p:Int->Bool) (f:Int->Window) (g:Window->Window):∀(n:Nat) (d:Int),(collect p f n d).map g=collect p (λx=>g (f x)) n d
 | 0,_=>rfl
 | n+1,d=>by
  simp only [collect,List.map_append,Bn p f g n (d+1)]
  cases p d <;> rfl
theorem Bz (p:Int->Bool) (f:Int->Window) (a b lo hi:Int) (h1:a<=lo) (h2:hi<=b) (h:∀x,a<=x->x<=b->p x=true->lo<=x/\x<=hi) :
  collect p f (b+1-a).toNat a=collect p f (hi+1-lo).toNat lo:=by
 by_cases hh:lo<=hi
 ·have e:(b+1-a).toNat=(lo-a).toNat+((hi+1-lo).toNat+(b-hi).toNat):=by omega
  rw [e,sK,sK,show a+((lo-a).toNat:Int)=lo by omega,kH (lo-a).toNat a (λx x1 x2 => ?_),kH (b-hi).toNat _ (λx x1 x2 => ?_),List.nil_append,List.append_nil]
  ·cases hp:p x with
   | false=>rfl
   | true=>have:=h x (by omega) (by omega) hp;omega
  ·cases hp:p x with
   | false=>rfl
   | true=>have:=h x (by omega) (by omega) hp;omega
 ·rw [show (hi+1-lo).toNat=0 by omega,kH (b+1-a).toNat a (λx x1 x2 => ?_)]
  ·rfl
  ·cases hp:p x with
   | false=>rfl
   | true=>have:=h x (by omega) (by omega) hp;omega
theorem EE {ρ:Type} {body:List Window×Int->Option (Ctl (List Window×Int) ρ)} {p:Int->Bool} {f:Int->Window} (lo hi:Int)
  (hb:∀(acc:List Window) d,lo<=d->d<=hi->acc.length<=1000000->body (acc,d)=some (.go (acc++(bif p d then [f d]else []),d+1))) (he:∀acc d,hi<d->body (acc,d)=some (.brk (acc,d))) :
  ∀(n:Nat) (acc:List Window) (d:Int),lo<=d->(hi+1-d).toNat=n->acc.length+n<=1000000->∃d',fA body (n+1) (acc,d)=some (.go (acc++collect p f n d,d'))
 | 0,acc,d,hlo,hn,hl=>by
  rw [fA,he acc d (by omega),ob_]
  exact⟨d,by simp [collect]⟩
 | n+1,acc,d,hlo,hn,hl=>by
  rw [fA,hb acc d hlo (by omega) (by omega),ob_]
  have hle:(bif p d then [f d]else []).length<=1:=by cases p d <;> simp
  obtain ⟨d',h⟩:=EE lo hi hb he n (acc++(bif p d then [f d]else [])) (d+1) (by omega) (by omega) (by rw [List.length_append];omega)
  refine⟨d',?_⟩
  simp only [h,collect,List.append_assoc]
theorem Au {ρ:Type} {body:List Window×Int->Option (Ctl (List Window×Int) ρ)} {p:Int->Bool} {f:Int->Window} (lo hi:Int) (hl:hi-lo<=100000)
  (hb:∀(acc:List Window) d,lo<=d->d<=hi->acc.length<=1000000->body (acc,d)=some (.go (acc++(bif p d then [f d]else []),d+1))) (he:∀acc d,hi<d->body (acc,d)=some (.brk (acc,d))) :
  ∃d',iI ([],lo) body=some (.go (collect p f (hi+1-lo).toNat lo,d')):=by
 obtain ⟨d',h⟩:=EE lo hi hb he (hi+1-lo).toNat [] lo (Int.le_refl _) rfl (by simp;omega)
 exact⟨d',by have:=iU h;simpa using this⟩
def bitB (a r:Int):Bool:=match zD .i64 a r with
 | some y=>xK .i64 y 1==1
 | none=>false
def M6 (a r:Nat):Bool:=match LA .i64 1 (r:Int),zD .i64 (a:Int) (r:Int)with
 | some x,some y=>(xK .i64 (a:Int) x==0) == !(xK .i64 y 1==1)
 | _,_=>false
theorem MH:∀a:Fin 128,∀r:Fin 7,M6 a.val r.val=true:=by decide +kernel
theorem bits (a r:Int) (ha:0<=a/\a<=127) (hr:0<=r/\r<7):∃x y,LA .i64 1 r=some x/\zD .i64 a r=some y/\(xK .i64 a x==0) = !(xK .i64 y 1==1)/\bitB a r=(xK .i64 y 1==1):=by
 have h:=MH ⟨a.toNat,by omega⟩ ⟨r.toNat,by omega⟩
 simp only [M6,show ((a.toNat:Nat):Int)=a by omega,show ((r.toNat:Nat):Int)=r by omega]at h
 unfold bitB
 cases h1:LA .i64 1 r with
 | none=>rw [h1]at h;cases h
 | some x =>
  cases h2:zD .i64 a r with
  | none=>rw [h1,h2]at h;cases h
  | some y =>
   rw [h1,h2]at h
   exact⟨x,y,rfl,rfl,eq_of_beq h,rfl⟩
def xM (e:Entry) (d:Int):Bool:=((d-e.First).tmod e.Every==0)&&(bitB e.Days (d.tmod 7) && !I.memB d e.Except)
structure Right (e:Entry):Prop where
 first:0<=e.First/\e.First<=e.Last
 last:e.Last<=4000
 every:1<=e.Every
 days:1<=e.Days/\e.Days<=127
 ex:exF e.Except=0
 from_:0<=e.From/\e.From<=1439
 to_:0<=e.To/\e.To<=1439
theorem vT {n lo hi:Int} (h:jd n lo hi=false):lo<=n/\n<=hi:=by
 simp only [jd,Bool.or_eq_false_iff,decide_eq_false_iff_not]at h;omega
theorem KW {n lo hi:Int} (h:lo<=n/\n<=hi):jd n lo hi=false:=by
 simp only [jd,Bool.or_eq_false_iff,decide_eq_false_iff_not];omega
theorem Nk {e:Entry} (h:nY e=0):Right e:=by
 unfold nY at h
 cases hk:(!nS e.Key || !nS e.Item)with
 | true=>rw [hk]at h;cases h
 | false =>
 rw [hk,cond_false]at h
 cases hb:(jd e.Version 0 1000000||(jd e.First 0 e.Last||(decide (e.Last>4000)||(jd e.Every 1 400||jd e.Days 1 127))))with
 | true=>rw [hb]at h;cases h
 | false =>
 rw [hb,cond_false]at h
 simp only [Bool.or_eq_false_iff,decide_eq_false_iff_not]at hb
 cases hx:exF e.Except==0 with
 | false=>rw [hx,cond_false]at h;rw [h]at hx;cases hx
 | true =>
 rw [hx,cond_true]at h
 cases hc:(jd e.From 0 1439||(jd e.To 0 1439||jd e.Prio 0 9))with
 | true=>rw [hc]at h;cases h
 | false =>
 simp only [Bool.or_eq_false_iff]at hc
 exact⟨vT hb.2.1,by omega,(vT hb.2.2.2.1).1,vT hb.2.2.2.2,eq_of_beq hx,vT hc.1,vT hc.2.1⟩
theorem dayK (e:Entry) (h:Right e) (d:Int) (h1:e.First<=d) (h2:d<=e.Last):lQ e d=some (xM e d):=by
 have hl:=h.last
 have hf:=h.first
 have hd:=h.days
 obtain ⟨x,y,b1,b2,b3,b4⟩:=bits e.Days (d.tmod 7) (by omega) ⟨Int.tmod_nonneg _ (by omega),Int.tmod_lt_of_pos _ (by decide)⟩
 obtain ⟨hx1,hx2⟩:=I.exF_0 h.ex
 obtain ⟨i,hi⟩:=I.bs_eq e.Except d hx2 (by omega)
 have he0:e.Every≠0:=by have:=h.every;omega
 unfold lQ xM
 simp only [rF,KW ⟨h1,h2⟩,ob_,cond_false,aP (show -9223372036854775808<=d-e.First/\d-e.First<=9223372036854775807 by omega),BM,if_neg he0,b1,b3,b4,hi]
 cases hq:(d-e.First).tmod e.Every==0 with
 | false =>
  have:((d-e.First).tmod e.Every != 0)=true:=by simp [bne,hq]
  simp only [this,cond_true,ob_,Bool.false_and]
 | true =>
  have:((d-e.First).tmod e.Every != 0)=false:=by simp [bne,hq]
  simp only [this,cond_false,ob_,Bool.true_and]
  cases (xK .i64 y 1==1) <;> simp
theorem dayR (e:Entry) (h:Right e) (d:Int) (h1:e.First<=d) (h2:d<=e.Last):mJ e d=some (xM e d):=by
 have hl:=h.last
 have hf:=h.first
 have hd:=h.days
 obtain ⟨x,y,b1,b2,b3,b4⟩:=bits e.Days (d.tmod 7) (by omega) ⟨Int.tmod_nonneg _ (by omega),Int.tmod_lt_of_pos _ (by decide)⟩
 obtain ⟨hx1,hx2⟩:=I.exF_0 h.ex
 have he0:e.Every≠0:=by have:=h.every;omega
 unfold mJ xM
 simp only [I1,KW ⟨h1,h2⟩,ob_,Bool.not_false,cond_true,aP (show -9223372036854775808<=d-e.First/\d-e.First<=9223372036854775807 by omega),BM,if_neg he0,b2,b4,I.contains_eq e.Except d (by omega)]
 cases hq:(d-e.First).tmod e.Every==0 with
 | false=>simp only [cond_false,ob_,Bool.false_and]
 | true =>
  simp only [cond_true,ob_,Bool.true_and]
  cases (xK .i64 y 1==1) <;> simp
def tF (e:Entry) (z d:Int):Int:=(d*1440+e.From-z)*60000
def o7 (e:Entry):Int:=if e.To-e.From<=0 then e.To-e.From+1440 else e.To-e.From
def tW (e:Entry) (z d:Int):Window:=⟨tF e z d,tF e z d+o7 e*60000⟩
theorem timeK (e:Entry) (h:Right e) (z d:Int) (hz : -1440<=z/\z<=1440) (hd:0<=d/\d<=4000):kZ e z d=some (tW e z d):=by
 have h1:=h.from_
 have h2:=h.to_
 unfold kZ tW tF o7
 rw [aP (n:=e.To-e.From) (by omega)]
 by_cases hc:e.To-e.From<=0
 ·simp only [decide_eq_true hc,cond_true,ob_,if_pos hc]
  rw [aP (n:=e.To-e.From+1440) (by omega),aP (n:=d*1440) (by omega),aP (n:=d*1440+e.From) (by omega),aP (n:=d*1440+e.From-z) (by omega),aP (n:=(d*1440+e.From-z)*60000) (by omega),aP (n:=(e.To-e.From+1440)*60000) (by omega),aP (by omega)]
 ·simp only [decide_eq_false hc,cond_false,ob_,if_neg hc]
  rw [aP (n:=d*1440) (by omega),aP (n:=d*1440+e.From) (by omega),aP (n:=d*1440+e.From-z) (by omega),aP (n:=(d*1440+e.From-z)*60000) (by omega),aP (n:=(e.To-e.From)*60000) (by omega),aP (by omega)]
theorem timeR (e:Entry) (h:Right e) (z d:Int) (hz : -1440<=z/\z<=1440) (hd:0<=d/\d<=4000):mo e z d=some (tW e z d):=by
 have h1:=h.from_
 have h2:=h.to_
 unfold mo tW tF o7
 by_cases hc:e.To<=e.From
 ·simp only [decide_eq_true hc,cond_true,ob_,if_pos (show e.To-e.From<=0 by omega)]
  rw [aP (n:=e.To+1440) (by omega),aP (n:=d*86400000) (by omega),aP (n:=z*60000) (by omega),aP (n:=d*86400000-z*60000) (by omega),aP (n:=e.From*60000) (by omega),aP (n:=(e.To+1440)*60000) (by omega),aP (by omega),aP (by omega)]
  congr 2 <;> omega
 ·simp only [decide_eq_false hc,cond_false,ob_,if_neg (show ¬e.To-e.From<=0 by omega)]
  rw [aP (n:=d*86400000) (by omega),aP (n:=z*60000) (by omega),aP (n:=d*86400000-z*60000) (by omega),aP (n:=e.From*60000) (by omega),aP (n:=e.To*60000) (by omega),aP (by omega),aP (by omega)]
  congr 2 <;> omega
def cutW (w t:Window):Window:=⟨j5 t.From w.From,kG t.To w.To⟩
def pR (e:Entry) (z:Int) (w:Window) (d:Int):Bool := !e.Gone&&(xM e d&&decide (j5 (tF e z d) w.From<kG (tF e z d+o7 e*60000) w.To))
def pK (e:Entry) (z:Int) (w:Window) (d:Int):Bool:=xM e d&&(decide (tF e z d<w.To)&&decide (tF e z d+o7 e*60000>w.From))
def wants (e:Entry) (z:Int) (w:Window):List Window:=collect (pR e z w) (λd=>cutW w (tW e z d)) (e.Last+1-e.First).toNat e.First
theorem Nq (e:Entry) (h:Right e) (z:Int) (w:Window) (hz : -1440<=z/\z<=1440):nO e z w=some (wants e z w):=by
 have hf:=h.first
 have hl:=h.last
 obtain ⟨d',hd⟩:=Au (ρ:=Unit) (body:=λs=>j6 e z w s) (p:=pR e z w) (f:=λd=>cutW w (tW e z d)) e.First e.Last (by omega) (λacc d h1 h2 h3=>by
   have hc:decide (d<=e.Last)=true:=decide_eq_true h2
   simp only [j6,hc,cond_true,timeR e h z d hz (by omega),ob_,dayR e h d h1 h2,aP (n:=d+1) (by omega),pR,tW]
   cases e.Gone with
   | true=>simp
   | false =>
    simp only [Bool.not_false,cond_true,ob_,Bool.true_and]
    cases xM e d with
    | false=>simp
    | true =>
     simp only [cond_true,ob_,Bool.true_and]
     cases decide (j5 (tF e z d) w.From<kG (tF e z d+o7 e*60000) w.To)with
     | false=>simp
     | true=>simp only [cond_true,jS acc [_] (show acc.length+1<=_ by omega),ob_];rfl)
  (λacc d h1=>by
   have hc:decide (d<=e.Last)=false:=decide_eq_false (by omega)
   simp only [j6,hc,cond_false])
 unfold nO wants
 rw [hd,ob_,lT]
theorem Ip (x q:Int) (h:x.tdiv 86400000=q):(0<=x->q*86400000<=x/\x<q*86400000+86400000)/\(x<0->x<=q*86400000/\q*86400000-86400000<x):=by
 have h1:=Int.mul_tdiv_add_tmod x 86400000
 rw [h]at h1
 refine⟨λhx => ?_,λhx => ?_⟩
 ·have h2:=Int.tmod_nonneg 86400000 hx
  have h3:=Int.tmod_lt_of_pos x (show (0:Int)<86400000 by decide)
  omega
 ·have h3:=Int.lt_tmod_of_pos x (show (0:Int)<86400000 by decide)
  have h4:x.tmod 86400000<=0:=by
   have h5:=Int.tmod_nonneg 86400000 (show (0:Int) <= -x by omega)
   rw [Int.neg_tmod]at h5
   omega
  omega
def zl (w:Window):Prop:=0<=w.From/\w.From<=w.To/\w.To<=345686400000
theorem D5 (e:Entry) (h:Right e):1<=o7 e/\o7 e<=1440:=by
 have h1:=h.from_
 have h2:=h.to_
 unfold o7
 split <;> omega
theorem timesK (e:Entry) (h:Right e) (z:Int) (w:Window) (hz : -1440<=z/\z<=1440) (hw:zl w):∃l,gK e z w=some l/\l.length<=100000/\l.map (cutW w)=wants e z w:=by
 obtain ⟨w1,w2,w3⟩:=hw
 have hf:=h.first
 have hl:=h.last
 have hm:=D5 e h
 have hfr:=h.from_
 unfold gK
 cases hg:e.Gone with
 | true =>
  simp only [cond_true,ob_]
  refine⟨[],rfl,by simp,?_⟩
  unfold wants
  rw [kH _ _ (λx _ _=>by simp only [pR,hg,Bool.not_true,Bool.false_and])];rfl
 | false =>
 simp only [cond_false,ob_]
 by_cases hlt:w.From>=w.To
 ·simp only [decide_eq_true hlt,cond_true]
  refine⟨[],rfl,by simp,?_⟩
  unfold wants
  rw [kH _ _ (λx _ _=>by
   have:decide (j5 (tF e z x) w.From<kG (tF e z x+o7 e*60000) w.To)=false:=decide_eq_false (by unfold j5 kG;split <;> split <;> omega)
   simp only [pR,this,Bool.and_false])];rfl
 ·simp only [decide_eq_false hlt,cond_false]
  rw [aP (n:=z*60000) (by omega),aP (n:=w.From+z*60000) (by omega)]
  obtain ⟨a,ha⟩:∃a,(w.From+z*60000).tdiv 86400000=a:=⟨_,rfl⟩
  obtain ⟨b,hb⟩:∃b,(w.To+z*60000).tdiv 86400000=b:=⟨_,rfl⟩
  have ha2:=Ip _ _ ha
  have hb2:=Ip _ _ hb
  rw [ha,aP (n:=a) (by omega),aP (n:=a-2) (by omega)]
  obtain ⟨lo,hlo⟩:∃lo,j5 (a-2) e.First=lo:=⟨_,rfl⟩
  obtain ⟨hi,hhi⟩:∃hi,kG (b+1) e.Last=hi:=⟨_,rfl⟩
  have hlo2:e.First<=lo/\a-2<=lo/\(lo=e.First\/lo=a-2):=by unfold j5 at hlo;split at hlo <;> omega
  have hhi2:hi<=e.Last/\hi<=b+1/\(hi=e.Last\/hi=b+1):=by unfold kG at hhi;split at hhi <;> omega
  have hend:∀d,decide (d<=kG (w64 (w64 ((w64 (w.To+w64 (z*60000))).tdiv 86400000)+1)) e.Last)=decide (d<=hi):=λd=>by
   rw [aP (n:=z*60000) (by omega),aP (n:=w.To+z*60000) (by omega),hb,aP (n:=b) (by omega),aP (n:=b+1) (by omega),hhi]
  rw [hlo]
  obtain ⟨d',hd⟩:=Au (ρ:=Unit) (body:=λs=>dL w z e s) (p:=pK e z w) (f:=tW e z) lo hi (by omega) (λacc d h1 h2 h3=>by
    have hc:decide (d<=hi)=true:=decide_eq_true h2
    simp only [dL,hend,hc,cond_true,timeK e h z d hz (by omega),ob_,dayK e h d (by omega) (by omega),aP (n:=d+1) (by omega),pK]
    cases xM e d with
    | false=>simp
    | true =>
     simp only [Bool.not_true,cond_false,ob_,Bool.true_and]
     by_cases hA:tF e z d<w.To
     ·have hA1:decide (tF e z d<w.To)=true:=decide_eq_true hA
      have hA2:decide ((tW e z d).From<w.To)=true:=decide_eq_true hA
      by_cases hB:tF e z d+o7 e*60000>w.From
      ·have hB1:decide (tF e z d+o7 e*60000>w.From)=true:=decide_eq_true hB
       have hB2:decide ((tW e z d).To>w.From)=true:=decide_eq_true hB
       simp only [hA1,hA2,hB1,hB2,cond_true,Bool.and_self,ob_,jS acc [tW e z d] (show acc.length+1<=_ by omega)]
      ·have hB1:decide (tF e z d+o7 e*60000>w.From)=false:=decide_eq_false hB
       have hB2:decide ((tW e z d).To>w.From)=false:=decide_eq_false hB
       simp only [hA1,hA2,hB1,hB2,cond_true,cond_false,Bool.and_false,ob_,List.append_nil]
     ·have hA1:decide (tF e z d<w.To)=false:=decide_eq_false hA
      have hA2:decide ((tW e z d).From<w.To)=false:=decide_eq_false hA
      simp only [hA1,hA2,cond_false,Bool.false_and,ob_,List.append_nil])
   (λacc d h1=>by
    have hc:decide (d<=hi)=false:=decide_eq_false (by omega)
    simp only [dL,hend,hc,cond_false])
  refine⟨collect (pK e z w) (tW e z) (hi+1-lo).toNat lo,by rw [hd,ob_,lT],?_,?_⟩
  ·have:=sj (pK e z w) (tW e z) (hi+1-lo).toNat lo
   omega
  ·rw [Bn]
   unfold wants
   rw [Bz (pR e z w) _ e.First e.Last lo hi (by omega) (by omega) (λx x1 x2 hp => ?_)]
   ·refine sM _ _ (λx x1 x2=>⟨?_,rfl⟩)
    simp only [pK,pR,hg,Bool.not_false,Bool.true_and]
    congr 1
    rw [Bool.eq_iff_iff,Bool.and_eq_true,decide_eq_true_eq,decide_eq_true_eq,decide_eq_true_eq]
    unfold j5 kG
    split <;> split <;> omega
   ·simp only [pR,hg,Bool.not_false,Bool.true_and,Bool.and_eq_true,decide_eq_true_eq]at hp
    have hp2:=hp.2
    unfold tF at hp2
    unfold j5 kG at hp2
    split at hp2 <;> split at hp2 <;> omega
theorem M0 (w:Window) (r:List Window) (hr:r.length<=1000000):je (List.range ((r.length:Int)).toNat) r (λk x s=>jk w k x s)=some (.go (r.map (cutW w))):=by
 obtain ⟨s',h1,h2,h3⟩:=C8 (ρ:=Unit) (body:=λk x s=>jk w k x s) (λk s=>s.length=r.length/\∀i,s[i]? = if i<k then (r.map (cutW w))[i]? else r[i]?) (xs:=List.range ((r.length:Int)).toNat) (s:=r) (by simp;omega) (λk x s hx hk ⟨i1,i2⟩=>by
   simp only [List.length_range,Int.toNat_natCast]at hk
   have hg:r[k]? = some r[k]:=List.getElem?_eq_getElem hk
   have hs:s[0+((k:Int)).toNat]? = some r[k]:=by
    rw [show 0+((k:Int)).toNat=k by omega,i2 k,if_neg (by omega),hg]
   have hin:inR (k:Int) s=some ():=yh (by omega) (by omega)
   simp only [jk,hin,hs,oK,ob_]
   refine⟨_,rfl,by simpa using i1,λi => ?_⟩
   rw [show 0+((k:Int)).toNat=k by omega,List.getElem?_set]
   by_cases hik:k=i
   ·subst hik
    rw [if_pos rfl,if_pos (by omega),if_pos (by omega),List.getElem?_map,hg];rfl
   ·rw [if_neg hik,i2 i]
    by_cases h5:i<k
    ·rw [if_pos h5,if_pos (by omega)]
    ·rw [if_neg h5,if_neg (by omega)]) ⟨rfl,λi=>by simp⟩
 rw [h1]
 congr 2
 refine List.ext_getElem? (λi => ?_)
 rw [h3 i]
 simp only [List.length_range,Int.toNat_natCast]
 split
 ·rfl
 ·rw [List.getElem?_eq_none (by omega),List.getElem?_eq_none (by simp;omega)]
def zF (z:Int):Int:=bif jd z (-1440) 1440 then 1 else 0
theorem Oa {w:Window} (h:qC w=0):zl w:=by
 unfold qC at h
 cases hb:(jd w.From 0 w.To||decide (w.To>345686400000))with
 | true=>rw [hb]at h;cases h
 | false =>
  simp only [Bool.or_eq_false_iff,decide_eq_false_iff_not]at hb
  have:=vT hb.1
  exact⟨by omega,by omega,by omega⟩
theorem or0_0 {a b:Int} (h:or0 a b=0):a=0/\b=0:=by
 unfold or0 at h
 cases ha:a==0 with
 | true=>rw [ha]at h;exact⟨eq_of_beq ha,h⟩
 | false=>rw [ha,cond_false]at h;rw [h]at ha;cases ha
theorem MI (e:Entry) (z:Int) (w:Window) (he:sH e):lY e z w=some (bif or0 (nY e) (or0 (zF z) (qC w))==0 then (wants e z w,0)else ([],or0 (nY e) (or0 (zF z) (qC w)))):=by
 unfold lY
 rw [oneK e he,ob_,rF,winK]
 cases h:nY e==0 with
 | false =>
  have:(nY e != 0)=true:=by simp [bne,h]
  have h2:or0 (nY e) (or0 (zF z) (qC w))=nY e:=by unfold or0;rw [h,cond_false]
  simp only [this,cond_true,h2,h,cond_false]
 | true =>
  have:(nY e != 0)=false:=by simp [bne,h]
  have h2:or0 (nY e) (or0 (zF z) (qC w))=or0 (zF z) (qC w):=by unfold or0;rw [h,cond_true]
  simp only [this,cond_false,h2,ob_]
  cases hz:jd z (-1440) 1440 with
  | true =>
   have h3:or0 (zF z) (qC w)=1:=by unfold or0 zF;rw [hz];rfl
   rw [h3];rfl
  | false =>
   have h3:or0 (zF z) (qC w)=qC w:=by unfold or0 zF;rw [hz];rfl
   simp only [h3,cond_false]
   cases hw:qC w==0 with
   | false =>
    have:(qC w != 0)=true:=by simp [bne,hw]
    simp only [this,cond_true,cond_false]
   | true =>
    have:(qC w != 0)=false:=by simp [bne,hw]
    simp only [this,cond_true,cond_false]
    obtain ⟨l,k1,k2,k3⟩:=timesK e (Nk (eq_of_beq h)) z w (vT hz) (Oa (eq_of_beq hw))
    rw [k1,ob_,M0 w l (by omega),ob_,lT,k3]
theorem H7:qF=some true:=by
 unfold qF
 rw [MI _ _ _ ⟨fF rfl,fF rfl,by simp,by simp,by simp⟩]
 decide +kernel
theorem Kr {α σ ρ:Type} {body:Nat->α->σ->Option (Ctl σ ρ)} (I:Nat->σ->Prop) (xs:List α):∀(l:List α) (k:Nat) (s:σ),xs.drop k=l->k<=xs.length->(∀k x s,xs[k]? = some x->I k s->∃s',body k x s=some (.go s')/\I (k+1) s')->I k s->∃s',eP body l k s=some (.go s')/\I xs.length s'
 | [],k,s,hd,hk,h,hi=>by
  have:=List.drop_eq_nil_iff.1 hd
  obtain rfl:k=xs.length:=by omega
  exact⟨s,rfl,hi⟩
 | x::l,k,s,hd,hk,h,hi=>by
  obtain ⟨s1,h1,h2⟩:=h k x s (CV hd) hi
  obtain ⟨s2,h3,h4⟩:=Kr I xs l (k+1) s1 (aR hd) (by have:=Co hd;omega) h h2
  exact⟨s2,by rw [eP,h1,ob_];exact h3,h4⟩
theorem og {α σ ρ:Type} {body:Nat->α->σ->Option (Ctl σ ρ)} (I:Nat->σ->Prop) {xs:List α} {s:σ} (hl:xs.length<=1000000000000) (h:∀k x s,xs[k]? = some x->I k s->∃s',body k x s=some (.go s')/\I (k+1) s') (h0:I 0 s):∃s',je xs s body=some (.go s')/\I xs.length s':=by
 rw [fe hl]
 exact Kr I xs xs 0 s rfl (Nat.zero_le _) h h0
end Go.Proofs.YthcdokkcamcnmaaGreatDoor.Law

