/-
  THE PLAIN LAW (part 1).
-/
import Derived.Test.YtljhfffghjclfaaGreatDoorEng5
import Derived.Test.YtljhfffghjclfaaGreatDoorDefs
import Derived.Lib.ItoaLen
namespace Go.Eng
set_option linter.unusedVariables false
set_option linter.unusedSimpArgs false
theorem fQ {α σ ρ:Type} {body:Nat->α->σ->Option (Ctl σ ρ)} {xs:List α} {s:σ} (hl:xs.length<=1000000000000):forL xs s body=forR body xs 0 s:=by unfold forL;rw [if_pos hl]
theorem GH {α σ ρ:Type} {body:Nat->α->σ->Option (Ctl σ ρ)} (I:Nat->σ->Prop) (N:Nat):∀(xs:List α) (k:Nat) (s:σ),k+xs.length=N->(∀k x s,x∈xs->k<N->I k s->∃s',body k x s=some (.go s')/\I (k+1) s')->I k s->∃s',forR body xs k s=some (.go s')/\I N s'
 | [],k,s,hN,h,hi=>⟨s,rfl,by simp only [List.length_nil,Nat.add_zero]at hN;rw [<- hN];exact hi⟩
 | x::xs,k,s,hN,h,hi=>by
  simp only [List.length_cons]at hN
  obtain ⟨s1,h1,h2⟩:=h k x s (by simp) (by omega) hi
  obtain ⟨s2,h3,h4⟩:=GH I N xs (k+1) s1 (by omega) (λk x s hx=>h k x s (by simp [hx])) h2
  exact⟨s2,by simp only [forR,h1,ob_];exact h3,h4⟩
theorem Bz {α σ ρ:Type} {body:Nat->α->σ->Option (Ctl σ ρ)} (I:Nat->σ->Prop) {xs:List α} {s:σ} (hl:xs.length<=1000000000000) (h:∀k x s,x∈xs->k<xs.length->I k s->∃s',body k x s=some (.go s')/\I (k+1) s') (h0:I 0 s):∃s',forL xs s body=some (.go s')/\I xs.length s':=by
 obtain ⟨s',h1,h2⟩:=GH I xs.length xs 0 s (by omega) h h0
 exact⟨s',by rw [fQ hl];exact h1,h2⟩
theorem pq {σ ρ τ:Type} (s:σ) (f:σ->Option τ) (g:ρ->Option τ):thenC (.go s) f g=f s:=rfl
theorem Kl {σ ρ τ:Type} (r:ρ) (f:σ->Option τ) (g:ρ->Option τ):thenC (.ret r) f g=g r:=rfl
theorem Et {α:Type} (xs:List α) (k:Nat):idx xs (k:Int)=xs[k]? := by simp [idx]
theorem eT {n:Int} (h : -9223372036854775808<=n/\n<=9223372036854775807):w64 n=n:=AB n h
theorem toL (s:ByteArray):s.toList=s.data.toList:=Go.Lib.toList_data s
theorem xB {a b:ByteArray} (h:a.toList=b.toList):a=b:=by
 rw [toL,toL]at h
 obtain ⟨⟨a⟩⟩:=a
 obtain ⟨⟨b⟩⟩:=b
 simp only at h
 rw [h]
theorem ig (a b:ByteArray):sEq a b=true↔a=b:=by
 simp only [sEq,beq_iff_eq]
 exact⟨xB,λh=>by rw [h]⟩
theorem sEq_dec (a b:ByteArray):sEq a b=decide (a=b):=by
 rw [Bool.eq_iff_iff,ig];simp
theorem vw (a b:ByteArray):sNe a b = !decide (a=b):=by
 have:=sEq_dec a b;simp only [sEq,sNe]at *;rw [this]
abbrev bl:=Op.bytesLess
theorem bl_lt:∀(x y:List UInt8),bl x y=decide (x<y)
 | _,[]=>by simp [bl,Op.bytesLess]
 | [],_::_=>by simp [bl,Op.bytesLess]
 | a::x,b::y=>by
  have:=bl_lt x y
  simp only [bl,Op.bytesLess]at this ⊢
  rw [this,Bool.eq_iff_iff]
  simp only [Bool.or_eq_true,decide_eq_true_eq,Bool.and_eq_true,beq_iff_eq,List.cons_lt_cons_iff]
def lt (a b:ByteArray):Prop:=a.toList<b.toList
theorem EW (a b:ByteArray):sLt a b=true↔lt a b:=by
 show bl a.toList b.toList=true↔_
 rw [bl_lt];simp [lt]
theorem BX (a:ByteArray):¬lt a a:=List.lt_irrefl a.toList
theorem lt_trans {a b c:ByteArray} (h:lt a b) (k:lt b c):lt a c:=List.lt_trans h k
theorem Iq (a b:ByteArray):lt a b\/a=b\/lt b a:=by
 rcases Classical.em (lt a b)with h|h
 ·exact .inl h
 ·rcases Classical.em (lt b a)with h2|h2
  ·exact .inr (.inr h2)
  ·exact .inr (.inl (xB (List.le_antisymm (List.not_lt.1 h2) (List.not_lt.1 h))))
theorem qw (a:ByteArray):sNe a ⟨#[]⟩=decide (a.size≠0):=by
 rw [vw,Go.Lib.size_eq,Bool.eq_iff_iff]
 simp only [Bool.not_eq_true',decide_eq_false_iff_not,decide_eq_true_eq,ne_eq]
 refine not_congr ⟨λh=>by rw [h];rfl,λh => ?_⟩
 exact xB (by rw [toL,List.eq_nil_of_length_eq_zero h,toL])
end Go.Eng

open Go Go.Eng
namespace Go.Proofs.YtljhfffghjclfaaGreatDoor.Law
set_option linter.unusedVariables false
set_option linter.unusedSimpArgs false
def Ok (s:Stream) (b:Int):Prop:=0<=s.f_at/\s.f_at<=b
theorem Ok.mono {s:Stream} {b c:Int} (h:Ok s b) (hc:b<=c):Ok s c:=⟨h.1,Int.le_trans h.2 hc⟩
theorem Bh (x n:Int) (h:1<=n) (hn:n<=4611686018427387904):∃r,pV x n=some r/\0<=r/\r<n:=by
 have h1:x.tmod n<n:=Int.tmod_lt_of_pos x (by omega)
 have h2 : -n<x.tmod n:=Int.lt_tmod_of_pos x (by omega)
 have hb:decide (n<1)=false:=by simp;omega
 have hn0:n≠0:=by omega
 simp only [pV,hb,cond_false,JV,if_neg hn0,ob_]
 cases hd:decide (x.tmod n<0)with
 | true =>
  simp only [decide_eq_true_eq]at hd
  exact⟨_,rfl,by rw [eT (by omega)];omega,by rw [eT (by omega)];omega⟩
 | false =>
  simp only [decide_eq_false_iff_not]at hd
  exact⟨_,rfl,by omega,h1⟩
theorem kR (s:Stream) (n:Int) {b:Int} (hs:Ok s b) (hb:b<=1000000) (h:1<=n) (hn:n<=4611686018427387904):∃r s',bW s n=some (r,s')/\0<=r/\r<n/\Ok s' (b+1):=by
 obtain ⟨h0,h1⟩:=hs
 have e1:w64 (s.f_at+1)=s.f_at+1:=eT (by omega)
 have e2:w64 (s.f_at+1-1)=s.f_at:=by rw [eT (by omega)];omega
 simp only [bW,e1,e2]
 by_cases hl:s.L.length=0
 ·have:((s.L.length:Int)==0)=true:=by simp [hl]
  simp only [this,cond_true]
  obtain ⟨r,hr,h2,h3⟩:=Bh (w64 ((s.f_at+1)*7919)) n h hn
  exact⟨r,_,by rw [hr];rfl,h2,h3,⟨by show 0<=s.f_at+1;omega,by show s.f_at+1<=b+1;omega⟩⟩
 ·have hne:(s.L.length:Int)≠0:=by omega
  have:((s.L.length:Int)==0)=false:=by simpa using hl
  simp only [this,cond_false,JV,quoO,if_neg hne,ob_]
  have h2:0<=s.f_at.tmod s.L.length:=Int.tmod_nonneg _ h0
  have hp:(0:Int)<(s.L.length:Int):=by have:=Nat.pos_of_ne_zero hl;omega
  have h3:s.f_at.tmod s.L.length<s.L.length:=Int.tmod_lt_of_pos _ hp
  have hi:idx s.L (s.f_at.tmod s.L.length)=some s.L[(s.f_at.tmod s.L.length).toNat]:=by
   simp only [idx,if_pos h2]
   exact List.getElem?_eq_getElem (by omega)
  obtain ⟨r1,hr1,_,_⟩:=Bh s.L[(s.f_at.tmod s.L.length).toNat] 1073741824 (by decide) (by decide)
  simp only [hi,hr1,ob_]
  generalize w64 (r1+_)=y
  obtain ⟨r,hr,h4,h5⟩:=Bh y n h hn
  exact⟨r,_,by rw [hr];rfl,h4,h5,⟨by show 0<=s.f_at+1;omega,by show s.f_at+1<=b+1;omega⟩⟩
theorem sZ (s:Stream) (n:Int) {b:Int} (hs:Ok s b) (hb:b<=1000000) (h:1<=n) (hn:n<=1000):∃r s',eU s n=some (r,s')/\Ok s' (b+1):=by
 obtain ⟨r,s',h1,_,_,h2⟩:=kR s n hs hb h (by omega)
 exact⟨r==0,s',by simp only [eU,h1,ob_],h2⟩
theorem EB {α:Type} {l:List α} {r:Int} (h0:0<=r) (h1:r<l.length):∃y,idx l r=some y/\y∈l:=by
 refine⟨l[r.toNat]'(by omega),?_,List.getElem_mem _⟩
 simp only [idx,if_pos h0]
 exact List.getElem?_eq_getElem (by omega)
theorem qh (s:Stream) (l:List Int) {b:Int} (hs:Ok s b) (hb:b<=1000000) (h:1<=l.length) (hn:l.length<=1000):∃r s',dQ s l=some (r,s')/\r∈l/\Ok s' (b+1):=by
 obtain ⟨r,s',h1,h2,h3,h4⟩:=kR s l.length hs hb (by omega) (by omega)
 obtain ⟨y,hy,hm⟩:=EB h2 h3
 exact⟨y,s',by simp only [dQ,h1,hy,ob_],hm,h4⟩
theorem sW (s:Stream) (l:List ByteArray) {b:Int} (hs:Ok s b) (hb:b<=1000000) (h:1<=l.length) (hn:l.length<=1000):∃r s',dJ s l=some (r,s')/\r∈l/\Ok s' (b+1):=by
 obtain ⟨r,s',h1,h2,h3,h4⟩:=kR s l.length hs hb (by omega) (by omega)
 obtain ⟨y,hy,hm⟩:=EB h2 h3
 exact⟨y,s',by simp only [dJ,h1,hy,ob_],hm,h4⟩
theorem gX (s:Stream) (lo hi:Int) {b:Int} (hs:Ok s b) (hb:b<=1000000) (h:lo<=hi) (h1 : -1000000000000<=lo) (h2:hi<=1000000000000):∃r s',bT s lo hi=some (r,s')/\lo<=r/\r<=hi/\Ok s' (b+1):=by
 have hd:decide (hi<lo)=false:=by simp;omega
 have e1:w64 (hi-lo)=hi-lo:=eT (by omega)
 have e2:w64 (hi-lo+1)=hi-lo+1:=eT (by omega)
 obtain ⟨r,s',k1,k2,k3,k4⟩:=kR s (hi-lo+1) hs hb (by omega) (by omega)
 simp only [bT,hd,cond_false,e1,e2,k1,ob_]
 exact⟨_,s',rfl,by rw [eT (by omega)];omega,by rw [eT (by omega)];omega,k4⟩
theorem Ik (s:Stream) (lo hi:Int) {b:Int} (hs:Ok s b) (hb:b<=900000) (h:lo<=hi) (h1 : -1000000000000<=lo) (h2:hi<=1000000000000):∃r s',dL s lo hi=some (r,s')/\Ok s' (b+2):=by
 obtain ⟨c,s1,k1,k2⟩:=sZ s 12 hs (by omega) (by decide) (by decide)
 simp only [dL,k1,ob_]
 cases c with
 | true =>
  obtain ⟨r,s2,m1,_,m2⟩:=qh s1 [(w64 (lo-1)),(w64 (hi+1)),lo,hi,(-1099511627776),1099511627776] k2 (by omega) (by simp) (by simp)
  simp only [cond_true,m1,ob_]
  exact⟨_,_,rfl,m2.mono (by omega)⟩
 | false =>
  obtain ⟨r,s2,m1,_,_,m2⟩:=gX s1 lo hi k2 (by omega) h h1 h2
  simp only [cond_false,m1,ob_]
  exact⟨_,_,rfl,m2.mono (by omega)⟩
end Go.Proofs.YtljhfffghjclfaaGreatDoor.Law

open Go Go.Eng
namespace Go.Proofs.YtljhfffghjclfaaGreatDoor.Law
set_option linter.unusedVariables false
set_option linter.unusedSimpArgs false
def uu (b:UInt8):Bool:=decide (97<=b.toNat)&&decide (b.toNat<=122)
def FL (b:UInt8):Bool:=(decide (48<=b.toNat)&&decide (b.toNat<=57))||(b.toNat==45)||(b.toNat==95)
def okB (i:Nat) (b:UInt8):Bool:=uu b||(decide (0<i)&&FL b)
def dP (s:ByteArray) (i:Nat):UInt8:=s.data.toList.getD i 0
def keyB (s:ByteArray):Bool:=decide (s.size≠0)&&(decide (s.size<=40)&&(List.range s.size).all λi=>okB i (dP s i))
theorem qO (s:ByteArray) (k:Nat) (h:k<s.size):tJ s (k:Int)=some (dP s k):=by
 have h1:s[k]? = some s[k]:=by simp [h]
 have h2:dP s k=s[k]:=by
  have hl:k<s.data.toList.length:=by rw [<- Go.Lib.size_eq];exact h
  simp only [dP,List.getD_eq_getElem?_getD,List.getElem?_eq_getElem hl,Option.getD_some]
  simp
  rfl
 simp only [tJ,if_pos (Int.natCast_nonneg k),Int.toNat_natCast,h1,h2]
theorem G6 (s:ByteArray) (k:Nat) (hs:s.size<=1000000000):iX s (k:Int)=some (if k<s.size then (bif okB k (dP s k)then .go ((k+1:Nat):Int)else .ret false)else .brk (k:Int)):=by
 unfold iX
 by_cases h:k<s.size
 ·have hd:decide ((k:Int)<(s.size:Int))=true:=by simp;omega
  have hw:w64 ((k:Int)+1)=((k+1:Nat):Int):=by rw [eT (by omega)];omega
  simp only [hd,cond_true,qO s k h,ob_,if_pos h,hw]
  generalize dP s k=b
  simp only [okB,uu,FL]
  have e1:decide ((b.toNat:Int)>=97)=decide (97<=b.toNat):=decide_eq_decide.2 (by omega)
  have e2:decide ((b.toNat:Int)<=122)=decide (b.toNat<=122):=decide_eq_decide.2 (by omega)
  have e3:decide ((k:Int)>0)=decide (0<k):=decide_eq_decide.2 (by omega)
  have e4:decide ((b.toNat:Int)>=48)=decide (48<=b.toNat):=decide_eq_decide.2 (by omega)
  have e5:decide ((b.toNat:Int)<=57)=decide (b.toNat<=57):=decide_eq_decide.2 (by omega)
  have e6:((b.toNat:Int)==45)=(b.toNat==45):=by rw [Bool.eq_iff_iff];simp;omega
  have e7:((b.toNat:Int)==95)=(b.toNat==95):=by rw [Bool.eq_iff_iff];simp;omega
  rw [e1,e2,e3,e4,e5,e6,e7]
  cases decide (97<=b.toNat) <;> cases decide (b.toNat<=122) <;> cases decide (0<k) <;> cases decide (48<=b.toNat) <;> cases decide (b.toNat<=57) <;> cases (b.toNat==45) <;> cases (b.toNat==95) <;> rfl
 ·have hd:decide ((k:Int)<(s.size:Int))=false:=by simp;omega
  simp only [hd,cond_false,if_neg h]
theorem BI (s:ByteArray) (hs:s.size<=1000000000):∀(n k:Nat),k+n=s.size->iterN (λi=>iX s i) (n+1) (k:Int)=some (bif (List.range' k n).all (λj=>okB j (dP s j))then .go (s.size:Int)else .ret false)
 | 0,k,h=>by
  have hk:¬k<s.size:=by omega
  simp only [iterN,G6 s k hs,if_neg hk,ob_,List.range'_zero,List.all_nil,cond_true]
  rw [show (k:Int)=s.size by omega]
 | n+1,k,h=>by
  have hk:k<s.size:=by omega
  rw [iterN,G6 s k hs,if_pos hk,ob_,List.range'_succ,List.all_cons]
  cases okB k (dP s k)with
  | true=>simp only [cond_true,Bool.true_and];exact BI s hs n (k+1) (by omega)
  | false=>rfl
theorem BR (s:ByteArray) (hs:s.size<=1000000000):kit_IsKey s=some (keyB s):=by
 have h:=jd (BI s hs s.size 0 (by omega))
 unfold kit_IsKey
 have h':l8 (0:Int) (λs_1=>iX s s_1)=_:=h
 rw [h',ob_,<- List.range_eq_range']
 have e:decide ((s.size:Int)<=40)=decide (s.size<=40):=decide_eq_decide.2 (by omega)
 simp only [keyB]
 cases (List.range s.size).all (λi=>okB i (dP s i))with
 | true =>
  rw [cond_true,pq,qw,e,Bool.and_true]
  cases decide (s.size≠0) <;> rfl
 | false=>simp only [cond_false,Kl,Bool.and_false]
def qz (t:ByteArray) (b:UInt8):Bool := !decide (ixB t (b.toNat:Int)<0)
theorem only_L1 (s t:ByteArray) (k x:Nat) (h:k<s.size):l6 s t k x ()=some (bif qz t (dP s k)then .go ()else .ret false):=by
 simp only [l6,qO s k h,strings_IndexByte,dB,ob_,qz]
 cases decide (ixB t ((dP s k).toNat:Int)<0) <;> rfl
theorem G9 (s t:ByteArray):∀(xs:List Nat) (k:Nat),k+xs.length=s.size->forR (λk x u=>l6 s t k x u) xs k ()=some (bif (List.range' k xs.length).all (λj=>qz t (dP s j))then .go ()else .ret false)
 | [],k,h=>rfl
 | x::xs,k,h=>by
  simp only [List.length_cons]at h ⊢
  have hk:k<s.size:=by omega
  rw [forR,only_L1 s t k x hk,ob_,List.range'_succ,List.all_cons]
  cases qz t (dP s k)with
  | true=>simp only [cond_true,Bool.true_and];exact G9 s t xs (k+1) (by omega)
  | false=>rfl
theorem Ep (s t:ByteArray) (hs:s.size<=1000000000):nQ s t=some ((List.range s.size).all λi=>qz t (dP s i)):=by
 unfold nQ
 rw [Int.toNat_natCast,fQ (by simp;omega),G9 s t _ 0 (by simp),ob_,List.length_range,<- List.range_eq_range']
 cases (List.range s.size).all (λi=>qz t (dP s i)) <;> rfl
def Dw:ByteArray:=⟨#[97,98,99,100,101,102,103,104,105,106,107,108,109,110,111,112,113,114,115,116,117,118,119,120,121,122]⟩
def z8:ByteArray:=⟨#[97,98,99,100,101,102,103,104,105,106,107,108,109,110,111,112,113,114,115,116,117,118,119,120,121,122,48,49,50,51,52,53,54,55,56,57,45,95]⟩
theorem Dr:∀n:Fin 256,qz Dw (UInt8.ofNat n.val)=uu (UInt8.ofNat n.val)/\qz z8 (UInt8.ofNat n.val)=(uu (UInt8.ofNat n.val)||FL (UInt8.ofNat n.val)):=by decide +kernel
theorem FT (b:UInt8):qz Dw b=uu b:=by
 have:=(Dr ⟨b.toNat,b.toNat_lt⟩).1
 simpa using this
theorem Gw (b:UInt8):qz z8 b=(uu b||FL b):=by
 have:=(Dr ⟨b.toNat,b.toNat_lt⟩).2
 simpa using this
theorem yR (s:ByteArray) (hs:s.size<=1000000000):sF s=some (keyB s):=by
 unfold sF mI
 have e1:decide ((1:Int)<=(s.size:Int))=decide (s.size≠0):=decide_eq_decide.2 (by omega)
 have e2:decide ((s.size:Int)<=40)=decide (s.size<=40):=decide_eq_decide.2 (by omega)
 rw [e1,e2]
 by_cases h1:s.size≠0
 ·by_cases h2:s.size<=40
  ·have hsub:mU s 0 1=some (s.extract 0 1):=by
    unfold mU;rw [if_pos ⟨by omega,by omega,by decide,by show 1<=s.size;omega⟩];rfl
   have hsz:(s.extract 0 1).size=1:=by simp [ByteArray.size_extract];omega
   have hb:dP (s.extract 0 1) 0=dP s 0:=by
    obtain ⟨⟨l⟩⟩:=s
    simp only [dP]
    cases l with
    | nil=>exact absurd rfl h1
    | cons b l=>simp [ByteArray.extract,ByteArray.copySlice]
   simp only [decide_eq_true h1,decide_eq_true h2,cond_true,ob_,hsub]
   have o1:=Ep (s.extract 0 1) Dw (by omega)
   have o2:=Ep s z8 hs
   unfold Dw at o1
   unfold z8 at o2
   rw [o1,ob_,o2]
   have e3:(List.range (s.extract 0 1).size).all (λi=>qz Dw (dP (s.extract 0 1) i))=uu (dP s 0):=by
    rw [hsz]
    simp only [List.range_succ,List.range_zero,List.nil_append,List.all_cons,List.all_nil,Bool.and_true]
    rw [hb,FT]
   have e3':=e3
   unfold Dw at e3'
   rw [e3']
   have e4:∀i,qz z8 (dP s i)=(uu (dP s i)||FL (dP s i)):=λi=>Gw _
   have e5:keyB s=(uu (dP s 0)&&(List.range s.size).all (λi=>qz z8 (dP s i))):=by
    simp only [keyB,decide_eq_true h1,decide_eq_true h2,Bool.true_and,e4]
    rw [Bool.eq_iff_iff]
    simp only [List.all_eq_true,List.mem_range,Bool.and_eq_true,okB,Bool.or_eq_true,decide_eq_true_eq]
    constructor
    ·intro h
     refine⟨?_,λi hi=>(h i hi).imp id (λh=>h.2)⟩
     rcases h 0 (by omega)with h|h
     ·exact h
     ·exact absurd h.1 (by omega)
    ·rintro ⟨h3,h4⟩ i hi
     by_cases e:i=0
     ·rw [e];exact .inl h3
     ·exact (h4 i hi).imp id (λh=>⟨by omega,h⟩)
   unfold z8 at e5
   rw [e5]
   cases uu (dP s 0) <;> rfl
  ·simp only [decide_eq_true h1,decide_eq_false h2,cond_true,cond_false,ob_,keyB,Bool.false_and,Bool.and_false]
 ·simp only [decide_eq_false h1,cond_false,ob_,keyB,Bool.false_and]
end Go.Proofs.YtljhfffghjclfaaGreatDoor.Law

open Go Go.Eng
namespace Go.Proofs.YtljhfffghjclfaaGreatDoor.Law
set_option linter.unusedVariables false
set_option linter.unusedSimpArgs false
def spl (c:UInt8):List UInt8->List (List UInt8)
 | []=>[[]]
 | b::l=>if b=c then []::spl c l else match spl c l with
  | []=>[[b]]
  | x::r=>(b::x)::r
theorem Ii (c:UInt8):∀l,spl c l ≠ []
 | []=>by simp [spl]
 | b::l=>by
  unfold spl
  split
  ·simp
  ·split <;> simp
theorem MM {c:UInt8}:∀{x:List UInt8},c∉x->spl c x=[x]
 | [],_=>rfl
 | b::x,h=>by
  have hb:b≠c:=λe=>h (by simp [e])
  have ih:=MM (x:=x) (λe=>h (List.mem_cons_of_mem _ e))
  unfold spl
  rw [if_neg hb,ih]
theorem JP {c:UInt8}:∀{x:List UInt8} (y:List UInt8),c∉x->spl c (x++c::y)=x::spl c y
 | [],y,_=>by
  show spl c (c::y)=_
  rw [spl,if_pos rfl]
 | b::x,y,h=>by
  have hb:b≠c:=λe=>h (by simp [e])
  have ih:=JP (x:=x) y (λe=>h (List.mem_cons_of_mem _ e))
  show spl c (b::(x++c::y))=_
  rw [spl,if_neg hb,ih]
theorem index_c {c b:UInt8} (h:b≠c) (l:List UInt8):Lib.index (b::l) [c]=if Lib.index l [c] == -1 then -1 else Lib.index l [c]+1:=by
 have hp:([c]:List UInt8).isPrefixOf (b::l)=false:=by simp [List.isPrefixOf,Ne.symm h]
 rw [Lib.index,hp];simp
theorem CZ (c:UInt8):∀l:List UInt8,Lib.splitK [c] 0 (l.count c) l=spl c l
 | []=>rfl
 | b::l=>by
  have ih:=CZ c l
  by_cases hb:b=c
  ·subst hb
   rw [List.count_cons_self,spl,if_pos rfl,<- ih,Lib.splitK]
   have h0:Lib.index (b::l) [b]=0:=by rw [Lib.index];simp [List.isPrefixOf]
   rw [h0]
   simp
  ·rw [List.count_cons_of_ne hb,spl,if_neg hb,<- ih]
   cases hn:l.count c with
   | zero=>rfl
   | succ n =>
    rw [Lib.splitK,Lib.splitK,index_c hb]
    have hg:=Lib.index_ge l [c]
    by_cases hm:Lib.index l [c] = -1
    ·rw [hm];rfl
    ·have e1:(Lib.index l [c] == -1)=false:=by simpa using hm
     rw [e1]
     simp only [Bool.false_eq_true,if_false]
     have e2:(Lib.index l [c]+1 == -1)=false:=by rw [beq_eq_false_iff_ne];omega
     rw [e2]
     simp only [Bool.false_eq_true,if_false,Nat.add_zero,List.length_cons,List.length_nil,Nat.zero_add]
     rw [show (Lib.index l [c]+1).toNat=(Lib.index l [c]).toNat+1 by omega]
     rfl
theorem FV (c:UInt8) {s:ByteArray} (hs:s.size<4294967281):strings_Split s (⟨#[c]⟩:ByteArray)=some ((spl c s.data.toList).map λl=>(⟨l.toArray⟩:ByteArray)):=by
 have h1:(1:Nat)<=(⟨#[c]⟩:ByteArray).size:=Nat.le_refl 1
 show BN s (⟨#[c]⟩:ByteArray)=_
 unfold BN
 rw [if_pos ⟨hs,h1⟩]
 have e1:Lib.countB s (⟨#[c]⟩:ByteArray)=s.data.toList.count c:=by
  show Lib.count s.data.toList [c]=_
  exact Lib.count_one c _
 have e2:=Lib.splitB_data (⟨#[c]⟩:ByteArray) 0 (s.data.toList.count c) s
 have e3:(Lib.splitB (⟨#[c]⟩:ByteArray) 0 (s.data.toList.count c) s).map (λx=>x.data.toList)=spl c s.data.toList:=by
  rw [<- CZ];exact e2
 rw [e1,<- e3,List.map_map]
 congr 1
 exact (List.map_id _).symm.trans (List.map_congr_left (λx _=>rfl))
def tQ (b:UInt8):Bool:=decide (48<=b.toNat)&&decide (b.toNat<=57)
theorem digB_of {n:Nat} (h:n<10):(UInt8.ofNat (48+n)).toNat=48+n:=by
 rw [UInt8.toNat_ofNat'];omega
theorem ddS {u:Nat} (h:u<10):Lib.decDigits u=[UInt8.ofNat (48+u)]:=by rw [Lib.decDigits,dif_pos h]
theorem ddB {u:Nat} (h:¬u<10):Lib.decDigits u=Lib.decDigits (u / 10)++[UInt8.ofNat (48+u % 10)]:=by rw [Lib.decDigits,dif_neg h]
theorem zg:∀(l:List UInt8) (a m:Nat) (b:UInt8) (d:Nat),Lib.decFrom a l=some m->Lib.digitVal b=some d->Lib.decFrom a (l++[b])=some (m*10+d)
 | [],a,m,b,d,h,hd=>by
  simp only [Lib.decFrom,so_]at h
  subst h
  simp only [List.nil_append,Lib.decFrom,hd]
 | x::l,a,m,b,d,h,hd=>by
  simp only [List.cons_append,Lib.decFrom]at h ⊢
  cases hx:Lib.digitVal x with
  | none=>rw [hx]at h;cases h
  | some e =>
   rw [hx]at h
   exact zg l _ m b d h hd
theorem dd_ne (u:Nat):Lib.decDigits u ≠ []:=by
 by_cases h:u<10
 ·rw [ddS h];simp
 ·rw [ddB h];simp
theorem Jj (u:Nat) (h:u≠0):∀b l,Lib.decDigits u=b::l->b.toNat≠48:=by
 induction u using Nat.strongRecOn with
 | ind u ih =>
  intro b l e
  by_cases h1:u<10
  ·rw [ddS h1]at e
   simp only [List.cons.injEq]at e
   rw [<- e.1,digB_of h1]
   omega
  ·rw [ddB h1]at e
   cases hd:Lib.decDigits (u / 10)with
   | nil=>exact absurd hd (dd_ne _)
   | cons x r =>
    rw [hd,List.cons_append,List.cons.injEq]at e
    rw [<- e.1]
    exact ih (u / 10) (by omega) (by omega) x r hd
theorem wJ {s:ByteArray} {k:Nat} (h:k<s.size):s.data.toList[k]? = some (dP s k):=by
 have hl:k<s.data.toList.length:=by rw [<- Go.Lib.size_eq];exact h
 unfold dP
 rw [List.getD_eq_getElem?_getD,List.getElem?_eq_getElem hl];rfl
theorem Mr {s:ByteArray} {b:UInt8} (h:0<s.size) (hl:s.size<1000000000) (hb:dP s 0=b) (h45:b≠45):strings_TrimPrefix s (⟨#[45]⟩:ByteArray)=some s:=by
 unfold strings_TrimPrefix dw bz
 have h1:((⟨#[45]⟩:ByteArray).size:Int)=1:=rfl
 have h2:mU s 0 1=some (s.extract 0 1):=by
  unfold mU
  rw [if_pos (by omega)];rfl
 have h3:sEq (s.extract 0 1) (⟨#[45]⟩:ByteArray)=false:=by
  cases hq:sEq (s.extract 0 1) (⟨#[45]⟩:ByteArray)with
  | false=>rfl
  | true =>
   exfalso
   have e:=(ig _ _).1 hq
   have e2:(s.extract 0 1).data.toList=s.data.toList.take 1:=by
    rw [ByteArray.data_extract,Array.toList_extract]
    rfl
   have e3:=congrArg (λx:ByteArray=>x.data.toList[0]?) e
   simp only [e2]at e3
   have hg:=wJ h
   rw [hb]at hg
   rw [List.getElem?_take,if_pos (by omega),hg]at e3
   have:(⟨#[45]⟩:ByteArray).data.toList[0]? = some 45:=rfl
   rw [this,so_]at e3
   exact h45 e3
 rw [h1,decide_eq_true (by omega),cond_true,h2,ob_,h3]
 rfl
end Go.Proofs.YtljhfffghjclfaaGreatDoor.Law

open Go Go.Eng
namespace Go.Proofs.YtljhfffghjclfaaGreatDoor.Law
set_option linter.unusedVariables false
set_option linter.unusedSimpArgs false
end Go.Proofs.YtljhfffghjclfaaGreatDoor.Law

namespace Go.Eng
set_option linter.unusedVariables false
set_option linter.unusedSimpArgs false
def I5 {α:Type} (cmp:α->α->Option Int) (a_2:Int) (s_21:(List α)×Int):Option (Ctl ((List α)×Int) (Unit)) :=
 (bif (decide (s_21.2>a_2))then (inR s_21.2 s_21.1).bind λ_=>(s_21.1[(0+(s_21.2).toNat)]?).bind λe_30=>(inR (w64 (s_21.2-1)) s_21.1).bind λ_=>(s_21.1[(0+((w64 (s_21.2-1))).toNat)]?).bind λe_33=>(cmp e_30 e_33).bind λr_35=>some (decide (r_35<0))else some false).bind λv_26=>bif v_26 then (inR (w64 (s_21.2-1)) s_21.1).bind λ_=>(s_21.1[(0+((w64 (s_21.2-1))).toNat)]?).bind λe_39=>(inR s_21.2 s_21.1).bind λ_=>(s_21.1[(0+(s_21.2).toNat)]?).bind λe_42=>(inR s_21.2 s_21.1).bind λ_=>(s_21.1[(0+(s_21.2).toNat)]?).bind λe_45=>(inR (w64 (s_21.2-1)) (s_21.1.set (0+(s_21.2).toNat) e_39)).bind λ_=>((s_21.1.set (0+(s_21.2).toNat) e_39)[(0+((w64 (s_21.2-1))).toNat)]?).bind λe_48=>some (.go (((s_21.1.set (0+(s_21.2).toNat) e_39).set (0+((w64 (s_21.2-1))).toNat) e_42),(w64 (s_21.2-1))))else some (.brk (s_21.1,s_21.2))
noncomputable def FK {α:Type} (cmp:α->α->Option Int) (b_3:Int) (a_2:Int) (s_10:(List α)×Int):Option (Ctl ((List α)×Int) (Unit)) :=
 bif (decide (s_10.2<b_3))then (l8 (s_10.1,s_10.2) (λs=>I5 cmp a_2 s)).bind λo_24=>thenC o_24 (λs_21=>some (.go (s_21.1,(w64 (s_10.2+1))))) (λ_=>none)else some (.brk (s_10.1,s_10.2))
noncomputable def Hm {α:Type} (cmp:α->α->Option Int) (data_1:(List α)) (a_2:Int) (b_3:Int):Option ((List α)) :=
 (l8 (data_1,(w64 (a_2+1))) (λs=>FK cmp b_3 a_2 s)).bind λo_13=>thenC o_13 (λs_10=>some s_10.1) (λ_=>none)
noncomputable def MU {α:Type} (cmp:α->α->Option Int) (b_3:Int) (a_2:Int) (data_1:(List α)) (limit_4:Int) (s_11:Unit):Option (Ctl (Unit) ((List α))) :=
 bif (decide ((w64 (b_3-a_2))<=12))then (Hm cmp data_1 a_2 b_3).bind λr_17=>(qR r_17 data_1).bind λ_=>some (.ret r_17)else bif (limit_4==0)then none else none
noncomputable def Ht {α:Type} (cmp:α->α->Option Int) (data_1:(List α)) (a_2:Int) (b_3:Int) (limit_4:Int):Option ((List α)) :=
 (l8 () (λs=>MU cmp b_3 a_2 data_1 limit_4 s)).bind λo_14=>thenC o_14 (λs_11=>some data_1) (λr=>some r)
theorem Ji {α:Type} (u v:α) (C:List α):∀A:List α,((A++u::v::C).set (A.length+1) u).set A.length v=A++v::u::C
 | []=>rfl
 | a::A=>by simp only [List.cons_append,List.length_cons,List.set_cons_succ,Ji u v C A]
theorem get_0 {α:Type} (u:α) (C A:List α):(A++u::C)[A.length]? = some u:=by simp
theorem get_1 {α:Type} (u v:α) (C A:List α):(A++u::v::C)[A.length+1]? = some v:=by
 rw [List.getElem?_append_right (by omega)];simp
theorem LQ {α:Type} (u v w:α) (C:List α):∀A:List α,(A++u::v::C).set (A.length+1) w=A++u::w::C
 | []=>rfl
 | a::A=>by simp only [List.cons_append,List.length_cons,List.set_cons_succ,LQ u v w C A]
theorem IV {α:Type} {xs:List α} {i:Nat} (h:i<xs.length):inR (i:Int) xs=some ():=by
 unfold inR;rw [if_pos ⟨by omega,by simpa using h⟩]
section
variable {α:Type} {cmp:α->α->Option Int} {le:α->α->Prop} {p:α->Prop}
theorem insL1_s (u v:α) (A C:List α) {c:Int} (hc:cmp v u=some c) (hl:A.length<=1000000000):I5 cmp 0 (A++u::v::C,((A.length+1:Nat):Int))=some (bif decide (c<0)then .go (A++v::u::C,(A.length:Int))else .brk (A++u::v::C,((A.length+1:Nat):Int))):=by
 have hw:w64 (((A.length+1:Nat):Int)-1)=(A.length:Int):=by rw [AB _ (by omega)];omega
 have h1:inR ((A.length+1:Nat):Int) (A++u::v::C)=some ():=IV (by simp)
 have h2:inR (A.length:Int) (A++u::v::C)=some ():=IV (by simp)
 have h3:inR (A.length:Int) (A++u::u::C)=some ():=IV (by simp)
 have hd:decide (((A.length+1:Nat):Int)>0)=true:=by simp <;> omega
 have e1:0+((A.length+1:Nat):Int).toNat=A.length+1:=by omega
 have e2:0+((A.length:Nat):Int).toNat=A.length:=by omega
 unfold I5
 simp only [hw,h1,h2,hd,e1,e2,get_0,get_1,ob_,hc,cond_true,LQ,h3]
 cases decide (c<0)with
 | false=>rfl
 | true =>
  simp only [cond_true]
  have:=Ji u v C A
  rw [LQ]at this
  rw [this]
theorem DD (hc:∀a b,p a->p b->∃c,cmp a b=some c/\(c<0->le a b)/\(¬c<0->le b a)) (tr:∀a b c,le a b->le b c->le a c) (v:α) (hv:p v) (R:List α):∀(n:Nat) (A B:List α),A.length=n->n<=1000000000->(∀a∈A,p a)->(A++B).Pairwise le->(∀b∈B,le v b) ->
  ∃A' B',iterN (λs=>I5 cmp 0 s) (n+1) (A++v::(B++R),(A.length:Int))=some (.go (A'++v::(B'++R),(A'.length:Int)))/\A'++B'=A++B/\(A'++v::B').Pairwise le
 | 0,A,B,hA,hn,hpa,hp,hb=>by
  have:A=[]:=List.eq_nil_of_length_eq_zero hA
  subst this
  exact⟨[],B,by simp only [List.nil_append,List.length_nil,iterN,Option.bind];rfl,rfl,by simpa using ⟨hb,hp⟩⟩
 | n+1,A,B,hA,hn,hpa,hp,hb=>by
  rcases List.eq_nil_or_concat A with h|⟨A0,u,h⟩
  ·rw [h]at hA;cases hA
  ·subst h
   simp only [List.concat_eq_append]at hA hp hpa ⊢
   have hA0:A0.length=n:=by simpa using hA
   have hl:(A0++[u]).length=A0.length+1:=by simp
   have e:A0++[u]++v::(B++R)=A0++u::v::(B++R):=by simp
   obtain ⟨c,h1,h2,h3⟩:=hc v u hv (hpa u (by simp))
   rw [hl,e,iterN,insL1_s u v A0 (B++R) h1 (by omega),ob_]
   by_cases hcn:c<0
   ·simp only [decide_eq_true hcn,cond_true]
    have hp':(A0++(u::B)).Pairwise le:=by simpa using hp
    obtain ⟨A',B',k1,k2,k3⟩:=DD hc tr v hv R n A0 (u::B) hA0 (by omega) (λa ha=>hpa a (by simp [ha])) hp' (λb hb'=>by
     rcases List.mem_cons.1 hb' with rfl|hb'
     ·exact h2 hcn
     ·exact hb b hb')
    refine⟨A',B',?_,by rw [k2];simp,k3⟩
    rw [<- k1];simp
   ·simp only [decide_eq_false hcn,cond_false]
    refine⟨A0++[u],B,by simp,rfl,?_⟩
    have huv:=h3 hcn
    rw [List.pairwise_append]at hp ⊢
    obtain ⟨p1,p2,p3⟩:=hp
    refine⟨p1,List.pairwise_cons.2 ⟨hb,p2⟩,λa ha b hb' => ?_⟩
    rcases List.mem_cons.1 hb' with rfl|hb'
    ·rcases List.mem_append.1 ha with ha|ha
     ·rw [List.pairwise_append]at p1
      exact tr _ _ _ (p1.2.2 a ha u (by simp)) huv
     ·rw [List.mem_singleton]at ha;subst ha;exact huv
    ·exact p3 a ha b hb'
theorem Dk (hc:∀a b,p a->p b->∃c,cmp a b=some c/\(c<0->le a b)/\(¬c<0->le b a)) (tr:∀a b c,le a b->le b c->le a c):∀(Q P:List α),P.length+Q.length<=1000000000->(∀x∈P++Q,p x)->P.Pairwise le ->
  ∃s,iterN (λs=>FK cmp ((P.length+Q.length:Nat):Int) 0 s) (Q.length+1) (P++Q,(P.length:Int))=some (.go (s,((P.length+Q.length:Nat):Int)))/\s.Perm (P++Q)/\s.Pairwise le
 | [],P,hl,hpx,hp=>by
  refine⟨P,?_,by simp,hp⟩
  have hd:decide ((P.length:Int)<((P.length+([]:List α).length:Nat):Int))=false:=by simp
  simp only [iterN,FK,hd,cond_false,ob_,List.append_nil]
  simp
 | v::Q,P,hl,hpx,hp=>by
  simp only [List.length_cons]at hl
  have hd:decide ((P.length:Int)<((P.length+(v::Q).length:Nat):Int))=true:=by simp only [decide_eq_true_eq,List.length_cons];omega
  obtain ⟨A',B',k1,k2,k3⟩:=DD hc tr v (hpx v (by simp)) Q P.length P [] rfl (by omega) (λa ha=>hpx a (by simp [ha])) (by simpa using hp) (λb hb=>by cases hb)
  rw [List.nil_append]at k1
  have hlo:=jd k1
  rw [List.length_cons,iterN]
  have hw:w64 ((P.length:Int)+1)=((A'++v::B').length:Int):=by
   have:=congrArg List.length k2
   simp only [List.length_append,List.length_nil]at this
   rw [AB _ (by omega)];simp only [List.length_append,List.length_cons];omega
  have h1:FK cmp ((P.length+(Q.length+1):Nat):Int) 0 (P++v::Q,(P.length:Int))=some (.go (A'++v::(B'++Q),((A'++v::B').length:Int))):=by
   have hd':decide ((P.length:Int)<((P.length+(Q.length+1):Nat):Int))=true:=hd
   unfold FK
   simp only [hd',cond_true,hlo,ob_,thenC,hw]
  have hlen:(A'++v::B').length=P.length+1:=by
   have:=congrArg List.length k2
   simp only [List.length_append,List.length_nil,List.length_cons]at this ⊢
   omega
  have hk:(A'++B').Perm P:=by rw [k2];simp
  have hperm:(A'++v::B').Perm (P++[v]):=(List.perm_middle).trans ((List.Perm.cons v hk).trans (List.perm_append_comm (l₁:=[v]) (l₂:=P)))
  obtain ⟨s,m1,m2,m3⟩:=Dk hc tr Q (A'++v::B') (by omega) (λx hx=>by
   rcases List.mem_append.1 hx with hx|hx
   ·have:=hperm.mem_iff.1 hx
    exact hpx x (by rcases List.mem_append.1 this with h | h <;> simp_all)
   ·exact hpx x (by simp [hx])) k3
  rw [h1,ob_]
  have e:A'++v::(B'++Q)=(A'++v::B')++Q:=by simp
  have e2:P.length+(Q.length+1)=(A'++v::B').length+Q.length:=by omega
  simp only
  rw [e,e2]
  refine⟨s,m1,m2.trans ?_,m3⟩
  have:=List.Perm.append_right Q hperm
  simpa using this
theorem pdq_ok (hc:∀a b,p a->p b->∃c,cmp a b=some c/\(c<0->le a b)/\(¬c<0->le b a)) (tr:∀a b c,le a b->le b c->le a c) (l:List α) (hl:l.length<=12) (hpl:∀x∈l,p x) (lim:Int):∃s,Ht cmp l 0 (l.length:Int) lim=some s/\s.Perm l/\s.Pairwise le:=by
 have key:∃s,Hm cmp l 0 (l.length:Int)=some s/\s.Perm l/\s.Pairwise le:=by
  unfold Hm
  have hw:w64 (0+1)=1:=rfl
  rw [hw]
  cases l with
  | nil=>exact⟨[],by rw [jd (n:=1) (o := .go ([],1)) rfl];rfl,.nil,.nil⟩
  | cons v Q =>
   obtain ⟨s,m1,m2,m3⟩:=Dk hc tr Q [v] (by simp only [List.length_cons,List.length_nil]at hl ⊢;omega) (λx hx=>hpl x (by simpa using hx)) (List.pairwise_singleton _ _)
   have e:([v].length+Q.length:Nat)=(v::Q).length:=by simp only [List.length_cons,List.length_nil];omega
   rw [e]at m1
   have:=jd m1
   refine⟨s,?_,m2,m3⟩
   show (l8 (v::Q,1) _).bind _=_
   have e2:(([v]++Q,(([v]:List α).length:Int)):List α×Int)=(v::Q,1):=rfl
   rw [e2]at this
   rw [this];rfl
 obtain ⟨s,h1,h2,h3⟩:=key
 refine⟨s,?_,h2,h3⟩
 have hsm:qR s l=some ():=by unfold qR;rw [if_pos h2.length_eq]
 have hd:decide (w64 ((l.length:Int)-0)<=12)=true:=by
  have:(l.length:Int)-0=l.length:=by omega
  rw [this,AB _ (by omega)];simp;omega
 have:l8 () (λs=>MU cmp (l.length:Int) 0 l lim s)=some (.ret s):=by
  refine jd (n:=1) ?_
  simp only [iterN,MU,hd,cond_true,h1,hsm,ob_]
 unfold Ht
 rw [this];rfl
end
end Go.Eng

open Go Go.Eng
namespace Go.Proofs.YtljhfffghjclfaaGreatDoor.Law
set_option linter.unusedVariables false
set_option linter.unusedSimpArgs false
theorem mq {α:Type} (xs ys:List α) (h:xs.length+ys.length<=1000000000):kM xs ys=some (xs++ys):=by unfold kM;rw [if_pos h]
def Fine (r:Rect):Prop:=(-100000<=r.X/\r.X<=100000)/\(-100000<=r.Y/\r.Y<=100000)/\(1<=r.W/\r.X+r.W<=100000)/\1<=r.H/\r.Y+r.H<=100000
theorem len_ok:∀n:Nat,n<=12->∃k,jP (IntKind.u64.wrap (n:Int))=some k:=by
 have h:(List.range 13).all (λn=>(jP (IntKind.u64.wrap (n:Int))).isSome)=true:=by kernel_rfl
 intro n hn
 have:=List.all_eq_true.1 h n (by simp;omega)
 exact Option.isSome_iff_exists.1 this
end Go.Proofs.YtljhfffghjclfaaGreatDoor.Law

open Go Go.Eng
namespace Go.Proofs.YtljhfffghjclfaaGreatDoor.Law
set_option linter.unusedVariables false
set_option linter.unusedSimpArgs false
abbrev SB (l:List UInt8):ByteArray:=⟨l.toArray⟩
theorem ES {l m:List UInt8} (h:SB l=SB m):l=m:=by
 have:=congrArg (λs:ByteArray=>s.data.toList) h
 simpa using this
def Med (n:Int):Prop := -1000000000000000<=n/\n<=1000000000000000
theorem EE {n:Int} (h:Med n):strconv_Itoa n=some (SB (Go.Lib.itoa n)):=by
 unfold strconv_Itoa JH
 unfold Med at h
 rw [if_pos ⟨by omega,by omega⟩]
theorem xP {n:Int} (h:Med n):(Go.Lib.itoa n).length<=21:=by
 unfold Med at h
 exact Go.Lib.itoa_length_le n (by omega) (by omega)
theorem Ba (sep y:List UInt8) (r:List (List UInt8)):Go.Lib.joinTail sep (y::r)=sep++y++Go.Lib.joinTail sep r:=by simp [Go.Lib.joinTail]
theorem GR (sep:List UInt8) (m:Nat):∀(r:List (List UInt8)),(∀x∈r,x.length<=m)->(Go.Lib.joinTail sep r).length<=r.length*(m+sep.length)
 | [],_=>by simp [Go.Lib.joinTail]
 | y::r,hy=>by
  rw [Ba,List.length_append,List.length_append,List.length_cons,Nat.add_mul]
  have:=GR sep m r (λx hx=>hy x (List.mem_cons_of_mem _ hx))
  have:=hy y (by simp)
  omega
theorem Ju (sep:List UInt8) (m:Nat):∀(ls:List (List UInt8)),(∀x∈ls,x.length<=m)->(Go.Lib.join ls sep).length<=ls.length*(m+sep.length)
 | [],h=>by simp [Go.Lib.join_nil]
 | x::r,h=>by
  rw [Go.Lib.join_cons,List.length_append,List.length_cons,Nat.add_mul]
  have:=GR sep m r (λx hx=>h x (List.mem_cons_of_mem _ hx))
  have:=h x (by simp)
  omega
theorem Mf (ls:List (List UInt8)) (sep:List UInt8) (m:Nat) (h:∀x∈ls,x.length<=m) (hl:ls.length<=1000000) (hm:m+sep.length<=10000):strings_Join (ls.map SB) (SB sep)=some (SB (Go.Lib.join ls sep)):=by
 have h1:=Ju sep m ls h
 have h2:ls.length*(m+sep.length)<=1000000*10000:=Nat.mul_le_mul hl hm
 have e:(ls.map SB).map (λx=>x.data.toList)=ls:=by rw [List.map_map];exact List.map_id' ls
 unfold strings_Join I1
 rw [e]
 have e2:(SB sep).data.toList=sep:=rfl
 rw [e2,if_pos ⟨by simp;omega,by omega⟩]
theorem yZ:∀(l:List Int) (k:Nat) (out:List ByteArray),(∀n∈l,Med n)->l.length+out.length<=1000000->forR (λk x s=>jm k x s) l k out=some (.go (out++l.map λn=>SB (Go.Lib.itoa n)))
 | [],k,out,h,hl=>by simp [forR]
 | n::l,k,out,h,hl=>by
  simp only [List.length_cons]at hl
  have ih:=yZ l (k+1) (out++[SB (Go.Lib.itoa n)]) (λx hx=>h x (List.mem_cons_of_mem _ hx)) (by simp;omega)
  have hstep:jm k n out=some (.go (out++[SB (Go.Lib.itoa n)])):=by
   unfold jm
   rw [EE (h n (by simp))]
   simp only [ob_]
   rw [mq _ _ (by simp;omega)]
   rfl
  simp only [forR,hstep,ob_]
  rw [ih]
  simp
theorem Bp (l:List Int) (h:∀n∈l,Med n) (hl:l.length<=1000000):kG l=some (SB (Go.Lib.join (l.map Go.Lib.itoa) [32])):=by
 unfold kG
 rw [fQ (by omega),yZ l 0 [] h (by simpa using hl)]
 simp only [ob_,pq,List.nil_append]
 have e:(l.map λn=>SB (Go.Lib.itoa n))=(l.map Go.Lib.itoa).map SB:=by rw [List.map_map];rfl
 rw [e,Mf _ [32] 21 (λx hx=>by
  obtain ⟨n,hn,rfl⟩:=List.mem_map.1 hx
  exact xP (h n hn)) (by simpa using hl) (by decide)]
 rfl
def Mt (b:UInt8):Bool:=decide (48<=b.toNat)&&decide (b.toNat<=57)
theorem JF {n:Nat} (h:n<10):(UInt8.ofNat (48+n)).toNat=48+n:=by
 rw [UInt8.toNat_ofNat',Nat.mod_eq_of_lt (by omega)]
theorem H8 {u:Nat} (h:u<10):Go.Lib.decDigits u=[UInt8.ofNat (48+u)]:=by rw [Go.Lib.decDigits,dif_pos h]
theorem Me {u:Nat} (h:¬u<10):Go.Lib.decDigits u=Go.Lib.decDigits (u / 10)++[UInt8.ofNat (48+u % 10)]:=by rw [Go.Lib.decDigits,dif_neg h]
theorem Gv (u:Nat):(Go.Lib.decDigits u).all Mt=true:=by
 induction u using Nat.strongRecOn with
 | ind u ih =>
  by_cases h:u<10
  ·rw [H8 h]
   have:=JF h
   simp only [List.all_cons,List.all_nil,Bool.and_true,Mt,this,Bool.and_eq_true,decide_eq_true_eq]
   omega
  ·rw [Me h,List.all_append,ih (u / 10) (by omega)]
   have:=JF (show u % 10<10 by omega)
   simp only [List.all_cons,List.all_nil,Bool.and_true,Bool.true_and,Mt,this,Bool.and_eq_true,decide_eq_true_eq]
   omega
theorem itoaN {n:Int} (h:0<=n):Go.Lib.itoa n=Go.Lib.decDigits n.toNat:=by unfold Go.Lib.itoa;rw [if_neg (by omega)]
end Go.Proofs.YtljhfffghjclfaaGreatDoor.Law

open Go Go.Eng
namespace Go.Proofs.YtljhfffghjclfaaGreatDoor.Law
set_option linter.unusedVariables false
set_option linter.unusedSimpArgs false
theorem sb_app (l m:List UInt8):SB l++SB m=SB (l++m):=by
 apply xB;rw [toL,toL];simp
theorem fG (l:List UInt8):(SB l).size=l.length:=by show l.toArray.size=_;simp
theorem iP (l m:List UInt8) (h:l.length+m.length<=1000000000000):eH (SB l) (SB m)=some (SB (l++m)):=by
 rw [<- sb_app]
 unfold eH
 rw [if_neg]
 have:IntKind.i64.max=9223372036854775807:=by decide
 rw [this,fG,fG];omega
theorem itoa_neg {n:Int} (h:n<0):Go.Lib.itoa n=45::Go.Lib.decDigits n.natAbs:=by unfold Go.Lib.itoa;rw [if_pos h]
theorem Lu (x y:List UInt8) (r:List (List UInt8)) (sep:List UInt8):Go.Lib.join (x::y::r) sep=x++(sep++Go.Lib.join (y::r) sep):=by
 rw [Go.Lib.join_cons,Ba,Go.Lib.join_cons,List.append_assoc]
theorem joinI' (n m:Int) (r:List Int):Go.Lib.join ((n::m::r).map Go.Lib.itoa) [32]=Go.Lib.itoa n++32::Go.Lib.join ((m::r).map Go.Lib.itoa) [32]:=by
 simp only [List.map_cons,Lu];rfl
theorem qX (l:List Int) (h:∀n∈l,Med n):(Go.Lib.join (l.map Go.Lib.itoa) [32]).length<=l.length*22:=by
 have:=Ju [32] 21 (l.map Go.Lib.itoa) (λx hx=>by
  obtain ⟨n,hn,rfl⟩:=List.mem_map.1 hx
  exact xP (h n hn))
 simpa using this
end Go.Proofs.YtljhfffghjclfaaGreatDoor.Law

open Go Go.Eng
namespace Go.Proofs.YtljhfffghjclfaaGreatDoor.Law
set_option linter.unusedVariables false
set_option linter.unusedSimpArgs false
theorem EI {b:UInt8} (h:tQ b=true):Lib.digitVal b=some (b.toNat-48):=by
 unfold tQ at h
 simp only [Bool.and_eq_true,decide_eq_true_eq]at h
 unfold Lib.digitVal
 rw [if_pos h]
theorem zw:∀(l:List UInt8) (a:Nat),l.all tQ=true->∃v,Lib.decFrom a l=some v
 | [],a,_=>⟨a,rfl⟩
 | b::l,a,h=>by
  simp only [List.all_cons,Bool.and_eq_true]at h
  obtain ⟨v,hv⟩:=zw l (a*10+(b.toNat-48)) h.2
  exact⟨v,by simp only [Lib.decFrom,EI h.1];exact hv⟩
theorem Ip (b:UInt8) (h:tQ b=true):b=UInt8.ofNat (48+(b.toNat-48)):=by
 unfold tQ at h
 simp only [Bool.and_eq_true,decide_eq_true_eq]at h
 rw [show 48+(b.toNat-48)=b.toNat by omega,UInt8.ofNat_toNat]
theorem IU:∀(n:Nat) (t:List UInt8),t.length=n+1->t.all tQ=true->(∀b l,t=b::l->b.toNat≠48)->∃v,Lib.decFrom 0 t=some v/\v≠0/\Lib.decDigits v=t
 | 0,t,hl,h,h0=>by
  match t,hl,h,h0 with
  | [b],_,h,h0 =>
   simp only [List.all_cons,List.all_nil,Bool.and_true]at h
   have hb:=h0 b [] rfl
   have hd:=h
   unfold tQ at hd
   simp only [Bool.and_eq_true,decide_eq_true_eq]at hd
   refine⟨b.toNat-48,by simp only [Lib.decFrom,EI h];congr 1;omega,by omega,?_⟩
   rw [ddS (by omega),<- Ip b h]
 | n+1,t,hl,h,h0=>by
  have hne:t ≠ []:=λe=>by rw [e]at hl;simp at hl
  obtain ⟨t',b,rfl⟩:∃t' b,t=t'++[b]:=⟨t.dropLast,t.getLast hne,(List.dropLast_concat_getLast hne).symm⟩
  have hl':t'.length=n+1:=by simpa using hl
  rw [List.all_append]at h
  simp only [List.all_cons,List.all_nil,Bool.and_true,Bool.and_eq_true]at h
  obtain ⟨v,v1,v2,v3⟩:=IU n t' hl' h.1 (λb' l' e=>h0 b' (l'++[b]) (by rw [e];rfl))
  have hd:=h.2
  unfold tQ at hd
  simp only [Bool.and_eq_true,decide_eq_true_eq]at hd
  refine⟨v*10+(b.toNat-48),zg t' 0 v b _ v1 (EI h.2),by omega,?_⟩
  rw [ddB (by omega),show (v*10+(b.toNat-48)) / 10=v by omega,show (v*10+(b.toNat-48)) % 10=b.toNat-48 by omega,v3,<- Ip b h.2]
theorem dd_zero {r:List UInt8} (hr:r ≠ []) {b:UInt8} (hb:b.toNat=48) (v:Nat):Lib.decDigits v≠b::r:=λe=>by
 by_cases hv:v=0
 ·subst hv
  rw [ddS (by decide)]at e
  simp only [List.cons.injEq]at e
  exact hr e.2.symm
 ·exact Jj v hv b r e hb
def qm:List UInt8->List UInt8
 | []=>[]
 | b::t=>if b=45 then t else b::t
theorem trim_eq (l:List UInt8) (hl:l.length<1000000000):strings_TrimPrefix (SB l) (⟨#[45]⟩:ByteArray)=some (SB (qm l)):=by
 cases l with
 | nil=>decide +kernel
 | cons b t =>
  by_cases hb:b=45
  ·subst hb
   have hs:(SB (45::t)).size=t.length+1:=by rw [fG];rfl
   unfold strings_TrimPrefix dw bz
   have h1:((⟨#[45]⟩:ByteArray).size:Int)=1:=rfl
   have h2:mU (SB (45::t)) 0 1=some (⟨#[45]⟩:ByteArray):=by
    unfold mU
    rw [if_pos (by rw [hs];omega)]
    congr 1
    apply ByteArray.ext
    apply Array.ext'
    rw [ByteArray.data_extract,Array.toList_extract]
    rfl
   have h3:mU (SB (45::t)) 1 ((SB (45::t)).size:Int)=some (SB t):=by
    unfold mU
    rw [if_pos (by rw [hs];omega)]
    congr 1
    apply ByteArray.ext
    apply Array.ext'
    rw [ByteArray.data_extract,Array.toList_extract,Int.toNat_natCast,hs]
    show ((45::t).take (t.length+1)).drop 1=t
    rw [List.take_of_length_le (by simp)];rfl
   rw [h1,decide_eq_true (by rw [hs];omega),cond_true,h2,ob_,show sEq (⟨#[45]⟩:ByteArray) (⟨#[45]⟩:ByteArray)=true from (ig _ _).2 rfl]
   simp only [ob_,cond_true,h3]
   rw [show qm (45::t)=t by simp [qm]]
  ·have:=Mr (s:=SB (b::t)) (b:=b) (by rw [fG];simp) (by rw [fG];exact hl) rfl hb
   rw [this,show qm (b::t)=b::t by simp [qm,hb]]
theorem K6 (r:List UInt8) (hr:r.length<=1000):l8 0 (λt=>gu (SB r) t)=some (bif r.all tQ then .go (r.length:Int)else .ret (0,false)):=by
 have hsz:(SB r).size=r.length:=fG r
 have hit:∀(d j:Nat),j+d=r.length->∃n,iterN (λt=>gu (SB r) t) n (j:Int)=some (bif (r.drop j).all tQ then .go (r.length:Int)else .ret (0,false)):=by
  intro d
  induction d with
  | zero =>
   intro j hj
   have hj':j=r.length:=by omega
   subst hj'
   refine⟨1,?_⟩
   simp only [iterN,gu]
   rw [decide_eq_false (by rw [hsz];omega),List.drop_length];rfl
  | succ d ih =>
   intro j hj
   have hjl:j<r.length:=by omega
   have hc:tJ (SB r) (j:Int)=some r[j]:=by
    rw [qO (SB r) j (by rw [hsz];exact hjl)]
    have:=wJ (s:=SB r) (k:=j) (by rw [hsz];exact hjl)
    have h2:(SB r).data.toList[j]? = some r[j]:=List.getElem?_eq_getElem hjl
    rw [h2]at this
    exact this.symm
   have hdr:r.drop j=r[j]::r.drop (j+1):=List.drop_eq_getElem_cons hjl
   rw [hdr,List.all_cons]
   cases hd:tQ r[j]with
   | false =>
    refine⟨1,?_⟩
    simp only [iterN,gu]
    rw [decide_eq_true (by rw [hsz];omega),cond_true,hc,ob_,ob_]
    unfold tQ at hd
    simp only [Bool.false_and,cond_false]
    by_cases h48:(r[j].toNat:Int)<48
    ·rw [decide_eq_true h48];rfl
    ·rw [decide_eq_false h48,cond_false,ob_]
     have h57:(r[j].toNat:Int)>57:=by
      by_cases h:r[j].toNat<=57
      ·rw [decide_eq_true (by omega),decide_eq_true h]at hd;cases hd
      ·omega
     rw [decide_eq_true h57];rfl
   | true =>
    obtain ⟨n,hn⟩:=ih (j+1) (by omega)
    refine⟨n+1,?_⟩
    unfold tQ at hd
    simp only [Bool.and_eq_true,decide_eq_true_eq]at hd
    have hstep:gu (SB r) (j:Int)=some (.go ((j+1:Nat):Int)):=by
     unfold gu
     rw [decide_eq_true (by rw [hsz];omega),cond_true,hc,ob_,decide_eq_false (by omega),cond_false,ob_,decide_eq_false (by omega),ob_,cond_false,eT (by omega)]
     rfl
    rw [iterN,hstep,ob_,Bool.true_and]
    exact hn
 obtain ⟨n,hn⟩:=hit r.length 0 (by omega)
 exact jd hn
theorem sS (r:List UInt8):sEq (SB r) (⟨#[]⟩:ByteArray)=r.isEmpty:=by
 cases r with
 | nil=>exact (ig _ _).2 rfl
 | cons b r =>
  cases h:sEq (SB (b::r)) (⟨#[]⟩:ByteArray)with
  | false=>rfl
  | true =>
   have:=congrArg ByteArray.size ((ig _ _).1 h)
   rw [fG]at this
   change _=0 at this
   simp at this
theorem KV (s:ByteArray) (p:UInt8->Bool):((List.range s.size).all λi=>p (dP s i))=s.data.toList.all p:=by
 rw [Bool.eq_iff_iff,List.all_eq_true,List.all_eq_true]
 constructor
 ·intro h b hb
  obtain ⟨i,hi,rfl⟩:=List.getElem_of_mem hb
  have:=h i (List.mem_range.2 (by rw [Go.Lib.size_eq];exact hi))
  simpa [dP,List.getD,List.getElem?_eq_getElem hi]using this
 ·intro h i hi
  have hi':i<s.data.toList.length:=by rw [<- Go.Lib.size_eq];exact List.mem_range.1 hi
  have:=h _ (List.getElem_mem hi')
  simpa [dP,List.getD,List.getElem?_eq_getElem hi']using this
theorem Lv:∀n:Fin 256,qz (⟨#[48,49,50,51,52,53,54,55,56,57]⟩:ByteArray) (UInt8.ofNat n.val)=tQ (UInt8.ofNat n.val):=by decide +kernel
theorem Kr (r:List UInt8) (hr:r.length<=1000):nQ (SB r) (⟨#[48,49,50,51,52,53,54,55,56,57]⟩:ByteArray)=some (r.all tQ):=by
 rw [Ep _ _ (by rw [fG];omega),KV]
 congr 1
 show r.all _=r.all tQ
 congr 1
 funext b
 have:=Lv ⟨b.toNat,b.toNat_lt⟩
 simpa using this
theorem num_two (l:List UInt8) (hl:l.length<=100000) (M:Int) (hM:M<=15):∃(n n':Int) (ok:Bool),pM (SB l) M=some (n,ok)/\o7 (SB l) M=some (n',ok)/\(ok=true->n'=n)/\Med n/\Med n':=by
 have med0:Med 0:=by unfold Med;omega
 have hsz:∀r:List UInt8,((SB r).size:Int)=(r.length:Int):=λr=>by rw [fG]
 unfold pM o7
 rw [trim_eq l (by omega),ob_,ob_,sS,hsz]
 generalize hr:qm l=r
 cases he:r.isEmpty with
 | true=>exact⟨0,0,false,rfl,rfl,(λh=>by cases h),med0,med0⟩
 | false =>
 simp only [cond_false]
 by_cases hlen:(r.length:Int)>M
 ·rw [decide_eq_true hlen]
  exact⟨0,0,false,rfl,rfl,(λh=>by cases h),med0,med0⟩
 ·rw [decide_eq_false hlen]
  simp only [cond_false]
  have hrl:r.length<=15:=by omega
  rw [Kr r (by omega),K6 r (by omega),ob_,ob_,ob_]
  match r,he,hr,hlen,hrl with
  | b::t,he,hr,hlen,hrl =>
  have hb0:tJ (SB (b::t)) 0=some b:=by
   have h00:=qO (SB (b::t)) 0 (by rw [fG];simp)
   rw [show ((0:Nat):Int)=0 from rfl]at h00
   rw [h00];rfl
  rw [hb0,ob_]
  cases hall:(b::t).all tQ with
  | false =>
   simp only [Bool.not_false,cond_true,cond_false]
   refine⟨0,0,false,?_,rfl,(λh=>by cases h),med0,med0⟩
   cases ((b.toNat:Int)==48)with
   | false=>rfl
   | true =>
    simp only [cond_true,ob_]
    cases sNe (SB l) (⟨#[48]⟩:ByteArray) <;> rfl
  | true =>
   simp only [Bool.not_true,cond_true,cond_false]
   obtain ⟨v,hv⟩:=zw (b::t) 0 hall
   have hvb:v<1000000000000000:=by
    have:=Lib.decFrom_lt _ _ _ hv
    have h2:(10:Nat) ^ (b::t).length<=10 ^ 15:=Nat.pow_le_pow_right (by decide) hrl
    omega
   have hdn:Lib.decNat (b::t)=some v:=by unfold Lib.decNat;exact hv
   have hbd:tQ b=true:=by simp only [List.all_cons,Bool.and_eq_true]at hall;exact hall.1
   have hb45:b≠45:=λe=>by rw [e]at hbd;exact absurd hbd (by decide)
   have hb43:b≠43:=λe=>by rw [e]at hbd;exact absurd hbd (by decide)
   obtain ⟨n,hn,hnm,hw⟩:∃n:Int,Lib.atoi l=some n/\Med n/\(Lib.itoa n=l↔¬(b.toNat=48/\l ≠ [48])):=by
    cases l with
    | nil=>simp [qm]at hr
    | cons c l' =>
     by_cases hc:c=45
     ·subst hc
      rw [show qm (45::l')=l' by simp [qm]]at hr
      subst hr
      refine⟨-(v:Int),by simp [Lib.atoi,hdn],by unfold Med;omega,?_⟩
      by_cases h48:b.toNat=48
      ·refine⟨λe => ?_,λk=>absurd ⟨h48,by simp⟩ k⟩
       exfalso
       unfold Lib.itoa at e
       by_cases hv0:v=0
       ·subst hv0
        rw [if_neg (by omega)]at e
        rw [show (-((0:Nat):Int)).toNat=0 from rfl,ddS (by decide)]at e
        simp only [List.cons.injEq]at e
        exact absurd e.2 (by simp)
       ·rw [if_pos (by omega)]at e
        simp only [List.cons.injEq,true_and]at e
        rw [show (-(v:Int)).natAbs=v by omega]at e
        exact Jj v hv0 b t e h48
      ·obtain ⟨v',e1,e2,e3⟩:=IU t.length (b::t) rfl hall (λb' l'' e=>by
        simp only [List.cons.injEq]at e
        rw [<- e.1];exact h48)
       rw [hv,so_]at e1
       subst e1
       refine⟨λ_ k=>h48 k.1,λ_ => ?_⟩
       unfold Lib.itoa
       rw [if_pos (by omega),show (-(v:Int)).natAbs=v by omega,e3]
     ·rw [show qm (c::l')=c::l' by simp [qm,hc]]at hr
      simp only [List.cons.injEq]at hr
      obtain ⟨rfl,rfl⟩:=hr
      have n1:(c==45)=false:=by rw [beq_eq_false_iff_ne];exact hb45
      have n2:(c==43)=false:=by rw [beq_eq_false_iff_ne];exact hb43
      refine⟨(v:Int),by simp [Lib.atoi,n1,n2,hdn],by unfold Med;omega,?_⟩
      have hi:Lib.itoa (v:Int)=Lib.decDigits v:=by unfold Lib.itoa;rw [if_neg (by omega)];rfl
      rw [hi]
      by_cases h48:c.toNat=48
      ·have hc48:c=48:=by
        have:=Ip c hbd
        rw [h48]at this
        exact this
       cases l' with
       | nil =>
        refine⟨λ_ k=>k.2 (by rw [hc48]),λ_ => ?_⟩
        have:v=0:=by
         simp only [Lib.decFrom,EI hbd,so_]at hv
         omega
        rw [this,ddS (by decide),hc48];rfl
       | cons x l'' =>
        refine⟨λe=>absurd e (dd_zero (by simp) h48 v),λk=>absurd ⟨h48,by simp⟩ k⟩
      ·obtain ⟨v',e1,e2,e3⟩:=IU l'.length (c::l') rfl hall (λb' l'' e=>by
        simp only [List.cons.injEq]at e
        rw [<- e.1];exact h48)
       rw [hv,so_]at e1
       subst e1
       exact⟨λ_ k=>h48 k.1,λ_=>e3⟩
   have hll:l.length<=16:=by
    cases l with
    | nil=>simp
    | cons c l' =>
     have h2:l'.length<=(qm (c::l')).length:=by
      by_cases hc:c=45
      ·simp [qm,hc]
      ·simp [qm,hc]
     rw [hr]at h2
     simp only [List.length_cons]at hrl h2 ⊢;omega
   have ha:strconv_Atoi (SB l)=some n:=by
    show GX (SB l)=some n
    unfold GX
    rw [if_pos (by rw [fG];omega)];exact hn
   have h48e:((b.toNat:Int)==48)=decide (b.toNat=48):=by
    rw [Bool.eq_iff_iff];simp;omega
   have hsn:sNe (SB l) (⟨#[48]⟩:ByteArray)=decide (l ≠ [48]):=by
    show (!sEq (SB l) (⟨#[48]⟩:ByteArray))=_
    rw [show sEq (SB l) (⟨#[48]⟩:ByteArray)=decide (l=[48]) by
     rw [Bool.eq_iff_iff,ig]
     simp only [decide_eq_true_eq]
     exact⟨λh=>ES (m:=[48]) h,λh=>by rw [h]⟩]
    by_cases h:l=[48] <;> simp [h]
   have hse:sEq (SB (Lib.itoa n)) (SB l)=decide (Lib.itoa n=l):=by
    rw [Bool.eq_iff_iff,ig]
    simp only [decide_eq_true_eq]
    exact⟨λh=>ES h,λh=>by rw [h]⟩
   rw [ha,ob_,ob_,EE hnm,ob_,ob_,hse,h48e,hsn]
   by_cases hbad:b.toNat=48/\l ≠ [48]
   ·rw [decide_eq_true hbad.1,decide_eq_true hbad.2,decide_eq_false (λe=>hw.1 e hbad)]
    exact⟨0,n,false,rfl,rfl,(λh=>by cases h),med0,hnm⟩
   ·rw [decide_eq_true (hw.2 hbad)]
    refine⟨n,n,true,?_,rfl,λ_=>rfl,hnm,hnm⟩
    by_cases h48:b.toNat=48
    ·have:¬l ≠ [48]:=λh=>hbad ⟨h48,h⟩
     rw [decide_eq_true h48,decide_eq_false this];rfl
    ·rw [decide_eq_false h48];rfl
theorem Ca (v:ByteArray) (l:List ByteArray) (hl:l.length<=1000000):∃b,cz l v=some b:=by
 have key:∀(xs:List ByteArray) (k:Nat),∃o:Ctl Unit Int,forR (λk x s=>bZ v k x s) xs k ()=some o/\(o = .go ()\/∃n,o = .ret n):=by
  intro xs
  induction xs with
  | nil=>exact λk=>⟨_,rfl,.inl rfl⟩
  | cons x xs ih =>
   intro k
   rw [forR]
   unfold bZ
   cases sEq v x with
   | true=>exact⟨_,rfl,.inr ⟨_,rfl⟩⟩
   | false=>exact ih (k+1)
 obtain ⟨o,ho,hc⟩:=key l 0
 unfold cz bg
 rw [fQ (by omega),ho,ob_]
 rcases hc with rfl|⟨n,rfl⟩ <;> exact⟨_,rfl⟩
theorem xx (c:UInt8):∀l:List UInt8,(spl c l).length<=l.length+1/\∀w∈spl c l,w.length<=l.length
 | []=>⟨by simp [spl],λw hw=>by simp [spl]at hw;subst hw;simp⟩
 | b::l=>by
  obtain ⟨h1,h2⟩:=xx c l
  unfold spl
  split
  ·refine⟨by simp only [List.length_cons];omega,λw hw => ?_⟩
   rcases List.mem_cons.1 hw with rfl|hw
   ·simp
   ·have:=h2 w hw
    simp only [List.length_cons];omega
  ·split
   ·exact⟨by simp,λw hw=>by simp at hw;subst hw;simp⟩
   ·rename_i x r hr
    rw [hr]at h1 h2
    refine⟨by simp only [List.length_cons]at h1 ⊢;omega,λw hw => ?_⟩
    rcases List.mem_cons.1 hw with rfl|hw
    ·have:=h2 x (by simp)
     simp only [List.length_cons];omega
    ·have:=h2 w (by simp [hw])
     simp only [List.length_cons];omega
theorem KZ (x:List UInt8) (hx:x.length<=100000):∃b,lZ (SB x)=some ((spl 32 x).map SB,b):=by
 have hs:=FV 32 (s:=SB x) (by rw [fG];omega)
 obtain ⟨b,hb⟩:=Ca (⟨#[]⟩:ByteArray) ((spl 32 x).map SB) (by rw [List.length_map];have:=(xx 32 x).1;omega)
 unfold lZ
 rw [hs,ob_]
 rw [show (List.map (λl=>(⟨l.toArray⟩:ByteArray)) (spl 32 (SB x).data.toList))=(spl 32 x).map SB from rfl,hb,ob_]
 exact⟨_,rfl⟩
theorem sj (l:List UInt8) (a b:Nat) (h1:a<=b) (h2:b<=l.length):mU (SB l) (a:Int) (b:Int)=some (SB ((l.take b).drop a)):=by
 unfold mU
 rw [if_pos (by rw [fG];omega),Int.toNat_natCast,Int.toNat_natCast]
 congr 1
 apply ByteArray.ext
 apply Array.ext'
 rw [ByteArray.data_extract,Array.toList_extract]
 show l.extract a b=(l.take b).drop a
 rw [List.drop_take]
theorem LY {c:UInt8}:∀{l:List UInt8},c∉l->Lib.indexByte l c = -1
 | [],_=>rfl
 | b::l,h=>by
  have hb:(b==c)=false:=by rw [beq_eq_false_iff_ne];exact λe=>h (by simp [e])
  have ih:=LY (c:=c) (l:=l) (λe=>h (List.mem_cons_of_mem _ e))
  rw [Lib.indexByte,hb,ih];rfl
theorem Jv {c:UInt8}:∀{x:List UInt8} (y:List UInt8),c∉x->Lib.indexByte (x++c::y) c=(x.length:Int)
 | [],y,_=>by
  show Lib.indexByte (c::y) c=0
  rw [Lib.indexByte,beq_self_eq_true];rfl
 | b::x,y,h=>by
  have hb:(b==c)=false:=by rw [beq_eq_false_iff_ne];exact λe=>h (by simp [e])
  have ih:=Jv (c:=c) (x:=x) y (λe=>h (List.mem_cons_of_mem _ e))
  show Lib.indexByte (b::(x++c::y)) c=_
  rw [Lib.indexByte,hb,ih]
  have:(((x.length:Nat):Int) == -1)=false:=by rw [beq_eq_false_iff_ne];omega
  simp only [this,Bool.false_eq_true,if_false,List.length_cons]
  omega
theorem Ml (l:List UInt8):dR (SB l) (⟨#[10]⟩:ByteArray)=some (Lib.indexByte l 10):=by
 unfold dR
 have h0:(((⟨#[10]⟩:ByteArray).size:Int)==0)=false:=rfl
 have h1:(((⟨#[10]⟩:ByteArray).size:Int)==1)=true:=rfl
 have h2:tJ (⟨#[10]⟩:ByteArray) 0=some 10:=rfl
 rw [h0,cond_false,ob_,h1,h2]
 cases hs:sEq (⟨#[10]⟩:ByteArray) (SB l)with
 | true =>
  have : [10]=l:=ES (l:=[10]) ((ig _ _).1 hs)
  subst this
  rfl
 | false=>rfl
theorem cut_no {l:List UInt8} (h:(10:UInt8)∉l):strings_Cut (SB l) (⟨#[10]⟩:ByteArray)=some (SB l,(⟨#[]⟩:ByteArray),false):=by
 unfold strings_Cut eP
 rw [Ml,LY h];rfl
theorem cut_yes {x:List UInt8} (y:List UInt8) (h:(10:UInt8)∉x) (hl:x.length+y.length<=1000000):strings_Cut (SB (x++10::y)) (⟨#[10]⟩:ByteArray)=some (SB x,SB y,true):=by
 have hlen:(x++10::y).length=x.length+1+y.length:=by simp;omega
 have e1:=sj (x++10::y) 0 x.length (by omega) (by rw [hlen];omega)
 have e2:=sj (x++10::y) (x.length+1) (x++10::y).length (by rw [hlen];omega) (Nat.le_refl _)
 rw [List.take_length]at e2
 have e3:((x++10::y).take x.length).drop 0=x:=by simp
 have e4:(x++10::y).drop (x.length+1)=y:=by
  rw [List.drop_append,List.drop_of_length_le (by omega),show x.length+1-x.length=1 by omega];rfl
 rw [e3]at e1
 rw [e4]at e2
 unfold strings_Cut eP
 rw [Ml,Jv y h,ob_,decide_eq_true (by omega),cond_true]
 rw [show ((0:Nat):Int)=0 from rfl]at e1
 have hs1:((⟨#[10]⟩:ByteArray).size:Int)=1:=rfl
 have hw:w64 (((x.length:Nat):Int)+((⟨#[10]⟩:ByteArray).size:Int))=((x.length+1:Nat):Int):=by rw [hs1,eT (by omega)];rfl
 rw [e1,ob_,hw]
 rw [show ((SB (x++10::y)).size:Int)=(((x++10::y).length:Nat):Int) by rw [fG],e2]
 rfl
theorem M0 (l:List UInt8):(10:UInt8)∉l\/∃x y,l=x++10::y/\(10:UInt8)∉x:=by
 by_cases h:(10:UInt8)∈l
 ·right
  induction l with
  | nil=>cases h
  | cons b l ih =>
   by_cases hb:b=10
   ·exact⟨[],l,by rw [hb];rfl,by simp⟩
   ·have:(10:UInt8)∈l:=by
     rcases List.mem_cons.1 h with h|h
     ·exact absurd h.symm hb
     ·exact h
    obtain ⟨x,y,e,hx⟩:=ih this
    refine⟨b::x,y,by rw [e];rfl,λhm => ?_⟩
    rcases List.mem_cons.1 hm with hm|hm
    ·exact hb hm.symm
    ·exact hx hm
 ·exact .inl h
end Go.Proofs.YtljhfffghjclfaaGreatDoor.Law

open Go Go.Eng
namespace Go.Proofs.YtljhfffghjclfaaGreatDoor.Law
set_option linter.unusedVariables false
set_option linter.unusedSimpArgs false
def jY (n lo hi:Int):Bool:=decide (n<lo)||decide (n>hi)
theorem sG (n lo hi:Int):dx n lo hi=some (jY n lo hi):=by
 unfold dx jY
 cases decide (n<lo) <;> cases decide (n>hi) <;> rfl
theorem Gp (n lo hi:Int):mI n lo hi=some (!jY n lo hi):=by
 unfold mI jY
 have e1:decide (lo<=n) = !decide (n<lo):=by rw [Bool.eq_iff_iff];simp
 have e2:decide (n<=hi) = !decide (n>hi):=by rw [Bool.eq_iff_iff];simp
 rw [e1,e2]
 cases decide (n<lo) <;> cases decide (n>hi) <;> rfl
theorem El {n lo hi:Int} (h:jY n lo hi=false):lo<=n/\n<=hi:=by
 simp only [jY,Bool.or_eq_false_iff,decide_eq_false_iff_not]at h;omega
def zB (r:Rect):Bool:=jY r.X (-100000) 100000||jY r.Y (-100000) 100000||jY r.W 1 (w64 (100000-r.X))||jY r.H 1 (w64 (100000-r.Y))
theorem EA (r:Rect):jv r=some (bif zB r then 1 else 0):=by
 unfold jv zB
 simp only [sG,ob_]
 cases jY r.X (-100000) 100000 <;> cases jY r.Y (-100000) 100000 <;> cases jY r.W 1 (w64 (100000-r.X)) <;> cases jY r.H 1 (w64 (100000-r.Y)) <;> rfl
theorem Eo (r:Rect):lm r=some (bif zB r then 1 else 0):=by
 unfold lm zB
 simp only [Gp,ob_,Bool.not_not]
 cases jY r.X (-100000) 100000 <;> cases jY r.Y (-100000) 100000 <;> cases jY r.W 1 (w64 (100000-r.X)) <;> cases jY r.H 1 (w64 (100000-r.Y)) <;> rfl
end Go.Proofs.YtljhfffghjclfaaGreatDoor.Law

open Go Go.Eng
namespace Go.Proofs.YtljhfffghjclfaaGreatDoor.Law
set_option linter.unusedVariables false
set_option linter.unusedSimpArgs false
end Go.Proofs.YtljhfffghjclfaaGreatDoor.Law

open Go Go.Eng
namespace Go.Proofs.YtljhfffghjclfaaGreatDoor.Law
set_option linter.unusedVariables false
set_option linter.unusedSimpArgs false
end Go.Proofs.YtljhfffghjclfaaGreatDoor.Law

open Go Go.Eng
namespace Go.Proofs.YtljhfffghjclfaaGreatDoor.Law
set_option linter.unusedVariables false
set_option linter.unusedSimpArgs false
section
variable {is:Int->Int->Option Bool} {xs ys:List Int} {s13:(List Rect)×(List Rect)×Int} {y y2:Int} {j:Nat}
end
end Go.Proofs.YtljhfffghjclfaaGreatDoor.Law

open Go Go.Eng
namespace Go.Proofs.YtljhfffghjclfaaGreatDoor.Law
set_option linter.unusedVariables false
set_option linter.unusedSimpArgs false
end Go.Proofs.YtljhfffghjclfaaGreatDoor.Law

open Go Go.Eng
namespace Go.Proofs.YtljhfffghjclfaaGreatDoor.Law
set_option linter.unusedVariables false
set_option linter.unusedSimpArgs false
end Go.Proofs.YtljhfffghjclfaaGreatDoor.Law

open Go Go.Eng
namespace Go.Proofs.YtljhfffghjclfaaGreatDoor.Law
set_option linter.unusedVariables false
set_option linter.unusedSimpArgs false
theorem KJ {r:Rect} (h:zB r=false):Fine r:=by
 unfold zB at h
 simp only [Bool.or_eq_false_iff]at h
 obtain ⟨⟨⟨h1,h2⟩,h3⟩,h4⟩:=h
 have h1:=El h1
 have h2:=El h2
 rw [eT (by omega)]at h3 h4
 have h3:=El h3
 have h4:=El h4
 exact⟨by omega,by omega,by omega,by omega,by omega⟩
def has1 (x y:Int) (r:Rect):Bool:=(decide (r.X<=x)&&decide (x<r.X+r.W))&&(decide (r.Y<=y)&&decide (y<r.Y+r.H))
end Go.Proofs.YtljhfffghjclfaaGreatDoor.Law

open Go Go.Eng
namespace Go.Proofs.YtljhfffghjclfaaGreatDoor.Law
set_option linter.unusedVariables false
set_option linter.unusedSimpArgs false
def sQ (e:Int):Ctl Unit Int:=bif e==0 then .go ()else .ret e
theorem Hd {α:Type} {l:List α} {k:Nat} {x:α} (h:l[k]? = some x) (hk:0<k) (hl:l.length<=1000000000):∃y,idx l (w64 ((k:Int)-1))=some y/\l[k-1]? = some y:=by
 have hlt:k<l.length:=(List.getElem?_eq_some_iff.1 h).1
 rw [eT (by omega),show (k:Int)-1=((k-1:Nat):Int) by omega,Et]
 exact⟨l[k-1],List.getElem?_eq_getElem (by omega),List.getElem?_eq_getElem (by omega)⟩
end Go.Proofs.YtljhfffghjclfaaGreatDoor.Law

open Go Go.Eng
namespace Go.Proofs.YtljhfffghjclfaaGreatDoor.Law
set_option linter.unusedVariables false
set_option linter.unusedSimpArgs false
def Cn (n:Int):Bool := !jY n 0 345686399999
theorem E9 (n:Int):kT n=some (Cn n):=by
 unfold kT Cn jY
 have e1:decide (n>=0) = !decide (n<0):=by rw [Bool.eq_iff_iff];simp
 have e2:decide (n<345686400000) = !decide (n>345686399999):=by rw [Bool.eq_iff_iff];simp;omega
 rw [e1,e2]
 cases decide (n<0) <;> cases decide (n>345686399999) <;> rfl
def or0 (a b:Int):Int:=bif a==0 then b else a
theorem KY (a b:ByteArray):(lt a b/\zZ a b = -1)\/(a=b/\zZ a b=0)\/(lt b a/\zZ a b=1):=by
 have key:∀(x y:List UInt8),(x<y/\Lib.compareBytes x y = -1)\/(x=y/\Lib.compareBytes x y=0)\/(y<x/\Lib.compareBytes x y=1):=by
  intro x
  induction x with
  | nil=>intro y;cases y with
   | nil=>exact .inr (.inl ⟨rfl,rfl⟩)
   | cons b y=>exact .inl ⟨by simp,rfl⟩
  | cons a x ih=>intro y;cases y with
   | nil=>exact .inr (.inr ⟨by simp,rfl⟩)
   | cons b y =>
    simp only [Lib.compareBytes,List.cons_lt_cons_iff,List.cons.injEq]
    by_cases h1:a<b
    ·exact .inl ⟨.inl h1,by rw [if_pos h1]⟩
    ·by_cases h2:b<a
     ·exact .inr (.inr ⟨.inl h2,by rw [if_neg h1,if_pos h2]⟩)
     ·have e:a=b:=UInt8.le_antisymm (UInt8.not_lt.1 h2) (UInt8.not_lt.1 h1)
      subst e
      rw [if_neg h1,if_neg h1]
      rcases ih y with⟨h,k⟩|⟨h,k⟩|⟨h,k⟩
      ·exact .inl ⟨.inr ⟨rfl,h⟩,k⟩
      ·exact .inr (.inl ⟨⟨rfl,h⟩,k⟩)
      ·exact .inr (.inr ⟨.inr ⟨rfl,h⟩,k⟩)
 unfold zZ lt
 rw [toL,toL]
 rcases key a.data.toList b.data.toList with⟨h,k⟩|⟨h,k⟩|⟨h,k⟩
 ·exact .inl ⟨h,k⟩
 ·exact .inr (.inl ⟨xB (by rw [toL,toL];exact h),k⟩)
 ·exact .inr (.inr ⟨h,k⟩)
theorem A7 (a b:ByteArray):strings_Compare a b=some (zZ a b):=rfl
def KI (a b:Int):Int:=if a<b then -1 else if a>b then 1 else 0
theorem KC (a b:Int):cmp_Compare_int a b=some (KI a b):=by
 have e:∀x:Int,(x != x)=false:=by simp
 unfold cmp_Compare_int cmp_isNaN_int KI
 simp only [e,ob_,cond_false]
 by_cases h:a<b
 ·simp only [decide_eq_true h,cond_true,if_pos h]
 ·by_cases h2:a>b
  ·simp only [decide_eq_false h,decide_eq_true h2,cond_true,cond_false,if_neg h,if_pos h2]
  ·simp only [decide_eq_false h,decide_eq_false h2,cond_false,if_neg h,if_neg h2]
theorem or2_eq (a b:Int):pF [a,b]=some (or0 a b):=by
 unfold pF or0
 rw [fQ (by simp)]
 simp only [forR,nK]
 cases ha:a==0 with
 | false =>
  have:(a != 0)=true:=by simp [bne,ha]
  simp only [this,cond_true,cond_false,ob_,thenC]
 | true =>
  have:(a != 0)=false:=by simp [bne,ha]
  simp only [this,cond_true,cond_false,ob_]
  cases hb:b==0 with
  | false =>
   have:(b != 0)=true:=by simp [bne,hb]
   simp only [this,cond_true,ob_,thenC]
  | true =>
   have:(b != 0)=false:=by simp [bne,hb]
   simp only [this,cond_false,ob_,thenC]
   rw [eq_of_beq hb]
theorem inR_ok {α:Type} {i:Int} {xs:List α} (h0:0<=i) (h1:i<xs.length):inR i xs=some ():=by unfold inR;rw [if_pos ⟨h0,by omega⟩]
end Go.Proofs.YtljhfffghjclfaaGreatDoor.Law

open Go Go.Eng
namespace Go.Proofs.YtljhfffghjclfaaGreatDoor.Law
set_option linter.unusedVariables false
set_option linter.unusedSimpArgs false
theorem or0_neg {a b:Int}:or0 a b<0↔a<0\/a=0/\b<0:=by
 unfold or0
 by_cases h:a=0
 ·subst h;simp
 ·have:(a==0)=false:=by simpa using h
  rw [this,cond_false];omega
theorem MX {a b:Int}:KI a b<0↔a<b:=by
 unfold KI
 split
 ·omega
 ·split <;> omega
theorem J3 {a b:Int}:KI a b=0↔a=b:=by
 unfold KI
 split
 ·omega
 ·split <;> omega
theorem FI {a b:ByteArray}:zZ a b<0↔lt a b:=by
 rcases KY a b with⟨h,e⟩|⟨h,e⟩|⟨h,e⟩
 ·rw [e];exact⟨λ_=>h,λ_=>by decide⟩
 ·rw [e,h];exact⟨λk=>absurd k (by decide),λk=>absurd k (BX _)⟩
 ·rw [e];exact⟨λk=>absurd k (by decide),λk=>absurd (lt_trans k h) (BX _)⟩
end Go.Proofs.YtljhfffghjclfaaGreatDoor.Law

open Go Go.Eng
namespace Go.Proofs.YtljhfffghjclfaaGreatDoor.Law
set_option linter.unusedVariables false
set_option linter.unusedSimpArgs false
theorem sort12 {α:Type} {cmp:α->α->Option Int} (c:α->α->Int) {S:List α->Option (List α)} (hS:∀x,S x=(jP (IntKind.u64.wrap (x.length:Int))).bind λr_3=>(Ht cmp x 0 (x.length:Int) r_3).bind λr_5=>(qR r_5 x).bind λ_=>some r_5)
  {xs:List α} (hl:xs.length<=12) (hF:∀a∈xs,∀b∈xs,cmp a b=some (c a b)) (has:∀a b,c a b<0->¬c b a<0) (hn:∀a b d,¬c a b<0->¬c b d<0->¬c a d<0) :
  ∃r,S xs=some r/\r.Perm xs/\r.Pairwise (λa b=>¬c b a<0):=by
 obtain ⟨k,hk⟩:=len_ok xs.length hl
 obtain ⟨s,h1,h2,h3⟩:=pdq_ok (cmp:=cmp) (le:=λa b=>¬c b a<0) (p:=(· ∈ xs)) (λa b ha hb=>⟨c a b,hF a ha b hb,λh=>has a b h,λh=>h⟩) (λa b d h k=>hn d b a k h) xs hl (λx hx=>hx) k
 refine⟨s,?_,h2,h3⟩
 have hsm:qR s xs=some ():=by unfold qR;rw [if_pos h2.length_eq]
 rw [hS,hk,ob_,h1,ob_,hsm];rfl
end Go.Proofs.YtljhfffghjclfaaGreatDoor.Law

open Go Go.Eng
namespace Go.Proofs.YtljhfffghjclfaaGreatDoor.Law
set_option linter.unusedVariables false
set_option linter.unusedSimpArgs false
theorem I4 {α σ ρ:Type} {body:Nat->α->σ->Option (Ctl σ ρ)} (I:Nat->σ->Prop) (xs:List α):∀(l:List α) (k:Nat) (s:σ),xs.drop k=l->k<=xs.length->(∀k x s,xs[k]? = some x->I k s->∃s',body k x s=some (.go s')/\I (k+1) s')->I k s->∃s',forR body l k s=some (.go s')/\I xs.length s'
 | [],k,s,hd,hk,h,hi=>by
  have:=List.drop_eq_nil_iff.1 hd
  obtain rfl:k=xs.length:=by omega
  exact⟨s,rfl,hi⟩
 | x::l,k,s,hd,hk,h,hi=>by
  obtain ⟨s1,h1,h2⟩:=h k x s (Fa hd) hi
  obtain ⟨s2,h3,h4⟩:=I4 I xs l (k+1) s1 (bn hd) (by have:=zS hd;omega) h h2
  exact⟨s2,by rw [forR,h1,ob_];exact h3,h4⟩
theorem JS {α σ ρ:Type} {body:Nat->α->σ->Option (Ctl σ ρ)} (I:Nat->σ->Prop) {xs:List α} {s:σ} (hl:xs.length<=1000000000000) (h:∀k x s,xs[k]? = some x->I k s->∃s',body k x s=some (.go s')/\I (k+1) s') (h0:I 0 s):∃s',forL xs s body=some (.go s')/\I xs.length s':=by
 rw [fQ hl]
 exact I4 I xs xs 0 s rfl (Nat.zero_le _) h h0
theorem lM {a b:ByteArray} (h:sLt a b=true):lt a b:=(EW a b).1 h
end Go.Proofs.YtljhfffghjclfaaGreatDoor.Law

open Go Go.Eng
namespace Go.Proofs.YtljhfffghjclfaaGreatDoor.Law
set_option linter.unusedVariables false
set_option linter.unusedSimpArgs false
end Go.Proofs.YtljhfffghjclfaaGreatDoor.Law

open Go Go.Eng
namespace Go.Proofs.YtljhfffghjclfaaGreatDoor.Law
set_option linter.unusedVariables false
set_option linter.unusedSimpArgs false
end Go.Proofs.YtljhfffghjclfaaGreatDoor.Law

open Go Go.Eng
namespace Go.Proofs.YtljhfffghjclfaaGreatDoor.Law
set_option linter.unusedVariables false
set_option linter.unusedSimpArgs false
end Go.Proofs.YtljhfffghjclfaaGreatDoor.Law

open Go Go.Eng
namespace Go.Proofs.YtljhfffghjclfaaGreatDoor.Law
set_option linter.unusedVariables false
set_option linter.unusedSimpArgs false
end Go.Proofs.YtljhfffghjclfaaGreatDoor.Law

open Go Go.Eng
namespace Go.Proofs.YtljhfffghjclfaaGreatDoor.Law
set_option linter.unusedVariables false
set_option linter.unusedSimpArgs false
end Go.Proofs.YtljhfffghjclfaaGreatDoor.Law

open Go Go.Eng
namespace Go.Proofs.YtljhfffghjclfaaGreatDoor.Law
set_option linter.unusedVariables false
set_option linter.unusedSimpArgs false
def b01 (b:Bool):Int:=bif b then 1 else 0
def ind (r:Rect) (x y:Int):Int:=b01 (has1 x y r)
end Go.Proofs.YtljhfffghjclfaaGreatDoor.Law

open Go Go.Eng
namespace Go.Proofs.YtljhfffghjclfaaGreatDoor.Law
set_option linter.unusedVariables false
set_option linter.unusedSimpArgs false
end Go.Proofs.YtljhfffghjclfaaGreatDoor.Law

open Go Go.Eng
namespace Go.Proofs.YtljhfffghjclfaaGreatDoor.Law
set_option linter.unusedVariables false
set_option linter.unusedSimpArgs false
end Go.Proofs.YtljhfffghjclfaaGreatDoor.Law

open Go Go.Eng
namespace Go.Proofs.YtljhfffghjclfaaGreatDoor.Law
set_option linter.unusedVariables false
set_option linter.unusedSimpArgs false
end Go.Proofs.YtljhfffghjclfaaGreatDoor.Law

open Go Go.Eng
namespace Go.Proofs.YtljhfffghjclfaaGreatDoor.Law
set_option linter.unusedVariables false
set_option linter.unusedSimpArgs false
end Go.Proofs.YtljhfffghjclfaaGreatDoor.Law

open Go Go.Eng
namespace Go.Proofs.YtljhfffghjclfaaGreatDoor.Law
set_option linter.unusedVariables false
set_option linter.unusedSimpArgs false
theorem He (s:Stream) {b:Int} (hs:Ok s b) (hb:b<=900000):∃r s',dA s=some (r,s')/\Fine r/\(-2<=r.X/\r.X<=8 /\ -2<=r.Y/\r.Y<=8/\r.W<=5/\r.H<=5)/\Ok s' (b+4):=by
 unfold dA
 obtain ⟨X,q1,c1,c2,c3,c4⟩:=gX s (-2) 8 hs (by omega) (by decide) (by decide) (by decide)
 obtain ⟨Y,q2,d1,d2,d3,d4⟩:=gX q1 (-2) 8 c4 (by omega) (by decide) (by decide) (by decide)
 obtain ⟨U,q3,e1,e2,e3,e4⟩:=gX q2 1 5 d4 (by omega) (by decide) (by decide) (by decide)
 obtain ⟨V,q4,f1,f2,f3,f4⟩:=gX q3 1 5 e4 (by omega) (by decide) (by decide) (by decide)
 simp only [c1,d1,e1,f1,ob_]
 refine⟨_,_,rfl,?_,by simp only [];omega,f4.mono (by omega)⟩
 unfold Fine
 simp only [];omega
end Go.Proofs.YtljhfffghjclfaaGreatDoor.Law

open Go Go.Eng
namespace Go.Proofs.YtljhfffghjclfaaGreatDoor.Law
set_option linter.unusedVariables false
set_option linter.unusedSimpArgs false
def MS {σ ρ:Type} (s:σ) (body:σ->Option (Ctl σ ρ)):Option (Ctl σ ρ):=iterN body 300 s
def Le {α:Type} (a b:Option α):Prop:=∀r,a=some r->b=some r
theorem Le.refl {α:Type} (a:Option α):Le a a:=λ_ h=>h
theorem Le.bind {α β:Type} {a b:Option α} {f g:α->Option β} (h:Le a b) (k:∀x,Le (f x) (g x)):Le (a.bind f) (b.bind g):=λr e=>by
 obtain ⟨x,h1,h2⟩:=Option.bind_eq_some_iff.1 e
 rw [h x h1];exact k x r h2
theorem Le.cond {α:Type} {a b c d:Option α} {t:Bool} (h:Le a c) (k:Le b d):Le (bif t then a else b) (bif t then c else d):=by
 cases t
 ·exact k
 ·exact h
theorem Le.thenC {σ ρ τ:Type} {o:Ctl σ ρ} {f f':σ->Option τ} {g g':ρ->Option τ} (h:∀x,Le (f x) (f' x)) (k:∀x,Le (g x) (g' x)):Le (Go.Eng.thenC o f g) (Go.Eng.thenC o f' g'):=by
 cases o
 ·exact h _
 ·exact Le.refl _
 ·exact k _
theorem Le.forR {α σ ρ:Type} {b b':Nat->α->σ->Option (Ctl σ ρ)} (h:∀k x s,Le (b k x s) (b' k x s)):∀(xs:List α) (k:Nat) (s:σ),Le (Go.Eng.forR b xs k s) (Go.Eng.forR b' xs k s)
 | [],k,s=>Le.refl _
 | x::xs,k,s=>Le.bind (h k x s) (λc=>by
   cases c with
   | go s'=>exact Le.forR h xs _ _
   | brk s'=>exact Le.refl _
   | ret r=>exact Le.refl _)
theorem Le.forL {α σ ρ:Type} {xs:List α} {s:σ} {b b':Nat->α->σ->Option (Ctl σ ρ)} (h:∀k x s,Le (b k x s) (b' k x s)):Le (Go.Eng.forL xs s b) (Go.Eng.forL xs s b'):=by
 unfold Go.Eng.forL
 split
 ·exact Le.forR h xs 0 s
 ·exact Le.refl _
theorem Le.iterN {σ ρ:Type} {b b':σ->Option (Ctl σ ρ)} (h:∀s,Le (b s) (b' s)):∀(n:Nat) (s:σ),Le (Go.Eng.iterN b n s) (Go.Eng.iterN b' n s)
 | 0,s=>Le.refl _
 | n+1,s=>Le.bind (h s) (λc=>by
   cases c with
   | go s'=>exact Le.iterN h n s'
   | brk s'=>exact Le.refl _
   | ret r=>exact Le.refl _)
theorem Le.loop {σ ρ:Type} {s:σ} {b b':σ->Option (Ctl σ ρ)} (h:∀s,Le (b s) (b' s)):Le (MS s b) (l8 s b'):=λr e=>jd (Le.iterN h _ _ r e)
end Go.Proofs.YtljhfffghjclfaaGreatDoor.Law

open Go Go.Eng
namespace Go.Proofs.YtljhfffghjclfaaGreatDoor.Law
set_option linter.unusedVariables false
set_option linter.unusedSimpArgs false
set_option maxRecDepth 100000
def nD (s_1:ByteArray):Option (Bool) :=
 (MS 0 (λs=>iX s_1 s)).bind λo_10=>thenC o_10 (λs_7=>(bif (sNe s_1 (⟨#[]⟩:ByteArray))then some (decide ((s_1.size:Int)<=40))else some false).bind λv_30=>some v_30) (λr=>some r)
theorem sP (s_1:ByteArray):Le (nD s_1) (kit_IsKey s_1):=by
 unfold nD kit_IsKey
 repeat' (with_reducible first | exact Le.refl _ | refine Le.loop (λ_ => ?_) | refine Le.forL (λ_ _ _ => ?_) | refine Le.thenC (λ_ => ?_) (λ_ => ?_) | refine Le.cond ?_ ?_ | refine Le.bind ?_ (λ_ => ?_))
def lg (a_1:Alert) (k_4:Nat) (x_6:ByteArray) (s_9:Unit):Option (Ctl (Unit) (Int)) :=
 (nD x_6).bind λr_14=>bif (!r_14)then some (.ret 5)else (bif (decide ((k_4:Int)>0))then (idx a_1.Refs (w64 ((k_4:Int)-1))).bind λy_20=>some (sLe x_6 y_20)else some false).bind λv_17=>bif v_17 then some (.ret 7)else bif (sEq x_6 a_1.Id)then some (.ret 14)else some (.go ())
theorem tN (a_1:Alert) (k_4:Nat) (x_6:ByteArray) (s_9:Unit):Le (lg a_1 k_4 x_6 s_9) (dS a_1 k_4 x_6 s_9):=by
 unfold lg dS
 repeat' (with_reducible first | exact Le.refl _ | exact sP _ | refine Le.loop (λ_ => ?_) | refine Le.forL (λ_ _ _ => ?_) | refine Le.thenC (λ_ => ?_) (λ_ => ?_) | refine Le.cond ?_ ?_ | refine Le.bind ?_ (λ_ => ?_))
def nz (a_1:Alert):Option (Int) :=
 bif (decide ((a_1.Refs.length:Int)>20))then some 2 else (forL a_1.Refs () (λk x s=>lg a_1 k x s)).bind λo_12=>thenC o_12 (λs_9=>bif (!((a_1.Kind==1)==((a_1.Refs.length:Int)==0)))then some 3 else some 0) (λr=>some r)
theorem wG (a_1:Alert):Le (nz a_1) (gP a_1):=by
 unfold nz gP
 repeat' (with_reducible first | exact Le.refl _ | exact tN _ _ _ _ | refine Le.loop (λ_ => ?_) | refine Le.forL (λ_ _ _ => ?_) | refine Le.thenC (λ_ => ?_) (λ_ => ?_) | refine Le.cond ?_ ?_ | refine Le.bind ?_ (λ_ => ?_))
def sN (s_1:ByteArray):Option (Bool) :=
 (MS 0 (λs=>eQ s_1 s)).bind λo_10=>thenC o_10 (λs_7=>((dK s_1).bind λr_23=>bif r_23 then (mF s_1 (⟨#[32]⟩:ByteArray)).bind λr_26=>bif (sEq r_26 s_1)then (strings_Contains s_1 (⟨#[32,32]⟩:ByteArray)).bind λr_29=>some (!r_29)else some false else some false).bind λv_21=>some v_21) (λr=>some r)
theorem Ac (s_1:ByteArray):Le (sN s_1) (kit_IsPlain s_1):=by
 unfold sN kit_IsPlain
 repeat' (with_reducible first | exact Le.refl _ | refine Le.loop (λ_ => ?_) | refine Le.forL (λ_ _ _ => ?_) | refine Le.thenC (λ_ => ?_) (λ_ => ?_) | refine Le.cond ?_ ?_ | refine Le.bind ?_ (λ_ => ?_))
def mM (a_1:Alert):Option (Int) :=
 ((nD a_1.Id).bind λr_5=>bif (!r_5)then some true else (nD a_1.Sender).bind λr_8=>some (!r_8)).bind λv_3=>bif v_3 then some 5 else (dx a_1.Kind 1 3).bind λr_11=>bif r_11 then some 4 else (nz a_1).bind λr_14=>bif (r_14 != 0)then some r_14 else ((kT a_1.At).bind λr_19=>bif (!r_19)then some true else (dx a_1.Until (w64 (a_1.At+1)) (w64 (a_1.At+2592000000))).bind λr_22=>bif r_22 then some true else (dx a_1.Weight 1 9).bind λr_25=>some r_25).bind λv_17=>bif v_17 then some 1 else bif (decide ((a_1.Areas.length:Int)>20))then some 2 else (forL a_1.Areas () (λk x s=>eB k x s)).bind λo_37=>thenC o_37 (λs_34=>bif (!((a_1.Kind==3)==((a_1.Areas.length:Int)==0)))then some 3 else bif (decide ((a_1.Text.size:Int)>500))then some 2 else ((sN a_1.Text).bind λr_47=>bif (!r_47)then some true else bif (sEq a_1.Text (⟨#[]⟩:ByteArray))then some (!(a_1.Kind==3))else some false).bind λv_45=>bif v_45 then some 3 else some 0) (λr=>some r)
theorem vO (a_1:Alert):Le (mM a_1) (fV a_1):=by
 unfold mM fV
 repeat' (with_reducible first | exact Le.refl _ | exact sP _ | exact wG _ | exact Ac _ | refine Le.loop (λ_ => ?_) | refine Le.forL (λ_ _ _ => ?_) | refine Le.thenC (λ_ => ?_) (λ_ => ?_) | refine Le.cond ?_ ?_ | refine Le.bind ?_ (λ_ => ?_))
def jU (l_1:(List Alert)) (k_3:Nat) (x_5:Alert) (s_8:Unit):Option (Ctl (Unit) (Int)) :=
 (mM x_5).bind λr_14=>bif (r_14 != 0)then some (.ret r_14)else (bif (decide ((k_3:Int)>0))then (idx l_1 (w64 ((k_3:Int)-1))).bind λy_20=>(je y_20 x_5).bind λr_22=>some (decide (r_22>=0))else some false).bind λv_17=>bif v_17 then some (.ret 7)else some (.go ())
theorem qM (l_1:(List Alert)) (k_3:Nat) (x_5:Alert) (s_8:Unit):Le (jU l_1 k_3 x_5 s_8) (dH l_1 k_3 x_5 s_8):=by
 unfold jU dH
 repeat' (with_reducible first | exact Le.refl _ | exact vO _ | refine Le.loop (λ_ => ?_) | refine Le.forL (λ_ _ _ => ?_) | refine Le.thenC (λ_ => ?_) (λ_ => ?_) | refine Le.cond ?_ ?_ | refine Le.bind ?_ (λ_ => ?_))
def lQ (l_1:(List Alert)):Option (Int) :=
 bif (decide ((l_1.length:Int)>300))then some 2 else (forL l_1 () (λk x s=>jU l_1 k x s)).bind λo_11=>thenC o_11 (λs_8=>(forL l_1 ([]:List (ByteArray×Bool)) (λk x s=>bP k x s)).bind λo_34=>thenC o_34 (λs_31=>some 0) (λr=>some r)) (λr=>some r)
theorem uz (l_1:(List Alert)):Le (lQ l_1) (bS l_1):=by
 unfold lQ bS
 repeat' (with_reducible first | exact Le.refl _ | exact qM _ _ _ _ | refine Le.loop (λ_ => ?_) | refine Le.forL (λ_ _ _ => ?_) | refine Le.thenC (λ_ => ?_) (λ_ => ?_) | refine Le.cond ?_ ?_ | refine Le.bind ?_ (λ_ => ?_))
def kK (l_1:(List Post)) (k_3:Nat) (x_5:Post) (s_8:Unit):Option (Ctl (Unit) (Int)) :=
 (nD x_5.Player).bind λr_14=>bif (!r_14)then some (.ret 5)else ((dx x_5.X (-100000) 100000).bind λr_19=>bif r_19 then some true else (dx x_5.Y (-100000) 100000).bind λr_22=>some r_22).bind λv_17=>bif v_17 then some (.ret 1)else (bif (decide ((k_3:Int)>0))then (idx l_1 (w64 ((k_3:Int)-1))).bind λy_28=>some (sLe x_5.Player y_28.Player)else some false).bind λv_25=>bif v_25 then some (.ret 7)else some (.go ())
theorem sw (l_1:(List Post)) (k_3:Nat) (x_5:Post) (s_8:Unit):Le (kK l_1 k_3 x_5 s_8) (ic l_1 k_3 x_5 s_8):=by
 unfold kK ic
 repeat' (with_reducible first | exact Le.refl _ | exact sP _ | refine Le.loop (λ_ => ?_) | refine Le.forL (λ_ _ _ => ?_) | refine Le.thenC (λ_ => ?_) (λ_ => ?_) | refine Le.cond ?_ ?_ | refine Le.bind ?_ (λ_ => ?_))
def mK (l_1:(List Post)):Option (Int) :=
 bif (decide ((l_1.length:Int)>500))then some 2 else (forL l_1 () (λk x s=>kK l_1 k x s)).bind λo_11=>thenC o_11 (λs_8=>some 0) (λr=>some r)
theorem vK (l_1:(List Post)):Le (mK l_1) (jo l_1):=by
 unfold mK jo
 repeat' (with_reducible first | exact Le.refl _ | exact sw _ _ _ _ | refine Le.loop (λ_ => ?_) | refine Le.forL (λ_ _ _ => ?_) | refine Le.thenC (λ_ => ?_) (λ_ => ?_) | refine Le.cond ?_ ?_ | refine Le.bind ?_ (λ_ => ?_))
def mY (l_1:(List Alert)) (posts_2:(List Post)):Option (Int) :=
 (lQ l_1).bind λr_3=>bif (r_3 != 0)then some r_3 else (mK posts_2).bind λr_6=>some r_6
theorem wO (l_1:(List Alert)) (posts_2:(List Post)):Le (mY l_1 posts_2) (jJ l_1 posts_2):=by
 unfold mY jJ
 repeat' (with_reducible first | exact Le.refl _ | exact uz _ | exact vK _ | refine Le.loop (λ_ => ?_) | refine Le.forL (λ_ _ _ => ?_) | refine Le.thenC (λ_ => ?_) (λ_ => ?_) | refine Le.cond ?_ ?_ | refine Le.bind ?_ (λ_ => ?_))
def pE (a_1:Alert) (p_2:Post):Option (Bool×Int) :=
 (mY ([a_1]:List Alert) ([p_2]:List Post)).bind λr_5=>bif (r_5 != 0)then some (false,r_5)else (nH a_1 p_2).bind λr_8=>some (r_8,0)
theorem yn (a_1:Alert) (p_2:Post):Le (pE a_1 p_2) (lw a_1 p_2):=by
 unfold pE lw
 repeat' (with_reducible first | exact Le.refl _ | exact wO _ _ | refine Le.loop (λ_ => ?_) | refine Le.forL (λ_ _ _ => ?_) | refine Le.thenC (λ_ => ?_) (λ_ => ?_) | refine Le.cond ?_ ?_ | refine Le.bind ?_ (λ_ => ?_))
def uN  : Option (Bool) :=
 (pE (⟨(⟨#[97]⟩:ByteArray),(⟨#[115]⟩:ByteArray),1,([]:List ByteArray),0,5,1,([(⟨0,0,2,2⟩:Rect)]:List Rect),(⟨#[120]⟩:ByteArray)⟩:Alert) (⟨(⟨#[112]⟩:ByteArray),1,1⟩:Post)).bind λr_2=>(bif (r_2.2==0)then some r_2.1 else some false).bind λv_4=>some v_4
theorem Cj  : Le (uN) (ny):=by
 unfold uN ny
 repeat' (with_reducible first | exact Le.refl _ | exact yn _ _ | refine Le.loop (λ_ => ?_) | refine Le.forL (λ_ _ _ => ?_) | refine Le.thenC (λ_ => ?_) (λ_ => ?_) | refine Le.cond ?_ ?_ | refine Le.bind ?_ (λ_ => ?_))
end Go.Proofs.YtljhfffghjclfaaGreatDoor.Law

open Go Go.Eng
namespace Go.Proofs.YtljhfffghjclfaaGreatDoor.Law
set_option linter.unusedVariables false
set_option linter.unusedSimpArgs false
set_option maxRecDepth 100000
def idL:List ByteArray:=[⟨#[97,97]⟩,⟨#[97,98]⟩,⟨#[97,99]⟩,⟨#[97,100]⟩,⟨#[97,101]⟩,⟨#[97,102]⟩]
def refL:List ByteArray:=[⟨#[97,97]⟩,⟨#[97,98]⟩,⟨#[97,99]⟩,⟨#[97,100]⟩,⟨#[122,122]⟩]
def zyS:ByteArray:=⟨#[122,121]⟩
def wxS:ByteArray:=⟨#[119,120]⟩
def fireS:ByteArray:=⟨#[102,105,114,101]⟩
def floodS:ByteArray:=⟨#[102,108,111,111,100]⟩
def mallS:ByteArray:=⟨#[102,105,114,101,32,105,110,32,116,104,101,32,109,97,108,108]⟩
def overS:ByteArray:=⟨#[111,118,101,114]⟩
def SmallR (r:Rect):Prop:=Fine r/\(-2<=r.X/\r.X<=8 /\ -2<=r.Y/\r.Y<=8/\r.W<=5/\r.H<=5)
structure RightA (x:Alert):Prop where
 id:x.Id∈idL
 sender:x.Sender=wxS\/x.Sender=fireS
 kind:1<=x.Kind/\x.Kind<=3
 refs:x.Refs.Sublist refL\/x.Refs=[zyS]
 noId:∀r∈x.Refs,r≠x.Id
 new:x.Kind=1↔x.Refs=[]
 at_:0<=x.At/\x.At<=30
 until_:x.At+1<=x.Until/\x.Until<=x.At+50
 weight:1<=x.Weight/\x.Weight<=9
 areas:∀r∈x.Areas,SmallR r
 alen:x.Areas.length<=2
 cancel:x.Kind=3↔x.Areas=[]
 text:x.Text=floodS\/x.Text=mallS\/x.Kind=3/\(x.Text=⟨#[]⟩\/x.Text=overS)
theorem Jl:∀k∈idL,keyB k=true/\Nat.ble k.size 1000=true:=by
 intro k hk
 simp only [idL,List.mem_cons,List.not_mem_nil,or_false]at hk
 rcases hk with rfl|rfl|rfl|rfl|rfl|rfl <;> exact⟨by kernel_rfl,rfl⟩
theorem Nb:∀k∈idL,dP k 0=97:=by
 intro k hk
 simp only [idL,List.mem_cons,List.not_mem_nil,or_false]at hk
 rcases hk with rfl|rfl|rfl|rfl|rfl|rfl <;> rfl
theorem Gr:∀k∈refL,keyB k=true/\Nat.ble k.size 1000=true:=by
 intro k hk
 simp only [refL,List.mem_cons,List.not_mem_nil,or_false]at hk
 rcases hk with rfl|rfl|rfl|rfl|rfl <;> exact⟨by kernel_rfl,rfl⟩
theorem Lg:idL.Pairwise lt:=by
 unfold idL
 simp only [List.pairwise_cons,List.mem_cons,List.not_mem_nil,or_false,forall_eq_or_imp,forall_eq]
 refine⟨⟨lM (by kernel_rfl),lM (by kernel_rfl),lM (by kernel_rfl),lM (by kernel_rfl),lM (by kernel_rfl)⟩,⟨lM (by kernel_rfl),lM (by kernel_rfl),lM (by kernel_rfl),lM (by kernel_rfl)⟩,⟨lM (by kernel_rfl),lM (by kernel_rfl),lM (by kernel_rfl)⟩,⟨lM (by kernel_rfl),lM (by kernel_rfl)⟩,lM (by kernel_rfl),λa h=>(by cases h),List.Pairwise.nil⟩
theorem RightA.refsLen {x:Alert} (h:RightA x):x.Refs.length<=5:=by
 rcases h.refs with hs|hs
 ·exact hs.length_le
 ·rw [hs];decide
theorem L8 (id:ByteArray) (s:Stream) {b:Int} (hs:Ok s b) (hb:b<=800000) :
  ∃l s',forL ([(⟨#[97,97]⟩:ByteArray),(⟨#[97,98]⟩:ByteArray),(⟨#[97,99]⟩:ByteArray),(⟨#[97,100]⟩:ByteArray),(⟨#[122,122]⟩:ByteArray)]:List ByteArray) (([]:List ByteArray),s.L,s.f_at) (λk x s=>bC id k x s)=some (.go (l,s'.L,s'.f_at))/\l.Sublist refL/\(∀r∈l,r≠id)/\Ok s' (b+10):=by
 obtain ⟨t,t1,t2,t3,t4⟩:=JS (body:=λk x s=>bC id k x s) (xs:=refL) (s:=(([]:List ByteArray),s.L,s.f_at)) (λk t=>t.1.Sublist (refL.take k)/\(∀r∈t.1,r≠id)/\Ok ⟨t.2.1,t.2.2⟩ (b+k)) (by decide) (λk x t hx ⟨i1,i2,i3⟩=>by
  have hk:k<refL.length:=(List.getElem?_eq_some_iff.1 hx).1
  have hk5:k<5:=hk
  have et:refL.take (k+1)=refL.take k++[x]:=by rw [List.take_add_one,hx];rfl
  have hlen:t.1.length<=5:=Nat.le_trans i1.length_le (by rw [List.length_take];exact Nat.min_le_right _ _)
  unfold bC
  rw [vw]
  by_cases he:x=id
  ·rw [decide_eq_true he]
   exact⟨_,rfl,by rw [et];exact i1.trans (List.sublist_append_left _ _),i2,i3.mono (by omega)⟩
  ·obtain ⟨f,s1,c1,c2⟩:=sZ _ 3 i3 (by omega) (by decide) (by decide)
   rw [decide_eq_false he]
   simp only [Bool.not_false,cond_true,c1,ob_]
   cases f with
   | true =>
    rw [cond_true,mq _ _ (by simp;omega)]
    refine⟨_,rfl,by rw [et];exact i1.append (List.Sublist.refl _),λr hr => ?_,c2.mono (by omega)⟩
    rcases List.mem_append.1 hr with hr|hr
    ·exact i2 r hr
    ·rw [List.mem_singleton.1 hr];exact he
   | false=>exact⟨_,rfl,by rw [et];exact i1.trans (List.sublist_append_left _ _),i2,c2.mono (by omega)⟩) ⟨List.Sublist.refl _,λr hr=>(by cases hr),hs.mono (by omega)⟩
 exact⟨t.1,⟨t.2.1,t.2.2⟩,t1,by simpa using t2,t3,t4.mono (by show b+((5:Nat):Int)<=b+10;omega)⟩
theorem KQ (n:Int) (hn:1<=n/\n<=2) (s:Stream) {b:Int} (hs:Ok s b) (hb:b<=800000) :
  ∃l s',forL (List.range n.toNat) (([]:List Rect),s.L,s.f_at) (λk x s=>bA k x s)=some (.go (l,s'.L,s'.f_at))/\(l.length:Int)=n/\(∀r∈l,SmallR r)/\Ok s' (b+10):=by
 obtain ⟨t,t1,t2,t3,t4⟩:=Bz (body:=λk x s=>bA k x s) (s:=(([]:List Rect),s.L,s.f_at)) (xs:=List.range n.toNat) (λj t=>t.1.length=j/\(∀r∈t.1,SmallR r)/\Ok ⟨t.2.1,t.2.2⟩ (b+4*j)) (by simp;omega) (λj x t hx hj ⟨i1,i2,i3⟩=>by
  simp only [List.length_range]at hj
  obtain ⟨r,s1,c1,c2,c3,c4⟩:=He _ i3 (by omega)
  unfold bA
  rw [c1,ob_,mq _ _ (by simp;omega)]
  refine⟨_,rfl,by simp [i1],λq hq => ?_,c4.mono (by omega)⟩
  rcases List.mem_append.1 hq with hq|hq
  ·exact i2 q hq
  ·rw [List.mem_singleton.1 hq];exact⟨c2,c3⟩) ⟨rfl,λr hr=>(by cases hr),hs.mono (by omega)⟩
 rw [List.length_range]at t2 t4
 exact⟨t.1,⟨t.2.1,t.2.2⟩,t1,by omega,t3,t4.mono (by omega)⟩
theorem J6 (id:ByteArray) (hid:id∈idL) (k:Nat) (l0:List Alert) (hl:l0.length<=100) (s:Stream) {b:Int} (hs:Ok s b) (hb:b<=700000) :
  ∃x s',bR k id (l0,s.L,s.f_at)=some (.go (l0++[x],s'.L,s'.f_at))/\RightA x/\x.Id=id/\Ok s' (b+40):=by
 obtain ⟨sd,s1,a1,a2,a3⟩:=sW s [(⟨#[119,120]⟩:ByteArray),(⟨#[119,120]⟩:ByteArray),(⟨#[102,105,114,101]⟩:ByteArray)] hs (by omega) (by simp) (by simp)
 obtain ⟨kd,s2,b1,b2,b3⟩:=qh s1 [1,1,2,2,3] a3 (by omega) (by simp) (by simp)
 obtain ⟨n5,s3,c1,c2,c3,c4⟩:=gX s2 0 6 b3 (by omega) (by decide) (by decide) (by decide)
 obtain ⟨wt,s4,d1,d2,d3⟩:=qh s3 [1,5,5,9] c4 (by omega) (by simp) (by simp)
 obtain ⟨tx,s5,e1,e2,e3⟩:=sW s4 [(⟨#[102,108,111,111,100]⟩:ByteArray),(⟨#[102,105,114,101,32,105,110,32,116,104,101,32,109,97,108,108]⟩:ByteArray)] d3 (by omega) (by simp) (by simp)
 obtain ⟨un,s6,f1,f2,f3⟩:=qh s5 [1,10,20,50] e3 (by omega) (by simp) (by simp)
 have hsd:sd=wxS\/sd=fireS:=by
  simp only [List.mem_cons,List.not_mem_nil,or_false]at a2
  rcases a2 with h|h|h
  ·exact .inl h
  ·exact .inl h
  ·exact .inr h
 have hkd:kd=1\/kd=2\/kd=3:=by
  simp only [List.mem_cons,List.not_mem_nil,or_false]at b2;omega
 have hwt:1<=wt/\wt<=9:=by
  simp only [List.mem_cons,List.not_mem_nil,or_false]at d2;omega
 have hun:1<=un/\un<=50:=by
  simp only [List.mem_cons,List.not_mem_nil,or_false]at f2;omega
 have htx:tx=floodS\/tx=mallS:=by
  simp only [List.mem_cons,List.not_mem_nil,or_false]at e2;exact e2
 obtain ⟨rf,s7,g1,g2,g3,g4,g5⟩:∃rf s7,(bif kd != 1 then (forL ([(⟨#[97,97]⟩:ByteArray),(⟨#[97,98]⟩:ByteArray),(⟨#[97,99]⟩:ByteArray),(⟨#[97,100]⟩:ByteArray),(⟨#[122,122]⟩:ByteArray)]:List ByteArray) (([]:List ByteArray),s6.L,s6.f_at) (λk x s=>bC id k x s)).bind λo_56=>thenC o_56 (λs_50=>bif ((s_50.1.length:Int)==0)then some (s_50.2.1,s_50.2.2,([(⟨#[122,121]⟩:ByteArray)]:List ByteArray))else some (s_50.2.1,s_50.2.2,s_50.1)) (λ_=>none)else some (s6.L,s6.f_at,([]:List ByteArray)))=some (Stream.L s7,Stream.f_at s7,rf)/\(rf.Sublist refL\/rf=[zyS])/\(∀r∈rf,r≠id)/\(kd=1↔rf=[])/\Ok s7 (b+20):=by
  by_cases h1:kd=1
  ·rw [h1]
   exact⟨[],s6,rfl,.inl (List.nil_sublist _),λr hr=>(by cases hr),⟨λ_=>rfl,λ_=>rfl⟩,f3.mono (by omega)⟩
  ·have:(kd != 1)=true:=by simpa using h1
   rw [this,cond_true]
   obtain ⟨l,s7,g1,g2,g3,g4⟩:=L8 id s6 f3 (by omega)
   rw [g1]
   simp only [ob_,thenC]
   by_cases hl0:l=[]
   ·subst hl0
    refine⟨[zyS],s7,rfl,.inr rfl,λr hr e => ?_,⟨λh=>absurd h h1,λh=>(by cases h)⟩,g4.mono (by omega)⟩
    rw [List.mem_singleton.1 hr]at e
    rw [<- e]at hid
    have:=Nb _ hid
    exact absurd this (by decide)
   ·have:((l.length:Int)==0)=false:=by
     rw [beq_eq_false_iff_ne]
     intro e;exact hl0 (List.eq_nil_of_length_eq_zero (by omega))
    rw [this,cond_false]
    exact⟨l,s7,rfl,.inl g2,g3,⟨λh=>absurd h h1,λh=>absurd h hl0⟩,g4.mono (by omega)⟩
 obtain ⟨ar,tx2,s8,j1,j2,j3,j4,j5,j6⟩:∃ar tx2 s8,(bif kd==3 then (dJ (⟨Stream.L s7,Stream.f_at s7⟩:Stream) ([(⟨#[]⟩:ByteArray),(⟨#[111,118,101,114]⟩:ByteArray)]:List ByteArray)).bind λr_79=>some (([]:List Rect),r_79.2.L,r_79.2.f_at,r_79.1)else (bT (⟨Stream.L s7,Stream.f_at s7⟩:Stream) 1 2).bind λr_82=>(forL (List.range (r_82.1).toNat) (([]:List Rect),r_82.2.L,r_82.2.f_at) (λk x s=>bA k x s)).bind λo_95=>thenC o_95 (λs_90=>some (s_90.1,s_90.2.1,s_90.2.2,tx)) (λ_=>none))=some (ar,Stream.L s8,Stream.f_at s8,tx2)/\(∀r∈ar,SmallR r)/\ar.length<=2/\(kd=3↔ar=[])/\(tx2=floodS\/tx2=mallS\/kd=3/\(tx2=⟨#[]⟩\/tx2=overS))/\Ok s8 (b+40):=by
  have e7:(⟨Stream.L s7,Stream.f_at s7⟩:Stream)=s7:=rfl
  rw [e7]
  by_cases h3:kd=3
  ·have:(kd==3)=true:=by simpa using h3
   rw [this,cond_true]
   obtain ⟨t2,s8,q1,q2,q3⟩:=sW s7 [(⟨#[]⟩:ByteArray),(⟨#[111,118,101,114]⟩:ByteArray)] g5 (by omega) (by simp) (by simp)
   rw [q1]
   simp only [List.mem_cons,List.not_mem_nil,or_false]at q2
   exact⟨[],t2,s8,rfl,λr hr=>(by cases hr),by decide,⟨λ_=>rfl,λ_=>h3⟩,.inr (.inr ⟨h3,q2⟩),q3.mono (by omega)⟩
  ·have:(kd==3)=false:=by simpa using h3
   rw [this,cond_false]
   obtain ⟨m,s8,q1,q2,q3,q4⟩:=gX s7 1 2 g5 (by omega) (by decide) (by decide) (by decide)
   obtain ⟨ar,s9,r1,r2,r3,r4⟩:=KQ m ⟨q2,q3⟩ s8 q4 (by omega)
   rw [q1,ob_,r1]
   refine⟨ar,tx,s9,rfl,r3,by omega,⟨λh=>absurd h h3,λh => ?_⟩,htx.imp (λh=>h) .inl,r4.mono (by omega)⟩
   rw [h]at r2;simp at r2;omega
 refine⟨⟨id,sd,kd,rf,n5*5,n5*5+un,wt,ar,tx2⟩,s8,?_,⟨hid,hsd,by simp only [];omega,g2,g3,g4,by simp only [];omega,by simp only [];omega,hwt,j2,j3,j4,j5⟩,rfl,j6⟩
 unfold bR
 have e0:(⟨s.L,s.f_at⟩:Stream)=s:=rfl
 simp only [e0,a1,b1,c1,d1,e1,f1,g1,j1,ob_]
 rw [mq _ _ (by simp;omega),eT (n:=n5*5) (by omega),eT (n:=n5*5+un) (by omega)];rfl
def befA (a b:Alert):Prop:=a.At<b.At\/a.At=b.At/\lt a.Id b.Id
open Classical in
theorem LW {a b:Alert} (ha:RightA a) (hb:RightA b):jL a b=some (bif a.At != b.At then a.At-b.At else bif sLt a.Id b.Id then -1 else 1):=by
 have h1:=ha.at_
 have h2:=hb.at_
 unfold jL
 cases a.At != b.At with
 | true=>rw [cond_true,cond_true,eT (by omega)]
 | false =>
  rw [cond_false,cond_false]
  cases sLt a.Id b.Id <;> rfl
theorem oO {a b:Alert}:(bif a.At != b.At then a.At-b.At else bif sLt a.Id b.Id then (-1:Int)else 1)<0↔befA a b:=by
 unfold befA
 by_cases h:a.At=b.At
 ·have:(a.At != b.At)=false:=by simpa using h
  rw [this,cond_false]
  cases hl:sLt a.Id b.Id with
  | true =>
   rw [cond_true]
   exact⟨λ_ => .inr ⟨h,(EW _ _).1 hl⟩,λ_=>by decide⟩
  | false =>
   rw [cond_false]
   refine⟨λh=>absurd h (by decide),λhb => ?_⟩
   rcases hb with hb|hb
   ·omega
   ·rw [(EW _ _).2 hb.2]at hl;cases hl
 ·have:(a.At != b.At)=true:=by simpa using h
  rw [this,cond_true]
  refine⟨λk => .inl (by omega),λhb => ?_⟩
  rcases hb with hb|hb
  ·omega
  ·exact absurd hb.1 h
theorem Mo (a:Alert):¬befA a a:=λh=>by
 rcases h with h|h
 ·omega
 ·exact BX _ h.2
theorem Hr {a b c:Alert} (h:befA a b) (k:befA b c):befA a c:=by
 rcases h with h|h <;> rcases k with k|k
 ·exact .inl (by omega)
 ·exact .inl (by omega)
 ·exact .inl (by omega)
 ·exact .inr ⟨h.1.trans k.1,lt_trans h.2 k.2⟩
theorem M5 (a b:Alert) (hid:a.Id≠b.Id):befA a b\/befA b a:=by
 rcases Int.lt_trichotomy a.At b.At with h|h|h
 ·exact .inl (.inl h)
 ·rcases Iq a.Id b.Id with k|k|k
  ·exact .inl (.inr ⟨h,k⟩)
  ·exact absurd k hid
  ·exact .inr (.inr ⟨h.symm,k⟩)
 ·exact .inr (.inl h)
theorem Fh {a b c:Alert} (h:¬befA a b) (k:¬befA b c):¬befA a c:=λhc=>by
 unfold befA at *
 simp only [not_or,not_and]at h k
 rcases hc with hc|hc
 ·rcases Int.lt_trichotomy a.At b.At with q|q|q
  ·exact h.1 q
  ·rcases Int.lt_trichotomy b.At c.At with r|r|r
   ·exact k.1 r
   ·omega
   ·omega
  ·have:=k.1;omega
 ·have h1:=h.1
  have k1:=k.1
  have e1:a.At=b.At:=by omega
  have e2:b.At=c.At:=by omega
  have h2:=h.2 e1
  have k2:=k.2 e2
  rcases Iq a.Id b.Id with q|q|q
  ·exact h2 q
  ·rw [q]at hc;exact k2 hc.2
  ·rcases Iq b.Id c.Id with r|r|r
   ·exact k2 r
   ·rw [<- r]at hc;exact h2 hc.2
   ·exact BX _ (lt_trans (lt_trans hc.2 r) q)
structure RAlerts (l:List Alert) (n:Nat):Prop where
 right:∀x∈l,RightA x
 rise:l.Pairwise befA
 ids:(l.map (·.Id)).Nodup
 len:l.length<=n
theorem Ev (most:Int) (hm:0<=most/\most<=6) (s:Stream) {b:Int} (hs:Ok s b) (hb:b<=600000):∃l s',bX s most=some (l,s')/\(RAlerts l most.toNat/\∀x∈l,x.Id∈idL.take most.toNat)/\Ok s' (b+250):=by
 obtain ⟨n,s1,a1,a2,a3,a4⟩:=gX s 0 most hs (by omega) (by omega) (by decide) (by omega)
 have hsub:pu idL 0 n=some (idL.take n.toNat):=by
  unfold pu
  have h6:idL.length=6:=rfl
  rw [if_pos (by rw [h6];omega)]
  simp
 obtain ⟨t,t1,t2,t3,t4⟩:=JS (body:=λk x s=>bR k x s) (xs:=idL.take n.toNat) (s:=(([]:List Alert),s1.L,s1.f_at)) (λk t=>t.1.map (·.Id)=idL.take k/\(∀x∈t.1,RightA x)/\Ok ⟨t.2.1,t.2.2⟩ (b+1+40*k)) (by rw [List.length_take];show min n.toNat 6<=_;omega) (λk x t hx ⟨i1,i2,i3⟩=>by
  have hk:k<(idL.take n.toNat).length:=(List.getElem?_eq_some_iff.1 hx).1
  rw [List.length_take]at hk
  have hk6:k<6:=by have:idL.length=6:=rfl;omega
  have hx':idL[k]? = some x:=by rw [List.getElem?_take_of_lt (by omega)]at hx;exact hx
  have hlen:t.1.length<=6:=by
   have:=congrArg List.length i1
   rw [List.length_map,List.length_take]at this
   omega
  obtain ⟨y,s2,c1,c2,c3,c4⟩:=J6 x (List.mem_of_getElem? hx') k t.1 (by omega) ⟨t.2.1,t.2.2⟩ i3 (by omega)
  refine⟨_,c1,?_,λz hz => ?_,c4.mono (by omega)⟩
  ·rw [List.map_append,i1,List.take_add_one,hx']
   simp [c3]
  ·rcases List.mem_append.1 hz with hz|hz
   ·exact i2 z hz
   ·rw [List.mem_singleton.1 hz];exact c2) ⟨rfl,λx hx=>(by cases hx),a4.mono (by omega)⟩
 have hnd:(t.1.map (·.Id)).Nodup:=by
  rw [t2]
  exact (Lg.sublist (List.take_sublist _ _)).imp (λh e=>by rw [e]at h;exact BX _ h)
 have hlen:t.1.length<=most.toNat:=by
  have:=congrArg List.length t2
  rw [List.length_map,List.length_take,List.length_take]at this
  omega
 obtain ⟨r,r1,r2,r3⟩:=sort12 (cmp:=jL) (S:=bE) (λa b=>bif a.At != b.At then a.At-b.At else bif sLt a.Id b.Id then -1 else 1) (λ_=>rfl) (xs:=t.1) (by omega) (λx hx y hy=>LW (t3 x hx) (t3 y hy))
  (λx y h k=>Mo x (Hr (oO.1 h) (oO.1 k))) (λx y z h k q=>Fh (λe=>h (oO.2 e)) (λe=>k (oO.2 e)) (oO.1 q))
 have hrl:r.length=t.1.length:=r2.length_eq
 have hids:(r.map (·.Id)).Nodup:=(r2.map (·.Id)).nodup_iff.2 hnd
 have hin:∀x∈r,x.Id∈idL.take most.toNat:=λx hx=>by
  have h1:x.Id∈t.1.map (·.Id):=List.mem_map.2 ⟨x,r2.mem_iff.1 hx,rfl⟩
  rw [t2]at h1
  have h2:(idL.take n.toNat).length<=most.toNat:=by rw [List.length_take];omega
  have h3:idL.take (idL.take n.toNat).length=(idL.take most.toNat).take (idL.take n.toNat).length:=by rw [List.take_take,Nat.min_eq_left h2]
  rw [h3]at h1
  exact List.mem_of_mem_take h1
 refine⟨r,⟨t.2.1,t.2.2⟩,?_,⟨⟨λx hx=>t3 x (r2.mem_iff.1 hx),?_,hids,by omega⟩,hin⟩,t4.mono (by
  have:(idL.take n.toNat).length<=6:=by rw [List.length_take];exact Nat.min_le_right _ _
  omega)⟩
 ·unfold bX
  have e1:pu ([(⟨#[97,97]⟩:ByteArray),(⟨#[97,98]⟩:ByteArray),(⟨#[97,99]⟩:ByteArray),(⟨#[97,100]⟩:ByteArray),(⟨#[97,101]⟩:ByteArray),(⟨#[97,102]⟩:ByteArray)]:List ByteArray) 0 n=some (idL.take n.toNat):=hsub
  simp only [a1,ob_,e1,t1,thenC]
  have e2:bE t.1=some r:=r1
  have e3:qR r t.1=some ():=by unfold qR;rw [if_pos hrl]
  rw [e2,ob_,e3];rfl
 ·refine List.pairwise_iff_getElem.2 (λi j hi hj hij => ?_)
  have h1:=List.pairwise_iff_getElem.1 r3 i j hi hj hij
  have h2:r[i].Id≠r[j].Id:=λe=>by
   have:=List.pairwise_iff_getElem.1 hids i j (by simpa using hi) (by simpa using hj) hij
   rw [List.getElem_map,List.getElem_map]at this
   exact this e
  rcases M5 r[i] r[j] h2 with h|h
  ·exact h
  ·exact absurd (oO.2 h) h1
theorem zh (most:Int) (hm:0<=most/\most<=6) (s:Stream) {b:Int} (hs:Ok s b) (hb:b<=600000):∃l s',bX s most=some (l,s')/\RAlerts l most.toNat/\Ok s' (b+250):=by
 obtain ⟨l,s',h1,h2,h3⟩:=Ev most hm s hs hb
 exact⟨l,s',h1,h2.1,h3⟩
end Go.Proofs.YtljhfffghjclfaaGreatDoor.Law

open Go Go.Eng
namespace Go.Proofs.YtljhfffghjclfaaGreatDoor.Law
set_option linter.unusedVariables false
set_option linter.unusedSimpArgs false
theorem eqS_eq {a b:ByteArray} (h:(a==b)=true):a=b:=by
 obtain ⟨x⟩:=a
 obtain ⟨y⟩:=b
 have h1:(x==y)=true:=h
 rw [eq_of_beq h1]
structure RightPo (p:Post):Prop where
 key:kit_IsKey p.Player=some true
 x : -1000<=p.X/\p.X<=1000
 y : -1000<=p.Y/\p.Y<=1000
end Go.Proofs.YtljhfffghjclfaaGreatDoor.Law

