/-
  THE PLAIN LAW (part 1).
-/
import Derived.Test.YtigdobmllbakiacGreatDoorEng5
import Derived.Test.YtigdobmllbakiacGreatDoorDefs
import Derived.Lib.ItoaLen
namespace Go.Eng
set_option linter.unusedVariables false
set_option linter.unusedSimpArgs false
theorem fI {α σ ρ:Type} {body:Nat->α->σ->Option (Ctl σ ρ)} {xs:List α} {s:σ} (hl:xs.length<=1000000000000):forL xs s body=forR body xs 0 s:=by unfold forL;rw [if_pos hl]
theorem Ao {α σ ρ:Type} {body:Nat->α->σ->Option (Ctl σ ρ)} (I:Nat->σ->Prop) (N:Nat):∀(xs:List α) (k:Nat) (s:σ),k+xs.length=N->(∀k x s,x∈xs->k<N->I k s->∃s',body k x s=some (.go s')/\I (k+1) s')->I k s->∃s',forR body xs k s=some (.go s')/\I N s'
 | [],k,s,hN,h,hi=>⟨s,rfl,by simp only [List.length_nil,Nat.add_zero]at hN;rw [<- hN];exact hi⟩
 | x::xs,k,s,hN,h,hi=>by
  simp only [List.length_cons]at hN
  obtain ⟨s1,h1,h2⟩:=h k x s (by simp) (by omega) hi
  obtain ⟨s2,h3,h4⟩:=Ao I N xs (k+1) s1 (by omega) (λk x s hx=>h k x s (by simp [hx])) h2
  exact⟨s2,by simp only [forR,h1,ob_];exact h3,h4⟩
theorem oC {α σ ρ:Type} {body:Nat->α->σ->Option (Ctl σ ρ)} (I:Nat->σ->Prop) {xs:List α} {s:σ} (hl:xs.length<=1000000000000) (h:∀k x s,x∈xs->k<xs.length->I k s->∃s',body k x s=some (.go s')/\I (k+1) s') (h0:I 0 s):∃s',forL xs s body=some (.go s')/\I xs.length s':=by
 obtain ⟨s',h1,h2⟩:=Ao I xs.length xs 0 s (by omega) h h0
 exact⟨s',by rw [fI hl];exact h1,h2⟩
theorem jq {σ ρ τ:Type} (s:σ) (f:σ->Option τ) (g:ρ->Option τ):thenC (.go s) f g=f s:=rfl
theorem C8 {σ ρ τ:Type} (r:ρ) (f:σ->Option τ) (g:ρ->Option τ):thenC (.ret r) f g=g r:=rfl
theorem y5 {α:Type} (xs:List α) (k:Nat):idx xs (k:Int)=xs[k]? := by simp [idx]
theorem gP {n:Int} (h : -9223372036854775808<=n/\n<=9223372036854775807):w64 n=n:=EW n h
theorem toL (s:ByteArray):s.toList=s.data.toList:=Go.Lib.toList_data s
theorem uH {a b:ByteArray} (h:a.toList=b.toList):a=b:=by
 rw [toL,toL]at h
 obtain ⟨⟨a⟩⟩:=a
 obtain ⟨⟨b⟩⟩:=b
 simp only at h
 rw [h]
theorem fJ (a b:ByteArray):sEq a b=true↔a=b:=by
 simp only [sEq,beq_iff_eq]
 exact⟨uH,λh=>by rw [h]⟩
theorem sEq_dec (a b:ByteArray):sEq a b=decide (a=b):=by
 rw [Bool.eq_iff_iff,fJ];simp
theorem uP (a b:ByteArray):sNe a b = !decide (a=b):=by
 have:=sEq_dec a b;simp only [sEq,sNe]at *;rw [this]
abbrev bl:=Op.bytesLess
theorem bl_lt:∀(x y:List UInt8),bl x y=decide (x<y)
 | _,[]=>by simp [bl,Op.bytesLess]
 | [],_::_=>by simp [bl,Op.bytesLess]
 | a::x,b::y=>by
  have:=bl_lt x y
  simp only [bl,Op.bytesLess]at this ⊢
  rw [this,Bool.eq_iff_iff]
  simp only [Bool.or_eq_true,decide_eq_true_eq,Bool.and_eq_true,beq_iff_eq,List.cons_lt_cons_iff]
def lt (a b:ByteArray):Prop:=a.toList<b.toList
theorem sLt_iff (a b:ByteArray):sLt a b=true↔lt a b:=by
 show bl a.toList b.toList=true↔_
 rw [bl_lt];simp [lt]
theorem Et (a:ByteArray):¬lt a a:=List.lt_irrefl a.toList
theorem lt_trans {a b c:ByteArray} (h:lt a b) (k:lt b c):lt a c:=List.lt_trans h k
theorem lt_tri (a b:ByteArray):lt a b\/a=b\/lt b a:=by
 rcases Classical.em (lt a b)with h|h
 ·exact .inl h
 ·rcases Classical.em (lt b a)with h2|h2
  ·exact .inr (.inr h2)
  ·exact .inr (.inl (uH (List.le_antisymm (List.not_lt.1 h2) (List.not_lt.1 h))))
theorem sLe_iff (a b:ByteArray):sLe a b=true↔¬lt b a:=by
 have h1:=sLt_iff a b
 have h2:=fJ a b
 simp only [sLe,Bool.or_eq_true]
 constructor
 ·rintro (h|h)
  ·exact λk=>Et _ (lt_trans (h1.1 h) k)
  ·rw [h2.1 h];exact Et _
 ·intro h
  rcases lt_tri a b with k|k|k
  ·exact .inl (h1.2 k)
  ·exact .inr (h2.2 k)
  ·exact absurd k h
theorem sLe_nil (a:ByteArray):sLe a ⟨#[]⟩=decide (a.size=0):=by
 rw [Bool.eq_iff_iff,sLe_iff,lt,toL,toL,Go.Lib.size_eq]
 cases a.data.toList <;> simp
theorem yY (a:ByteArray):sNe a ⟨#[]⟩=decide (a.size≠0):=by
 rw [uP,Go.Lib.size_eq,Bool.eq_iff_iff]
 simp only [Bool.not_eq_true',decide_eq_false_iff_not,decide_eq_true_eq,ne_eq]
 refine not_congr ⟨λh=>by rw [h];rfl,λh => ?_⟩
 exact uH (by rw [toL,List.eq_nil_of_length_eq_zero h,toL])
end Go.Eng

open Go Go.Eng
namespace Go.Proofs.YtigdobmllbakiacGreatDoor.Law
set_option linter.unusedVariables false
set_option linter.unusedSimpArgs false
def Ok (s:Stream) (b:Int):Prop:=0<=s.f_at/\s.f_at<=b
theorem Ok.mono {s:Stream} {b c:Int} (h:Ok s b) (hc:b<=c):Ok s c:=⟨h.1,Int.le_trans h.2 hc⟩
theorem ve (x n:Int) (h:1<=n) (hn:n<=4611686018427387904):∃r,lM x n=some r/\0<=r/\r<n:=by
 have h1:x.tmod n<n:=Int.tmod_lt_of_pos x (by omega)
 have h2 : -n<x.tmod n:=Int.lt_tmod_of_pos x (by omega)
 have hb:decide (n<1)=false:=by simp;omega
 have hn0:n≠0:=by omega
 simp only [lM,hb,cond_false,Dj,if_neg hn0,ob_]
 cases hd:decide (x.tmod n<0)with
 | true =>
  simp only [decide_eq_true_eq]at hd
  exact⟨_,rfl,by rw [gP (by omega)];omega,by rw [gP (by omega)];omega⟩
 | false =>
  simp only [decide_eq_false_iff_not]at hd
  exact⟨_,rfl,by omega,h1⟩
theorem jL (s:Stream) (n:Int) {b:Int} (hs:Ok s b) (hb:b<=1000000) (h:1<=n) (hn:n<=4611686018427387904):∃r s',bG s n=some (r,s')/\0<=r/\r<n/\Ok s' (b+1):=by
 obtain ⟨h0,h1⟩:=hs
 have e1:w64 (s.f_at+1)=s.f_at+1:=gP (by omega)
 have e2:w64 (s.f_at+1-1)=s.f_at:=by rw [gP (by omega)];omega
 simp only [bG,e1,e2]
 by_cases hl:s.L.length=0
 ·have:((s.L.length:Int)==0)=true:=by simp [hl]
  simp only [this,cond_true]
  obtain ⟨r,hr,h2,h3⟩:=ve (w64 ((s.f_at+1)*7919)) n h hn
  exact⟨r,_,by rw [hr];rfl,h2,h3,⟨by show 0<=s.f_at+1;omega,by show s.f_at+1<=b+1;omega⟩⟩
 ·have hne:(s.L.length:Int)≠0:=by omega
  have:((s.L.length:Int)==0)=false:=by simpa using hl
  simp only [this,cond_false,Dj,Fq,if_neg hne,ob_]
  have h2:0<=s.f_at.tmod s.L.length:=Int.tmod_nonneg _ h0
  have hp:(0:Int)<(s.L.length:Int):=by have:=Nat.pos_of_ne_zero hl;omega
  have h3:s.f_at.tmod s.L.length<s.L.length:=Int.tmod_lt_of_pos _ hp
  have hi:idx s.L (s.f_at.tmod s.L.length)=some s.L[(s.f_at.tmod s.L.length).toNat]:=by
   simp only [idx,if_pos h2]
   exact List.getElem?_eq_getElem (by omega)
  obtain ⟨r1,hr1,_,_⟩:=ve s.L[(s.f_at.tmod s.L.length).toNat] 1073741824 (by decide) (by decide)
  simp only [hi,hr1,ob_]
  generalize w64 (r1+_)=y
  obtain ⟨r,hr,h4,h5⟩:=ve y n h hn
  exact⟨r,_,by rw [hr];rfl,h4,h5,⟨by show 0<=s.f_at+1;omega,by show s.f_at+1<=b+1;omega⟩⟩
theorem oW (s:Stream) (n:Int) {b:Int} (hs:Ok s b) (hb:b<=1000000) (h:1<=n) (hn:n<=1000):∃r s',bU s n=some (r,s')/\Ok s' (b+1):=by
 obtain ⟨r,s',h1,_,_,h2⟩:=jL s n hs hb h (by omega)
 exact⟨r==0,s',by simp only [bU,h1,ob_],h2⟩
theorem yP {α:Type} {l:List α} {r:Int} (h0:0<=r) (h1:r<l.length):∃y,idx l r=some y/\y∈l:=by
 refine⟨l[r.toNat]'(by omega),?_,List.getElem_mem _⟩
 simp only [idx,if_pos h0]
 exact List.getElem?_eq_getElem (by omega)
theorem iP (s:Stream) (l:List Int) {b:Int} (hs:Ok s b) (hb:b<=1000000) (h:1<=l.length) (hn:l.length<=1000):∃r s',bW s l=some (r,s')/\r∈l/\Ok s' (b+1):=by
 obtain ⟨r,s',h1,h2,h3,h4⟩:=jL s l.length hs hb (by omega) (by omega)
 obtain ⟨y,hy,hm⟩:=yP h2 h3
 exact⟨y,s',by simp only [bW,h1,hy,ob_],hm,h4⟩
theorem uM (s:Stream) (l:List ByteArray) {b:Int} (hs:Ok s b) (hb:b<=1000000) (h:1<=l.length) (hn:l.length<=1000):∃r s',eT s l=some (r,s')/\r∈l/\Ok s' (b+1):=by
 obtain ⟨r,s',h1,h2,h3,h4⟩:=jL s l.length hs hb (by omega) (by omega)
 obtain ⟨y,hy,hm⟩:=yP h2 h3
 exact⟨y,s',by simp only [eT,h1,hy,ob_],hm,h4⟩
theorem ER (s:Stream) (lo hi:Int) {b:Int} (hs:Ok s b) (hb:b<=1000000) (h:lo<=hi) (h1 : -1000000000000<=lo) (h2:hi<=1000000000000):∃r s',gy s lo hi=some (r,s')/\lo<=r/\r<=hi/\Ok s' (b+1):=by
 have hd:decide (hi<lo)=false:=by simp;omega
 have e1:w64 (hi-lo)=hi-lo:=gP (by omega)
 have e2:w64 (hi-lo+1)=hi-lo+1:=gP (by omega)
 obtain ⟨r,s',k1,k2,k3,k4⟩:=jL s (hi-lo+1) hs hb (by omega) (by omega)
 simp only [gy,hd,cond_false,e1,e2,k1,ob_]
 exact⟨_,s',rfl,by rw [gP (by omega)];omega,by rw [gP (by omega)];omega,k4⟩
theorem yD (s:Stream) (lo hi:Int) {b:Int} (hs:Ok s b) (hb:b<=900000) (h:lo<=hi) (h1 : -1000000000000<=lo) (h2:hi<=1000000000000):∃r s',eF s lo hi=some (r,s')/\Ok s' (b+2):=by
 obtain ⟨c,s1,k1,k2⟩:=oW s 12 hs (by omega) (by decide) (by decide)
 simp only [eF,k1,ob_]
 cases c with
 | true =>
  obtain ⟨r,s2,m1,_,m2⟩:=iP s1 [(w64 (lo-1)),(w64 (hi+1)),lo,hi,(-1099511627776),1099511627776] k2 (by omega) (by simp) (by simp)
  simp only [cond_true,m1,ob_]
  exact⟨_,_,rfl,m2.mono (by omega)⟩
 | false =>
  obtain ⟨r,s2,m1,_,_,m2⟩:=ER s1 lo hi k2 (by omega) h h1 h2
  simp only [cond_false,m1,ob_]
  exact⟨_,_,rfl,m2.mono (by omega)⟩
def nY (b:UInt8):Bool:=decide (97<=b.toNat)&&decide (b.toNat<=122)
def zX (b:UInt8):Bool:=(decide (48<=b.toNat)&&decide (b.toNat<=57))||(b.toNat==45)||(b.toNat==95)
def okB (i:Nat) (b:UInt8):Bool:=nY b||(decide (0<i)&&zX b)
def di (s:ByteArray) (i:Nat):UInt8:=s.data.toList.getD i 0
def jC (s:ByteArray):Bool:=decide (s.size≠0)&&(decide (s.size<=40)&&(List.range s.size).all λi=>okB i (di s i))
theorem oH (s:ByteArray) (k:Nat) (h:k<s.size):rD s (k:Int)=some (di s k):=by
 have h1:s[k]? = some s[k]:=by simp [h]
 have h2:di s k=s[k]:=by
  have hl:k<s.data.toList.length:=by rw [<- Go.Lib.size_eq];exact h
  simp only [di,List.getD_eq_getElem?_getD,List.getElem?_eq_getElem hl,Option.getD_some]
  simp
  rfl
 simp only [rD,if_pos (Int.natCast_nonneg k),Int.toNat_natCast,h1,h2]
theorem AU (s:ByteArray) (k:Nat) (hs:s.size<=1000000000):fB s (k:Int)=some (if k<s.size then (bif okB k (di s k)then .go ((k+1:Nat):Int)else .ret false)else .brk (k:Int)):=by
 unfold fB
 by_cases h:k<s.size
 ·have hd:decide ((k:Int)<(s.size:Int))=true:=by simp;omega
  have hw:w64 ((k:Int)+1)=((k+1:Nat):Int):=by rw [gP (by omega)];omega
  simp only [hd,cond_true,oH s k h,ob_,if_pos h,hw]
  generalize di s k=b
  simp only [okB,nY,zX]
  have e1:decide ((b.toNat:Int)>=97)=decide (97<=b.toNat):=decide_eq_decide.2 (by omega)
  have e2:decide ((b.toNat:Int)<=122)=decide (b.toNat<=122):=decide_eq_decide.2 (by omega)
  have e3:decide ((k:Int)>0)=decide (0<k):=decide_eq_decide.2 (by omega)
  have e4:decide ((b.toNat:Int)>=48)=decide (48<=b.toNat):=decide_eq_decide.2 (by omega)
  have e5:decide ((b.toNat:Int)<=57)=decide (b.toNat<=57):=decide_eq_decide.2 (by omega)
  have e6:((b.toNat:Int)==45)=(b.toNat==45):=by rw [Bool.eq_iff_iff];simp;omega
  have e7:((b.toNat:Int)==95)=(b.toNat==95):=by rw [Bool.eq_iff_iff];simp;omega
  rw [e1,e2,e3,e4,e5,e6,e7]
  cases decide (97<=b.toNat) <;> cases decide (b.toNat<=122) <;> cases decide (0<k) <;> cases decide (48<=b.toNat) <;> cases decide (b.toNat<=57) <;> cases (b.toNat==45) <;> cases (b.toNat==95) <;> rfl
 ·have hd:decide ((k:Int)<(s.size:Int))=false:=by simp;omega
  simp only [hd,cond_false,if_neg h]
theorem wo (s:ByteArray) (hs:s.size<=1000000000):∀(n k:Nat),k+n=s.size->iterN (λi=>fB s i) (n+1) (k:Int)=some (bif (List.range' k n).all (λj=>okB j (di s j))then .go (s.size:Int)else .ret false)
 | 0,k,h=>by
  have hk:¬k<s.size:=by omega
  simp only [iterN,AU s k hs,if_neg hk,ob_,List.range'_zero,List.all_nil,cond_true]
  rw [show (k:Int)=s.size by omega]
 | n+1,k,h=>by
  have hk:k<s.size:=by omega
  rw [iterN,AU s k hs,if_pos hk,ob_,List.range'_succ,List.all_cons]
  cases okB k (di s k)with
  | true=>simp only [cond_true,Bool.true_and];exact wo s hs n (k+1) (by omega)
  | false=>rfl
theorem vJ (s:ByteArray) (hs:s.size<=1000000000):iA s=some (jC s):=by
 have h:=kW (wo s hs s.size 0 (by omega))
 unfold iA
 have h':pX (0:Int) (λs_1=>fB s s_1)=_:=h
 rw [h',ob_,<- List.range_eq_range']
 have e:decide ((s.size:Int)<=40)=decide (s.size<=40):=decide_eq_decide.2 (by omega)
 simp only [jC]
 cases (List.range s.size).all (λi=>okB i (di s i))with
 | true =>
  rw [cond_true,jq,yY,e,Bool.and_true]
  cases decide (s.size≠0) <;> rfl
 | false=>simp only [cond_false,C8,Bool.and_false]
def l6 (t:ByteArray) (b:UInt8):Bool := !decide (ixB t (b.toNat:Int)<0)
theorem only_L1 (s t:ByteArray) (k x:Nat) (h:k<s.size):jc s t k x ()=some (bif l6 t (di s k)then .go ()else .ret false):=by
 simp only [jc,oH s k h,strings_IndexByte,bJ,ob_,l6]
 cases decide (ixB t ((di s k).toNat:Int)<0) <;> rfl
theorem A8 (s t:ByteArray):∀(xs:List Nat) (k:Nat),k+xs.length=s.size->forR (λk x u=>jc s t k x u) xs k ()=some (bif (List.range' k xs.length).all (λj=>l6 t (di s j))then .go ()else .ret false)
 | [],k,h=>rfl
 | x::xs,k,h=>by
  simp only [List.length_cons]at h ⊢
  have hk:k<s.size:=by omega
  rw [forR,only_L1 s t k x hk,ob_,List.range'_succ,List.all_cons]
  cases l6 t (di s k)with
  | true=>simp only [cond_true,Bool.true_and];exact A8 s t xs (k+1) (by omega)
  | false=>rfl
theorem yS (s t:ByteArray) (hs:s.size<=1000000000):j6 s t=some ((List.range s.size).all λi=>l6 t (di s i)):=by
 unfold j6
 rw [Int.toNat_natCast,fI (by simp;omega),A8 s t _ 0 (by simp),ob_,List.length_range,<- List.range_eq_range']
 cases (List.range s.size).all (λi=>l6 t (di s i)) <;> rfl
def yo:ByteArray:=⟨#[97,98,99,100,101,102,103,104,105,106,107,108,109,110,111,112,113,114,115,116,117,118,119,120,121,122]⟩
def wM:ByteArray:=⟨#[97,98,99,100,101,102,103,104,105,106,107,108,109,110,111,112,113,114,115,116,117,118,119,120,121,122,48,49,50,51,52,53,54,55,56,57,45,95]⟩
theorem xL:∀n:Fin 256,l6 yo (UInt8.ofNat n.val)=nY (UInt8.ofNat n.val)/\l6 wM (UInt8.ofNat n.val)=(nY (UInt8.ofNat n.val)||zX (UInt8.ofNat n.val)):=by decide +kernel
theorem Ak (b:UInt8):l6 yo b=nY b:=by
 have:=(xL ⟨b.toNat,b.toNat_lt⟩).1
 simpa using this
theorem Ad (b:UInt8):l6 wM b=(nY b||zX b):=by
 have:=(xL ⟨b.toNat,b.toNat_lt⟩).2
 simpa using this
theorem sJ (s:ByteArray) (hs:s.size<=1000000000):mU s=some (jC s):=by
 unfold mU nz
 have e1:decide ((1:Int)<=(s.size:Int))=decide (s.size≠0):=decide_eq_decide.2 (by omega)
 have e2:decide ((s.size:Int)<=40)=decide (s.size<=40):=decide_eq_decide.2 (by omega)
 rw [e1,e2]
 by_cases h1:s.size≠0
 ·by_cases h2:s.size<=40
  ·have hsub:jv s 0 1=some (s.extract 0 1):=by
    unfold jv;rw [if_pos ⟨by omega,by omega,by decide,by show 1<=s.size;omega⟩];rfl
   have hsz:(s.extract 0 1).size=1:=by simp [ByteArray.size_extract];omega
   have hb:di (s.extract 0 1) 0=di s 0:=by
    obtain ⟨⟨l⟩⟩:=s
    simp only [di]
    cases l with
    | nil=>exact absurd rfl h1
    | cons b l=>simp [ByteArray.extract,ByteArray.copySlice]
   simp only [decide_eq_true h1,decide_eq_true h2,cond_true,ob_,hsub]
   have o1:=yS (s.extract 0 1) yo (by omega)
   have o2:=yS s wM hs
   unfold yo at o1
   unfold wM at o2
   rw [o1,ob_,o2]
   have e3:(List.range (s.extract 0 1).size).all (λi=>l6 yo (di (s.extract 0 1) i))=nY (di s 0):=by
    rw [hsz]
    simp only [List.range_succ,List.range_zero,List.nil_append,List.all_cons,List.all_nil,Bool.and_true]
    rw [hb,Ak]
   have e3':=e3
   unfold yo at e3'
   rw [e3']
   have e4:∀i,l6 wM (di s i)=(nY (di s i)||zX (di s i)):=λi=>Ad _
   have e5:jC s=(nY (di s 0)&&(List.range s.size).all (λi=>l6 wM (di s i))):=by
    simp only [jC,decide_eq_true h1,decide_eq_true h2,Bool.true_and,e4]
    rw [Bool.eq_iff_iff]
    simp only [List.all_eq_true,List.mem_range,Bool.and_eq_true,okB,Bool.or_eq_true,decide_eq_true_eq]
    constructor
    ·intro h
     refine⟨?_,λi hi=>(h i hi).imp id (λh=>h.2)⟩
     rcases h 0 (by omega)with h|h
     ·exact h
     ·exact absurd h.1 (by omega)
    ·rintro ⟨h3,h4⟩ i hi
     by_cases e:i=0
     ·rw [e];exact .inl h3
     ·exact (h4 i hi).imp id (λh=>⟨by omega,h⟩)
   unfold wM at e5
   rw [e5]
   cases nY (di s 0) <;> rfl
  ·simp only [decide_eq_true h1,decide_eq_false h2,cond_true,cond_false,ob_,jC,Bool.false_and,Bool.and_false]
 ·simp only [decide_eq_false h1,cond_false,ob_,jC,Bool.false_and]
theorem yO {s:ByteArray} (h:jC s=true):s.size≠0:=by
 simp only [jC,Bool.and_eq_true,decide_eq_true_eq]at h
 exact h.1
def spl (c:UInt8):List UInt8->List (List UInt8)
 | []=>[[]]
 | b::l=>if b=c then []::spl c l else match spl c l with
  | []=>[[b]]
  | x::r=>(b::x)::r
theorem vM (c:UInt8):∀l,spl c l ≠ []
 | []=>by simp [spl]
 | b::l=>by
  unfold spl
  split
  ·simp
  ·split <;> simp
theorem Ez {c:UInt8}:∀{x:List UInt8},c∉x->spl c x=[x]
 | [],_=>rfl
 | b::x,h=>by
  have hb:b≠c:=λe=>h (by simp [e])
  have ih:=Ez (x:=x) (λe=>h (List.mem_cons_of_mem _ e))
  unfold spl
  rw [if_neg hb,ih]
theorem CE {c:UInt8}:∀{x:List UInt8} (y:List UInt8),c∉x->spl c (x++c::y)=x::spl c y
 | [],y,_=>by
  show spl c (c::y)=_
  rw [spl,if_pos rfl]
 | b::x,y,h=>by
  have hb:b≠c:=λe=>h (by simp [e])
  have ih:=CE (x:=x) y (λe=>h (List.mem_cons_of_mem _ e))
  show spl c (b::(x++c::y))=_
  rw [spl,if_neg hb,ih]
theorem index_c {c b:UInt8} (h:b≠c) (l:List UInt8):Lib.index (b::l) [c]=if Lib.index l [c] == -1 then -1 else Lib.index l [c]+1:=by
 have hp:([c]:List UInt8).isPrefixOf (b::l)=false:=by simp [List.isPrefixOf,Ne.symm h]
 rw [Lib.index,hp];simp
theorem xV (c:UInt8):∀l:List UInt8,Lib.splitK [c] 0 (l.count c) l=spl c l
 | []=>rfl
 | b::l=>by
  have ih:=xV c l
  by_cases hb:b=c
  ·subst hb
   rw [List.count_cons_self,spl,if_pos rfl,<- ih,Lib.splitK]
   have h0:Lib.index (b::l) [b]=0:=by rw [Lib.index];simp [List.isPrefixOf]
   rw [h0]
   simp
  ·rw [List.count_cons_of_ne hb,spl,if_neg hb,<- ih]
   cases hn:l.count c with
   | zero=>rfl
   | succ n =>
    rw [Lib.splitK,Lib.splitK,index_c hb]
    have hg:=Lib.index_ge l [c]
    by_cases hm:Lib.index l [c] = -1
    ·rw [hm];rfl
    ·have e1:(Lib.index l [c] == -1)=false:=by simpa using hm
     rw [e1]
     simp only [Bool.false_eq_true,if_false]
     have e2:(Lib.index l [c]+1 == -1)=false:=by rw [beq_eq_false_iff_ne];omega
     rw [e2]
     simp only [Bool.false_eq_true,if_false,Nat.add_zero,List.length_cons,List.length_nil,Nat.zero_add]
     rw [show (Lib.index l [c]+1).toNat=(Lib.index l [c]).toNat+1 by omega]
     rfl
theorem vz (c:UInt8) {s:ByteArray} (hs:s.size<4294967281):strings_Split s (⟨#[c]⟩:ByteArray)=some ((spl c s.data.toList).map λl=>(⟨l.toArray⟩:ByteArray)):=by
 have h1:(1:Nat)<=(⟨#[c]⟩:ByteArray).size:=Nat.le_refl 1
 show qC s (⟨#[c]⟩:ByteArray)=_
 unfold qC
 rw [if_pos ⟨hs,h1⟩]
 have e1:Lib.countB s (⟨#[c]⟩:ByteArray)=s.data.toList.count c:=by
  show Lib.count s.data.toList [c]=_
  exact Lib.count_one c _
 have e2:=Lib.splitB_data (⟨#[c]⟩:ByteArray) 0 (s.data.toList.count c) s
 have e3:(Lib.splitB (⟨#[c]⟩:ByteArray) 0 (s.data.toList.count c) s).map (λx=>x.data.toList)=spl c s.data.toList:=by
  rw [<- xV];exact e2
 rw [e1,<- e3,List.map_map]
 congr 1
 exact (List.map_id _).symm.trans (List.map_congr_left (λx _=>rfl))
def nO (b:UInt8):Bool:=decide (48<=b.toNat)&&decide (b.toNat<=57)
theorem digB_of {n:Nat} (h:n<10):(UInt8.ofNat (48+n)).toNat=48+n:=by
 rw [UInt8.toNat_ofNat'];omega
theorem ddS {u:Nat} (h:u<10):Lib.decDigits u=[UInt8.ofNat (48+u)]:=by rw [Lib.decDigits,dif_pos h]
theorem ddB {u:Nat} (h:¬u<10):Lib.decDigits u=Lib.decDigits (u / 10)++[UInt8.ofNat (48+u % 10)]:=by rw [Lib.decDigits,dif_neg h]
theorem uh:∀(l:List UInt8) (a m:Nat) (b:UInt8) (d:Nat),Lib.decFrom a l=some m->Lib.digitVal b=some d->Lib.decFrom a (l++[b])=some (m*10+d)
 | [],a,m,b,d,h,hd=>by
  simp only [Lib.decFrom,so_]at h
  subst h
  simp only [List.nil_append,Lib.decFrom,hd]
 | x::l,a,m,b,d,h,hd=>by
  simp only [List.cons_append,Lib.decFrom]at h ⊢
  cases hx:Lib.digitVal x with
  | none=>rw [hx]at h;cases h
  | some e =>
   rw [hx]at h
   exact uh l _ m b d h hd
theorem dd_ne (u:Nat):Lib.decDigits u ≠ []:=by
 by_cases h:u<10
 ·rw [ddS h];simp
 ·rw [ddB h];simp
theorem Cu (u:Nat) (h:u≠0):∀b l,Lib.decDigits u=b::l->b.toNat≠48:=by
 induction u using Nat.strongRecOn with
 | ind u ih =>
  intro b l e
  by_cases h1:u<10
  ·rw [ddS h1]at e
   simp only [List.cons.injEq]at e
   rw [<- e.1,digB_of h1]
   omega
  ·rw [ddB h1]at e
   cases hd:Lib.decDigits (u / 10)with
   | nil=>exact absurd hd (dd_ne _)
   | cons x r =>
    rw [hd,List.cons_append,List.cons.injEq]at e
    rw [<- e.1]
    exact ih (u / 10) (by omega) (by omega) x r hd
theorem Fu:∀(k u:Nat),u<10 ^ (k+1)->(Lib.decDigits u).length<=k+1
 | 0,u,h=>by rw [ddS (by omega)];simp
 | k+1,u,h=>by
  by_cases h1:u<10
  ·rw [ddS h1];simp
  ·rw [ddB h1,List.length_append]
   have:=Fu k (u / 10) (by rw [Nat.pow_succ]at h;omega)
   simp only [List.length_cons,List.length_nil];omega
theorem u7 {s:ByteArray} {k:Nat} (h:k<s.size):s.data.toList[k]? = some (di s k):=by
 have hl:k<s.data.toList.length:=by rw [<- Go.Lib.size_eq];exact h
 unfold di
 rw [List.getD_eq_getElem?_getD,List.getElem?_eq_getElem hl];rfl
theorem Ei {s:ByteArray} {b:UInt8} (h:0<s.size) (hl:s.size<1000000000) (hb:di s 0=b) (h45:b≠45):strings_TrimPrefix s (⟨#[45]⟩:ByteArray)=some s:=by
 unfold strings_TrimPrefix bH bK
 have h1:((⟨#[45]⟩:ByteArray).size:Int)=1:=rfl
 have h2:jv s 0 1=some (s.extract 0 1):=by
  unfold jv
  rw [if_pos (by omega)];rfl
 have h3:sEq (s.extract 0 1) (⟨#[45]⟩:ByteArray)=false:=by
  cases hq:sEq (s.extract 0 1) (⟨#[45]⟩:ByteArray)with
  | false=>rfl
  | true =>
   exfalso
   have e:=(fJ _ _).1 hq
   have e2:(s.extract 0 1).data.toList=s.data.toList.take 1:=by
    rw [ByteArray.data_extract,Array.toList_extract]
    rfl
   have e3:=congrArg (λx:ByteArray=>x.data.toList[0]?) e
   simp only [e2]at e3
   have hg:=u7 h
   rw [hb]at hg
   rw [List.getElem?_take,if_pos (by omega),hg]at e3
   have:(⟨#[45]⟩:ByteArray).data.toList[0]? = some 45:=rfl
   rw [this,so_]at e3
   exact h45 e3
 rw [h1,decide_eq_true (by omega),cond_true,h2,ob_,h3]
 rfl
def jl (s:ByteArray):Prop:=s.size<=1000
def rA (c:Campaign):Prop:=jl c.Key/\jl c.Class/\c.Tags.length<=2000/\∀t∈c.Tags,jl t
theorem jO {α:Type} (xs ys:List α) (h:xs.length+ys.length<=1000000000):qE xs ys=some (xs++ys):=by unfold qE;rw [if_pos h]
theorem tags_ok {L:Nat->ByteArray->(List ByteArray×List Int×Int)->Option (Ctl (List ByteArray×List Int×Int) Unit)} {n:Int} (hn:1<=n) (hn2:n<=1000)
  (hL:∀k x s,L k x s=(bU (⟨s.2.1,s.2.2⟩:Stream) n).bind λr=>(bif r.1 then (qE s.1 ([x]:List ByteArray)).bind λa=>some a else some s.1).bind λv=>some (.go (v,r.2.L,r.2.f_at)))
  {xs:List ByteArray} (hx:∀x∈xs,jl x) (hl:xs.length<=10) (s:Stream) {b:Int} (hs:Ok s b) (hb:b<=900000) :
  ∃t s',forL xs (([]:List ByteArray),s.L,s.f_at) (λk x s=>L k x s)=some (.go (t,s'.L,s'.f_at))/\Ok s' (b+10)/\t.length<=10/\∀x∈t,jl x:=by
 obtain ⟨s',h1,h2,h3,h4⟩:=oC (body:=λk x s=>L k x s) (λk s=>Ok ⟨s.2.1,s.2.2⟩ (b+k)/\s.1.length<=k/\∀x∈s.1,jl x) (xs:=xs) (s:=(([]:List ByteArray),s.L,s.f_at)) (by omega) (λk x s hxm hk ⟨i1,i2,i3⟩=>by
   obtain ⟨c,s1,k1,k2⟩:=oW _ n i1 (by omega) hn hn2
   simp only [hL,k1,ob_]
   cases c with
   | true =>
    simp only [cond_true,jO s.1 [x] (by simp;omega),ob_]
    refine⟨_,rfl,k2.mono (by omega),by simp;omega,λy hy => ?_⟩
    rcases List.mem_append.1 hy with hy|hy
    ·exact i3 y hy
    ·rw [List.mem_singleton.1 hy];exact hx x hxm
   | false =>
    simp only [cond_false,ob_]
    exact⟨_,rfl,k2.mono (by omega),by show s.1.length<=_;omega,i3⟩) ⟨by simpa using hs,by simp,by simp⟩
 exact⟨s'.1,⟨s'.2.1,s'.2.2⟩,h1,h2.mono (by omega),by omega,h4⟩
theorem gz {s:ByteArray} (h:Nat.ble s.size 1000=true):jl s:=Nat.le_of_ble_eq_true h
theorem Cf {α:Type} {xs:List α} {i:Nat} {a:α} (h:i<xs.length):(xs.set i a)[i]? = some a:=by simp [h]
theorem get_at {α:Type} {xs:List α} {i:Nat} (h:i<xs.length):xs[i]? = some xs[i]:=List.getElem?_eq_getElem h
theorem uG {α:Type} {p:α->Prop} {xs:List α} {i:Nat} {a:α} (h:∀x∈xs,p x) (ha:p a):∀x∈xs.set i a,p x:=λx hx=>by
 rcases List.mem_or_eq_of_mem_set hx with h1|h1
 ·exact h x h1
 ·rw [h1];exact ha
theorem inR_ok {α:Type} {i:Int} {xs:List α} (h0:0<=i) (h1:i<xs.length):inR i xs=some ():=by unfold inR;rw [if_pos ⟨h0,by omega⟩]
theorem qL (s:Stream) (most:Int) (hm:0<=most/\most<=4) {b:Int} (hs:Ok s b) (hb:b<=800000):∃xs s',aW s most=some (xs,s')/\Ok s' (b+100)/\xs.length<=4/\∀x∈xs,rA x:=by
 unfold aW
 obtain ⟨ks,hk1,hk2,hk3⟩:∃ks,pK ([(⟨#[99,97]⟩:ByteArray),(⟨#[99,98]⟩:ByteArray),(⟨#[99,99]⟩:ByteArray),(⟨#[99,100]⟩:ByteArray)]:List ByteArray) 0 most=some ks/\ks.length<=4/\∀x∈ks,jl x:=by
  refine⟨_,by unfold pK;rw [if_pos ⟨by omega,by omega,by omega,by simp;omega⟩],by simp;omega,λx hx => ?_⟩
  have hx:=List.mem_of_mem_take (List.mem_of_mem_drop hx)
  simp only [List.mem_cons,List.not_mem_nil,or_false]at hx
  rcases hx with rfl|rfl|rfl|rfl <;> exact gz rfl
 simp only [hk1,ob_]
 obtain ⟨s',h1,h2,h3,h4⟩:=oC (body:=λk x s=>aV k x s) (λk s=>Ok ⟨s.2.1,s.2.2⟩ (b+20*k)/\s.1.length<=k/\∀x∈s.1,rA x)
  (xs:=ks) (s:=(([]:List Campaign),s.L,s.f_at)) (by omega) (λk x t hxm hk ⟨i1,i2,i3⟩=>by
   have hk5:k<4:=by omega
   obtain ⟨c,s1,k1,k2⟩:=oW _ 5 i1 (by omega) (by decide) (by decide)
   simp only [aV,k1,ob_]
   cases c with
   | true=>exact⟨_,rfl,k2.mono (by omega),by show t.1.length<=_;omega,i3⟩
   | false =>
    obtain ⟨cl,s2,k3,kc,k4⟩:=uM s1 [(⟨#[]⟩:ByteArray),(⟨#[]⟩:ByteArray),(⟨#[99,97,114,115]⟩:ByteArray),(⟨#[102,111,111,100]⟩:ByteArray)] k2 (by omega) (by simp) (by simp)
    obtain ⟨p1,s3,m1,_,n1⟩:=iP s2 [0,0,10,20] k4 (by omega) (by simp) (by simp)
    obtain ⟨p2,s4,m2,_,n2⟩:=iP s3 [30,50,60,100] n1 (by omega) (by simp) (by simp)
    obtain ⟨p3,s5,m3,_,n3⟩:=iP s4 [0,1,2,3,4,6] n2 (by omega) (by simp) (by simp)
    obtain ⟨p4,s6,m4,_,n4⟩:=iP s5 [0,1,2,3,9] n3 (by omega) (by simp) (by simp)
    obtain ⟨p5,s7,m5,_,n5⟩:=iP s6 [0,500,1000,1500] n4 (by omega) (by simp) (by simp)
    obtain ⟨tg,s8,k7,k8,k9,k10⟩:=tags_ok (L:=bv) (n:=4) (by decide) (by decide) (λ_ _ _=>rfl) (xs:=[(⟨#[99,105,116,121]⟩:ByteArray),(⟨#[109,97,108,108]⟩:ByteArray)])
     (by intro x hx;simp only [List.mem_cons,List.not_mem_nil,or_false]at hx;rcases hx with rfl | rfl <;> exact gz rfl) (by simp) s7 n5 (by omega)
    simp only [cond_false,k3,m1,m2,m3,m4,m5,k7,ob_,jq,jO t.1 _ (show t.1.length+[_].length<=_ by simp;omega)]
    refine⟨_,rfl,k8.mono (by omega),by simp;omega,λy hy => ?_⟩
    rcases List.mem_append.1 hy with hy|hy
    ·exact i3 y hy
    ·rw [List.mem_singleton.1 hy]
     refine⟨hk3 x hxm,?_,by show tg.length<=2000;omega,k10⟩
     simp only [List.mem_cons,List.not_mem_nil,or_false]at kc
     rcases kc with rfl|rfl|rfl|rfl <;> exact gz rfl) ⟨by simpa using hs,by simp,by simp⟩
 rw [h1]
 exact⟨s'.1,⟨s'.2.1,s'.2.2⟩,rfl,h2.mono (by omega),by omega,h4⟩
theorem zn (s:Stream) (most:Int) (hm:0<=most/\most<=4) {b:Int} (hs:Ok s b) (hb:b<=700000):∃xs s',eD s most=some (xs,s')/\Ok s' (b+200)/\xs.length<=4/\∀x∈xs,rA x:=by
 obtain ⟨xs,s1,h1,h2,h3,h4⟩:=qL s most hm hs (by omega)
 simp only [eD,h1,ob_]
 obtain ⟨v,s2,h5,h6,h7⟩:∃(v:Bool) (s2:Stream),(bif decide ((xs.length:Int)>0)then (bU s1 12).bind λr_9=>some (r_9.1,r_9.2.L,r_9.2.f_at)else some (false,s1.L,s1.f_at))=some (v,s2.L,s2.f_at)/\Ok s2 (b+101)/\(v=true->0<xs.length):=by
  cases hd:decide ((xs.length:Int)>0)with
  | true =>
   obtain ⟨c,s2,k1,k2⟩:=oW s1 12 h2 (by omega) (by decide) (by decide)
   simp only [decide_eq_true_eq]at hd
   exact⟨c,s2,by simp only [cond_true,k1,ob_],k2.mono (by omega),λ_=>by omega⟩
  | false=>exact⟨false,s1,rfl,h2.mono (by omega),λh=>by cases h⟩
 simp only [h5,ob_]
 cases v with
 | false=>exact⟨xs,_,rfl,h6.mono (by omega),h3,h4⟩
 | true =>
  have hpos:=h7 rfl
  obtain ⟨i,s3,k1,k2,k3,k4⟩:=jL s2 xs.length h6 (by omega) (by omega) (by omega)
  have hi:0+i.toNat<xs.length:=by omega
  have ho:=(h4 _ (List.getElem_mem hi))
  obtain ⟨w,s4,m1,_,_,m2⟩:=jL s3 4 k4 (by omega) (by decide) (by decide)
  have hset:∀a,0+i.toNat<(xs.set (0+i.toNat) a).length:=λa=>by simpa using hi
  simp only [cond_true,k1,ob_,inR_ok k2 k3,m1]
  cases hw0:(w==0)with
  | true =>
   obtain ⟨key,s5,n1,n2,n3⟩:=uM s4 [xs[0+i.toNat].Key,(⟨#[]⟩:ByteArray),(⟨#[99,97]⟩:ByteArray)] m2 (by omega) (by simp) (by simp)
   obtain ⟨cl,s6,n4,n5,n6⟩:=uM s5 [(⟨#[]⟩:ByteArray),(⟨#[65]⟩:ByteArray)] n3 (by omega) (by simp) (by simp)
   simp only [cond_true,get_at hi,n1,n4,ob_,Cf hi,List.set_set]
   refine⟨_,_,rfl,n6.mono (by omega),by simpa using h3,uG h4 ⟨?_,?_,ho.2.2⟩⟩
   ·simp only [List.mem_cons,List.not_mem_nil,or_false]at n2
    rcases n2 with rfl|rfl|rfl
    ·exact ho.1
    ·exact gz rfl
    ·exact gz rfl
   ·simp only [List.mem_cons,List.not_mem_nil,or_false]at n5
    rcases n5 with rfl|rfl <;> exact gz rfl
  | false =>
  simp only [cond_false]
  cases hw1:(w==1)with
  | true =>
   obtain ⟨to,s5,n1,n2⟩:=yD s4 0 60 m2 (by omega) (by decide) (by decide) (by decide)
   simp only [cond_true,get_at hi,n1,ob_]
   exact⟨_,_,rfl,n2.mono (by omega),by simpa using h3,uG h4 ho⟩
  | false =>
  simp only [cond_false]
  cases hw2:(w==2)with
  | true =>
   obtain ⟨a,s5,n1,n2⟩:=yD s4 0 6 m2 (by omega) (by decide) (by decide) (by decide)
   obtain ⟨a2,s6,n3,n4⟩:=yD s5 0 6 n2 (by omega) (by decide) (by decide) (by decide)
   obtain ⟨a3,s7,n5,n6⟩:=yD s6 0 1000 n4 (by omega) (by decide) (by decide) (by decide)
   simp only [cond_true,get_at hi,n1,n3,n5,ob_,Cf hi,Cf (hset _),List.set_set]
   exact⟨_,_,rfl,n6.mono (by omega),by simpa using h3,uG h4 ho⟩
  | false =>
   obtain ⟨j,s5,n1,n2,n3,n4⟩:=jL s4 3 m2 (by omega) (by decide) (by decide)
   obtain ⟨tg,n5,n6⟩:=yP (l:=[([(⟨#[98]⟩:ByteArray),(⟨#[97]⟩:ByteArray)]:List ByteArray),([(⟨#[65]⟩:ByteArray)]:List ByteArray),([(⟨#[97]⟩:ByteArray),(⟨#[97]⟩:ByteArray)]:List ByteArray)]) n2 (by simpa using n3)
   simp only [cond_false,get_at hi,n1,n5,ob_]
   refine⟨_,_,rfl,n4.mono (by omega),by simpa using h3,uG h4 ⟨ho.1,ho.2.1,?_⟩⟩
   simp only [List.mem_cons,List.not_mem_nil,or_false]at n6
   rcases n6 with rfl|rfl|rfl
   ·exact⟨by simp,by intro t ht;simp only [List.mem_cons,List.not_mem_nil,or_false]at ht;rcases ht with rfl | rfl <;> exact gz rfl⟩
   ·exact⟨by simp,by intro t ht;simp only [List.mem_cons,List.not_mem_nil,or_false]at ht;rw [ht];exact gz rfl⟩
   ·exact⟨by simp,by intro t ht;simp only [List.mem_cons,List.not_mem_nil,or_false,or_self]at ht;rw [ht];exact gz rfl⟩
abbrev SB (l:List UInt8):ByteArray:=⟨l.toArray⟩
theorem sb_of (s:ByteArray):SB s.data.toList=s:=rfl
theorem uY {l m:List UInt8} (h:SB l=SB m):l=m:=by
 have:=congrArg (λs:ByteArray=>s.data.toList) h
 simpa using this
theorem sb_ext {a b:ByteArray} (h:a.data.toList=b.data.toList):a=b:=by rw [<- sb_of a,<- sb_of b,h]
def Med (n:Int):Prop := -1000000000000000<=n/\n<=1000000000000000
theorem zb {n:Int} (h:Med n):strconv_Itoa n=some (SB (Go.Lib.itoa n)):=by
 unfold strconv_Itoa Cs
 unfold Med at h
 rw [if_pos ⟨by omega,by omega⟩]
theorem gX {n:Int} (h:Med n):(Go.Lib.itoa n).length<=21:=by
 unfold Med at h
 exact Go.Lib.itoa_length_le n (by omega) (by omega)
theorem sN (sep:List UInt8):Go.Lib.joinTail sep []=[]:=rfl
theorem jH (sep y:List UInt8) (r:List (List UInt8)):Go.Lib.joinTail sep (y::r)=sep++y++Go.Lib.joinTail sep r:=by simp [Go.Lib.joinTail]
theorem Ar (sep:List UInt8) (m:Nat):∀(r:List (List UInt8)),(∀x∈r,x.length<=m)->(Go.Lib.joinTail sep r).length<=r.length*(m+sep.length)
 | [],_=>by simp [Go.Lib.joinTail]
 | y::r,hy=>by
  rw [jH,List.length_append,List.length_append,List.length_cons,Nat.add_mul]
  have:=Ar sep m r (λx hx=>hy x (List.mem_cons_of_mem _ hx))
  have:=hy y (by simp)
  omega
theorem pE (sep:List UInt8) (m:Nat):∀(ls:List (List UInt8)),(∀x∈ls,x.length<=m)->(Go.Lib.join ls sep).length<=ls.length*(m+sep.length)
 | [],h=>by simp [Go.Lib.join_nil]
 | x::r,h=>by
  rw [Go.Lib.join_cons,List.length_append,List.length_cons,Nat.add_mul]
  have:=Ar sep m r (λx hx=>h x (List.mem_cons_of_mem _ hx))
  have:=h x (by simp)
  omega
theorem qK (ls:List (List UInt8)) (sep:List UInt8) (m:Nat) (h:∀x∈ls,x.length<=m) (hl:ls.length<=1000000) (hm:m+sep.length<=10000):strings_Join (ls.map SB) (SB sep)=some (SB (Go.Lib.join ls sep)):=by
 have h1:=pE sep m ls h
 have h2:ls.length*(m+sep.length)<=1000000*10000:=Nat.mul_le_mul hl hm
 have e:(ls.map SB).map (λx=>x.data.toList)=ls:=by rw [List.map_map];exact List.map_id' ls
 unfold strings_Join Cm
 rw [e]
 have e2:(SB sep).data.toList=sep:=rfl
 rw [e2,if_pos ⟨by simp;omega,by omega⟩]
theorem tL:∀(l:List Int) (k:Nat) (out:List ByteArray),(∀n∈l,Med n)->l.length+out.length<=1000000->forR (λk x s=>fM k x s) l k out=some (.go (out++l.map λn=>SB (Go.Lib.itoa n)))
 | [],k,out,h,hl=>by simp [forR]
 | n::l,k,out,h,hl=>by
  simp only [List.length_cons]at hl
  have ih:=tL l (k+1) (out++[SB (Go.Lib.itoa n)]) (λx hx=>h x (List.mem_cons_of_mem _ hx)) (by simp;omega)
  have hstep:fM k n out=some (.go (out++[SB (Go.Lib.itoa n)])):=by
   unfold fM
   rw [zb (h n (by simp))]
   simp only [ob_]
   rw [jO _ _ (by simp;omega)]
   rfl
  simp only [forR,hstep,ob_]
  rw [ih]
  simp
theorem Ce (l:List Int) (h:∀n∈l,Med n) (hl:l.length<=1000000):jX l=some (SB (Go.Lib.join (l.map Go.Lib.itoa) [32])):=by
 unfold jX
 rw [fI (by omega),tL l 0 [] h (by simpa using hl)]
 simp only [ob_,jq,List.nil_append]
 have e:(l.map λn=>SB (Go.Lib.itoa n))=(l.map Go.Lib.itoa).map SB:=by rw [List.map_map];rfl
 rw [e,qK _ [32] 21 (λx hx=>by
  obtain ⟨n,hn,rfl⟩:=List.mem_map.1 hx
  exact gX (h n hn)) (by simpa using hl) (by decide)]
 rfl
theorem bT (l:List UInt8):(SB l).size=l.length:=by show l.toArray.size=_;simp
theorem yX {b:UInt8} (h:nO b=true):Lib.digitVal b=some (b.toNat-48):=by
 unfold nO at h
 simp only [Bool.and_eq_true,decide_eq_true_eq]at h
 unfold Lib.digitVal
 rw [if_pos h]
theorem tN:∀(l:List UInt8) (a:Nat),l.all nO=true->∃v,Lib.decFrom a l=some v
 | [],a,_=>⟨a,rfl⟩
 | b::l,a,h=>by
  simp only [List.all_cons,Bool.and_eq_true]at h
  obtain ⟨v,hv⟩:=tN l (a*10+(b.toNat-48)) h.2
  exact⟨v,by simp only [Lib.decFrom,yX h.1];exact hv⟩
theorem Bq (b:UInt8) (h:nO b=true):b=UInt8.ofNat (48+(b.toNat-48)):=by
 unfold nO at h
 simp only [Bool.and_eq_true,decide_eq_true_eq]at h
 rw [show 48+(b.toNat-48)=b.toNat by omega,UInt8.ofNat_toNat]
theorem BD:∀(n:Nat) (t:List UInt8),t.length=n+1->t.all nO=true->(∀b l,t=b::l->b.toNat≠48)->∃v,Lib.decFrom 0 t=some v/\v≠0/\Lib.decDigits v=t
 | 0,t,hl,h,h0=>by
  match t,hl,h,h0 with
  | [b],_,h,h0 =>
   simp only [List.all_cons,List.all_nil,Bool.and_true]at h
   have hb:=h0 b [] rfl
   have hd:=h
   unfold nO at hd
   simp only [Bool.and_eq_true,decide_eq_true_eq]at hd
   refine⟨b.toNat-48,by simp only [Lib.decFrom,yX h];congr 1;omega,by omega,?_⟩
   rw [ddS (by omega),<- Bq b h]
 | n+1,t,hl,h,h0=>by
  have hne:t ≠ []:=λe=>by rw [e]at hl;simp at hl
  obtain ⟨t',b,rfl⟩:∃t' b,t=t'++[b]:=⟨t.dropLast,t.getLast hne,(List.dropLast_concat_getLast hne).symm⟩
  have hl':t'.length=n+1:=by simpa using hl
  rw [List.all_append]at h
  simp only [List.all_cons,List.all_nil,Bool.and_true,Bool.and_eq_true]at h
  obtain ⟨v,v1,v2,v3⟩:=BD n t' hl' h.1 (λb' l' e=>h0 b' (l'++[b]) (by rw [e];rfl))
  have hd:=h.2
  unfold nO at hd
  simp only [Bool.and_eq_true,decide_eq_true_eq]at hd
  refine⟨v*10+(b.toNat-48),uh t' 0 v b _ v1 (yX h.2),by omega,?_⟩
  rw [ddB (by omega),show (v*10+(b.toNat-48)) / 10=v by omega,show (v*10+(b.toNat-48)) % 10=b.toNat-48 by omega,v3,<- Bq b h.2]
theorem dd_zero {r:List UInt8} (hr:r ≠ []) {b:UInt8} (hb:b.toNat=48) (v:Nat):Lib.decDigits v≠b::r:=λe=>by
 by_cases hv:v=0
 ·subst hv
  rw [ddS (by decide)]at e
  simp only [List.cons.injEq]at e
  exact hr e.2.symm
 ·exact Cu v hv b r e hb
def lY:List UInt8->List UInt8
 | []=>[]
 | b::t=>if b=45 then t else b::t
theorem trim_eq (l:List UInt8) (hl:l.length<1000000000):strings_TrimPrefix (SB l) (⟨#[45]⟩:ByteArray)=some (SB (lY l)):=by
 cases l with
 | nil=>decide +kernel
 | cons b t =>
  by_cases hb:b=45
  ·subst hb
   have hs:(SB (45::t)).size=t.length+1:=by rw [bT];rfl
   unfold strings_TrimPrefix bH bK
   have h1:((⟨#[45]⟩:ByteArray).size:Int)=1:=rfl
   have h2:jv (SB (45::t)) 0 1=some (⟨#[45]⟩:ByteArray):=by
    unfold jv
    rw [if_pos (by rw [hs];omega)]
    congr 1
    apply ByteArray.ext
    apply Array.ext'
    rw [ByteArray.data_extract,Array.toList_extract]
    rfl
   have h3:jv (SB (45::t)) 1 ((SB (45::t)).size:Int)=some (SB t):=by
    unfold jv
    rw [if_pos (by rw [hs];omega)]
    congr 1
    apply ByteArray.ext
    apply Array.ext'
    rw [ByteArray.data_extract,Array.toList_extract,Int.toNat_natCast,hs]
    show ((45::t).take (t.length+1)).drop 1=t
    rw [List.take_of_length_le (by simp)];rfl
   rw [h1,decide_eq_true (by rw [hs];omega),cond_true,h2,ob_,show sEq (⟨#[45]⟩:ByteArray) (⟨#[45]⟩:ByteArray)=true from (fJ _ _).2 rfl]
   simp only [ob_,cond_true,h3]
   rw [show lY (45::t)=t by simp [lY]]
  ·have:=Ei (s:=SB (b::t)) (b:=b) (by rw [bT];simp) (by rw [bT];exact hl) rfl hb
   rw [this,show lY (b::t)=b::t by simp [lY,hb]]
theorem Ex (r:List UInt8) (hr:r.length<=1000):pX 0 (λt=>dZ (SB r) t)=some (bif r.all nO then .go (r.length:Int)else .ret (0,false)):=by
 have hsz:(SB r).size=r.length:=bT r
 have hit:∀(d j:Nat),j+d=r.length->∃n,iterN (λt=>dZ (SB r) t) n (j:Int)=some (bif (r.drop j).all nO then .go (r.length:Int)else .ret (0,false)):=by
  intro d
  induction d with
  | zero =>
   intro j hj
   have hj':j=r.length:=by omega
   subst hj'
   refine⟨1,?_⟩
   simp only [iterN,dZ]
   rw [decide_eq_false (by rw [hsz];omega),List.drop_length];rfl
  | succ d ih =>
   intro j hj
   have hjl:j<r.length:=by omega
   have hc:rD (SB r) (j:Int)=some r[j]:=by
    rw [oH (SB r) j (by rw [hsz];exact hjl)]
    have:=u7 (s:=SB r) (k:=j) (by rw [hsz];exact hjl)
    have h2:(SB r).data.toList[j]? = some r[j]:=List.getElem?_eq_getElem hjl
    rw [h2]at this
    exact this.symm
   have hdr:r.drop j=r[j]::r.drop (j+1):=List.drop_eq_getElem_cons hjl
   rw [hdr,List.all_cons]
   cases hd:nO r[j]with
   | false =>
    refine⟨1,?_⟩
    simp only [iterN,dZ]
    rw [decide_eq_true (by rw [hsz];omega),cond_true,hc,ob_,ob_]
    unfold nO at hd
    simp only [Bool.false_and,cond_false]
    by_cases h48:(r[j].toNat:Int)<48
    ·rw [decide_eq_true h48];rfl
    ·rw [decide_eq_false h48,cond_false,ob_]
     have h57:(r[j].toNat:Int)>57:=by
      by_cases h:r[j].toNat<=57
      ·rw [decide_eq_true (by omega),decide_eq_true h]at hd;cases hd
      ·omega
     rw [decide_eq_true h57];rfl
   | true =>
    obtain ⟨n,hn⟩:=ih (j+1) (by omega)
    refine⟨n+1,?_⟩
    unfold nO at hd
    simp only [Bool.and_eq_true,decide_eq_true_eq]at hd
    have hstep:dZ (SB r) (j:Int)=some (.go ((j+1:Nat):Int)):=by
     unfold dZ
     rw [decide_eq_true (by rw [hsz];omega),cond_true,hc,ob_,decide_eq_false (by omega),cond_false,ob_,decide_eq_false (by omega),ob_,cond_false,gP (by omega)]
     rfl
    rw [iterN,hstep,ob_,Bool.true_and]
    exact hn
 obtain ⟨n,hn⟩:=hit r.length 0 (by omega)
 exact kW hn
theorem zx (r:List UInt8):sEq (SB r) (⟨#[]⟩:ByteArray)=r.isEmpty:=by
 cases r with
 | nil=>exact (fJ _ _).2 rfl
 | cons b r =>
  cases h:sEq (SB (b::r)) (⟨#[]⟩:ByteArray)with
  | false=>rfl
  | true =>
   have:=congrArg ByteArray.size ((fJ _ _).1 h)
   rw [bT]at this
   change _=0 at this
   simp at this
theorem Al (c:UInt8):∀l:List UInt8,Lib.join (spl c l) [c]=l
 | []=>by simp [spl,Lib.join_one]
 | b::l=>by
  have ih:=Al c l
  unfold spl
  by_cases hb:b=c
  ·rw [if_pos hb,Lib.join_cons,List.nil_append]
   cases hs:spl c l with
   | nil=>exact absurd hs (vM c l)
   | cons x r =>
    rw [hs,Lib.join_cons]at ih
    rw [jH,List.append_assoc,ih,hb];rfl
  ·rw [if_neg hb]
   cases hs:spl c l with
   | nil=>exact absurd hs (vM c l)
   | cons x r =>
    rw [hs,Lib.join_cons]at ih
    show Lib.join ((b::x)::r) [c]=_
    rw [Lib.join_cons,List.cons_append,ih]
theorem p9 (v:ByteArray) (l:List ByteArray) (hl:l.length<=1000000):∃b,aQ l v=some b:=by
 have key:∀(xs:List ByteArray) (k:Nat),∃o:Ctl Unit Int,forR (λk x s=>bN v k x s) xs k ()=some o/\(o = .go ()\/∃n,o = .ret n):=by
  intro xs
  induction xs with
  | nil=>exact λk=>⟨_,rfl,.inl rfl⟩
  | cons x xs ih =>
   intro k
   rw [forR]
   unfold bN
   cases sEq v x with
   | true=>exact⟨_,rfl,.inr ⟨_,rfl⟩⟩
   | false=>exact ih (k+1)
 obtain ⟨o,ho,hc⟩:=key l 0
 unfold aQ dN
 rw [fI (by omega),ho,ob_]
 rcases hc with rfl|⟨n,rfl⟩ <;> exact⟨_,rfl⟩
theorem oh (c:UInt8):∀l:List UInt8,(spl c l).length<=l.length+1/\∀w∈spl c l,w.length<=l.length
 | []=>⟨by simp [spl],λw hw=>by simp [spl]at hw;subst hw;simp⟩
 | b::l=>by
  obtain ⟨h1,h2⟩:=oh c l
  unfold spl
  split
  ·refine⟨by simp only [List.length_cons];omega,λw hw => ?_⟩
   rcases List.mem_cons.1 hw with rfl|hw
   ·simp
   ·have:=h2 w hw
    simp only [List.length_cons];omega
  ·split
   ·exact⟨by simp,λw hw=>by simp at hw;subst hw;simp⟩
   ·rename_i x r hr
    rw [hr]at h1 h2
    refine⟨by simp only [List.length_cons]at h1 ⊢;omega,λw hw => ?_⟩
    rcases List.mem_cons.1 hw with rfl|hw
    ·have:=h2 x (by simp)
     simp only [List.length_cons];omega
    ·have:=h2 w (by simp [hw])
     simp only [List.length_cons];omega
theorem CW (x:List UInt8) (hx:x.length<=100000):∃b,kV (SB x)=some ((spl 32 x).map SB,b):=by
 have hs:=vz 32 (s:=SB x) (by rw [bT];omega)
 obtain ⟨b,hb⟩:=p9 (⟨#[]⟩:ByteArray) ((spl 32 x).map SB) (by rw [List.length_map];have:=(oh 32 x).1;omega)
 unfold kV
 rw [hs,ob_]
 rw [show (List.map (λl=>(⟨l.toArray⟩:ByteArray)) (spl 32 (SB x).data.toList))=(spl 32 x).map SB from rfl,hb,ob_]
 exact⟨_,rfl⟩
theorem BG (l m:List UInt8):SB l++SB m=SB (l++m):=by
 apply uH;rw [toL,toL];simp
theorem nk {x y:ByteArray} (h:x.size+y.size<=1000000000000):l9 x y=some (x++y):=by
 unfold l9
 rw [if_neg]
 have:IntKind.i64.max=9223372036854775807:=by decide
 rw [this];omega
def kM (ls:List (List UInt8)):List UInt8:=if ls=[]then [45]else Lib.join ls [44]
theorem DI (s:ByteArray) (p:UInt8->Bool):((List.range s.size).all λi=>p (di s i))=s.data.toList.all p:=by
 rw [Bool.eq_iff_iff,List.all_eq_true,List.all_eq_true]
 constructor
 ·intro h b hb
  obtain ⟨i,hi,rfl⟩:=List.getElem_of_mem hb
  have:=h i (List.mem_range.2 (by rw [Go.Lib.size_eq];exact hi))
  simpa [di,List.getD,List.getElem?_eq_getElem hi]using this
 ·intro h i hi
  have hi':i<s.data.toList.length:=by rw [<- Go.Lib.size_eq];exact List.mem_range.1 hi
  have:=h _ (List.getElem_mem hi')
  simpa [di,List.getD,List.getElem?_eq_getElem hi']using this
theorem ED:∀n:Fin 256,l6 (⟨#[48,49,50,51,52,53,54,55,56,57]⟩:ByteArray) (UInt8.ofNat n.val)=nO (UInt8.ofNat n.val):=by decide +kernel
theorem Dx (r:List UInt8) (hr:r.length<=1000):j6 (SB r) (⟨#[48,49,50,51,52,53,54,55,56,57]⟩:ByteArray)=some (r.all nO):=by
 rw [yS _ _ (by rw [bT];omega),DI]
 congr 1
 show r.all _=r.all nO
 congr 1
 funext b
 have:=ED ⟨b.toNat,b.toNat_lt⟩
 simpa using this
theorem num_two (l:List UInt8) (hl:l.length<=100000) (M:Int) (hM:M<=15):∃(n n':Int) (ok:Bool),lN (SB l) M=some (n,ok)/\lq (SB l) M=some (n',ok)/\(ok=true->n'=n)/\Med n/\Med n':=by
 have med0:Med 0:=by unfold Med;omega
 have hsz:∀r:List UInt8,((SB r).size:Int)=(r.length:Int):=λr=>by rw [bT]
 unfold lN lq
 rw [trim_eq l (by omega),ob_,ob_,zx,hsz]
 generalize hr:lY l=r
 cases he:r.isEmpty with
 | true=>exact⟨0,0,false,rfl,rfl,(λh=>by cases h),med0,med0⟩
 | false =>
 simp only [cond_false]
 by_cases hlen:(r.length:Int)>M
 ·rw [decide_eq_true hlen]
  exact⟨0,0,false,rfl,rfl,(λh=>by cases h),med0,med0⟩
 ·rw [decide_eq_false hlen]
  simp only [cond_false]
  have hrl:r.length<=15:=by omega
  rw [Dx r (by omega),Ex r (by omega),ob_,ob_,ob_]
  match r,he,hr,hlen,hrl with
  | b::t,he,hr,hlen,hrl =>
  have hb0:rD (SB (b::t)) 0=some b:=by
   have h00:=oH (SB (b::t)) 0 (by rw [bT];simp)
   rw [show ((0:Nat):Int)=0 from rfl]at h00
   rw [h00];rfl
  rw [hb0,ob_]
  cases hall:(b::t).all nO with
  | false =>
   simp only [Bool.not_false,cond_true,cond_false]
   refine⟨0,0,false,?_,rfl,(λh=>by cases h),med0,med0⟩
   cases ((b.toNat:Int)==48)with
   | false=>rfl
   | true =>
    simp only [cond_true,ob_]
    cases sNe (SB l) (⟨#[48]⟩:ByteArray) <;> rfl
  | true =>
   simp only [Bool.not_true,cond_true,cond_false]
   obtain ⟨v,hv⟩:=tN (b::t) 0 hall
   have hvb:v<1000000000000000:=by
    have:=Lib.decFrom_lt _ _ _ hv
    have h2:(10:Nat) ^ (b::t).length<=10 ^ 15:=Nat.pow_le_pow_right (by decide) hrl
    omega
   have hdn:Lib.decNat (b::t)=some v:=by unfold Lib.decNat;exact hv
   have hbd:nO b=true:=by simp only [List.all_cons,Bool.and_eq_true]at hall;exact hall.1
   have hb45:b≠45:=λe=>by rw [e]at hbd;exact absurd hbd (by decide)
   have Ej:b≠43:=λe=>by rw [e]at hbd;exact absurd hbd (by decide)
   obtain ⟨n,hn,hnm,hw⟩:∃n:Int,Lib.atoi l=some n/\Med n/\(Lib.itoa n=l↔¬(b.toNat=48/\l ≠ [48])):=by
    cases l with
    | nil=>simp [lY]at hr
    | cons c l' =>
     by_cases hc:c=45
     ·subst hc
      rw [show lY (45::l')=l' by simp [lY]]at hr
      subst hr
      refine⟨-(v:Int),by simp [Lib.atoi,hdn],by unfold Med;omega,?_⟩
      by_cases h48:b.toNat=48
      ·refine⟨λe => ?_,λk=>absurd ⟨h48,by simp⟩ k⟩
       exfalso
       unfold Lib.itoa at e
       by_cases hv0:v=0
       ·subst hv0
        rw [if_neg (by omega)]at e
        rw [show (-((0:Nat):Int)).toNat=0 from rfl,ddS (by decide)]at e
        simp only [List.cons.injEq]at e
        exact absurd e.2 (by simp)
       ·rw [if_pos (by omega)]at e
        simp only [List.cons.injEq,true_and]at e
        rw [show (-(v:Int)).natAbs=v by omega]at e
        exact Cu v hv0 b t e h48
      ·obtain ⟨v',e1,e2,e3⟩:=BD t.length (b::t) rfl hall (λb' l'' e=>by
        simp only [List.cons.injEq]at e
        rw [<- e.1];exact h48)
       rw [hv,so_]at e1
       subst e1
       refine⟨λ_ k=>h48 k.1,λ_ => ?_⟩
       unfold Lib.itoa
       rw [if_pos (by omega),show (-(v:Int)).natAbs=v by omega,e3]
     ·rw [show lY (c::l')=c::l' by simp [lY,hc]]at hr
      simp only [List.cons.injEq]at hr
      obtain ⟨rfl,rfl⟩:=hr
      have n1:(c==45)=false:=by rw [beq_eq_false_iff_ne];exact hb45
      have n2:(c==43)=false:=by rw [beq_eq_false_iff_ne];exact Ej
      refine⟨(v:Int),by simp [Lib.atoi,n1,n2,hdn],by unfold Med;omega,?_⟩
      have hi:Lib.itoa (v:Int)=Lib.decDigits v:=by unfold Lib.itoa;rw [if_neg (by omega)];rfl
      rw [hi]
      by_cases h48:c.toNat=48
      ·have hc48:c=48:=by
        have:=Bq c hbd
        rw [h48]at this
        exact this
       cases l' with
       | nil =>
        refine⟨λ_ k=>k.2 (by rw [hc48]),λ_ => ?_⟩
        have:v=0:=by
         simp only [Lib.decFrom,yX hbd,so_]at hv
         omega
        rw [this,ddS (by decide),hc48];rfl
       | cons x l'' =>
        refine⟨λe=>absurd e (dd_zero (by simp) h48 v),λk=>absurd ⟨h48,by simp⟩ k⟩
      ·obtain ⟨v',e1,e2,e3⟩:=BD l'.length (c::l') rfl hall (λb' l'' e=>by
        simp only [List.cons.injEq]at e
        rw [<- e.1];exact h48)
       rw [hv,so_]at e1
       subst e1
       exact⟨λ_ k=>h48 k.1,λ_=>e3⟩
   have hll:l.length<=16:=by
    cases l with
    | nil=>simp
    | cons c l' =>
     have h2:l'.length<=(lY (c::l')).length:=by
      by_cases hc:c=45
      ·simp [lY,hc]
      ·simp [lY,hc]
     rw [hr]at h2
     simp only [List.length_cons]at hrl h2 ⊢;omega
   have ha:strconv_Atoi (SB l)=some n:=by
    show Ac (SB l)=some n
    unfold Ac
    rw [if_pos (by rw [bT];omega)];exact hn
   have h48e:((b.toNat:Int)==48)=decide (b.toNat=48):=by
    rw [Bool.eq_iff_iff];simp;omega
   have hsn:sNe (SB l) (⟨#[48]⟩:ByteArray)=decide (l ≠ [48]):=by
    show (!sEq (SB l) (⟨#[48]⟩:ByteArray))=_
    rw [show sEq (SB l) (⟨#[48]⟩:ByteArray)=decide (l=[48]) by
     rw [Bool.eq_iff_iff,fJ]
     simp only [decide_eq_true_eq]
     exact⟨λh=>uY (m:=[48]) h,λh=>by rw [h]⟩]
    by_cases h:l=[48] <;> simp [h]
   have hse:sEq (SB (Lib.itoa n)) (SB l)=decide (Lib.itoa n=l):=by
    rw [Bool.eq_iff_iff,fJ]
    simp only [decide_eq_true_eq]
    exact⟨λh=>uY h,λh=>by rw [h]⟩
   rw [ha,ob_,ob_,zb hnm,ob_,ob_,hse,h48e,hsn]
   by_cases hbad:b.toNat=48/\l ≠ [48]
   ·rw [decide_eq_true hbad.1,decide_eq_true hbad.2,decide_eq_false (λe=>hw.1 e hbad)]
    exact⟨0,n,false,rfl,rfl,(λh=>by cases h),med0,hnm⟩
   ·rw [decide_eq_true (hw.2 hbad)]
    refine⟨n,n,true,?_,rfl,λ_=>rfl,hnm,hnm⟩
    by_cases h48:b.toNat=48
    ·have:¬l ≠ [48]:=λh=>hbad ⟨h48,h⟩
     rw [decide_eq_true h48,decide_eq_false this];rfl
    ·rw [decide_eq_false h48];rfl
def DD:ByteArray:=⟨#[]⟩
def oP {α:Type} (key:α->ByteArray) (l:List α) (k:Nat):ByteArray:=if k=0 then DD else match l[k-1]? with | some y=>key y | none=>DD
def chk {α:Type} (key:α->ByteArray) (stp:ByteArray->α->Int):ByteArray->List α->Int
 | _,[]=>0
 | last,x::xs=>bif stp last x==0 then chk key stp (key x) xs else stp last x
def Cc (e:Int):Ctl Unit Int:=bif e==0 then .go ()else .ret e
theorem qO {α:Type} {key:α->ByteArray} {stp:ByteArray->α->Int} {body:Nat->α->Unit->Option (Ctl Unit Int)} (l:List α):∀(xs:List α) (k:Nat),l.drop k=xs->(∀k x,l[k]? = some x->body k x ()=some (Cc (stp (oP key l k) x))) ->
  forR body xs k ()=some (Cc (chk key stp (oP key l k) xs))
 | [],k,h,hb=>rfl
 | x::xs,k,h,hb=>by
  have hg:=EQ h
  rw [forR,hb k x hg,ob_,chk]
  cases he:stp (oP key l k) x==0 with
  | true =>
   simp only [Cc,he,cond_true]
   rw [qO l xs (k+1) (bP h) hb]
   have:oP key l (k+1)=key x:=by simp [oP,hg]
   rw [this];rfl
  | false=>simp only [Cc,he,cond_false]
theorem Aa {α:Type} {key:α->ByteArray} {stp:ByteArray->α->Int} {body:Nat->α->ByteArray->Option (Ctl ByteArray Int)}:∀(xs:List α) (k:Nat) (last:ByteArray),(∀k x last,x∈xs->body k x last=some (bif stp last x==0 then .go (key x)else .ret (stp last x))) ->
  ∃o,forR body xs k last=some o/\thenC o (λ_=>some (0:Int)) (λr=>some r)=some (chk key stp last xs)
 | [],k,last,hb=>⟨_,rfl,rfl⟩
 | x::xs,k,last,hb=>by
  rw [forR,hb k x last (by simp),ob_,chk]
  cases he:stp last x==0 with
  | true=>exact Aa xs (k+1) (key x) (λk y last hy=>hb k y last (by simp [hy]))
  | false=>exact⟨_,rfl,rfl⟩
theorem rQ (e:Int):thenC (Cc e) (λ_=>some (0:Int)) (λr=>some r)=some e:=by
 unfold Cc
 cases h:e==0 with
 | true=>simp only [cond_true,jq];rw [eq_of_beq h]
 | false=>rfl
def sj (last x:ByteArray):Int:=bif !jC x then 5 else bif sLe x last then 7 else 0
def nL (l:List ByteArray):Int:=bif decide (l.length>20)then 2 else chk id sj DD l
theorem Fb {α:Type} {l:List α} {k:Nat} {x:α} (h:l[k]? = some x) (hk:0<k) (hl:l.length<=1000000000):∃y,idx l (w64 ((k:Int)-1))=some y/\l[k-1]? = some y:=by
 have hlt:k<l.length:=(List.getElem?_eq_some_iff.1 h).1
 rw [gP (by omega),show (k:Int)-1=((k-1:Nat):Int) by omega,y5]
 exact⟨l[k-1],List.getElem?_eq_getElem (by omega),List.getElem?_eq_getElem (by omega)⟩
theorem rO {α:Type} {key:α->ByteArray} {l:List α} {k:Nat} {x:α} {s:ByteArray} (h:l[k]? = some x) (hl:l.length<=1000000000) (hs:s.size≠0) :
  (bif decide ((k:Int)>0)then (idx l (w64 ((k:Int)-1))).bind λy=>some (sLe s (key y))else some false)=some (sLe s (oP key l k)):=by
 by_cases hk:0<k
 ·obtain ⟨y,h1,h2⟩:=Fb h hk hl
  have hd:decide ((k:Int)>0)=true:=by simp;omega
  simp only [hd,cond_true,h1,ob_,oP,if_neg (show ¬k=0 by omega),h2]
 ·have hk0:k=0:=by omega
  subst hk0
  simp only [oP,if_pos,DD,sLe_nil,decide_eq_false hs]
  rfl
theorem tagsK (l:List ByteArray) (hs:∀t∈l,jl t) (hl:l.length<=1000000000):dP l=some (nL l):=by
 unfold dP nL
 have e:decide ((l.length:Int)>20)=decide (l.length>20):=decide_eq_decide.2 (by omega)
 rw [e]
 cases decide (l.length>20)with
 | true=>rfl
 | false =>
  simp only [cond_false]
  unfold fA
  rw [fI (by omega),qO (key:=id) (stp:=sj) l l 0 rfl (λk x hx => ?_)]
  ·simp only [ob_,rQ];rfl
  ·have hxs:jl x:=hs x (List.mem_of_getElem? hx)
   simp only [dW,vJ x (by unfold jl at hxs;omega),ob_,sj]
   cases hk:jC x with
   | false=>rfl
   | true =>
    simp only [Bool.not_true,cond_false]
    have:=rO (key:=id) hx hl (yO hk)
    simp only [id]at this
    rw [this,ob_]
    cases sLe x (oP id l k) <;> rfl
theorem tagsR (l:List ByteArray) (hs:∀t∈l,jl t) (hl:l.length<=1000000000):iI l=some (nL l):=by
 unfold iI nL
 have e:decide ((l.length:Int)>20)=decide (l.length>20):=decide_eq_decide.2 (by omega)
 rw [e]
 cases decide (l.length>20)with
 | true=>rfl
 | false =>
  simp only [cond_false]
  unfold iQ
  rw [fI (by omega),qO (key:=id) (stp:=sj) l l 0 rfl (λk x hx => ?_)]
  ·simp only [ob_,rQ];rfl
  ·have hxs:jl x:=hs x (List.mem_of_getElem? hx)
   simp only [gm,sJ x (by unfold jl at hxs;omega),ob_,sj]
   cases hk:jC x with
   | false=>rfl
   | true =>
    simp only [Bool.not_true,cond_false]
    have:=rO (key:=id) hx hl (yO hk)
    simp only [id]at this
    rw [this,ob_]
    cases sLe x (oP id l k) <;> rfl
def Bo (w:Window):Bool:=decide (w.From<0)||(decide (w.From>=w.To)||decide (w.To>345686400000))
def out (n hi:Int):Bool:=decide (n<0)||decide (n>hi)
theorem Dp (w:Window):fQ w=some (!Bo w):=by
 unfold fQ Bo
 have e1:decide (w.From>=0) = !decide (w.From<0):=by rw [Bool.eq_iff_iff];simp
 have e2:decide (w.From<w.To) = !decide (w.From>=w.To):=by rw [Bool.eq_iff_iff];simp
 have e3:decide (w.To<=345686400000) = !decide (w.To>345686400000):=by rw [Bool.eq_iff_iff];simp
 rw [e1,e2,e3]
 cases decide (w.From<0) <;> cases decide (w.From>=w.To) <;> cases decide (w.To>345686400000) <;> rfl
theorem Ch (n hi:Int):eG n 0 hi=some (out n hi):=by
 unfold eG out
 cases decide (n<0) <;> cases decide (n>hi) <;> rfl
theorem in_eq (n hi:Int):nz n 0 hi=some (!out n hi):=by
 unfold nz out
 have e1:decide (0<=n) = !decide (n<0):=by rw [Bool.eq_iff_iff];simp
 have e2:decide (n<=hi) = !decide (n>hi):=by rw [Bool.eq_iff_iff];simp
 rw [e1,e2]
 cases decide (n<0) <;> cases decide (n>hi) <;> rfl
def ny (last:ByteArray) (c:Campaign):Int :=
 bif !jC c.Key||(decide (c.Class.size≠0) && !jC c.Class)then 5 else bif sLe c.Key last then 7 else
 bif Bo c.Time||(out c.Goal 1000000||(out c.Most 1000000||out c.Cents 1000000000))then 1 else nL c.Tags
def jI (l:List Campaign):Int:=bif decide (l.length>30)then 2 else chk Campaign.Key ny DD l
theorem EZ (l:List Campaign) (hg:∀x∈l,rA x) (hl:l.length<=1000000):aN l=some (jI l):=by
 unfold aN jI
 have e:decide ((l.length:Int)>30)=decide (l.length>30):=decide_eq_decide.2 (by omega)
 rw [e]
 cases decide (l.length>30)with
 | true=>rfl
 | false =>
  simp only [cond_false]
  rw [fI (by omega),qO (key:=Campaign.Key) (stp:=ny) l l 0 rfl (λk x hx => ?_)]
  ·simp only [ob_,rQ];rfl
  ·obtain ⟨g1,g0,g2,g3⟩:=hg x (List.mem_of_getElem? hx)
   simp only [bO,vJ x.Key (by unfold jl at g1;omega),vJ x.Class (by unfold jl at g0;omega),yY,ob_,ny,Dp,Ch,tagsK x.Tags g3 (by omega)]
   cases hk:jC x.Key with
   | false=>rfl
   | true =>
    simp only [Bool.not_true,cond_false,Bool.false_or]
    have hc:(bif decide (x.Class.size≠0)then some (!jC x.Class)else some false)=some (decide (x.Class.size≠0) && !jC x.Class):=by cases decide (x.Class.size≠0) <;> rfl
    rw [hc,ob_]
    cases (decide (x.Class.size≠0) && !jC x.Class)with
    | true=>rfl
    | false =>
    simp only [cond_false]
    rw [rO (key:=Campaign.Key) hx (by omega) (yO hk),ob_]
    cases sLe x.Key (oP Campaign.Key l k)with
    | true=>rfl
    | false =>
     simp only [cond_false]
     cases Bo x.Time <;> cases out x.Goal 1000000 <;> cases out x.Most 1000000 <;> cases out x.Cents 1000000000 <;> simp only [Bool.not_true,Bool.not_false,cond_true,cond_false,ob_,Bool.or_true,Bool.or_false,Bool.true_or,Bool.false_or] <;> first | rfl | skip
     simp only [Cc]
     have:(nL x.Tags != 0) = !(nL x.Tags==0):=rfl
     rw [this]
     cases nL x.Tags==0 <;> rfl
theorem Ff (l:List Campaign) (hg:∀x∈l,rA x) (hl:l.length<=1000000):dD l=some (jI l):=by
 unfold dD jI
 have e:decide ((l.length:Int)>30)=decide (l.length>30):=decide_eq_decide.2 (by omega)
 rw [e]
 cases decide (l.length>30)with
 | true=>rfl
 | false =>
  simp only [cond_false]
  obtain ⟨o,h1,h2⟩:=Aa (body:=λk x s=>dA k x s) (key:=Campaign.Key) (stp:=ny) l 0 DD (λk x last hx=>by
   obtain ⟨g1,g0,g2,g3⟩:=hg x hx
   simp only [dA,sJ x.Key (by unfold jl at g1;omega),sJ x.Class (by unfold jl at g0;omega),yY,ob_,ny,in_eq,tagsR x.Tags g3 (by omega),Bo]
   cases hk:jC x.Key with
   | false=>rfl
   | true =>
    simp only [Bool.not_true,cond_false,Bool.false_or]
    have hc:(bif decide (x.Class.size≠0)then some (!jC x.Class)else some false)=some (decide (x.Class.size≠0) && !jC x.Class):=by cases decide (x.Class.size≠0) <;> rfl
    rw [hc,ob_]
    cases (decide (x.Class.size≠0) && !jC x.Class)with
    | true=>rfl
    | false =>
    simp only [cond_false]
    cases sLe x.Key last with
    | true=>rfl
    | false =>
     simp only [cond_false]
     cases decide (x.Time.From<0) <;> cases decide (x.Time.From>=x.Time.To) <;> cases decide (x.Time.To>345686400000) <;> cases out x.Goal 1000000 <;> cases out x.Most 1000000 <;> cases out x.Cents 1000000000 <;> simp only [Bool.not_true,Bool.not_false,cond_true,cond_false,ob_,Bool.or_true,Bool.or_false,Bool.true_or,Bool.false_or] <;> first | rfl | skip
     have:(nL x.Tags != 0) = !(nL x.Tags==0):=rfl
     rw [this]
     cases nL x.Tags==0 <;> rfl)
  rw [fI (by omega)]
  have h1':forR (λk x s=>dA k x s) l 0 { data := #[] }=some o:=h1
  rw [h1',ob_];exact h2
end Go.Proofs.YtigdobmllbakiacGreatDoor.Law

