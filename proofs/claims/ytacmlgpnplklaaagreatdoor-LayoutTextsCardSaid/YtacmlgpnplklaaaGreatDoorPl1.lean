/-
  THE PLAIN LAW (part 1).
-/
import Derived.Test.YtacmlgpnplklaaaGreatDoorEng5
import Derived.Test.YtacmlgpnplklaaaGreatDoorDefs
import Derived.Lib.ItoaLen
namespace Go.Eng
set_option linter.unusedVariables false
set_option linter.unusedSimpArgs false
theorem iR {α σ ρ:Type} {body:Nat->α->σ->Option (Ctl σ ρ)} {xs:List α} {s:σ} (hl:xs.length<=1000000000000):forL xs s body=forR body xs 0 s:=by unfold forL;rw [if_pos hl]
theorem Dp {α σ ρ:Type} {body:Nat->α->σ->Option (Ctl σ ρ)} (I:Nat->σ->Prop) (N:Nat):∀(xs:List α) (k:Nat) (s:σ),k+xs.length=N->(∀k x s,x∈xs->k<N->I k s->∃s',body k x s=some (.go s')/\I (k+1) s')->I k s->∃s',forR body xs k s=some (.go s')/\I N s'
 | [],k,s,hN,h,hi=>⟨s,rfl,by simp only [List.length_nil,Nat.add_zero]at hN;rw [<- hN];exact hi⟩
 | x::xs,k,s,hN,h,hi=>by
  simp only [List.length_cons]at hN
  obtain ⟨s1,h1,h2⟩:=h k x s (by simp) (by omega) hi
  obtain ⟨s2,h3,h4⟩:=Dp I N xs (k+1) s1 (by omega) (λk x s hx=>h k x s (by simp [hx])) h2
  exact⟨s2,by simp only [forR,h1,ob_];exact h3,h4⟩
theorem y9 {α σ ρ:Type} {body:Nat->α->σ->Option (Ctl σ ρ)} (I:Nat->σ->Prop) {xs:List α} {s:σ} (hl:xs.length<=1000000000000) (h:∀k x s,x∈xs->k<xs.length->I k s->∃s',body k x s=some (.go s')/\I (k+1) s') (h0:I 0 s):∃s',forL xs s body=some (.go s')/\I xs.length s':=by
 obtain ⟨s',h1,h2⟩:=Dp I xs.length xs 0 s (by omega) h h0
 exact⟨s',by rw [iR hl];exact h1,h2⟩
theorem qZ {σ ρ τ:Type} (s:σ) (f:σ->Option τ) (g:ρ->Option τ):thenC (.go s) f g=f s:=rfl
theorem Gx {σ ρ τ:Type} (r:ρ) (f:σ->Option τ) (g:ρ->Option τ):thenC (.ret r) f g=g r:=rfl
theorem Bl {α:Type} (xs:List α) (k:Nat):idx xs (k:Int)=xs[k]? := by simp [idx]
theorem eT {n:Int} (h : -9223372036854775808<=n/\n<=9223372036854775807):w64 n=n:=Ho n h
theorem toL (s:ByteArray):s.toList=s.data.toList:=Go.Lib.toList_data s
theorem xL {a b:ByteArray} (h:a.toList=b.toList):a=b:=by
 rw [toL,toL]at h
 obtain ⟨⟨a⟩⟩:=a
 obtain ⟨⟨b⟩⟩:=b
 simp only at h
 rw [h]
theorem jb (a b:ByteArray):sEq a b=true↔a=b:=by
 simp only [sEq,beq_iff_eq]
 exact⟨xL,λh=>by rw [h]⟩
theorem sEq_dec (a b:ByteArray):sEq a b=decide (a=b):=by
 rw [Bool.eq_iff_iff,jb];simp
theorem xJ (a b:ByteArray):sNe a b = !decide (a=b):=by
 have:=sEq_dec a b;simp only [sEq,sNe]at *;rw [this]
abbrev bl:=Op.bytesLess
theorem bl_lt:∀(x y:List UInt8),bl x y=decide (x<y)
 | _,[]=>by simp [bl,Op.bytesLess]
 | [],_::_=>by simp [bl,Op.bytesLess]
 | a::x,b::y=>by
  have:=bl_lt x y
  simp only [bl,Op.bytesLess]at this ⊢
  rw [this,Bool.eq_iff_iff]
  simp only [Bool.or_eq_true,decide_eq_true_eq,Bool.and_eq_true,beq_iff_eq,List.cons_lt_cons_iff]
def lt (a b:ByteArray):Prop:=a.toList<b.toList
theorem sLt_iff (a b:ByteArray):sLt a b=true↔lt a b:=by
 show bl a.toList b.toList=true↔_
 rw [bl_lt];simp [lt]
theorem Ib (a:ByteArray):¬lt a a:=List.lt_irrefl a.toList
theorem lt_trans {a b c:ByteArray} (h:lt a b) (k:lt b c):lt a c:=List.lt_trans h k
theorem lt_tri (a b:ByteArray):lt a b\/a=b\/lt b a:=by
 rcases Classical.em (lt a b)with h|h
 ·exact .inl h
 ·rcases Classical.em (lt b a)with h2|h2
  ·exact .inr (.inr h2)
  ·exact .inr (.inl (xL (List.le_antisymm (List.not_lt.1 h2) (List.not_lt.1 h))))
theorem sLe_iff (a b:ByteArray):sLe a b=true↔¬lt b a:=by
 have h1:=sLt_iff a b
 have h2:=jb a b
 simp only [sLe,Bool.or_eq_true]
 constructor
 ·rintro (h|h)
  ·exact λk=>Ib _ (lt_trans (h1.1 h) k)
  ·rw [h2.1 h];exact Ib _
 ·intro h
  rcases lt_tri a b with k|k|k
  ·exact .inl (h1.2 k)
  ·exact .inr (h2.2 k)
  ·exact absurd k h
theorem sLe_nil (a:ByteArray):sLe a ⟨#[]⟩=decide (a.size=0):=by
 rw [Bool.eq_iff_iff,sLe_iff,lt,toL,toL,Go.Lib.size_eq]
 cases a.data.toList <;> simp
theorem sNe_nil (a:ByteArray):sNe a ⟨#[]⟩=decide (a.size≠0):=by
 rw [xJ,Go.Lib.size_eq,Bool.eq_iff_iff]
 simp only [Bool.not_eq_true',decide_eq_false_iff_not,decide_eq_true_eq,ne_eq]
 refine not_congr ⟨λh=>by rw [h];rfl,λh => ?_⟩
 exact xL (by rw [toL,List.eq_nil_of_length_eq_zero h,toL])
end Go.Eng

open Go Go.Eng
namespace Go.Proofs.YtacmlgpnplklaaaGreatDoor.Law
set_option linter.unusedVariables false
set_option linter.unusedSimpArgs false
def Ok (s:Stream) (b:Int):Prop:=0<=s.f_at/\s.f_at<=b
theorem Ok.mono {s:Stream} {b c:Int} (h:Ok s b) (hc:b<=c):Ok s c:=⟨h.1,Int.le_trans h.2 hc⟩
theorem yL (x n:Int) (h:1<=n) (hn:n<=4611686018427387904):∃r,nR x n=some r/\0<=r/\r<n:=by
 have h1:x.tmod n<n:=Int.tmod_lt_of_pos x (by omega)
 have h2 : -n<x.tmod n:=Int.lt_tmod_of_pos x (by omega)
 have hb:decide (n<1)=false:=by simp;omega
 have hn0:n≠0:=by omega
 simp only [nR,hb,cond_false,Gb,if_neg hn0,ob_]
 cases hd:decide (x.tmod n<0)with
 | true =>
  simp only [decide_eq_true_eq]at hd
  exact⟨_,rfl,by rw [eT (by omega)];omega,by rw [eT (by omega)];omega⟩
 | false =>
  simp only [decide_eq_false_iff_not]at hd
  exact⟨_,rfl,by omega,h1⟩
theorem mU (s:Stream) (n:Int) {b:Int} (hs:Ok s b) (hb:b<=1000000) (h:1<=n) (hn:n<=4611686018427387904):∃r s',bZ s n=some (r,s')/\0<=r/\r<n/\Ok s' (b+1):=by
 obtain ⟨h0,h1⟩:=hs
 have e1:w64 (s.f_at+1)=s.f_at+1:=eT (by omega)
 have e2:w64 (s.f_at+1-1)=s.f_at:=by rw [eT (by omega)];omega
 simp only [bZ,e1,e2]
 by_cases hl:s.L.length=0
 ·have:((s.L.length:Int)==0)=true:=by simp [hl]
  simp only [this,cond_true]
  obtain ⟨r,hr,h2,h3⟩:=yL (w64 ((s.f_at+1)*7919)) n h hn
  exact⟨r,_,by rw [hr];rfl,h2,h3,⟨by show 0<=s.f_at+1;omega,by show s.f_at+1<=b+1;omega⟩⟩
 ·have hne:(s.L.length:Int)≠0:=by omega
  have:((s.L.length:Int)==0)=false:=by simpa using hl
  simp only [this,cond_false,Gb,quoO,if_neg hne,ob_]
  have h2:0<=s.f_at.tmod s.L.length:=Int.tmod_nonneg _ h0
  have hp:(0:Int)<(s.L.length:Int):=by have:=Nat.pos_of_ne_zero hl;omega
  have h3:s.f_at.tmod s.L.length<s.L.length:=Int.tmod_lt_of_pos _ hp
  have hi:idx s.L (s.f_at.tmod s.L.length)=some s.L[(s.f_at.tmod s.L.length).toNat]:=by
   simp only [idx,if_pos h2]
   exact List.getElem?_eq_getElem (by omega)
  obtain ⟨r1,hr1,_,_⟩:=yL s.L[(s.f_at.tmod s.L.length).toNat] 1073741824 (by decide) (by decide)
  simp only [hi,hr1,ob_]
  generalize w64 (r1+_)=y
  obtain ⟨r,hr,h4,h5⟩:=yL y n h hn
  exact⟨r,_,by rw [hr];rfl,h4,h5,⟨by show 0<=s.f_at+1;omega,by show s.f_at+1<=b+1;omega⟩⟩
theorem uh (s:Stream) (n:Int) {b:Int} (hs:Ok s b) (hb:b<=1000000) (h:1<=n) (hn:n<=1000):∃r s',eZ s n=some (r,s')/\Ok s' (b+1):=by
 obtain ⟨r,s',h1,_,_,h2⟩:=mU s n hs hb h (by omega)
 exact⟨r==0,s',by simp only [eZ,h1,ob_],h2⟩
theorem F5 {α:Type} {l:List α} {r:Int} (h0:0<=r) (h1:r<l.length):∃y,idx l r=some y/\y∈l:=by
 refine⟨l[r.toNat]'(by omega),?_,List.getElem_mem _⟩
 simp only [idx,if_pos h0]
 exact List.getElem?_eq_getElem (by omega)
theorem lQ (s:Stream) (l:List Int) {b:Int} (hs:Ok s b) (hb:b<=1000000) (h:1<=l.length) (hn:l.length<=1000):∃r s',dJ s l=some (r,s')/\r∈l/\Ok s' (b+1):=by
 obtain ⟨r,s',h1,h2,h3,h4⟩:=mU s l.length hs hb (by omega) (by omega)
 obtain ⟨y,hy,hm⟩:=F5 h2 h3
 exact⟨y,s',by simp only [dJ,h1,hy,ob_],hm,h4⟩
theorem Fz (s:Stream) (l:List ByteArray) {b:Int} (hs:Ok s b) (hb:b<=1000000) (h:1<=l.length) (hn:l.length<=1000):∃r s',iH s l=some (r,s')/\r∈l/\Ok s' (b+1):=by
 obtain ⟨r,s',h1,h2,h3,h4⟩:=mU s l.length hs hb (by omega) (by omega)
 obtain ⟨y,hy,hm⟩:=F5 h2 h3
 exact⟨y,s',by simp only [iH,h1,hy,ob_],hm,h4⟩
theorem ig (s:Stream) (lo hi:Int) {b:Int} (hs:Ok s b) (hb:b<=1000000) (h:lo<=hi) (h1 : -1000000000000<=lo) (h2:hi<=1000000000000):∃r s',bI s lo hi=some (r,s')/\lo<=r/\r<=hi/\Ok s' (b+1):=by
 have hd:decide (hi<lo)=false:=by simp;omega
 have e1:w64 (hi-lo)=hi-lo:=eT (by omega)
 have e2:w64 (hi-lo+1)=hi-lo+1:=eT (by omega)
 obtain ⟨r,s',k1,k2,k3,k4⟩:=mU s (hi-lo+1) hs hb (by omega) (by omega)
 simp only [bI,hd,cond_false,e1,e2,k1,ob_]
 exact⟨_,s',rfl,by rw [eT (by omega)];omega,by rw [eT (by omega)];omega,k4⟩
theorem yw (s:Stream) (lo hi:Int) {b:Int} (hs:Ok s b) (hb:b<=900000) (h:lo<=hi) (h1 : -1000000000000<=lo) (h2:hi<=1000000000000):∃r s',eU s lo hi=some (r,s')/\Ok s' (b+2):=by
 obtain ⟨c,s1,k1,k2⟩:=uh s 12 hs (by omega) (by decide) (by decide)
 simp only [eU,k1,ob_]
 cases c with
 | true =>
  obtain ⟨r,s2,m1,_,m2⟩:=lQ s1 [(w64 (lo-1)),(w64 (hi+1)),lo,hi,(-1099511627776),1099511627776] k2 (by omega) (by simp) (by simp)
  simp only [cond_true,m1,ob_]
  exact⟨_,_,rfl,m2.mono (by omega)⟩
 | false =>
  obtain ⟨r,s2,m1,_,_,m2⟩:=ig s1 lo hi k2 (by omega) h h1 h2
  simp only [cond_false,m1,ob_]
  exact⟨_,_,rfl,m2.mono (by omega)⟩
end Go.Proofs.YtacmlgpnplklaaaGreatDoor.Law

open Go Go.Eng
namespace Go.Proofs.YtacmlgpnplklaaaGreatDoor.Law
set_option linter.unusedVariables false
set_option linter.unusedSimpArgs false
def qF (b:UInt8):Bool:=decide (97<=b.toNat)&&decide (b.toNat<=122)
def D5 (b:UInt8):Bool:=(decide (48<=b.toNat)&&decide (b.toNat<=57))||(b.toNat==45)||(b.toNat==95)
def okB (i:Nat) (b:UInt8):Bool:=qF b||(decide (0<i)&&D5 b)
def dL (s:ByteArray) (i:Nat):UInt8:=s.data.toList.getD i 0
def tX (s:ByteArray):Bool:=decide (s.size≠0)&&(decide (s.size<=40)&&(List.range s.size).all λi=>okB i (dL s i))
theorem q8 (s:ByteArray) (k:Nat) (h:k<s.size):sQ s (k:Int)=some (dL s k):=by
 have h1:s[k]? = some s[k]:=by simp [h]
 have h2:dL s k=s[k]:=by
  have hl:k<s.data.toList.length:=by rw [<- Go.Lib.size_eq];exact h
  simp only [dL,List.getD_eq_getElem?_getD,List.getElem?_eq_getElem hl,Option.getD_some]
  simp
  rfl
 simp only [sQ,if_pos (Int.natCast_nonneg k),Int.toNat_natCast,h1,h2]
theorem Dh (s:ByteArray) (k:Nat) (hs:s.size<=1000000000):iO s (k:Int)=some (if k<s.size then (bif okB k (dL s k)then .go ((k+1:Nat):Int)else .ret false)else .brk (k:Int)):=by
 unfold iO
 by_cases h:k<s.size
 ·have hd:decide ((k:Int)<(s.size:Int))=true:=by simp;omega
  have hw:w64 ((k:Int)+1)=((k+1:Nat):Int):=by rw [eT (by omega)];omega
  simp only [hd,cond_true,q8 s k h,ob_,if_pos h,hw]
  generalize dL s k=b
  simp only [okB,qF,D5]
  have e1:decide ((b.toNat:Int)>=97)=decide (97<=b.toNat):=decide_eq_decide.2 (by omega)
  have e2:decide ((b.toNat:Int)<=122)=decide (b.toNat<=122):=decide_eq_decide.2 (by omega)
  have e3:decide ((k:Int)>0)=decide (0<k):=decide_eq_decide.2 (by omega)
  have e4:decide ((b.toNat:Int)>=48)=decide (48<=b.toNat):=decide_eq_decide.2 (by omega)
  have e5:decide ((b.toNat:Int)<=57)=decide (b.toNat<=57):=decide_eq_decide.2 (by omega)
  have e6:((b.toNat:Int)==45)=(b.toNat==45):=by rw [Bool.eq_iff_iff];simp;omega
  have e7:((b.toNat:Int)==95)=(b.toNat==95):=by rw [Bool.eq_iff_iff];simp;omega
  rw [e1,e2,e3,e4,e5,e6,e7]
  cases decide (97<=b.toNat) <;> cases decide (b.toNat<=122) <;> cases decide (0<k) <;> cases decide (48<=b.toNat) <;> cases decide (b.toNat<=57) <;> cases (b.toNat==45) <;> cases (b.toNat==95) <;> rfl
 ·have hd:decide ((k:Int)<(s.size:Int))=false:=by simp;omega
  simp only [hd,cond_false,if_neg h]
theorem zn (s:ByteArray) (hs:s.size<=1000000000):∀(n k:Nat),k+n=s.size->iterN (λi=>iO s i) (n+1) (k:Int)=some (bif (List.range' k n).all (λj=>okB j (dL s j))then .go (s.size:Int)else .ret false)
 | 0,k,h=>by
  have hk:¬k<s.size:=by omega
  simp only [iterN,Dh s k hs,if_neg hk,ob_,List.range'_zero,List.all_nil,cond_true]
  rw [show (k:Int)=s.size by omega]
 | n+1,k,h=>by
  have hk:k<s.size:=by omega
  rw [iterN,Dh s k hs,if_pos hk,ob_,List.range'_succ,List.all_cons]
  cases okB k (dL s k)with
  | true=>simp only [cond_true,Bool.true_and];exact zn s hs n (k+1) (by omega)
  | false=>rfl
theorem CF (s:ByteArray) (hs:s.size<=1000000000):ni s=some (tX s):=by
 have h:=lJ (zn s hs s.size 0 (by omega))
 unfold ni
 have h':lV (0:Int) (λs_1=>iO s s_1)=_:=h
 rw [h',ob_,<- List.range_eq_range']
 have e:decide ((s.size:Int)<=40)=decide (s.size<=40):=decide_eq_decide.2 (by omega)
 simp only [tX]
 cases (List.range s.size).all (λi=>okB i (dL s i))with
 | true =>
  rw [cond_true,qZ,sNe_nil,e,Bool.and_true]
  cases decide (s.size≠0) <;> rfl
 | false=>simp only [cond_false,Gx,Bool.and_false]
def ou (t:ByteArray) (b:UInt8):Bool := !decide (ixB t (b.toNat:Int)<0)
theorem only_L1 (s t:ByteArray) (k x:Nat) (h:k<s.size):kv s t k x ()=some (bif ou t (dL s k)then .go ()else .ret false):=by
 simp only [kv,q8 s k h,strings_IndexByte,bU,ob_,ou]
 cases decide (ixB t ((dL s k).toNat:Int)<0) <;> rfl
theorem DX (s t:ByteArray):∀(xs:List Nat) (k:Nat),k+xs.length=s.size->forR (λk x u=>kv s t k x u) xs k ()=some (bif (List.range' k xs.length).all (λj=>ou t (dL s j))then .go ()else .ret false)
 | [],k,h=>rfl
 | x::xs,k,h=>by
  simp only [List.length_cons]at h ⊢
  have hk:k<s.size:=by omega
  rw [forR,only_L1 s t k x hk,ob_,List.range'_succ,List.all_cons]
  cases ou t (dL s k)with
  | true=>simp only [cond_true,Bool.true_and];exact DX s t xs (k+1) (by omega)
  | false=>rfl
theorem BR (s t:ByteArray) (hs:s.size<=1000000000):lU s t=some ((List.range s.size).all λi=>ou t (dL s i)):=by
 unfold lU
 rw [Int.toNat_natCast,iR (by simp;omega),DX s t _ 0 (by simp),ob_,List.length_range,<- List.range_eq_range']
 cases (List.range s.size).all (λi=>ou t (dL s i)) <;> rfl
def Av:ByteArray:=⟨#[97,98,99,100,101,102,103,104,105,106,107,108,109,110,111,112,113,114,115,116,117,118,119,120,121,122]⟩
def yE:ByteArray:=⟨#[97,98,99,100,101,102,103,104,105,106,107,108,109,110,111,112,113,114,115,116,117,118,119,120,121,122,48,49,50,51,52,53,54,55,56,57,45,95]⟩
theorem A9:∀n:Fin 256,ou Av (UInt8.ofNat n.val)=qF (UInt8.ofNat n.val)/\ou yE (UInt8.ofNat n.val)=(qF (UInt8.ofNat n.val)||D5 (UInt8.ofNat n.val)):=by decide +kernel
theorem CQ (b:UInt8):ou Av b=qF b:=by
 have:=(A9 ⟨b.toNat,b.toNat_lt⟩).1
 simpa using this
theorem CX (b:UInt8):ou yE b=(qF b||D5 b):=by
 have:=(A9 ⟨b.toNat,b.toNat_lt⟩).2
 simpa using this
theorem Ak (s:ByteArray) (hs:s.size<=1000000000):rM s=some (tX s):=by
 unfold rM mG
 have e1:decide ((1:Int)<=(s.size:Int))=decide (s.size≠0):=decide_eq_decide.2 (by omega)
 have e2:decide ((s.size:Int)<=40)=decide (s.size<=40):=decide_eq_decide.2 (by omega)
 rw [e1,e2]
 by_cases h1:s.size≠0
 ·by_cases h2:s.size<=40
  ·have hsub:lc s 0 1=some (s.extract 0 1):=by
    unfold lc;rw [if_pos ⟨by omega,by omega,by decide,by show 1<=s.size;omega⟩];rfl
   have hsz:(s.extract 0 1).size=1:=by simp [ByteArray.size_extract];omega
   have hb:dL (s.extract 0 1) 0=dL s 0:=by
    obtain ⟨⟨l⟩⟩:=s
    simp only [dL]
    cases l with
    | nil=>exact absurd rfl h1
    | cons b l=>simp [ByteArray.extract,ByteArray.copySlice]
   simp only [decide_eq_true h1,decide_eq_true h2,cond_true,ob_,hsub]
   have o1:=BR (s.extract 0 1) Av (by omega)
   have o2:=BR s yE hs
   unfold Av at o1
   unfold yE at o2
   rw [o1,ob_,o2]
   have e3:(List.range (s.extract 0 1).size).all (λi=>ou Av (dL (s.extract 0 1) i))=qF (dL s 0):=by
    rw [hsz]
    simp only [List.range_succ,List.range_zero,List.nil_append,List.all_cons,List.all_nil,Bool.and_true]
    rw [hb,CQ]
   have e3':=e3
   unfold Av at e3'
   rw [e3']
   have e4:∀i,ou yE (dL s i)=(qF (dL s i)||D5 (dL s i)):=λi=>CX _
   have e5:tX s=(qF (dL s 0)&&(List.range s.size).all (λi=>ou yE (dL s i))):=by
    simp only [tX,decide_eq_true h1,decide_eq_true h2,Bool.true_and,e4]
    rw [Bool.eq_iff_iff]
    simp only [List.all_eq_true,List.mem_range,Bool.and_eq_true,okB,Bool.or_eq_true,decide_eq_true_eq]
    constructor
    ·intro h
     refine⟨?_,λi hi=>(h i hi).imp id (λh=>h.2)⟩
     rcases h 0 (by omega)with h|h
     ·exact h
     ·exact absurd h.1 (by omega)
    ·rintro ⟨h3,h4⟩ i hi
     by_cases e:i=0
     ·rw [e];exact .inl h3
     ·exact (h4 i hi).imp id (λh=>⟨by omega,h⟩)
   unfold yE at e5
   rw [e5]
   cases qF (dL s 0) <;> rfl
  ·simp only [decide_eq_true h1,decide_eq_false h2,cond_true,cond_false,ob_,tX,Bool.false_and,Bool.and_false]
 ·simp only [decide_eq_false h1,cond_false,ob_,tX,Bool.false_and]
theorem keyB_ne {s:ByteArray} (h:tX s=true):s.size≠0:=by
 simp only [tX,Bool.and_eq_true,decide_eq_true_eq]at h
 exact h.1
end Go.Proofs.YtacmlgpnplklaaaGreatDoor.Law

open Go Go.Eng
namespace Go.Proofs.YtacmlgpnplklaaaGreatDoor.Law
set_option linter.unusedVariables false
set_option linter.unusedSimpArgs false
def spl (c:UInt8):List UInt8->List (List UInt8)
 | []=>[[]]
 | b::l=>if b=c then []::spl c l else match spl c l with
  | []=>[[b]]
  | x::r=>(b::x)::r
theorem tT (c:UInt8):∀l,spl c l ≠ []
 | []=>by simp [spl]
 | b::l=>by
  unfold spl
  split
  ·simp
  ·split <;> simp
theorem IL {c:UInt8}:∀{x:List UInt8},c∉x->spl c x=[x]
 | [],_=>rfl
 | b::x,h=>by
  have hb:b≠c:=λe=>h (by simp [e])
  have ih:=IL (x:=x) (λe=>h (List.mem_cons_of_mem _ e))
  unfold spl
  rw [if_neg hb,ih]
theorem FL {c:UInt8}:∀{x:List UInt8} (y:List UInt8),c∉x->spl c (x++c::y)=x::spl c y
 | [],y,_=>by
  show spl c (c::y)=_
  rw [spl,if_pos rfl]
 | b::x,y,h=>by
  have hb:b≠c:=λe=>h (by simp [e])
  have ih:=FL (x:=x) y (λe=>h (List.mem_cons_of_mem _ e))
  show spl c (b::(x++c::y))=_
  rw [spl,if_neg hb,ih]
theorem index_c {c b:UInt8} (h:b≠c) (l:List UInt8):Lib.index (b::l) [c]=if Lib.index l [c] == -1 then -1 else Lib.index l [c]+1:=by
 have hp:([c]:List UInt8).isPrefixOf (b::l)=false:=by simp [List.isPrefixOf,Ne.symm h]
 rw [Lib.index,hp];simp
theorem Af (c:UInt8):∀l:List UInt8,Lib.splitK [c] 0 (l.count c) l=spl c l
 | []=>rfl
 | b::l=>by
  have ih:=Af c l
  by_cases hb:b=c
  ·subst hb
   rw [List.count_cons_self,spl,if_pos rfl,<- ih,Lib.splitK]
   have h0:Lib.index (b::l) [b]=0:=by rw [Lib.index];simp [List.isPrefixOf]
   rw [h0]
   simp
  ·rw [List.count_cons_of_ne hb,spl,if_neg hb,<- ih]
   cases hn:l.count c with
   | zero=>rfl
   | succ n =>
    rw [Lib.splitK,Lib.splitK,index_c hb]
    have hg:=Lib.index_ge l [c]
    by_cases hm:Lib.index l [c] = -1
    ·rw [hm];rfl
    ·have e1:(Lib.index l [c] == -1)=false:=by simpa using hm
     rw [e1]
     simp only [Bool.false_eq_true,if_false]
     have e2:(Lib.index l [c]+1 == -1)=false:=by rw [beq_eq_false_iff_ne];omega
     rw [e2]
     simp only [Bool.false_eq_true,if_false,Nat.add_zero,List.length_cons,List.length_nil,Nat.zero_add]
     rw [show (Lib.index l [c]+1).toNat=(Lib.index l [c]).toNat+1 by omega]
     rfl
theorem DR (c:UInt8) {s:ByteArray} (hs:s.size<4294967281):strings_Split s (⟨#[c]⟩:ByteArray)=some ((spl c s.data.toList).map λl=>(⟨l.toArray⟩:ByteArray)):=by
 have h1:(1:Nat)<=(⟨#[c]⟩:ByteArray).size:=Nat.le_refl 1
 show yN s (⟨#[c]⟩:ByteArray)=_
 unfold yN
 rw [if_pos ⟨hs,h1⟩]
 have e1:Lib.countB s (⟨#[c]⟩:ByteArray)=s.data.toList.count c:=by
  show Lib.count s.data.toList [c]=_
  exact Lib.count_one c _
 have e2:=Lib.splitB_data (⟨#[c]⟩:ByteArray) 0 (s.data.toList.count c) s
 have e3:(Lib.splitB (⟨#[c]⟩:ByteArray) 0 (s.data.toList.count c) s).map (λx=>x.data.toList)=spl c s.data.toList:=by
  rw [<- Af];exact e2
 rw [e1,<- e3,List.map_map]
 congr 1
 exact (List.map_id _).symm.trans (List.map_congr_left (λx _=>rfl))
def qy (b:UInt8):Bool:=decide (48<=b.toNat)&&decide (b.toNat<=57)
theorem digB_of {n:Nat} (h:n<10):(UInt8.ofNat (48+n)).toNat=48+n:=by
 rw [UInt8.toNat_ofNat'];omega
theorem ddS {u:Nat} (h:u<10):Lib.decDigits u=[UInt8.ofNat (48+u)]:=by rw [Lib.decDigits,dif_pos h]
theorem ddB {u:Nat} (h:¬u<10):Lib.decDigits u=Lib.decDigits (u / 10)++[UInt8.ofNat (48+u % 10)]:=by rw [Lib.decDigits,dif_neg h]
theorem wE:∀(l:List UInt8) (a m:Nat) (b:UInt8) (d:Nat),Lib.decFrom a l=some m->Lib.digitVal b=some d->Lib.decFrom a (l++[b])=some (m*10+d)
 | [],a,m,b,d,h,hd=>by
  simp only [Lib.decFrom,so_]at h
  subst h
  simp only [List.nil_append,Lib.decFrom,hd]
 | x::l,a,m,b,d,h,hd=>by
  simp only [List.cons_append,Lib.decFrom]at h ⊢
  cases hx:Lib.digitVal x with
  | none=>rw [hx]at h;cases h
  | some e =>
   rw [hx]at h
   exact wE l _ m b d h hd
theorem dd_ne (u:Nat):Lib.decDigits u ≠ []:=by
 by_cases h:u<10
 ·rw [ddS h];simp
 ·rw [ddB h];simp
theorem Ff (u:Nat) (h:u≠0):∀b l,Lib.decDigits u=b::l->b.toNat≠48:=by
 induction u using Nat.strongRecOn with
 | ind u ih =>
  intro b l e
  by_cases h1:u<10
  ·rw [ddS h1]at e
   simp only [List.cons.injEq]at e
   rw [<- e.1,digB_of h1]
   omega
  ·rw [ddB h1]at e
   cases hd:Lib.decDigits (u / 10)with
   | nil=>exact absurd hd (dd_ne _)
   | cons x r =>
    rw [hd,List.cons_append,List.cons.injEq]at e
    rw [<- e.1]
    exact ih (u / 10) (by omega) (by omega) x r hd
theorem II:∀(k u:Nat),u<10 ^ (k+1)->(Lib.decDigits u).length<=k+1
 | 0,u,h=>by rw [ddS (by omega)];simp
 | k+1,u,h=>by
  by_cases h1:u<10
  ·rw [ddS h1];simp
  ·rw [ddB h1,List.length_append]
   have:=II k (u / 10) (by rw [Nat.pow_succ]at h;omega)
   simp only [List.length_cons,List.length_nil];omega
theorem zx {s:ByteArray} {k:Nat} (h:k<s.size):s.data.toList[k]? = some (dL s k):=by
 have hl:k<s.data.toList.length:=by rw [<- Go.Lib.size_eq];exact h
 unfold dL
 rw [List.getD_eq_getElem?_getD,List.getElem?_eq_getElem hl];rfl
theorem I1 {s:ByteArray} {b:UInt8} (h:0<s.size) (hl:s.size<1000000000) (hb:dL s 0=b) (h45:b≠45):strings_TrimPrefix s (⟨#[45]⟩:ByteArray)=some s:=by
 unfold strings_TrimPrefix bO bW
 have h1:((⟨#[45]⟩:ByteArray).size:Int)=1:=rfl
 have h2:lc s 0 1=some (s.extract 0 1):=by
  unfold lc
  rw [if_pos (by omega)];rfl
 have h3:sEq (s.extract 0 1) (⟨#[45]⟩:ByteArray)=false:=by
  cases hq:sEq (s.extract 0 1) (⟨#[45]⟩:ByteArray)with
  | false=>rfl
  | true =>
   exfalso
   have e:=(jb _ _).1 hq
   have e2:(s.extract 0 1).data.toList=s.data.toList.take 1:=by
    rw [ByteArray.data_extract,Array.toList_extract]
    rfl
   have e3:=congrArg (λx:ByteArray=>x.data.toList[0]?) e
   simp only [e2]at e3
   have hg:=zx h
   rw [hb]at hg
   rw [List.getElem?_take,if_pos (by omega),hg]at e3
   have:(⟨#[45]⟩:ByteArray).data.toList[0]? = some 45:=rfl
   rw [this,so_]at e3
   exact h45 e3
 rw [h1,decide_eq_true (by omega),cond_true,h2,ob_,h3]
 rfl
end Go.Proofs.YtacmlgpnplklaaaGreatDoor.Law

open Go Go.Eng
namespace Go.Proofs.YtacmlgpnplklaaaGreatDoor.Law
set_option linter.unusedVariables false
set_option linter.unusedSimpArgs false
def rV:Int->List Run->Prop
 | _,[]=>True
 | lo,r::rs=>lo<r.f_from/\r.f_from<r.f_to/\rV r.f_to rs
theorem rV.mono {L:List Run} {lo lo':Int} (h:rV lo L) (hl:lo'<=lo):rV lo' L:=by
 cases L with
 | nil=>trivial
 | cons r L=>exact⟨by have:=h.1;omega,h.2⟩
def sub (rt:Int):Int->List Run->List Run
 | rf,[]=>bif decide (rf<rt)then [⟨rf,rt⟩]else []
 | rf,q::M=>bif decide (q.f_from<rt)then (bif decide (q.f_from>rf)then [⟨rf,q.f_from⟩]else [])++sub rt (max rf q.f_to) M else bif decide (rf<rt)then [⟨rf,rt⟩]else []
end Go.Proofs.YtacmlgpnplklaaaGreatDoor.Law

namespace Go.Eng
set_option linter.unusedVariables false
set_option linter.unusedSimpArgs false
section
variable {α:Type} {cmp:α->α->Option Int} {le:α->α->Prop} {p:α->Prop}
end
end Go.Eng

open Go Go.Eng
namespace Go.Proofs.YtacmlgpnplklaaaGreatDoor.Law
set_option linter.unusedVariables false
set_option linter.unusedSimpArgs false
theorem mZ {α:Type} (xs ys:List α) (h:xs.length+ys.length<=1000000000):kY xs ys=some (xs++ys):=by unfold kY;rw [if_pos h]
end Go.Proofs.YtacmlgpnplklaaaGreatDoor.Law

open Go Go.Eng
namespace Go.Proofs.YtacmlgpnplklaaaGreatDoor.Law
end Go.Proofs.YtacmlgpnplklaaaGreatDoor.Law

open Go Go.Eng
namespace Go.Proofs.YtacmlgpnplklaaaGreatDoor.Law
set_option linter.unusedVariables false
set_option linter.unusedSimpArgs false
abbrev SB (l:List UInt8):ByteArray:=⟨l.toArray⟩
theorem BN {l m:List UInt8} (h:SB l=SB m):l=m:=by
 have:=congrArg (λs:ByteArray=>s.data.toList) h
 simpa using this
def Med (n:Int):Prop := -1000000000000000<=n/\n<=1000000000000000
theorem Bv {n:Int} (h:Med n):strconv_Itoa n=some (SB (Go.Lib.itoa n)):=by
 unfold strconv_Itoa FK
 unfold Med at h
 rw [if_pos ⟨by omega,by omega⟩]
theorem oW {n:Int} (h:Med n):(Go.Lib.itoa n).length<=21:=by
 unfold Med at h
 exact Go.Lib.itoa_length_le n (by omega) (by omega)
theorem Ao (sep:List UInt8):Go.Lib.joinTail sep []=[]:=rfl
theorem ny (sep y:List UInt8) (r:List (List UInt8)):Go.Lib.joinTail sep (y::r)=sep++y++Go.Lib.joinTail sep r:=by simp [Go.Lib.joinTail]
theorem CR (sep:List UInt8) (m:Nat):∀(r:List (List UInt8)),(∀x∈r,x.length<=m)->(Go.Lib.joinTail sep r).length<=r.length*(m+sep.length)
 | [],_=>by simp [Go.Lib.joinTail]
 | y::r,hy=>by
  rw [ny,List.length_append,List.length_append,List.length_cons,Nat.add_mul]
  have:=CR sep m r (λx hx=>hy x (List.mem_cons_of_mem _ hx))
  have:=hy y (by simp)
  omega
theorem pQ (sep:List UInt8) (m:Nat):∀(ls:List (List UInt8)),(∀x∈ls,x.length<=m)->(Go.Lib.join ls sep).length<=ls.length*(m+sep.length)
 | [],h=>by simp [Go.Lib.join_nil]
 | x::r,h=>by
  rw [Go.Lib.join_cons,List.length_append,List.length_cons,Nat.add_mul]
  have:=CR sep m r (λx hx=>h x (List.mem_cons_of_mem _ hx))
  have:=h x (by simp)
  omega
theorem Il (ls:List (List UInt8)) (sep:List UInt8) (m:Nat) (h:∀x∈ls,x.length<=m) (hl:ls.length<=1000000) (hm:m+sep.length<=10000):strings_Join (ls.map SB) (SB sep)=some (SB (Go.Lib.join ls sep)):=by
 have h1:=pQ sep m ls h
 have h2:ls.length*(m+sep.length)<=1000000*10000:=Nat.mul_le_mul hl hm
 have e:(ls.map SB).map (λx=>x.data.toList)=ls:=by rw [List.map_map];exact List.map_id' ls
 unfold strings_Join FM
 rw [e]
 have e2:(SB sep).data.toList=sep:=rfl
 rw [e2,if_pos ⟨by simp;omega,by omega⟩]
theorem xc:∀(l:List Int) (k:Nat) (out:List ByteArray),(∀n∈l,Med n)->l.length+out.length<=1000000->forR (λk x s=>iB k x s) l k out=some (.go (out++l.map λn=>SB (Go.Lib.itoa n)))
 | [],k,out,h,hl=>by simp [forR]
 | n::l,k,out,h,hl=>by
  simp only [List.length_cons]at hl
  have ih:=xc l (k+1) (out++[SB (Go.Lib.itoa n)]) (λx hx=>h x (List.mem_cons_of_mem _ hx)) (by simp;omega)
  have hstep:iB k n out=some (.go (out++[SB (Go.Lib.itoa n)])):=by
   unfold iB
   rw [Bv (h n (by simp))]
   simp only [ob_]
   rw [mZ _ _ (by simp;omega)]
   rfl
  simp only [forR,hstep,ob_]
  rw [ih]
  simp
theorem yM (l:List Int) (h:∀n∈l,Med n) (hl:l.length<=1000000):ku l=some (SB (Go.Lib.join (l.map Go.Lib.itoa) [32])):=by
 unfold ku
 rw [iR (by omega),xc l 0 [] h (by simpa using hl)]
 simp only [ob_,qZ,List.nil_append]
 have e:(l.map λn=>SB (Go.Lib.itoa n))=(l.map Go.Lib.itoa).map SB:=by rw [List.map_map];rfl
 rw [e,Il _ [32] 21 (λx hx=>by
  obtain ⟨n,hn,rfl⟩:=List.mem_map.1 hx
  exact oW (h n hn)) (by simpa using hl) (by decide)]
 rfl
end Go.Proofs.YtacmlgpnplklaaaGreatDoor.Law

open Go Go.Eng
namespace Go.Proofs.YtacmlgpnplklaaaGreatDoor.Law
set_option linter.unusedVariables false
set_option linter.unusedSimpArgs false
theorem fD (l:List UInt8):(SB l).size=l.length:=by show l.toArray.size=_;simp
theorem BK {b:UInt8} (h:qy b=true):Lib.digitVal b=some (b.toNat-48):=by
 unfold qy at h
 simp only [Bool.and_eq_true,decide_eq_true_eq]at h
 unfold Lib.digitVal
 rw [if_pos h]
theorem wO:∀(l:List UInt8) (a:Nat),l.all qy=true->∃v,Lib.decFrom a l=some v
 | [],a,_=>⟨a,rfl⟩
 | b::l,a,h=>by
  simp only [List.all_cons,Bool.and_eq_true]at h
  obtain ⟨v,hv⟩:=wO l (a*10+(b.toNat-48)) h.2
  exact⟨v,by simp only [Lib.decFrom,BK h.1];exact hv⟩
theorem Em (b:UInt8) (h:qy b=true):b=UInt8.ofNat (48+(b.toNat-48)):=by
 unfold qy at h
 simp only [Bool.and_eq_true,decide_eq_true_eq]at h
 rw [show 48+(b.toNat-48)=b.toNat by omega,UInt8.ofNat_toNat]
theorem EW:∀(n:Nat) (t:List UInt8),t.length=n+1->t.all qy=true->(∀b l,t=b::l->b.toNat≠48)->∃v,Lib.decFrom 0 t=some v/\v≠0/\Lib.decDigits v=t
 | 0,t,hl,h,h0=>by
  match t,hl,h,h0 with
  | [b],_,h,h0 =>
   simp only [List.all_cons,List.all_nil,Bool.and_true]at h
   have hb:=h0 b [] rfl
   have hd:=h
   unfold qy at hd
   simp only [Bool.and_eq_true,decide_eq_true_eq]at hd
   refine⟨b.toNat-48,by simp only [Lib.decFrom,BK h];congr 1;omega,by omega,?_⟩
   rw [ddS (by omega),<- Em b h]
 | n+1,t,hl,h,h0=>by
  have hne:t ≠ []:=λe=>by rw [e]at hl;simp at hl
  obtain ⟨t',b,rfl⟩:∃t' b,t=t'++[b]:=⟨t.dropLast,t.getLast hne,(List.dropLast_concat_getLast hne).symm⟩
  have hl':t'.length=n+1:=by simpa using hl
  rw [List.all_append]at h
  simp only [List.all_cons,List.all_nil,Bool.and_true,Bool.and_eq_true]at h
  obtain ⟨v,v1,v2,v3⟩:=EW n t' hl' h.1 (λb' l' e=>h0 b' (l'++[b]) (by rw [e];rfl))
  have hd:=h.2
  unfold qy at hd
  simp only [Bool.and_eq_true,decide_eq_true_eq]at hd
  refine⟨v*10+(b.toNat-48),wE t' 0 v b _ v1 (BK h.2),by omega,?_⟩
  rw [ddB (by omega),show (v*10+(b.toNat-48)) / 10=v by omega,show (v*10+(b.toNat-48)) % 10=b.toNat-48 by omega,v3,<- Em b h.2]
theorem dd_zero {r:List UInt8} (hr:r ≠ []) {b:UInt8} (hb:b.toNat=48) (v:Nat):Lib.decDigits v≠b::r:=λe=>by
 by_cases hv:v=0
 ·subst hv
  rw [ddS (by decide)]at e
  simp only [List.cons.injEq]at e
  exact hr e.2.symm
 ·exact Ff v hv b r e hb
def oG:List UInt8->List UInt8
 | []=>[]
 | b::t=>if b=45 then t else b::t
theorem trim_eq (l:List UInt8) (hl:l.length<1000000000):strings_TrimPrefix (SB l) (⟨#[45]⟩:ByteArray)=some (SB (oG l)):=by
 cases l with
 | nil=>decide +kernel
 | cons b t =>
  by_cases hb:b=45
  ·subst hb
   have hs:(SB (45::t)).size=t.length+1:=by rw [fD];rfl
   unfold strings_TrimPrefix bO bW
   have h1:((⟨#[45]⟩:ByteArray).size:Int)=1:=rfl
   have h2:lc (SB (45::t)) 0 1=some (⟨#[45]⟩:ByteArray):=by
    unfold lc
    rw [if_pos (by rw [hs];omega)]
    congr 1
    apply ByteArray.ext
    apply Array.ext'
    rw [ByteArray.data_extract,Array.toList_extract]
    rfl
   have h3:lc (SB (45::t)) 1 ((SB (45::t)).size:Int)=some (SB t):=by
    unfold lc
    rw [if_pos (by rw [hs];omega)]
    congr 1
    apply ByteArray.ext
    apply Array.ext'
    rw [ByteArray.data_extract,Array.toList_extract,Int.toNat_natCast,hs]
    show ((45::t).take (t.length+1)).drop 1=t
    rw [List.take_of_length_le (by simp)];rfl
   rw [h1,decide_eq_true (by rw [hs];omega),cond_true,h2,ob_,show sEq (⟨#[45]⟩:ByteArray) (⟨#[45]⟩:ByteArray)=true from (jb _ _).2 rfl]
   simp only [ob_,cond_true,h3]
   rw [show oG (45::t)=t by simp [oG]]
  ·have:=I1 (s:=SB (b::t)) (b:=b) (by rw [fD];simp) (by rw [fD];exact hl) rfl hb
   rw [this,show oG (b::t)=b::t by simp [oG,hb]]
theorem Ik (r:List UInt8) (hr:r.length<=1000):lV 0 (λt=>eX (SB r) t)=some (bif r.all qy then .go (r.length:Int)else .ret (0,false)):=by
 have hsz:(SB r).size=r.length:=fD r
 have hit:∀(d j:Nat),j+d=r.length->∃n,iterN (λt=>eX (SB r) t) n (j:Int)=some (bif (r.drop j).all qy then .go (r.length:Int)else .ret (0,false)):=by
  intro d
  induction d with
  | zero =>
   intro j hj
   have hj':j=r.length:=by omega
   subst hj'
   refine⟨1,?_⟩
   simp only [iterN,eX]
   rw [decide_eq_false (by rw [hsz];omega),List.drop_length];rfl
  | succ d ih =>
   intro j hj
   have hjl:j<r.length:=by omega
   have hc:sQ (SB r) (j:Int)=some r[j]:=by
    rw [q8 (SB r) j (by rw [hsz];exact hjl)]
    have:=zx (s:=SB r) (k:=j) (by rw [hsz];exact hjl)
    have h2:(SB r).data.toList[j]? = some r[j]:=List.getElem?_eq_getElem hjl
    rw [h2]at this
    exact this.symm
   have hdr:r.drop j=r[j]::r.drop (j+1):=List.drop_eq_getElem_cons hjl
   rw [hdr,List.all_cons]
   cases hd:qy r[j]with
   | false =>
    refine⟨1,?_⟩
    simp only [iterN,eX]
    rw [decide_eq_true (by rw [hsz];omega),cond_true,hc,ob_,ob_]
    unfold qy at hd
    simp only [Bool.false_and,cond_false]
    by_cases h48:(r[j].toNat:Int)<48
    ·rw [decide_eq_true h48];rfl
    ·rw [decide_eq_false h48,cond_false,ob_]
     have h57:(r[j].toNat:Int)>57:=by
      by_cases h:r[j].toNat<=57
      ·rw [decide_eq_true (by omega),decide_eq_true h]at hd;cases hd
      ·omega
     rw [decide_eq_true h57];rfl
   | true =>
    obtain ⟨n,hn⟩:=ih (j+1) (by omega)
    refine⟨n+1,?_⟩
    unfold qy at hd
    simp only [Bool.and_eq_true,decide_eq_true_eq]at hd
    have hstep:eX (SB r) (j:Int)=some (.go ((j+1:Nat):Int)):=by
     unfold eX
     rw [decide_eq_true (by rw [hsz];omega),cond_true,hc,ob_,decide_eq_false (by omega),cond_false,ob_,decide_eq_false (by omega),ob_,cond_false,eT (by omega)]
     rfl
    rw [iterN,hstep,ob_,Bool.true_and]
    exact hn
 obtain ⟨n,hn⟩:=hit r.length 0 (by omega)
 exact lJ hn
theorem zb (r:List UInt8):sEq (SB r) (⟨#[]⟩:ByteArray)=r.isEmpty:=by
 cases r with
 | nil=>exact (jb _ _).2 rfl
 | cons b r =>
  cases h:sEq (SB (b::r)) (⟨#[]⟩:ByteArray)with
  | false=>rfl
  | true =>
   have:=congrArg ByteArray.size ((jb _ _).1 h)
   rw [fD]at this
   change _=0 at this
   simp at this
theorem DW (c:UInt8):∀l:List UInt8,Lib.join (spl c l) [c]=l
 | []=>by simp [spl,Lib.join_one]
 | b::l=>by
  have ih:=DW c l
  unfold spl
  by_cases hb:b=c
  ·rw [if_pos hb,Lib.join_cons,List.nil_append]
   cases hs:spl c l with
   | nil=>exact absurd hs (tT c l)
   | cons x r =>
    rw [hs,Lib.join_cons]at ih
    rw [ny,List.append_assoc,ih,hb];rfl
  ·rw [if_neg hb]
   cases hs:spl c l with
   | nil=>exact absurd hs (tT c l)
   | cons x r =>
    rw [hs,Lib.join_cons]at ih
    show Lib.join ((b::x)::r) [c]=_
    rw [Lib.join_cons,List.cons_append,ih]
end Go.Proofs.YtacmlgpnplklaaaGreatDoor.Law

open Go Go.Eng
namespace Go.Proofs.YtacmlgpnplklaaaGreatDoor.Law
set_option linter.unusedVariables false
set_option linter.unusedSimpArgs false
theorem zJ (v:ByteArray) (l:List ByteArray) (hl:l.length<=1000000):∃b,bG l v=some b:=by
 have key:∀(xs:List ByteArray) (k:Nat),∃o:Ctl Unit Int,forR (λk x s=>cO v k x s) xs k ()=some o/\(o = .go ()\/∃n,o = .ret n):=by
  intro xs
  induction xs with
  | nil=>exact λk=>⟨_,rfl,.inl rfl⟩
  | cons x xs ih =>
   intro k
   rw [forR]
   unfold cO
   cases sEq v x with
   | true=>exact⟨_,rfl,.inr ⟨_,rfl⟩⟩
   | false=>exact ih (k+1)
 obtain ⟨o,ho,hc⟩:=key l 0
 unfold bG ek
 rw [iR (by omega),ho,ob_]
 rcases hc with rfl|⟨n,rfl⟩ <;> exact⟨_,rfl⟩
theorem oO (c:UInt8):∀l:List UInt8,(spl c l).length<=l.length+1/\∀w∈spl c l,w.length<=l.length
 | []=>⟨by simp [spl],λw hw=>by simp [spl]at hw;subst hw;simp⟩
 | b::l=>by
  obtain ⟨h1,h2⟩:=oO c l
  unfold spl
  split
  ·refine⟨by simp only [List.length_cons];omega,λw hw => ?_⟩
   rcases List.mem_cons.1 hw with rfl|hw
   ·simp
   ·have:=h2 w hw
    simp only [List.length_cons];omega
  ·split
   ·exact⟨by simp,λw hw=>by simp at hw;subst hw;simp⟩
   ·rename_i x r hr
    rw [hr]at h1 h2
    refine⟨by simp only [List.length_cons]at h1 ⊢;omega,λw hw => ?_⟩
    rcases List.mem_cons.1 hw with rfl|hw
    ·have:=h2 x (by simp)
     simp only [List.length_cons];omega
    ·have:=h2 w (by simp [hw])
     simp only [List.length_cons];omega
theorem Gw (x:List UInt8) (hx:x.length<=100000):∃b,lH (SB x)=some ((spl 32 x).map SB,b):=by
 have hs:=DR 32 (s:=SB x) (by rw [fD];omega)
 obtain ⟨b,hb⟩:=zJ (⟨#[]⟩:ByteArray) ((spl 32 x).map SB) (by rw [List.length_map];have:=(oO 32 x).1;omega)
 unfold lH
 rw [hs,ob_]
 rw [show (List.map (λl=>(⟨l.toArray⟩:ByteArray)) (spl 32 (SB x).data.toList))=(spl 32 x).map SB from rfl,hb,ob_]
 exact⟨_,rfl⟩
theorem sb_app (l m:List UInt8):SB l++SB m=SB (l++m):=by
 apply xL;rw [toL,toL];simp
theorem uX {x y:ByteArray} (h:x.size+y.size<=1000000000000):kS x y=some (x++y):=by
 unfold kS
 rw [if_neg]
 have:IntKind.i64.max=9223372036854775807:=by decide
 rw [this];omega
end Go.Proofs.YtacmlgpnplklaaaGreatDoor.Law

open Go Go.Eng
namespace Go.Proofs.YtacmlgpnplklaaaGreatDoor.Law
set_option linter.unusedVariables false
set_option linter.unusedSimpArgs false
theorem GA (s:ByteArray) (p:UInt8->Bool):((List.range s.size).all λi=>p (dL s i))=s.data.toList.all p:=by
 rw [Bool.eq_iff_iff,List.all_eq_true,List.all_eq_true]
 constructor
 ·intro h b hb
  obtain ⟨i,hi,rfl⟩:=List.getElem_of_mem hb
  have:=h i (List.mem_range.2 (by rw [Go.Lib.size_eq];exact hi))
  simpa [dL,List.getD,List.getElem?_eq_getElem hi]using this
 ·intro h i hi
  have hi':i<s.data.toList.length:=by rw [<- Go.Lib.size_eq];exact List.mem_range.1 hi
  have:=h _ (List.getElem_mem hi')
  simpa [dL,List.getD,List.getElem?_eq_getElem hi']using this
theorem Im:∀n:Fin 256,ou (⟨#[48,49,50,51,52,53,54,55,56,57]⟩:ByteArray) (UInt8.ofNat n.val)=qy (UInt8.ofNat n.val):=by decide +kernel
theorem Gt (r:List UInt8) (hr:r.length<=1000):lU (SB r) (⟨#[48,49,50,51,52,53,54,55,56,57]⟩:ByteArray)=some (r.all qy):=by
 rw [BR _ _ (by rw [fD];omega),GA]
 congr 1
 show r.all _=r.all qy
 congr 1
 funext b
 have:=Im ⟨b.toNat,b.toNat_lt⟩
 simpa using this
theorem num_two (l:List UInt8) (hl:l.length<=100000) (M:Int) (hM:M<=15):∃(n n':Int) (ok:Bool),nP (SB l) M=some (n,ok)/\nu (SB l) M=some (n',ok)/\(ok=true->n'=n)/\Med n/\Med n':=by
 have med0:Med 0:=by unfold Med;omega
 have hsz:∀r:List UInt8,((SB r).size:Int)=(r.length:Int):=λr=>by rw [fD]
 unfold nP nu
 rw [trim_eq l (by omega),ob_,ob_,zb,hsz]
 generalize hr:oG l=r
 cases he:r.isEmpty with
 | true=>exact⟨0,0,false,rfl,rfl,(λh=>by cases h),med0,med0⟩
 | false =>
 simp only [cond_false]
 by_cases hlen:(r.length:Int)>M
 ·rw [decide_eq_true hlen]
  exact⟨0,0,false,rfl,rfl,(λh=>by cases h),med0,med0⟩
 ·rw [decide_eq_false hlen]
  simp only [cond_false]
  have hrl:r.length<=15:=by omega
  rw [Gt r (by omega),Ik r (by omega),ob_,ob_,ob_]
  match r,he,hr,hlen,hrl with
  | b::t,he,hr,hlen,hrl =>
  have hb0:sQ (SB (b::t)) 0=some b:=by
   have h00:=q8 (SB (b::t)) 0 (by rw [fD];simp)
   rw [show ((0:Nat):Int)=0 from rfl]at h00
   rw [h00];rfl
  rw [hb0,ob_]
  cases hall:(b::t).all qy with
  | false =>
   simp only [Bool.not_false,cond_true,cond_false]
   refine⟨0,0,false,?_,rfl,(λh=>by cases h),med0,med0⟩
   cases ((b.toNat:Int)==48)with
   | false=>rfl
   | true =>
    simp only [cond_true,ob_]
    cases sNe (SB l) (⟨#[48]⟩:ByteArray) <;> rfl
  | true =>
   simp only [Bool.not_true,cond_true,cond_false]
   obtain ⟨v,hv⟩:=wO (b::t) 0 hall
   have hvb:v<1000000000000000:=by
    have:=Lib.decFrom_lt _ _ _ hv
    have h2:(10:Nat) ^ (b::t).length<=10 ^ 15:=Nat.pow_le_pow_right (by decide) hrl
    omega
   have hdn:Lib.decNat (b::t)=some v:=by unfold Lib.decNat;exact hv
   have hbd:qy b=true:=by simp only [List.all_cons,Bool.and_eq_true]at hall;exact hall.1
   have hb45:b≠45:=λe=>by rw [e]at hbd;exact absurd hbd (by decide)
   have hb43:b≠43:=λe=>by rw [e]at hbd;exact absurd hbd (by decide)
   obtain ⟨n,hn,hnm,hw⟩:∃n:Int,Lib.atoi l=some n/\Med n/\(Lib.itoa n=l↔¬(b.toNat=48/\l ≠ [48])):=by
    cases l with
    | nil=>simp [oG]at hr
    | cons c l' =>
     by_cases hc:c=45
     ·subst hc
      rw [show oG (45::l')=l' by simp [oG]]at hr
      subst hr
      refine⟨-(v:Int),by simp [Lib.atoi,hdn],by unfold Med;omega,?_⟩
      by_cases h48:b.toNat=48
      ·refine⟨λe => ?_,λk=>absurd ⟨h48,by simp⟩ k⟩
       exfalso
       unfold Lib.itoa at e
       by_cases hv0:v=0
       ·subst hv0
        rw [if_neg (by omega)]at e
        rw [show (-((0:Nat):Int)).toNat=0 from rfl,ddS (by decide)]at e
        simp only [List.cons.injEq]at e
        exact absurd e.2 (by simp)
       ·rw [if_pos (by omega)]at e
        simp only [List.cons.injEq,true_and]at e
        rw [show (-(v:Int)).natAbs=v by omega]at e
        exact Ff v hv0 b t e h48
      ·obtain ⟨v',e1,e2,e3⟩:=EW t.length (b::t) rfl hall (λb' l'' e=>by
        simp only [List.cons.injEq]at e
        rw [<- e.1];exact h48)
       rw [hv,so_]at e1
       subst e1
       refine⟨λ_ k=>h48 k.1,λ_ => ?_⟩
       unfold Lib.itoa
       rw [if_pos (by omega),show (-(v:Int)).natAbs=v by omega,e3]
     ·rw [show oG (c::l')=c::l' by simp [oG,hc]]at hr
      simp only [List.cons.injEq]at hr
      obtain ⟨rfl,rfl⟩:=hr
      have n1:(c==45)=false:=by rw [beq_eq_false_iff_ne];exact hb45
      have n2:(c==43)=false:=by rw [beq_eq_false_iff_ne];exact hb43
      refine⟨(v:Int),by simp [Lib.atoi,n1,n2,hdn],by unfold Med;omega,?_⟩
      have hi:Lib.itoa (v:Int)=Lib.decDigits v:=by unfold Lib.itoa;rw [if_neg (by omega)];rfl
      rw [hi]
      by_cases h48:c.toNat=48
      ·have hc48:c=48:=by
        have:=Em c hbd
        rw [h48]at this
        exact this
       cases l' with
       | nil =>
        refine⟨λ_ k=>k.2 (by rw [hc48]),λ_ => ?_⟩
        have:v=0:=by
         simp only [Lib.decFrom,BK hbd,so_]at hv
         omega
        rw [this,ddS (by decide),hc48];rfl
       | cons x l'' =>
        refine⟨λe=>absurd e (dd_zero (by simp) h48 v),λk=>absurd ⟨h48,by simp⟩ k⟩
      ·obtain ⟨v',e1,e2,e3⟩:=EW l'.length (c::l') rfl hall (λb' l'' e=>by
        simp only [List.cons.injEq]at e
        rw [<- e.1];exact h48)
       rw [hv,so_]at e1
       subst e1
       exact⟨λ_ k=>h48 k.1,λ_=>e3⟩
   have hll:l.length<=16:=by
    cases l with
    | nil=>simp
    | cons c l' =>
     have h2:l'.length<=(oG (c::l')).length:=by
      by_cases hc:c=45
      ·simp [oG,hc]
      ·simp [oG,hc]
     rw [hr]at h2
     simp only [List.length_cons]at hrl h2 ⊢;omega
   have ha:strconv_Atoi (SB l)=some n:=by
    show Dx (SB l)=some n
    unfold Dx
    rw [if_pos (by rw [fD];omega)];exact hn
   have h48e:((b.toNat:Int)==48)=decide (b.toNat=48):=by
    rw [Bool.eq_iff_iff];simp;omega
   have hsn:sNe (SB l) (⟨#[48]⟩:ByteArray)=decide (l ≠ [48]):=by
    show (!sEq (SB l) (⟨#[48]⟩:ByteArray))=_
    rw [show sEq (SB l) (⟨#[48]⟩:ByteArray)=decide (l=[48]) by
     rw [Bool.eq_iff_iff,jb]
     simp only [decide_eq_true_eq]
     exact⟨λh=>BN (m:=[48]) h,λh=>by rw [h]⟩]
    by_cases h:l=[48] <;> simp [h]
   have hse:sEq (SB (Lib.itoa n)) (SB l)=decide (Lib.itoa n=l):=by
    rw [Bool.eq_iff_iff,jb]
    simp only [decide_eq_true_eq]
    exact⟨λh=>BN h,λh=>by rw [h]⟩
   rw [ha,ob_,ob_,Bv hnm,ob_,ob_,hse,h48e,hsn]
   by_cases hbad:b.toNat=48/\l ≠ [48]
   ·rw [decide_eq_true hbad.1,decide_eq_true hbad.2,decide_eq_false (λe=>hw.1 e hbad)]
    exact⟨0,n,false,rfl,rfl,(λh=>by cases h),med0,hnm⟩
   ·rw [decide_eq_true (hw.2 hbad)]
    refine⟨n,n,true,?_,rfl,λ_=>rfl,hnm,hnm⟩
    by_cases h48:b.toNat=48
    ·have:¬l ≠ [48]:=λh=>hbad ⟨h48,h⟩
     rw [decide_eq_true h48,decide_eq_false this];rfl
    ·rw [decide_eq_false h48];rfl
end Go.Proofs.YtacmlgpnplklaaaGreatDoor.Law

