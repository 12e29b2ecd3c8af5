/-
  THE PLAIN LAW (part 1).
-/
import Derived.Test.YtigdobmllbakiabGreatDoorEng5
import Derived.Test.YtigdobmllbakiabGreatDoorDefs
import Derived.Lib.ItoaLen
namespace Go.Eng
set_option linter.unusedVariables false
set_option linter.unusedSimpArgs false
theorem eF {α σ ρ:Type} {body:Nat->α->σ->Option (Ctl σ ρ)} {xs:List α} {s:σ} (hl:xs.length<=1000000000000):forL xs s body=forR body xs 0 s:=by unfold forL;rw [if_pos hl]
theorem Cz {α σ ρ:Type} {body:Nat->α->σ->Option (Ctl σ ρ)} (I:Nat->σ->Prop) (N:Nat):∀(xs:List α) (k:Nat) (s:σ),k+xs.length=N->(∀k x s,x∈xs->k<N->I k s->∃s',body k x s=some (.go s')/\I (k+1) s')->I k s->∃s',forR body xs k s=some (.go s')/\I N s'
 | [],k,s,hN,h,hi=>⟨s,rfl,by simp only [List.length_nil,Nat.add_zero]at hN;rw [<- hN];exact hi⟩
 | x::xs,k,s,hN,h,hi=>by
  simp only [List.length_cons]at hN
  obtain ⟨s1,h1,h2⟩:=h k x s (by simp) (by omega) hi
  obtain ⟨s2,h3,h4⟩:=Cz I N xs (k+1) s1 (by omega) (λk x s hx=>h k x s (by simp [hx])) h2
  exact⟨s2,by simp only [forR,h1,ob_];exact h3,h4⟩
theorem yK {α σ ρ:Type} {body:Nat->α->σ->Option (Ctl σ ρ)} (I:Nat->σ->Prop) {xs:List α} {s:σ} (hl:xs.length<=1000000000000) (h:∀k x s,x∈xs->k<xs.length->I k s->∃s',body k x s=some (.go s')/\I (k+1) s') (h0:I 0 s):∃s',forL xs s body=some (.go s')/\I xs.length s':=by
 obtain ⟨s',h1,h2⟩:=Cz I xs.length xs 0 s (by omega) h h0
 exact⟨s',by rw [eF hl];exact h1,h2⟩
theorem iH {σ ρ τ:Type} (s:σ) (f:σ->Option τ) (g:ρ->Option τ):thenC (.go s) f g=f s:=rfl
theorem FU {σ ρ τ:Type} (r:ρ) (f:σ->Option τ) (g:ρ->Option τ):thenC (.ret r) f g=g r:=rfl
theorem uA {α:Type} (xs:List α) (k:Nat):idx xs (k:Int)=xs[k]? := by simp [idx]
theorem jb {n:Int} (h : -9223372036854775808<=n/\n<=9223372036854775807):w64 n=n:=Iq n h
theorem toL (s:ByteArray):s.toList=s.data.toList:=Go.Lib.toList_data s
theorem xJ {a b:ByteArray} (h:a.toList=b.toList):a=b:=by
 rw [toL,toL]at h
 obtain ⟨⟨a⟩⟩:=a
 obtain ⟨⟨b⟩⟩:=b
 simp only at h
 rw [h]
theorem eT (a b:ByteArray):sEq a b=true↔a=b:=by
 simp only [sEq,beq_iff_eq]
 exact⟨xJ,λh=>by rw [h]⟩
theorem sEq_dec (a b:ByteArray):sEq a b=decide (a=b):=by
 rw [Bool.eq_iff_iff,eT];simp
theorem sNe_dec (a b:ByteArray):sNe a b = !decide (a=b):=by
 have:=sEq_dec a b;simp only [sEq,sNe]at *;rw [this]
abbrev bl:=Op.bytesLess
theorem bl_lt:∀(x y:List UInt8),bl x y=decide (x<y)
 | _,[]=>by simp [bl,Op.bytesLess]
 | [],_::_=>by simp [bl,Op.bytesLess]
 | a::x,b::y=>by
  have:=bl_lt x y
  simp only [bl,Op.bytesLess]at this ⊢
  rw [this,Bool.eq_iff_iff]
  simp only [Bool.or_eq_true,decide_eq_true_eq,Bool.and_eq_true,beq_iff_eq,List.cons_lt_cons_iff]
def lt (a b:ByteArray):Prop:=a.toList<b.toList
theorem BF (a b:ByteArray):sLt a b=true↔lt a b:=by
 show bl a.toList b.toList=true↔_
 rw [bl_lt];simp [lt]
theorem wC (a:ByteArray):¬lt a a:=List.lt_irrefl a.toList
theorem lt_trans {a b c:ByteArray} (h:lt a b) (k:lt b c):lt a c:=List.lt_trans h k
theorem En (a b:ByteArray):lt a b\/a=b\/lt b a:=by
 rcases Classical.em (lt a b)with h|h
 ·exact .inl h
 ·rcases Classical.em (lt b a)with h2|h2
  ·exact .inr (.inr h2)
  ·exact .inr (.inl (xJ (List.le_antisymm (List.not_lt.1 h2) (List.not_lt.1 h))))
theorem uq (a b:ByteArray):sLe a b=true↔¬lt b a:=by
 have h1:=BF a b
 have h2:=eT a b
 simp only [sLe,Bool.or_eq_true]
 constructor
 ·rintro (h|h)
  ·exact λk=>wC _ (lt_trans (h1.1 h) k)
  ·rw [h2.1 h];exact wC _
 ·intro h
  rcases En a b with k|k|k
  ·exact .inl (h1.2 k)
  ·exact .inr (h2.2 k)
  ·exact absurd k h
theorem Fb (a:ByteArray):sLe a ⟨#[]⟩=decide (a.size=0):=by
 rw [Bool.eq_iff_iff,uq,lt,toL,toL,Go.Lib.size_eq]
 cases a.data.toList <;> simp
theorem sNe_nil (a:ByteArray):sNe a ⟨#[]⟩=decide (a.size≠0):=by
 rw [sNe_dec,Go.Lib.size_eq,Bool.eq_iff_iff]
 simp only [Bool.not_eq_true',decide_eq_false_iff_not,decide_eq_true_eq,ne_eq]
 refine not_congr ⟨λh=>by rw [h];rfl,λh => ?_⟩
 exact xJ (by rw [toL,List.eq_nil_of_length_eq_zero h,toL])
end Go.Eng

open Go Go.Eng
namespace Go.Proofs.YtigdobmllbakiabGreatDoor.Law
set_option linter.unusedVariables false
set_option linter.unusedSimpArgs false
def Ok (s:Stream) (b:Int):Prop:=0<=s.f_at/\s.f_at<=b
theorem Ok.mono {s:Stream} {b c:Int} (h:Ok s b) (hc:b<=c):Ok s c:=⟨h.1,Int.le_trans h.2 hc⟩
theorem yC (x n:Int) (h:1<=n) (hn:n<=4611686018427387904):∃r,nk x n=some r/\0<=r/\r<n:=by
 have h1:x.tmod n<n:=Int.tmod_lt_of_pos x (by omega)
 have h2 : -n<x.tmod n:=Int.lt_tmod_of_pos x (by omega)
 have hb:decide (n<1)=false:=by simp;omega
 have hn0:n≠0:=by omega
 simp only [nk,hb,cond_false,CU,if_neg hn0,ob_]
 cases hd:decide (x.tmod n<0)with
 | true =>
  simp only [decide_eq_true_eq]at hd
  exact⟨_,rfl,by rw [jb (by omega)];omega,by rw [jb (by omega)];omega⟩
 | false =>
  simp only [decide_eq_false_iff_not]at hd
  exact⟨_,rfl,by omega,h1⟩
theorem ll (s:Stream) (n:Int) {b:Int} (hs:Ok s b) (hb:b<=1000000) (h:1<=n) (hn:n<=4611686018427387904):∃r s',bW s n=some (r,s')/\0<=r/\r<n/\Ok s' (b+1):=by
 obtain ⟨h0,h1⟩:=hs
 have e1:w64 (s.f_at+1)=s.f_at+1:=jb (by omega)
 have e2:w64 (s.f_at+1-1)=s.f_at:=by rw [jb (by omega)];omega
 simp only [bW,e1,e2]
 by_cases hl:s.L.length=0
 ·have:((s.L.length:Int)==0)=true:=by simp [hl]
  simp only [this,cond_true]
  obtain ⟨r,hr,h2,h3⟩:=yC (w64 ((s.f_at+1)*7919)) n h hn
  exact⟨r,_,by rw [hr];rfl,h2,h3,⟨by show 0<=s.f_at+1;omega,by show s.f_at+1<=b+1;omega⟩⟩
 ·have hne:(s.L.length:Int)≠0:=by omega
  have:((s.L.length:Int)==0)=false:=by simpa using hl
  simp only [this,cond_false,CU,quoO,if_neg hne,ob_]
  have h2:0<=s.f_at.tmod s.L.length:=Int.tmod_nonneg _ h0
  have hp:(0:Int)<(s.L.length:Int):=by have:=Nat.pos_of_ne_zero hl;omega
  have h3:s.f_at.tmod s.L.length<s.L.length:=Int.tmod_lt_of_pos _ hp
  have hi:idx s.L (s.f_at.tmod s.L.length)=some s.L[(s.f_at.tmod s.L.length).toNat]:=by
   simp only [idx,if_pos h2]
   exact List.getElem?_eq_getElem (by omega)
  obtain ⟨r1,hr1,_,_⟩:=yC s.L[(s.f_at.tmod s.L.length).toNat] 1073741824 (by decide) (by decide)
  simp only [hi,hr1,ob_]
  generalize w64 (r1+_)=y
  obtain ⟨r,hr,h4,h5⟩:=yC y n h hn
  exact⟨r,_,by rw [hr];rfl,h4,h5,⟨by show 0<=s.f_at+1;omega,by show s.f_at+1<=b+1;omega⟩⟩
theorem mD (s:Stream) (n:Int) {b:Int} (hs:Ok s b) (hb:b<=1000000) (h:1<=n) (hn:n<=1000):∃r s',bT s n=some (r,s')/\Ok s' (b+1):=by
 obtain ⟨r,s',h1,_,_,h2⟩:=ll s n hs hb h (by omega)
 exact⟨r==0,s',by simp only [bT,h1,ob_],h2⟩
theorem AU {α:Type} {l:List α} {r:Int} (h0:0<=r) (h1:r<l.length):∃y,idx l r=some y/\y∈l:=by
 refine⟨l[r.toNat]'(by omega),?_,List.getElem_mem _⟩
 simp only [idx,if_pos h0]
 exact List.getElem?_eq_getElem (by omega)
theorem iC (s:Stream) (l:List Int) {b:Int} (hs:Ok s b) (hb:b<=1000000) (h:1<=l.length) (hn:l.length<=1000):∃r s',cZ s l=some (r,s')/\r∈l/\Ok s' (b+1):=by
 obtain ⟨r,s',h1,h2,h3,h4⟩:=ll s l.length hs hb (by omega) (by omega)
 obtain ⟨y,hy,hm⟩:=AU h2 h3
 exact⟨y,s',by simp only [cZ,h1,hy,ob_],hm,h4⟩
theorem rP (s:Stream) (l:List ByteArray) {b:Int} (hs:Ok s b) (hb:b<=1000000) (h:1<=l.length) (hn:l.length<=1000):∃r s',eH s l=some (r,s')/\r∈l/\Ok s' (b+1):=by
 obtain ⟨r,s',h1,h2,h3,h4⟩:=ll s l.length hs hb (by omega) (by omega)
 obtain ⟨y,hy,hm⟩:=AU h2 h3
 exact⟨y,s',by simp only [eH,h1,hy,ob_],hm,h4⟩
theorem zw (s:Stream) (lo hi:Int) {b:Int} (hs:Ok s b) (hb:b<=1000000) (h:lo<=hi) (h1 : -1000000000000<=lo) (h2:hi<=1000000000000):∃r s',gQ s lo hi=some (r,s')/\lo<=r/\r<=hi/\Ok s' (b+1):=by
 have hd:decide (hi<lo)=false:=by simp;omega
 have e1:w64 (hi-lo)=hi-lo:=jb (by omega)
 have e2:w64 (hi-lo+1)=hi-lo+1:=jb (by omega)
 obtain ⟨r,s',k1,k2,k3,k4⟩:=ll s (hi-lo+1) hs hb (by omega) (by omega)
 simp only [gQ,hd,cond_false,e1,e2,k1,ob_]
 exact⟨_,s',rfl,by rw [jb (by omega)];omega,by rw [jb (by omega)];omega,k4⟩
theorem rf (s:Stream) (lo hi:Int) {b:Int} (hs:Ok s b) (hb:b<=900000) (h:lo<=hi) (h1 : -1000000000000<=lo) (h2:hi<=1000000000000):∃r s',dQ s lo hi=some (r,s')/\Ok s' (b+2):=by
 obtain ⟨c,s1,k1,k2⟩:=mD s 12 hs (by omega) (by decide) (by decide)
 simp only [dQ,k1,ob_]
 cases c with
 | true =>
  obtain ⟨r,s2,m1,_,m2⟩:=iC s1 [(w64 (lo-1)),(w64 (hi+1)),lo,hi,(-1099511627776),1099511627776] k2 (by omega) (by simp) (by simp)
  simp only [cond_true,m1,ob_]
  exact⟨_,_,rfl,m2.mono (by omega)⟩
 | false =>
  obtain ⟨r,s2,m1,_,_,m2⟩:=zw s1 lo hi k2 (by omega) h h1 h2
  simp only [cond_false,m1,ob_]
  exact⟨_,_,rfl,m2.mono (by omega)⟩
def qM (b:UInt8):Bool:=decide (97<=b.toNat)&&decide (b.toNat<=122)
def Dq (b:UInt8):Bool:=(decide (48<=b.toNat)&&decide (b.toNat<=57))||(b.toNat==45)||(b.toNat==95)
def okB (i:Nat) (b:UInt8):Bool:=qM b||(decide (0<i)&&Dq b)
def dR (s:ByteArray) (i:Nat):UInt8:=s.data.toList.getD i 0
def kP (s:ByteArray):Bool:=decide (s.size≠0)&&(decide (s.size<=40)&&(List.range s.size).all λi=>okB i (dR s i))
theorem oP (s:ByteArray) (k:Nat) (h:k<s.size):tO s (k:Int)=some (dR s k):=by
 have h1:s[k]? = some s[k]:=by simp [h]
 have h2:dR s k=s[k]:=by
  have hl:k<s.data.toList.length:=by rw [<- Go.Lib.size_eq];exact h
  simp only [dR,List.getD_eq_getElem?_getD,List.getElem?_eq_getElem hl,Option.getD_some]
  simp
  rfl
 simp only [tO,if_pos (Int.natCast_nonneg k),Int.toNat_natCast,h1,h2]
theorem Dn (s:ByteArray) (k:Nat) (hs:s.size<=1000000000):ib s (k:Int)=some (if k<s.size then (bif okB k (dR s k)then .go ((k+1:Nat):Int)else .ret false)else .brk (k:Int)):=by
 unfold ib
 by_cases h:k<s.size
 ·have hd:decide ((k:Int)<(s.size:Int))=true:=by simp;omega
  have hw:w64 ((k:Int)+1)=((k+1:Nat):Int):=by rw [jb (by omega)];omega
  simp only [hd,cond_true,oP s k h,ob_,if_pos h,hw]
  generalize dR s k=b
  simp only [okB,qM,Dq]
  have e1:decide ((b.toNat:Int)>=97)=decide (97<=b.toNat):=decide_eq_decide.2 (by omega)
  have e2:decide ((b.toNat:Int)<=122)=decide (b.toNat<=122):=decide_eq_decide.2 (by omega)
  have e3:decide ((k:Int)>0)=decide (0<k):=decide_eq_decide.2 (by omega)
  have e4:decide ((b.toNat:Int)>=48)=decide (48<=b.toNat):=decide_eq_decide.2 (by omega)
  have e5:decide ((b.toNat:Int)<=57)=decide (b.toNat<=57):=decide_eq_decide.2 (by omega)
  have e6:((b.toNat:Int)==45)=(b.toNat==45):=by rw [Bool.eq_iff_iff];simp;omega
  have e7:((b.toNat:Int)==95)=(b.toNat==95):=by rw [Bool.eq_iff_iff];simp;omega
  rw [e1,e2,e3,e4,e5,e6,e7]
  cases decide (97<=b.toNat) <;> cases decide (b.toNat<=122) <;> cases decide (0<k) <;> cases decide (48<=b.toNat) <;> cases decide (b.toNat<=57) <;> cases (b.toNat==45) <;> cases (b.toNat==95) <;> rfl
 ·have hd:decide ((k:Int)<(s.size:Int))=false:=by simp;omega
  simp only [hd,cond_false,if_neg h]
theorem yx (s:ByteArray) (hs:s.size<=1000000000):∀(n k:Nat),k+n=s.size->iterN (λi=>ib s i) (n+1) (k:Int)=some (bif (List.range' k n).all (λj=>okB j (dR s j))then .go (s.size:Int)else .ret false)
 | 0,k,h=>by
  have hk:¬k<s.size:=by omega
  simp only [iterN,Dn s k hs,if_neg hk,ob_,List.range'_zero,List.all_nil,cond_true]
  rw [show (k:Int)=s.size by omega]
 | n+1,k,h=>by
  have hk:k<s.size:=by omega
  rw [iterN,Dn s k hs,if_pos hk,ob_,List.range'_succ,List.all_cons]
  cases okB k (dR s k)with
  | true=>simp only [cond_true,Bool.true_and];exact yx s hs n (k+1) (by omega)
  | false=>rfl
theorem yN (s:ByteArray) (hs:s.size<=1000000000):jH s=some (kP s):=by
 have h:=nJ (yx s hs s.size 0 (by omega))
 unfold jH
 have h':qh (0:Int) (λs_1=>ib s s_1)=_:=h
 rw [h',ob_,<- List.range_eq_range']
 have e:decide ((s.size:Int)<=40)=decide (s.size<=40):=decide_eq_decide.2 (by omega)
 simp only [kP]
 cases (List.range s.size).all (λi=>okB i (dR s i))with
 | true =>
  rw [cond_true,iH,sNe_nil,e,Bool.and_true]
  cases decide (s.size≠0) <;> rfl
 | false=>simp only [cond_false,FU,Bool.and_false]
def nR (t:ByteArray) (b:UInt8):Bool := !decide (ixB t (b.toNat:Int)<0)
theorem only_L1 (s t:ByteArray) (k x:Nat) (h:k<s.size):kv s t k x ()=some (bif nR t (dR s k)then .go ()else .ret false):=by
 simp only [kv,oP s k h,strings_IndexByte,cO,ob_,nR]
 cases decide (ixB t ((dR s k).toNat:Int)<0) <;> rfl
theorem Cx (s t:ByteArray):∀(xs:List Nat) (k:Nat),k+xs.length=s.size->forR (λk x u=>kv s t k x u) xs k ()=some (bif (List.range' k xs.length).all (λj=>nR t (dR s j))then .go ()else .ret false)
 | [],k,h=>rfl
 | x::xs,k,h=>by
  simp only [List.length_cons]at h ⊢
  have hk:k<s.size:=by omega
  rw [forR,only_L1 s t k x hk,ob_,List.range'_succ,List.all_cons]
  cases nR t (dR s k)with
  | true=>simp only [cond_true,Bool.true_and];exact Cx s t xs (k+1) (by omega)
  | false=>rfl
theorem Bb (s t:ByteArray) (hs:s.size<=1000000000):lI s t=some ((List.range s.size).all λi=>nR t (dR s i)):=by
 unfold lI
 rw [Int.toNat_natCast,eF (by simp;omega),Cx s t _ 0 (by simp),ob_,List.length_range,<- List.range_eq_range']
 cases (List.range s.size).all (λi=>nR t (dR s i)) <;> rfl
def zZ:ByteArray:=⟨#[97,98,99,100,101,102,103,104,105,106,107,108,109,110,111,112,113,114,115,116,117,118,119,120,121,122]⟩
def yc:ByteArray:=⟨#[97,98,99,100,101,102,103,104,105,106,107,108,109,110,111,112,113,114,115,116,117,118,119,120,121,122,48,49,50,51,52,53,54,55,56,57,45,95]⟩
theorem z8:∀n:Fin 256,nR zZ (UInt8.ofNat n.val)=qM (UInt8.ofNat n.val)/\nR yc (UInt8.ofNat n.val)=(qM (UInt8.ofNat n.val)||Dq (UInt8.ofNat n.val)):=by decide +kernel
theorem BV (b:UInt8):nR zZ b=qM b:=by
 have:=(z8 ⟨b.toNat,b.toNat_lt⟩).1
 simpa using this
theorem BZ (b:UInt8):nR yc b=(qM b||Dq b):=by
 have:=(z8 ⟨b.toNat,b.toNat_lt⟩).2
 simpa using this
theorem vK (s:ByteArray) (hs:s.size<=1000000000):pF s=some (kP s):=by
 unfold pF kI
 have e1:decide ((1:Int)<=(s.size:Int))=decide (s.size≠0):=decide_eq_decide.2 (by omega)
 have e2:decide ((s.size:Int)<=40)=decide (s.size<=40):=decide_eq_decide.2 (by omega)
 rw [e1,e2]
 by_cases h1:s.size≠0
 ·by_cases h2:s.size<=40
  ·have hsub:kJ s 0 1=some (s.extract 0 1):=by
    unfold kJ;rw [if_pos ⟨by omega,by omega,by decide,by show 1<=s.size;omega⟩];rfl
   have hsz:(s.extract 0 1).size=1:=by simp [ByteArray.size_extract];omega
   have hb:dR (s.extract 0 1) 0=dR s 0:=by
    obtain ⟨⟨l⟩⟩:=s
    simp only [dR]
    cases l with
    | nil=>exact absurd rfl h1
    | cons b l=>simp [ByteArray.extract,ByteArray.copySlice]
   simp only [decide_eq_true h1,decide_eq_true h2,cond_true,ob_,hsub]
   have o1:=Bb (s.extract 0 1) zZ (by omega)
   have o2:=Bb s yc hs
   unfold zZ at o1
   unfold yc at o2
   rw [o1,ob_,o2]
   have e3:(List.range (s.extract 0 1).size).all (λi=>nR zZ (dR (s.extract 0 1) i))=qM (dR s 0):=by
    rw [hsz]
    simp only [List.range_succ,List.range_zero,List.nil_append,List.all_cons,List.all_nil,Bool.and_true]
    rw [hb,BV]
   have e3':=e3
   unfold zZ at e3'
   rw [e3']
   have e4:∀i,nR yc (dR s i)=(qM (dR s i)||Dq (dR s i)):=λi=>BZ _
   have e5:kP s=(qM (dR s 0)&&(List.range s.size).all (λi=>nR yc (dR s i))):=by
    simp only [kP,decide_eq_true h1,decide_eq_true h2,Bool.true_and,e4]
    rw [Bool.eq_iff_iff]
    simp only [List.all_eq_true,List.mem_range,Bool.and_eq_true,okB,Bool.or_eq_true,decide_eq_true_eq]
    constructor
    ·intro h
     refine⟨?_,λi hi=>(h i hi).imp id (λh=>h.2)⟩
     rcases h 0 (by omega)with h|h
     ·exact h
     ·exact absurd h.1 (by omega)
    ·rintro ⟨h3,h4⟩ i hi
     by_cases e:i=0
     ·rw [e];exact .inl h3
     ·exact (h4 i hi).imp id (λh=>⟨by omega,h⟩)
   unfold yc at e5
   rw [e5]
   cases qM (dR s 0) <;> rfl
  ·simp only [decide_eq_true h1,decide_eq_false h2,cond_true,cond_false,ob_,kP,Bool.false_and,Bool.and_false]
 ·simp only [decide_eq_false h1,cond_false,ob_,kP,Bool.false_and]
theorem uJ {s:ByteArray} (h:kP s=true):s.size≠0:=by
 simp only [kP,Bool.and_eq_true,decide_eq_true_eq]at h
 exact h.1
def spl (c:UInt8):List UInt8->List (List UInt8)
 | []=>[[]]
 | b::l=>if b=c then []::spl c l else match spl c l with
  | []=>[[b]]
  | x::r=>(b::x)::r
theorem sN (c:UInt8):∀l,spl c l ≠ []
 | []=>by simp [spl]
 | b::l=>by
  unfold spl
  split
  ·simp
  ·split <;> simp
theorem Ht {c:UInt8}:∀{x:List UInt8},c∉x->spl c x=[x]
 | [],_=>rfl
 | b::x,h=>by
  have hb:b≠c:=λe=>h (by simp [e])
  have ih:=Ht (x:=x) (λe=>h (List.mem_cons_of_mem _ e))
  unfold spl
  rw [if_neg hb,ih]
theorem Fx {c:UInt8}:∀{x:List UInt8} (y:List UInt8),c∉x->spl c (x++c::y)=x::spl c y
 | [],y,_=>by
  show spl c (c::y)=_
  rw [spl,if_pos rfl]
 | b::x,y,h=>by
  have hb:b≠c:=λe=>h (by simp [e])
  have ih:=Fx (x:=x) y (λe=>h (List.mem_cons_of_mem _ e))
  show spl c (b::(x++c::y))=_
  rw [spl,if_neg hb,ih]
theorem index_c {c b:UInt8} (h:b≠c) (l:List UInt8):Lib.index (b::l) [c]=if Lib.index l [c] == -1 then -1 else Lib.index l [c]+1:=by
 have hp:([c]:List UInt8).isPrefixOf (b::l)=false:=by simp [List.isPrefixOf,Ne.symm h]
 rw [Lib.index,hp];simp
theorem Al (c:UInt8):∀l:List UInt8,Lib.splitK [c] 0 (l.count c) l=spl c l
 | []=>rfl
 | b::l=>by
  have ih:=Al c l
  by_cases hb:b=c
  ·subst hb
   rw [List.count_cons_self,spl,if_pos rfl,<- ih,Lib.splitK]
   have h0:Lib.index (b::l) [b]=0:=by rw [Lib.index];simp [List.isPrefixOf]
   rw [h0]
   simp
  ·rw [List.count_cons_of_ne hb,spl,if_neg hb,<- ih]
   cases hn:l.count c with
   | zero=>rfl
   | succ n =>
    rw [Lib.splitK,Lib.splitK,index_c hb]
    have hg:=Lib.index_ge l [c]
    by_cases hm:Lib.index l [c] = -1
    ·rw [hm];rfl
    ·have e1:(Lib.index l [c] == -1)=false:=by simpa using hm
     rw [e1]
     simp only [Bool.false_eq_true,if_false]
     have e2:(Lib.index l [c]+1 == -1)=false:=by rw [beq_eq_false_iff_ne];omega
     rw [e2]
     simp only [Bool.false_eq_true,if_false,Nat.add_zero,List.length_cons,List.length_nil,Nat.zero_add]
     rw [show (Lib.index l [c]+1).toNat=(Lib.index l [c]).toNat+1 by omega]
     rfl
theorem uH (c:UInt8) {s:ByteArray} (hs:s.size<4294967281):strings_Split s (⟨#[c]⟩:ByteArray)=some ((spl c s.data.toList).map λl=>(⟨l.toArray⟩:ByteArray)):=by
 have h1:(1:Nat)<=(⟨#[c]⟩:ByteArray).size:=Nat.le_refl 1
 show yR s (⟨#[c]⟩:ByteArray)=_
 unfold yR
 rw [if_pos ⟨hs,h1⟩]
 have e1:Lib.countB s (⟨#[c]⟩:ByteArray)=s.data.toList.count c:=by
  show Lib.count s.data.toList [c]=_
  exact Lib.count_one c _
 have e2:=Lib.splitB_data (⟨#[c]⟩:ByteArray) 0 (s.data.toList.count c) s
 have e3:(Lib.splitB (⟨#[c]⟩:ByteArray) 0 (s.data.toList.count c) s).map (λx=>x.data.toList)=spl c s.data.toList:=by
  rw [<- Al];exact e2
 rw [e1,<- e3,List.map_map]
 congr 1
 exact (List.map_id _).symm.trans (List.map_congr_left (λx _=>rfl))
def lW (b:UInt8):Bool:=decide (48<=b.toNat)&&decide (b.toNat<=57)
theorem Bz {n:Nat} (h:n<10):(UInt8.ofNat (48+n)).toNat=48+n:=by
 rw [UInt8.toNat_ofNat'];omega
theorem ddS {u:Nat} (h:u<10):Lib.decDigits u=[UInt8.ofNat (48+u)]:=by rw [Lib.decDigits,dif_pos h]
theorem ddB {u:Nat} (h:¬u<10):Lib.decDigits u=Lib.decDigits (u / 10)++[UInt8.ofNat (48+u % 10)]:=by rw [Lib.decDigits,dif_neg h]
theorem dd_all (u:Nat):∀b∈Lib.decDigits u,lW b=true:=by
 induction u using Nat.strongRecOn with
 | ind u ih =>
  by_cases h:u<10
  ·rw [ddS h]
   intro b hb
   rw [List.mem_singleton.1 hb]
   unfold lW
   rw [Bz h,decide_eq_true (by omega),decide_eq_true (by omega)];rfl
  ·rw [ddB h]
   intro b hb
   rcases List.mem_append.1 hb with hb|hb
   ·exact ih (u / 10) (by omega) b hb
   ·rw [List.mem_singleton.1 hb]
    unfold lW
    rw [Bz (Nat.mod_lt _ (by decide)),decide_eq_true (by omega),decide_eq_true (by omega)];rfl
theorem wR:∀(l:List UInt8) (a m:Nat) (b:UInt8) (d:Nat),Lib.decFrom a l=some m->Lib.digitVal b=some d->Lib.decFrom a (l++[b])=some (m*10+d)
 | [],a,m,b,d,h,hd=>by
  simp only [Lib.decFrom,so_]at h
  subst h
  simp only [List.nil_append,Lib.decFrom,hd]
 | x::l,a,m,b,d,h,hd=>by
  simp only [List.cons_append,Lib.decFrom]at h ⊢
  cases hx:Lib.digitVal x with
  | none=>rw [hx]at h;cases h
  | some e =>
   rw [hx]at h
   exact wR l _ m b d h hd
theorem dd_ne (u:Nat):Lib.decDigits u ≠ []:=by
 by_cases h:u<10
 ·rw [ddS h];simp
 ·rw [ddB h];simp
theorem BI (u:Nat) (h:u≠0):∀b l,Lib.decDigits u=b::l->b.toNat≠48:=by
 induction u using Nat.strongRecOn with
 | ind u ih =>
  intro b l e
  by_cases h1:u<10
  ·rw [ddS h1]at e
   simp only [List.cons.injEq]at e
   rw [<- e.1,Bz h1]
   omega
  ·rw [ddB h1]at e
   cases hd:Lib.decDigits (u / 10)with
   | nil=>exact absurd hd (dd_ne _)
   | cons x r =>
    rw [hd,List.cons_append,List.cons.injEq]at e
    rw [<- e.1]
    exact ih (u / 10) (by omega) (by omega) x r hd
theorem Ij:∀(k u:Nat),u<10 ^ (k+1)->(Lib.decDigits u).length<=k+1
 | 0,u,h=>by rw [ddS (by omega)];simp
 | k+1,u,h=>by
  by_cases h1:u<10
  ·rw [ddS h1];simp
  ·rw [ddB h1,List.length_append]
   have:=Ij k (u / 10) (by rw [Nat.pow_succ]at h;omega)
   simp only [List.length_cons,List.length_nil];omega
theorem yB {s:ByteArray} {k:Nat} (h:k<s.size):s.data.toList[k]? = some (dR s k):=by
 have hl:k<s.data.toList.length:=by rw [<- Go.Lib.size_eq];exact h
 unfold dR
 rw [List.getD_eq_getElem?_getD,List.getElem?_eq_getElem hl];rfl
theorem Ib {s:ByteArray} {b:UInt8} (h:0<s.size) (hl:s.size<1000000000) (hb:dR s 0=b) (h45:b≠45):strings_TrimPrefix s (⟨#[45]⟩:ByteArray)=some s:=by
 unfold strings_TrimPrefix cz dh
 have h1:((⟨#[45]⟩:ByteArray).size:Int)=1:=rfl
 have h2:kJ s 0 1=some (s.extract 0 1):=by
  unfold kJ
  rw [if_pos (by omega)];rfl
 have h3:sEq (s.extract 0 1) (⟨#[45]⟩:ByteArray)=false:=by
  cases hq:sEq (s.extract 0 1) (⟨#[45]⟩:ByteArray)with
  | false=>rfl
  | true =>
   exfalso
   have e:=(eT _ _).1 hq
   have e2:(s.extract 0 1).data.toList=s.data.toList.take 1:=by
    rw [ByteArray.data_extract,Array.toList_extract]
    rfl
   have e3:=congrArg (λx:ByteArray=>x.data.toList[0]?) e
   simp only [e2]at e3
   have hg:=yB h
   rw [hb]at hg
   rw [List.getElem?_take,if_pos (by omega),hg]at e3
   have:(⟨#[45]⟩:ByteArray).data.toList[0]? = some 45:=rfl
   rw [this,so_]at e3
   exact h45 e3
 rw [h1,decide_eq_true (by omega),cond_true,h2,ob_,h3]
 rfl
def nO (s:ByteArray):Prop:=s.size<=1000
def oD (x:Entry):Prop:=nO x.Key/\nO x.Item/\x.Except.length<=2000/\x.Tags.length<=2000/\∀t∈x.Tags,nO t
theorem gm {s:ByteArray} (h:Nat.ble s.size 1000=true):nO s:=Nat.le_of_ble_eq_true h
theorem iP {α:Type} (xs ys:List α) (h:xs.length+ys.length<=1000000000):jO xs ys=some (xs++ys):=by unfold jO;rw [if_pos h]
theorem Fu {α:Type} {L:Nat->α->(List α×List Int×Int)->Option (Ctl (List α×List Int×Int) Unit)} {n:Int} (hn:1<=n) (hn2:n<=1000) (p:α->Prop)
  (hL:∀k x s,L k x s=(bT (⟨s.2.1,s.2.2⟩:Stream) n).bind λr=>(bif r.1 then (jO s.1 ([x]:List α)).bind λa=>some a else some s.1).bind λv=>some (.go (v,r.2.L,r.2.f_at)))
  {xs:List α} (hx:∀x∈xs,p x) (hl:xs.length<=10) (s:Stream) {b:Int} (hs:Ok s b) (hb:b<=900000) :
  ∃t s',forL xs (([]:List α),s.L,s.f_at) (λk x s=>L k x s)=some (.go (t,s'.L,s'.f_at))/\Ok s' (b+10)/\t.length<=10/\∀x∈t,p x:=by
 obtain ⟨s',h1,h2,h3,h4⟩:=yK (body:=λk x s=>L k x s) (λk s=>Ok ⟨s.2.1,s.2.2⟩ (b+k)/\s.1.length<=k/\∀x∈s.1,p x) (xs:=xs) (s:=(([]:List α),s.L,s.f_at)) (by omega) (λk x s hxm hk ⟨i1,i2,i3⟩=>by
   obtain ⟨c,s1,k1,k2⟩:=mD _ n i1 (by omega) hn hn2
   simp only [hL,k1,ob_]
   cases c with
   | true =>
    simp only [cond_true,iP s.1 [x] (by simp;omega),ob_]
    refine⟨_,rfl,k2.mono (by omega),by simp;omega,λy hy => ?_⟩
    rcases List.mem_append.1 hy with hy|hy
    ·exact i3 y hy
    ·rw [List.mem_singleton.1 hy];exact hx x hxm
   | false =>
    simp only [cond_false,ob_]
    exact⟨_,rfl,k2.mono (by omega),by show s.1.length<=_;omega,i3⟩) ⟨by simpa using hs,by simp,by simp⟩
 exact⟨s'.1,⟨s'.2.1,s'.2.2⟩,h1,h2.mono (by omega),by omega,h4⟩
theorem pu {α:Type} {xs:List α} {i:Nat} {a:α} (h:i<xs.length):(xs.set i a)[i]? = some a:=by simp [h]
theorem get_at {α:Type} {xs:List α} {i:Nat} (h:i<xs.length):xs[i]? = some xs[i]:=List.getElem?_eq_getElem h
theorem rQ {α:Type} {p:α->Prop} {xs:List α} {i:Nat} {a:α} (h:∀x∈xs,p x) (ha:p a):∀x∈xs.set i a,p x:=λx hx=>by
 rcases List.mem_or_eq_of_mem_set hx with h1|h1
 ·exact h x h1
 ·rw [h1];exact ha
theorem inR_ok {α:Type} {i:Int} {xs:List α} (h0:0<=i) (h1:i<xs.length):inR i xs=some ():=by unfold inR;rw [if_pos ⟨h0,by omega⟩]
theorem xH (s:Stream) {b:Int} (hs:Ok s b) (hb:b<=800000):∃xs s',bC s=some (xs,s')/\Ok s' (b+200)/\xs.length<=4/\(∀x∈xs,oD x/\x.Except.length<=10):=by
 unfold bC
 obtain ⟨s',h1,h2,h3,h4⟩:=yK (body:=λk x s=>bf k x s) (λk s=>Ok ⟨s.2.1,s.2.2⟩ (b+40*k)/\s.1.length<=k/\∀x∈s.1,oD x/\x.Except.length<=10)
  (xs:=[(⟨#[101,97]⟩:ByteArray),(⟨#[101,98]⟩:ByteArray),(⟨#[101,99]⟩:ByteArray),(⟨#[101,100]⟩:ByteArray)]) (s:=(([]:List Entry),s.L,s.f_at)) (by simp) (λk x t hxm hk ⟨i1,i2,i3⟩=>by
   have hk5:k<4:=hk
   obtain ⟨c,s1,k1,k2⟩:=mD _ 4 i1 (by omega) (by decide) (by decide)
   simp only [bf,k1,ob_]
   cases c with
   | true=>exact⟨_,rfl,k2.mono (by omega),by show t.1.length<=_;omega,i3⟩
   | false =>
    obtain ⟨it,s2,a1,ai,a2⟩:=rP s1 [(⟨#[105,97]⟩:ByteArray),(⟨#[105,98]⟩:ByteArray),(⟨#[105,99]⟩:ByteArray)] k2 (by omega) (by simp) (by simp)
    obtain ⟨v,s3,a3,_,_,a4⟩:=zw s2 0 2 a2 (by omega) (by decide) (by decide) (by decide)
    obtain ⟨p1,s4,m1,_,n1⟩:=iC s3 [0,0,1,3] a4 (by omega) (by simp) (by simp)
    obtain ⟨p2,s5,m2,_,n2⟩:=iC s4 [1,1,2,3,7] n1 (by omega) (by simp) (by simp)
    obtain ⟨p3,s6,m3,_,n3⟩:=iC s5 [127,127,31,96,1,2] n2 (by omega) (by simp) (by simp)
    obtain ⟨p4,s7,m4,_,n4⟩:=iC s6 [0,0,60,600,1380] n3 (by omega) (by simp) (by simp)
    obtain ⟨p5,s8,m5,_,n5⟩:=iC s7 [0,60,120,600,720,1439] n4 (by omega) (by simp) (by simp)
    obtain ⟨p6,s9,m6,_,n6⟩:=iC s8 [0,0,1,5] n5 (by omega) (by simp) (by simp)
    obtain ⟨g,s10,m7,n7⟩:=mD s9 8 n6 (by omega) (by decide) (by decide)
    obtain ⟨p7,s11,m8,_,n8⟩:=iC s10 [0,1,5,10,30] n7 (by omega) (by simp) (by simp)
    obtain ⟨ex,s12,m9,n9,l9,_⟩:=Fu (L:=bN) (n:=4) (by decide) (by decide) (λ_=>True) (λ_ _ _=>rfl) (xs:=[1,2,8]) (λ_ _=>trivial) (by simp) s11 n8 (by omega)
    obtain ⟨tg,s13,m10,n10,l10,q10⟩:=Fu (L:=bP) (n:=4) (by decide) (by decide) nO (λ_ _ _=>rfl) (xs:=[(⟨#[99,105,116,121]⟩:ByteArray),(⟨#[109,97,108,108]⟩:ByteArray)])
     (by intro x hx;simp only [List.mem_cons,List.not_mem_nil,or_false]at hx;rcases hx with rfl | rfl <;> exact gm rfl) (by simp) s12 n9 (by omega)
    simp only [cond_false,a1,a3,m1,m2,m3,m4,m5,m6,m7,m8,m9,m10,ob_,iH,iP t.1 _ (show t.1.length+[_].length<=_ by simp;omega)]
    refine⟨_,rfl,n10.mono (by omega),by simp;omega,λy hy => ?_⟩
    rcases List.mem_append.1 hy with hy|hy
    ·exact i3 y hy
    ·rw [List.mem_singleton.1 hy]
     refine⟨⟨?_,?_,by show ex.length<=2000;omega,by show tg.length<=2000;omega,q10⟩,l9⟩
     ·simp only [List.mem_cons,List.not_mem_nil,or_false]at hxm
      rcases hxm with rfl|rfl|rfl|rfl <;> exact gm rfl
     ·simp only [List.mem_cons,List.not_mem_nil,or_false]at ai
      rcases ai with rfl|rfl|rfl <;> exact gm rfl) ⟨by simpa using hs,by simp,by simp⟩
 rw [h1]
 exact⟨s'.1,⟨s'.2.1,s'.2.2⟩,rfl,h2.mono (by simp),h3,h4⟩
theorem DT (s:Stream) {b:Int} (hs:Ok s b) (hb:b<=700000):∃xs s',iy s=some (xs,s')/\Ok s' (b+300)/\xs.length<=4/\∀x∈xs,oD x:=by
 obtain ⟨xs,s1,h1,h2,h3,h4'⟩:=xH s hs (by omega)
 have h4:∀x∈xs,oD x:=λx hx=>(h4' x hx).1
 simp only [iy,h1,ob_]
 obtain ⟨v,s2,h5,h6,h7⟩:∃(v:Bool) (s2:Stream),(bif decide ((xs.length:Int)>0)then (bT s1 10).bind λr_9=>some (r_9.1,r_9.2.L,r_9.2.f_at)else some (false,s1.L,s1.f_at))=some (v,s2.L,s2.f_at)/\Ok s2 (b+201)/\(v=true->0<xs.length):=by
  cases hd:decide ((xs.length:Int)>0)with
  | true =>
   obtain ⟨c,s2,k1,k2⟩:=mD s1 10 h2 (by omega) (by decide) (by decide)
   simp only [decide_eq_true_eq]at hd
   exact⟨c,s2,by simp only [cond_true,k1,ob_],k2.mono (by omega),λ_=>by omega⟩
  | false=>exact⟨false,s1,rfl,h2.mono (by omega),λh=>by cases h⟩
 simp only [h5,ob_]
 cases v with
 | false=>exact⟨xs,_,rfl,h6.mono (by omega),h3,h4⟩
 | true =>
  have hpos:=h7 rfl
  have e2:(⟨s2.L,s2.f_at⟩:Stream)=s2:=rfl
  obtain ⟨i,s3,k1,k2,k3,k4⟩:=ll s2 xs.length h6 (by omega) (by omega) (by omega)
  have hi:0+i.toNat<xs.length:=by omega
  have ho:=(h4 _ (List.getElem_mem hi))
  have ho':=(h4' _ (List.getElem_mem hi)).2
  obtain ⟨w,s4,m1,_,_,m2⟩:=ll s3 6 k4 (by omega) (by decide) (by decide)
  have hset:∀a,0+i.toNat<(xs.set (0+i.toNat) a).length:=λa=>by simpa using hi
  simp only [cond_true,e2,k1,ob_,inR_ok k2 k3,m1]
  cases hw0:(w==0)with
  | true =>
   obtain ⟨key,s5,n1,n2,n3⟩:=rP s4 [xs[0+i.toNat].Key,(⟨#[]⟩:ByteArray),(⟨#[65]⟩:ByteArray),(⟨#[101,97]⟩:ByteArray)] m2 (by omega) (by simp) (by simp)
   obtain ⟨cl,s6,n4,n5,n6⟩:=rP s5 [(⟨#[105,97]⟩:ByteArray),(⟨#[]⟩:ByteArray),(⟨#[66]⟩:ByteArray)] n3 (by omega) (by simp) (by simp)
   simp only [cond_true,get_at hi,n1,n4,ob_,pu hi,List.set_set]
   refine⟨_,_,rfl,n6.mono (by omega),by simpa using h3,rQ h4 ⟨?_,?_,ho.2.2⟩⟩
   ·simp only [List.mem_cons,List.not_mem_nil,or_false]at n2
    rcases n2 with rfl|rfl|rfl|rfl
    ·exact ho.1
    ·exact gm rfl
    ·exact gm rfl
    ·exact gm rfl
   ·simp only [List.mem_cons,List.not_mem_nil,or_false]at n5
    rcases n5 with rfl|rfl|rfl <;> exact gm rfl
  | false =>
  simp only [cond_false]
  cases hw1:(w==1)with
  | true =>
   obtain ⟨a,s5,n1,n2⟩:=rf s4 0 10 m2 (by omega) (by decide) (by decide) (by decide)
   obtain ⟨c,s6,n3,n4⟩:=rf s5 0 4000 n2 (by omega) (by decide) (by decide) (by decide)
   simp only [cond_true,get_at hi,n1,n3,ob_,pu hi,pu (hset _),List.set_set]
   exact⟨_,_,rfl,n4.mono (by omega),by simpa using h3,rQ h4 ho⟩
  | false =>
  simp only [cond_false]
  cases hw2:(w==2)with
  | true =>
   obtain ⟨a,s5,n1,n2⟩:=rf s4 1 400 m2 (by omega) (by decide) (by decide) (by decide)
   obtain ⟨c,s6,n3,n4⟩:=rf s5 1 127 n2 (by omega) (by decide) (by decide) (by decide)
   simp only [cond_true,get_at hi,n1,n3,ob_,pu hi,pu (hset _),List.set_set]
   exact⟨_,_,rfl,n4.mono (by omega),by simpa using h3,rQ h4 ho⟩
  | false =>
  simp only [cond_false]
  cases hw3:(w==3)with
  | true =>
   obtain ⟨a,s5,n1,n2⟩:=rf s4 0 4000 m2 (by omega) (by decide) (by decide) (by decide)
   generalize hx:xs[0+i.toNat]=e at *
   have a1:fE e.Except=some e.Except:=by
    simp only [fE,iP [] e.Except (show 0+e.Except.length<=_ by omega),List.nil_append,ob_]
   have a2:jO e.Except [a]=some (e.Except++[a]):=iP _ _ (show e.Except.length+1<=_ by omega)
   have a3:xs[0+i.toNat]? = some e:=by rw [get_at hi,hx]
   simp only [cond_true,a3,n1,a1,a2,ob_]
   exact⟨_,_,rfl,n2.mono (by omega),by simpa using h3,rQ h4 ⟨ho.1,ho.2.1,by show (e.Except++[a]).length<=2000;rw [List.length_append];show _+1<=2000;omega,ho.2.2.2⟩⟩
  | false =>
  simp only [cond_false]
  cases hw4:(w==4)with
  | true =>
   obtain ⟨a,s5,n1,n2⟩:=rf s4 0 1439 m2 (by omega) (by decide) (by decide) (by decide)
   obtain ⟨c,s6,n3,n4⟩:=rf s5 0 1439 n2 (by omega) (by decide) (by decide) (by decide)
   simp only [cond_true,get_at hi,n1,n3,ob_,pu hi,pu (hset _),List.set_set]
   exact⟨_,_,rfl,n4.mono (by omega),by simpa using h3,rQ h4 ho⟩
  | false =>
   obtain ⟨j,s5,n1,n2,n3,n4⟩:=ll s4 3 m2 (by omega) (by decide) (by decide)
   obtain ⟨tg,n5,n6⟩:=AU (l:=[([(⟨#[109,97,108,108]⟩:ByteArray),(⟨#[99,105,116,121]⟩:ByteArray)]:List ByteArray),([(⟨#[]⟩:ByteArray)]:List ByteArray),([(⟨#[97]⟩:ByteArray),(⟨#[97]⟩:ByteArray)]:List ByteArray)]) n2 (by simpa using n3)
   obtain ⟨a,s6,n7,n8⟩:=rf s5 0 9 n4 (by omega) (by decide) (by decide) (by decide)
   simp only [cond_false,get_at hi,n1,n5,n7,ob_,pu hi,pu (hset _),List.set_set]
   refine⟨_,_,rfl,n8.mono (by omega),by simpa using h3,rQ h4 ⟨ho.1,ho.2.1,ho.2.2.1,?_⟩⟩
   simp only [List.mem_cons,List.not_mem_nil,or_false]at n6
   rcases n6 with rfl|rfl|rfl
   ·exact⟨by simp,by intro t ht;simp only [List.mem_cons,List.not_mem_nil,or_false]at ht;rcases ht with rfl | rfl <;> exact gm rfl⟩
   ·exact⟨by simp,by intro t ht;simp only [List.mem_cons,List.not_mem_nil,or_false]at ht;rw [ht];exact gm rfl⟩
   ·exact⟨by simp,by intro t ht;simp only [List.mem_cons,List.not_mem_nil,or_false,or_self]at ht;rw [ht];exact gm rfl⟩
abbrev SB (l:List UInt8):ByteArray:=⟨l.toArray⟩
theorem qa {l m:List UInt8} (h:SB l=SB m):l=m:=by
 have:=congrArg (λs:ByteArray=>s.data.toList) h
 simpa using this
def Med (n:Int):Prop := -1000000000000000<=n/\n<=1000000000000000
theorem AX {n:Int} (h:Med n):strconv_Itoa n=some (SB (Go.Lib.itoa n)):=by
 unfold strconv_Itoa E8
 unfold Med at h
 rw [if_pos ⟨by omega,by omega⟩]
theorem nE {n:Int} (h:Med n):(Go.Lib.itoa n).length<=21:=by
 unfold Med at h
 exact Go.Lib.itoa_length_le n (by omega) (by omega)
theorem FR (sep:List UInt8):Go.Lib.joinTail sep []=[]:=rfl
theorem sJ (sep y:List UInt8) (r:List (List UInt8)):Go.Lib.joinTail sep (y::r)=sep++y++Go.Lib.joinTail sep r:=by simp [Go.Lib.joinTail]
theorem Cu (sep:List UInt8) (m:Nat):∀(r:List (List UInt8)),(∀x∈r,x.length<=m)->(Go.Lib.joinTail sep r).length<=r.length*(m+sep.length)
 | [],_=>by simp [Go.Lib.joinTail]
 | y::r,hy=>by
  rw [sJ,List.length_append,List.length_append,List.length_cons,Nat.add_mul]
  have:=Cu sep m r (λx hx=>hy x (List.mem_cons_of_mem _ hx))
  have:=hy y (by simp)
  omega
theorem pq (sep:List UInt8) (m:Nat):∀(ls:List (List UInt8)),(∀x∈ls,x.length<=m)->(Go.Lib.join ls sep).length<=ls.length*(m+sep.length)
 | [],h=>by simp [Go.Lib.join_nil]
 | x::r,h=>by
  rw [Go.Lib.join_cons,List.length_append,List.length_cons,Nat.add_mul]
  have:=Cu sep m r (λx hx=>h x (List.mem_cons_of_mem _ hx))
  have:=h x (by simp)
  omega
theorem uL (ls:List (List UInt8)) (sep:List UInt8) (m:Nat) (h:∀x∈ls,x.length<=m) (hl:ls.length<=1000000) (hm:m+sep.length<=10000):strings_Join (ls.map SB) (SB sep)=some (SB (Go.Lib.join ls sep)):=by
 have h1:=pq sep m ls h
 have h2:ls.length*(m+sep.length)<=1000000*10000:=Nat.mul_le_mul hl hm
 have e:(ls.map SB).map (λx=>x.data.toList)=ls:=by rw [List.map_map];exact List.map_id' ls
 unfold strings_Join Fs
 rw [e]
 have e2:(SB sep).data.toList=sep:=rfl
 rw [e2,if_pos ⟨by simp;omega,by omega⟩]
theorem wQ:∀(l:List Int) (k:Nat) (out:List ByteArray),(∀n∈l,Med n)->l.length+out.length<=1000000->forR (λk x s=>iE k x s) l k out=some (.go (out++l.map λn=>SB (Go.Lib.itoa n)))
 | [],k,out,h,hl=>by simp [forR]
 | n::l,k,out,h,hl=>by
  simp only [List.length_cons]at hl
  have ih:=wQ l (k+1) (out++[SB (Go.Lib.itoa n)]) (λx hx=>h x (List.mem_cons_of_mem _ hx)) (by simp;omega)
  have hstep:iE k n out=some (.go (out++[SB (Go.Lib.itoa n)])):=by
   unfold iE
   rw [AX (h n (by simp))]
   simp only [ob_]
   rw [iP _ _ (by simp;omega)]
   rfl
  simp only [forR,hstep,ob_]
  rw [ih]
  simp
theorem EB (l:List Int) (h:∀n∈l,Med n) (hl:l.length<=1000000):lH l=some (SB (Go.Lib.join (l.map Go.Lib.itoa) [32])):=by
 unfold lH
 rw [eF (by omega),wQ l 0 [] h (by simpa using hl)]
 simp only [ob_,iH,List.nil_append]
 have e:(l.map λn=>SB (Go.Lib.itoa n))=(l.map Go.Lib.itoa).map SB:=by rw [List.map_map];rfl
 rw [e,uL _ [32] 21 (λx hx=>by
  obtain ⟨n,hn,rfl⟩:=List.mem_map.1 hx
  exact nE (h n hn)) (by simpa using hl) (by decide)]
 rfl
theorem dA (l:List UInt8):(SB l).size=l.length:=by show l.toArray.size=_;simp
theorem yF {b:UInt8} (h:lW b=true):Lib.digitVal b=some (b.toNat-48):=by
 unfold lW at h
 simp only [Bool.and_eq_true,decide_eq_true_eq]at h
 unfold Lib.digitVal
 rw [if_pos h]
theorem qZ:∀(l:List UInt8) (a:Nat),l.all lW=true->∃v,Lib.decFrom a l=some v
 | [],a,_=>⟨a,rfl⟩
 | b::l,a,h=>by
  simp only [List.all_cons,Bool.and_eq_true]at h
  obtain ⟨v,hv⟩:=qZ l (a*10+(b.toNat-48)) h.2
  exact⟨v,by simp only [Lib.decFrom,yF h.1];exact hv⟩
theorem Bc (b:UInt8) (h:lW b=true):b=UInt8.ofNat (48+(b.toNat-48)):=by
 unfold lW at h
 simp only [Bool.and_eq_true,decide_eq_true_eq]at h
 rw [show 48+(b.toNat-48)=b.toNat by omega,UInt8.ofNat_toNat]
theorem y9:∀(n:Nat) (t:List UInt8),t.length=n+1->t.all lW=true->(∀b l,t=b::l->b.toNat≠48)->∃v,Lib.decFrom 0 t=some v/\v≠0/\Lib.decDigits v=t
 | 0,t,hl,h,h0=>by
  match t,hl,h,h0 with
  | [b],_,h,h0 =>
   simp only [List.all_cons,List.all_nil,Bool.and_true]at h
   have hb:=h0 b [] rfl
   have hd:=h
   unfold lW at hd
   simp only [Bool.and_eq_true,decide_eq_true_eq]at hd
   refine⟨b.toNat-48,by simp only [Lib.decFrom,yF h];congr 1;omega,by omega,?_⟩
   rw [ddS (by omega),<- Bc b h]
 | n+1,t,hl,h,h0=>by
  have hne:t ≠ []:=λe=>by rw [e]at hl;simp at hl
  obtain ⟨t',b,rfl⟩:∃t' b,t=t'++[b]:=⟨t.dropLast,t.getLast hne,(List.dropLast_concat_getLast hne).symm⟩
  have hl':t'.length=n+1:=by simpa using hl
  rw [List.all_append]at h
  simp only [List.all_cons,List.all_nil,Bool.and_true,Bool.and_eq_true]at h
  obtain ⟨v,v1,v2,v3⟩:=y9 n t' hl' h.1 (λb' l' e=>h0 b' (l'++[b]) (by rw [e];rfl))
  have hd:=h.2
  unfold lW at hd
  simp only [Bool.and_eq_true,decide_eq_true_eq]at hd
  refine⟨v*10+(b.toNat-48),wR t' 0 v b _ v1 (yF h.2),by omega,?_⟩
  rw [ddB (by omega),show (v*10+(b.toNat-48)) / 10=v by omega,show (v*10+(b.toNat-48)) % 10=b.toNat-48 by omega,v3,<- Bc b h.2]
theorem Fv {r:List UInt8} (hr:r ≠ []) {b:UInt8} (hb:b.toNat=48) (v:Nat):Lib.decDigits v≠b::r:=λe=>by
 by_cases hv:v=0
 ·subst hv
  rw [ddS (by decide)]at e
  simp only [List.cons.injEq]at e
  exact hr e.2.symm
 ·exact BI v hv b r e hb
def jA:List UInt8->List UInt8
 | []=>[]
 | b::t=>if b=45 then t else b::t
theorem EW (l:List UInt8) (hl:l.length<1000000000):strings_TrimPrefix (SB l) (⟨#[45]⟩:ByteArray)=some (SB (jA l)):=by
 cases l with
 | nil=>decide +kernel
 | cons b t =>
  by_cases hb:b=45
  ·subst hb
   have hs:(SB (45::t)).size=t.length+1:=by rw [dA];rfl
   unfold strings_TrimPrefix cz dh
   have h1:((⟨#[45]⟩:ByteArray).size:Int)=1:=rfl
   have h2:kJ (SB (45::t)) 0 1=some (⟨#[45]⟩:ByteArray):=by
    unfold kJ
    rw [if_pos (by rw [hs];omega)]
    congr 1
    apply ByteArray.ext
    apply Array.ext'
    rw [ByteArray.data_extract,Array.toList_extract]
    rfl
   have h3:kJ (SB (45::t)) 1 ((SB (45::t)).size:Int)=some (SB t):=by
    unfold kJ
    rw [if_pos (by rw [hs];omega)]
    congr 1
    apply ByteArray.ext
    apply Array.ext'
    rw [ByteArray.data_extract,Array.toList_extract,Int.toNat_natCast,hs]
    show ((45::t).take (t.length+1)).drop 1=t
    rw [List.take_of_length_le (by simp)];rfl
   rw [h1,decide_eq_true (by rw [hs];omega),cond_true,h2,ob_,show sEq (⟨#[45]⟩:ByteArray) (⟨#[45]⟩:ByteArray)=true from (eT _ _).2 rfl]
   simp only [ob_,cond_true,h3]
   rw [show jA (45::t)=t by simp [jA]]
  ·have:=Ib (s:=SB (b::t)) (b:=b) (by rw [dA];simp) (by rw [dA];exact hl) rfl hb
   rw [this,show jA (b::t)=b::t by simp [jA,hb]]
theorem DC (r:List UInt8) (hr:r.length<=1000):qh 0 (λt=>fw (SB r) t)=some (bif r.all lW then .go (r.length:Int)else .ret (0,false)):=by
 have hsz:(SB r).size=r.length:=dA r
 have hit:∀(d j:Nat),j+d=r.length->∃n,iterN (λt=>fw (SB r) t) n (j:Int)=some (bif (r.drop j).all lW then .go (r.length:Int)else .ret (0,false)):=by
  intro d
  induction d with
  | zero =>
   intro j hj
   have hj':j=r.length:=by omega
   subst hj'
   refine⟨1,?_⟩
   simp only [iterN,fw]
   rw [decide_eq_false (by rw [hsz];omega),List.drop_length];rfl
  | succ d ih =>
   intro j hj
   have hjl:j<r.length:=by omega
   have hc:tO (SB r) (j:Int)=some r[j]:=by
    rw [oP (SB r) j (by rw [hsz];exact hjl)]
    have:=yB (s:=SB r) (k:=j) (by rw [hsz];exact hjl)
    have h2:(SB r).data.toList[j]? = some r[j]:=List.getElem?_eq_getElem hjl
    rw [h2]at this
    exact this.symm
   have hdr:r.drop j=r[j]::r.drop (j+1):=List.drop_eq_getElem_cons hjl
   rw [hdr,List.all_cons]
   cases hd:lW r[j]with
   | false =>
    refine⟨1,?_⟩
    simp only [iterN,fw]
    rw [decide_eq_true (by rw [hsz];omega),cond_true,hc,ob_,ob_]
    unfold lW at hd
    simp only [Bool.false_and,cond_false]
    by_cases h48:(r[j].toNat:Int)<48
    ·rw [decide_eq_true h48];rfl
    ·rw [decide_eq_false h48,cond_false,ob_]
     have h57:(r[j].toNat:Int)>57:=by
      by_cases h:r[j].toNat<=57
      ·rw [decide_eq_true (by omega),decide_eq_true h]at hd;cases hd
      ·omega
     rw [decide_eq_true h57];rfl
   | true =>
    obtain ⟨n,hn⟩:=ih (j+1) (by omega)
    refine⟨n+1,?_⟩
    unfold lW at hd
    simp only [Bool.and_eq_true,decide_eq_true_eq]at hd
    have hstep:fw (SB r) (j:Int)=some (.go ((j+1:Nat):Int)):=by
     unfold fw
     rw [decide_eq_true (by rw [hsz];omega),cond_true,hc,ob_,decide_eq_false (by omega),cond_false,ob_,decide_eq_false (by omega),ob_,cond_false,jb (by omega)]
     rfl
    rw [iterN,hstep,ob_,Bool.true_and]
    exact hn
 obtain ⟨n,hn⟩:=hit r.length 0 (by omega)
 exact nJ hn
theorem yO (r:List UInt8):sEq (SB r) (⟨#[]⟩:ByteArray)=r.isEmpty:=by
 cases r with
 | nil=>exact (eT _ _).2 rfl
 | cons b r =>
  cases h:sEq (SB (b::r)) (⟨#[]⟩:ByteArray)with
  | false=>rfl
  | true =>
   have:=congrArg ByteArray.size ((eT _ _).1 h)
   rw [dA]at this
   change _=0 at this
   simp at this
theorem uX (c:UInt8):∀l:List UInt8,Lib.join (spl c l) [c]=l
 | []=>by simp [spl,Lib.join_one]
 | b::l=>by
  have ih:=uX c l
  unfold spl
  by_cases hb:b=c
  ·rw [if_pos hb,Lib.join_cons,List.nil_append]
   cases hs:spl c l with
   | nil=>exact absurd hs (sN c l)
   | cons x r =>
    rw [hs,Lib.join_cons]at ih
    rw [sJ,List.append_assoc,ih,hb];rfl
  ·rw [if_neg hb]
   cases hs:spl c l with
   | nil=>exact absurd hs (sN c l)
   | cons x r =>
    rw [hs,Lib.join_cons]at ih
    show Lib.join ((b::x)::r) [c]=_
    rw [Lib.join_cons,List.cons_append,ih]
theorem num_kit (l:List UInt8) (hl:l.length<=100000) (M:Int) (hM:M<=15):∃(n:Int) (ok:Bool),jU (SB l) M=some (n,ok)/\Med n/\(ok=true->Lib.itoa n=l):=by
 have med0:Med 0:=by unfold Med;omega
 have hsz:∀r:List UInt8,((SB r).size:Int)=(r.length:Int):=λr=>by rw [dA]
 unfold jU
 rw [EW l (by omega),ob_,yO,hsz]
 generalize hr:jA l=r
 cases he:r.isEmpty with
 | true=>exact⟨0,false,rfl,med0,(λh=>by cases h)⟩
 | false =>
 simp only [cond_false]
 by_cases hlen:(r.length:Int)>M
 ·rw [decide_eq_true hlen]
  exact⟨0,false,rfl,med0,(λh=>by cases h)⟩
 ·rw [decide_eq_false hlen]
  simp only [cond_false]
  have hrl:r.length<=15:=by omega
  rw [DC r (by omega),ob_]
  match r,he,hr,hlen,hrl with
  | b::t,he,hr,hlen,hrl =>
  have hb0:tO (SB (b::t)) 0=some b:=by
   have h00:=oP (SB (b::t)) 0 (by rw [dA];simp)
   rw [show ((0:Nat):Int)=0 from rfl]at h00
   rw [h00];rfl
  rw [hb0,ob_]
  have hsn:sNe (SB l) (⟨#[48]⟩:ByteArray)=decide (l ≠ [48]):=by
   show (!sEq (SB l) (⟨#[48]⟩:ByteArray))=_
   rw [show sEq (SB l) (⟨#[48]⟩:ByteArray)=decide (l=[48]) by
    rw [Bool.eq_iff_iff,eT]
    simp only [decide_eq_true_eq]
    exact⟨λh=>qa (m:=[48]) h,λh=>by rw [h]⟩]
   by_cases h:l=[48] <;> simp [h]
  have h48e:((b.toNat:Int)==48)=decide (b.toNat=48):=by
   rw [Bool.eq_iff_iff];simp;omega
  rw [h48e,hsn]
  cases hall:(b::t).all lW with
  | false =>
   simp only [cond_false]
   refine⟨0,false,?_,med0,(λh=>by cases h)⟩
   cases decide (b.toNat=48)with
   | false=>rfl
   | true =>
    simp only [cond_true,ob_]
    cases decide (l ≠ [48]) <;> rfl
  | true =>
   simp only [cond_true]
   obtain ⟨v,hv⟩:=qZ (b::t) 0 hall
   have hvb:v<1000000000000000:=by
    have:=Lib.decFrom_lt _ _ _ hv
    have h2:(10:Nat) ^ (b::t).length<=10 ^ 15:=Nat.pow_le_pow_right (by decide) hrl
    omega
   have hdn:Lib.decNat (b::t)=some v:=by unfold Lib.decNat;exact hv
   have hbd:lW b=true:=by simp only [List.all_cons,Bool.and_eq_true]at hall;exact hall.1
   have hb45:b≠45:=λe=>by rw [e]at hbd;exact absurd hbd (by decide)
   have hb43:b≠43:=λe=>by rw [e]at hbd;exact absurd hbd (by decide)
   obtain ⟨n,hn,hnm,hw⟩:∃n:Int,Lib.atoi l=some n/\Med n/\(Lib.itoa n=l↔¬(b.toNat=48/\l ≠ [48])):=by
    cases l with
    | nil=>simp [jA]at hr
    | cons c l' =>
     by_cases hc:c=45
     ·subst hc
      rw [show jA (45::l')=l' by simp [jA]]at hr
      subst hr
      refine⟨-(v:Int),by simp [Lib.atoi,hdn],by unfold Med;omega,?_⟩
      by_cases h48:b.toNat=48
      ·refine⟨λe => ?_,λk=>absurd ⟨h48,by simp⟩ k⟩
       exfalso
       unfold Lib.itoa at e
       by_cases hv0:v=0
       ·subst hv0
        rw [if_neg (by omega)]at e
        rw [show (-((0:Nat):Int)).toNat=0 from rfl,ddS (by decide)]at e
        simp only [List.cons.injEq]at e
        exact absurd e.2 (by simp)
       ·rw [if_pos (by omega)]at e
        simp only [List.cons.injEq,true_and]at e
        rw [show (-(v:Int)).natAbs=v by omega]at e
        exact BI v hv0 b t e h48
      ·obtain ⟨v',e1,e2,e3⟩:=y9 t.length (b::t) rfl hall (λb' l'' e=>by
        simp only [List.cons.injEq]at e
        rw [<- e.1];exact h48)
       rw [hv,so_]at e1
       subst e1
       refine⟨λ_ k=>h48 k.1,λ_ => ?_⟩
       unfold Lib.itoa
       rw [if_pos (by omega),show (-(v:Int)).natAbs=v by omega,e3]
     ·rw [show jA (c::l')=c::l' by simp [jA,hc]]at hr
      simp only [List.cons.injEq]at hr
      obtain ⟨rfl,rfl⟩:=hr
      have n1:(c==45)=false:=by rw [beq_eq_false_iff_ne];exact hb45
      have n2:(c==43)=false:=by rw [beq_eq_false_iff_ne];exact hb43
      refine⟨(v:Int),by simp [Lib.atoi,n1,n2,hdn],by unfold Med;omega,?_⟩
      have hi:Lib.itoa (v:Int)=Lib.decDigits v:=by unfold Lib.itoa;rw [if_neg (by omega)];rfl
      rw [hi]
      by_cases h48:c.toNat=48
      ·have hc48:c=48:=by
        have:=Bc c hbd
        rw [h48]at this
        exact this
       cases l' with
       | nil =>
        refine⟨λ_ k=>k.2 (by rw [hc48]),λ_ => ?_⟩
        have:v=0:=by
         simp only [Lib.decFrom,yF hbd,so_]at hv
         omega
        rw [this,ddS (by decide),hc48];rfl
       | cons x l'' =>
        refine⟨λe=>absurd e (Fv (by simp) h48 v),λk=>absurd ⟨h48,by simp⟩ k⟩
      ·obtain ⟨v',e1,e2,e3⟩:=y9 l'.length (c::l') rfl hall (λb' l'' e=>by
        simp only [List.cons.injEq]at e
        rw [<- e.1];exact h48)
       rw [hv,so_]at e1
       subst e1
       exact⟨λ_ k=>h48 k.1,λ_=>e3⟩
   have hll:l.length<=16:=by
    cases l with
    | nil=>simp
    | cons c l' =>
     have h2:l'.length<=(jA (c::l')).length:=by
      by_cases hc:c=45
      ·simp [jA,hc]
      ·simp [jA,hc]
     rw [hr]at h2
     simp only [List.length_cons]at hrl h2 ⊢;omega
   have ha:strconv_Atoi (SB l)=some n:=by
    show xY (SB l)=some n
    unfold xY
    rw [if_pos (by rw [dA];omega)];exact hn
   by_cases hbad:b.toNat=48/\l ≠ [48]
   ·rw [decide_eq_true hbad.1,decide_eq_true hbad.2]
    exact⟨0,false,rfl,med0,(λh=>by cases h)⟩
   ·refine⟨n,true,?_,hnm,λ_=>hw.2 hbad⟩
    by_cases h48:b.toNat=48
    ·have:¬l ≠ [48]:=λh=>hbad ⟨h48,h⟩
     rw [decide_eq_true h48,decide_eq_false this]
     simp only [cond_true,ob_,cond_false,iH,ha]
    ·rw [decide_eq_false h48]
     simp only [cond_false,ob_,iH,ha]
theorem xe (ws:List (List UInt8)) (h:∀w∈ws,w.length<=100000) (hl:ws.length<=100000):∃ns ok,iO (ws.map SB)=some (ns,ok)/\(ok=true->ns.map Lib.itoa=ws/\∀n∈ns,Med n):=by
 have key:∀(xs:List (List UInt8)) (k:Nat) (out:List Int),(∀w∈xs,w.length<=100000)->out.length+xs.length<=1000000 ->
   (∃ns,forR (λk x s=>bR k x s) (xs.map SB) k out=some (.go (out++ns))/\ns.map Lib.itoa=xs/\∀n∈ns,Med n)\/forR (λk x s=>bR k x s) (xs.map SB) k out=some (.ret ([],false)):=by
  intro xs
  induction xs with
  | nil=>exact λk out _ _ => .inl ⟨[],by simp [forR],rfl,λn hn=>by cases hn⟩
  | cons x xs ih =>
   intro k out hw ho
   simp only [List.length_cons]at ho
   obtain ⟨n,ok,a1,a2,a3⟩:=num_kit x (hw x (by simp)) 9 (by decide)
   have hs:kT (SB x)=some (n,ok):=by unfold kT;rw [a1];rfl
   cases ok with
   | false =>
    right
    have hstep:bR k (SB x) out=some (.ret ([],false)):=by unfold bR;rw [hs];rfl
    rw [List.map_cons,forR,hstep];rfl
   | true =>
    have hstep:bR k (SB x) out=some (.go (out++[n])):=by
     unfold bR
     rw [hs,ob_]
     simp only [Bool.not_true,cond_false]
     rw [iP _ _ (by simp only [List.length_cons,List.length_nil];omega)];rfl
    rcases ih (k+1) (out++[n]) (λw hm=>hw w (by simp [hm])) (by simp only [List.length_append,List.length_cons,List.length_nil];omega)with⟨ns,b1,b2,b3⟩|b1
    ·left
     refine⟨n::ns,?_,by rw [List.map_cons,a3 rfl,b2],λm hm => ?_⟩
     ·rw [List.map_cons,forR,hstep,ob_]
      simp only []
      rw [b1];simp
     ·rcases List.mem_cons.1 hm with rfl|hm
      ·exact a2
      ·exact b3 m hm
    ·right
     rw [List.map_cons,forR,hstep,ob_]
     exact b1
 unfold iO
 rw [eF (by rw [List.length_map];omega)]
 rcases key ws 0 [] h (by simp only [List.length_nil];omega)with⟨ns,b1,b2,b3⟩|b1
 ·rw [b1]
  exact⟨ns,true,rfl,λ_=>⟨b2,b3⟩⟩
 ·rw [b1]
  exact⟨[],false,rfl,(λh=>by cases h)⟩
theorem Gl (s:ByteArray) (p:UInt8->Bool):((List.range s.size).all λi=>p (dR s i))=s.data.toList.all p:=by
 rw [Bool.eq_iff_iff,List.all_eq_true,List.all_eq_true]
 constructor
 ·intro h b hb
  obtain ⟨i,hi,rfl⟩:=List.getElem_of_mem hb
  have:=h i (List.mem_range.2 (by rw [Go.Lib.size_eq];exact hi))
  simpa [dR,List.getD,List.getElem?_eq_getElem hi]using this
 ·intro h i hi
  have hi':i<s.data.toList.length:=by rw [<- Go.Lib.size_eq];exact List.mem_range.1 hi
  have:=h _ (List.getElem_mem hi')
  simpa [dR,List.getD,List.getElem?_eq_getElem hi']using this
theorem IG:∀n:Fin 256,nR (⟨#[48,49,50,51,52,53,54,55,56,57]⟩:ByteArray) (UInt8.ofNat n.val)=lW (UInt8.ofNat n.val):=by decide +kernel
theorem F5 (r:List UInt8) (hr:r.length<=1000):lI (SB r) (⟨#[48,49,50,51,52,53,54,55,56,57]⟩:ByteArray)=some (r.all lW):=by
 rw [Bb _ _ (by rw [dA];omega),Gl]
 congr 1
 show r.all _=r.all lW
 congr 1
 funext b
 have:=IG ⟨b.toNat,b.toNat_lt⟩
 simpa using this
theorem num_two (l:List UInt8) (hl:l.length<=100000) (M:Int) (hM:M<=15):∃(n n':Int) (ok:Bool),jU (SB l) M=some (n,ok)/\nG (SB l) M=some (n',ok)/\(ok=true->n'=n)/\Med n/\Med n':=by
 have med0:Med 0:=by unfold Med;omega
 have hsz:∀r:List UInt8,((SB r).size:Int)=(r.length:Int):=λr=>by rw [dA]
 unfold jU nG
 rw [EW l (by omega),ob_,ob_,yO,hsz]
 generalize hr:jA l=r
 cases he:r.isEmpty with
 | true=>exact⟨0,0,false,rfl,rfl,(λh=>by cases h),med0,med0⟩
 | false =>
 simp only [cond_false]
 by_cases hlen:(r.length:Int)>M
 ·rw [decide_eq_true hlen]
  exact⟨0,0,false,rfl,rfl,(λh=>by cases h),med0,med0⟩
 ·rw [decide_eq_false hlen]
  simp only [cond_false]
  have hrl:r.length<=15:=by omega
  rw [F5 r (by omega),DC r (by omega),ob_,ob_,ob_]
  match r,he,hr,hlen,hrl with
  | b::t,he,hr,hlen,hrl =>
  have hb0:tO (SB (b::t)) 0=some b:=by
   have h00:=oP (SB (b::t)) 0 (by rw [dA];simp)
   rw [show ((0:Nat):Int)=0 from rfl]at h00
   rw [h00];rfl
  rw [hb0,ob_]
  cases hall:(b::t).all lW with
  | false =>
   simp only [Bool.not_false,cond_true,cond_false]
   refine⟨0,0,false,?_,rfl,(λh=>by cases h),med0,med0⟩
   cases ((b.toNat:Int)==48)with
   | false=>rfl
   | true =>
    simp only [cond_true,ob_]
    cases sNe (SB l) (⟨#[48]⟩:ByteArray) <;> rfl
  | true =>
   simp only [Bool.not_true,cond_true,cond_false]
   obtain ⟨v,hv⟩:=qZ (b::t) 0 hall
   have hvb:v<1000000000000000:=by
    have:=Lib.decFrom_lt _ _ _ hv
    have h2:(10:Nat) ^ (b::t).length<=10 ^ 15:=Nat.pow_le_pow_right (by decide) hrl
    omega
   have hdn:Lib.decNat (b::t)=some v:=by unfold Lib.decNat;exact hv
   have hbd:lW b=true:=by simp only [List.all_cons,Bool.and_eq_true]at hall;exact hall.1
   have hb45:b≠45:=λe=>by rw [e]at hbd;exact absurd hbd (by decide)
   have hb43:b≠43:=λe=>by rw [e]at hbd;exact absurd hbd (by decide)
   obtain ⟨n,hn,hnm,hw⟩:∃n:Int,Lib.atoi l=some n/\Med n/\(Lib.itoa n=l↔¬(b.toNat=48/\l ≠ [48])):=by
    cases l with
    | nil=>simp [jA]at hr
    | cons c l' =>
     by_cases hc:c=45
     ·subst hc
      rw [show jA (45::l')=l' by simp [jA]]at hr
      subst hr
      refine⟨-(v:Int),by simp [Lib.atoi,hdn],by unfold Med;omega,?_⟩
      by_cases h48:b.toNat=48
      ·refine⟨λe => ?_,λk=>absurd ⟨h48,by simp⟩ k⟩
       exfalso
       unfold Lib.itoa at e
       by_cases hv0:v=0
       ·subst hv0
        rw [if_neg (by omega)]at e
        rw [show (-((0:Nat):Int)).toNat=0 from rfl,ddS (by decide)]at e
        simp only [List.cons.injEq]at e
        exact absurd e.2 (by simp)
       ·rw [if_pos (by omega)]at e
        simp only [List.cons.injEq,true_and]at e
        rw [show (-(v:Int)).natAbs=v by omega]at e
        exact BI v hv0 b t e h48
      ·obtain ⟨v',e1,e2,e3⟩:=y9 t.length (b::t) rfl hall (λb' l'' e=>by
        simp only [List.cons.injEq]at e
        rw [<- e.1];exact h48)
       rw [hv,so_]at e1
       subst e1
       refine⟨λ_ k=>h48 k.1,λ_ => ?_⟩
       unfold Lib.itoa
       rw [if_pos (by omega),show (-(v:Int)).natAbs=v by omega,e3]
     ·rw [show jA (c::l')=c::l' by simp [jA,hc]]at hr
      simp only [List.cons.injEq]at hr
      obtain ⟨rfl,rfl⟩:=hr
      have n1:(c==45)=false:=by rw [beq_eq_false_iff_ne];exact hb45
      have n2:(c==43)=false:=by rw [beq_eq_false_iff_ne];exact hb43
      refine⟨(v:Int),by simp [Lib.atoi,n1,n2,hdn],by unfold Med;omega,?_⟩
      have hi:Lib.itoa (v:Int)=Lib.decDigits v:=by unfold Lib.itoa;rw [if_neg (by omega)];rfl
      rw [hi]
      by_cases h48:c.toNat=48
      ·have hc48:c=48:=by
        have:=Bc c hbd
        rw [h48]at this
        exact this
       cases l' with
       | nil =>
        refine⟨λ_ k=>k.2 (by rw [hc48]),λ_ => ?_⟩
        have:v=0:=by
         simp only [Lib.decFrom,yF hbd,so_]at hv
         omega
        rw [this,ddS (by decide),hc48];rfl
       | cons x l'' =>
        refine⟨λe=>absurd e (Fv (by simp) h48 v),λk=>absurd ⟨h48,by simp⟩ k⟩
      ·obtain ⟨v',e1,e2,e3⟩:=y9 l'.length (c::l') rfl hall (λb' l'' e=>by
        simp only [List.cons.injEq]at e
        rw [<- e.1];exact h48)
       rw [hv,so_]at e1
       subst e1
       exact⟨λ_ k=>h48 k.1,λ_=>e3⟩
   have hll:l.length<=16:=by
    cases l with
    | nil=>simp
    | cons c l' =>
     have h2:l'.length<=(jA (c::l')).length:=by
      by_cases hc:c=45
      ·simp [jA,hc]
      ·simp [jA,hc]
     rw [hr]at h2
     simp only [List.length_cons]at hrl h2 ⊢;omega
   have ha:strconv_Atoi (SB l)=some n:=by
    show xY (SB l)=some n
    unfold xY
    rw [if_pos (by rw [dA];omega)];exact hn
   have h48e:((b.toNat:Int)==48)=decide (b.toNat=48):=by
    rw [Bool.eq_iff_iff];simp;omega
   have hsn:sNe (SB l) (⟨#[48]⟩:ByteArray)=decide (l ≠ [48]):=by
    show (!sEq (SB l) (⟨#[48]⟩:ByteArray))=_
    rw [show sEq (SB l) (⟨#[48]⟩:ByteArray)=decide (l=[48]) by
     rw [Bool.eq_iff_iff,eT]
     simp only [decide_eq_true_eq]
     exact⟨λh=>qa (m:=[48]) h,λh=>by rw [h]⟩]
    by_cases h:l=[48] <;> simp [h]
   have hse:sEq (SB (Lib.itoa n)) (SB l)=decide (Lib.itoa n=l):=by
    rw [Bool.eq_iff_iff,eT]
    simp only [decide_eq_true_eq]
    exact⟨λh=>qa h,λh=>by rw [h]⟩
   rw [ha,ob_,ob_,AX hnm,ob_,ob_,hse,h48e,hsn]
   by_cases hbad:b.toNat=48/\l ≠ [48]
   ·rw [decide_eq_true hbad.1,decide_eq_true hbad.2,decide_eq_false (λe=>hw.1 e hbad)]
    exact⟨0,n,false,rfl,rfl,(λh=>by cases h),med0,hnm⟩
   ·rw [decide_eq_true (hw.2 hbad)]
    refine⟨n,n,true,?_,rfl,λ_=>rfl,hnm,hnm⟩
    by_cases h48:b.toNat=48
    ·have:¬l ≠ [48]:=λh=>hbad ⟨h48,h⟩
     rw [decide_eq_true h48,decide_eq_false this];rfl
    ·rw [decide_eq_false h48];rfl
theorem ol (v:ByteArray) (l:List ByteArray) (hl:l.length<=1000000):∃b,bu l v=some b:=by
 have key:∀(xs:List ByteArray) (k:Nat),∃o:Ctl Unit Int,forR (λk x s=>dx v k x s) xs k ()=some o/\(o = .go ()\/∃n,o = .ret n):=by
  intro xs
  induction xs with
  | nil=>exact λk=>⟨_,rfl,.inl rfl⟩
  | cons x xs ih =>
   intro k
   rw [forR]
   unfold dx
   cases sEq v x with
   | true=>exact⟨_,rfl,.inr ⟨_,rfl⟩⟩
   | false=>exact ih (k+1)
 obtain ⟨o,ho,hc⟩:=key l 0
 unfold bu eQ
 rw [eF (by omega),ho,ob_]
 rcases hc with rfl|⟨n,rfl⟩ <;> exact⟨_,rfl⟩
theorem lM (c:UInt8):∀l:List UInt8,(spl c l).length<=l.length+1/\∀w∈spl c l,w.length<=l.length
 | []=>⟨by simp [spl],λw hw=>by simp [spl]at hw;subst hw;simp⟩
 | b::l=>by
  obtain ⟨h1,h2⟩:=lM c l
  unfold spl
  split
  ·refine⟨by simp only [List.length_cons];omega,λw hw => ?_⟩
   rcases List.mem_cons.1 hw with rfl|hw
   ·simp
   ·have:=h2 w hw
    simp only [List.length_cons];omega
  ·split
   ·exact⟨by simp,λw hw=>by simp at hw;subst hw;simp⟩
   ·rename_i x r hr
    rw [hr]at h1 h2
    refine⟨by simp only [List.length_cons]at h1 ⊢;omega,λw hw => ?_⟩
    rcases List.mem_cons.1 hw with rfl|hw
    ·have:=h2 x (by simp)
     simp only [List.length_cons];omega
    ·have:=h2 w (by simp [hw])
     simp only [List.length_cons];omega
theorem zW (x:List UInt8) (hx:x.length<=100000):∃b,mJ (SB x)=some ((spl 32 x).map SB,b):=by
 have hs:=uH 32 (s:=SB x) (by rw [dA];omega)
 obtain ⟨b,hb⟩:=ol (⟨#[]⟩:ByteArray) ((spl 32 x).map SB) (by rw [List.length_map];have:=(lM 32 x).1;omega)
 unfold mJ
 rw [hs,ob_]
 rw [show (List.map (λl=>(⟨l.toArray⟩:ByteArray)) (spl 32 (SB x).data.toList))=(spl 32 x).map SB from rfl,hb,ob_]
 exact⟨_,rfl⟩
theorem Eg (l m:List UInt8):SB l++SB m=SB (l++m):=by
 apply xJ;rw [toL,toL];simp
theorem pY {x y:ByteArray} (h:x.size+y.size<=1000000000000):qL x y=some (x++y):=by
 unfold qL
 rw [if_neg]
 have:IntKind.i64.max=9223372036854775807:=by decide
 rw [this];omega
def kM (ls:List (List UInt8)):List UInt8:=if ls=[]then [45]else Lib.join ls [44]
theorem AR (x:List UInt8) (hx:x.length<=5000):∃(ls:List (List UInt8)) (ok:Bool),bS (SB x)=some (ls.map SB,ok)/\kM ls=x/\ls.length<=5001/\∀w∈ls,w.length<=5000:=by
 unfold bS
 by_cases h:x=[45]
 ·subst h
  rw [show sEq (SB [45]) (⟨#[45]⟩:ByteArray)=true from (eT _ _).2 rfl,cond_true]
  exact⟨[],true,rfl,rfl,by simp,λw hw=>by cases hw⟩
 ·have hs:sEq (SB x) (⟨#[45]⟩:ByteArray)=false:=by
   cases hq:sEq (SB x) (⟨#[45]⟩:ByteArray)with
   | false=>rfl
   | true=>exact absurd (qa (m:=[45]) ((eT _ _).1 hq)) h
  rw [hs,cond_false]
  have hsp:=uH 44 (s:=SB x) (by rw [dA];omega)
  obtain ⟨h1,h2⟩:=lM 44 x
  obtain ⟨b,hb⟩:=ol (⟨#[]⟩:ByteArray) ((spl 44 x).map SB) (by rw [List.length_map];omega)
  rw [hsp,ob_]
  rw [show (List.map (λl=>(⟨l.toArray⟩:ByteArray)) (spl 44 (SB x).data.toList))=(spl 44 x).map SB from rfl,hb,ob_]
  refine⟨spl 44 x,!b,rfl,?_,by omega,λw hw=>Nat.le_trans (h2 w hw) hx⟩
  unfold kM
  rw [if_neg (sN 44 x),uX]
theorem ru (ls:List (List UInt8)) (hl:ls.length<=100000) (h:∀w∈ls,w.length<=9000):fP (ls.map SB)=some (SB (kM ls)):=by
 unfold fP kM
 cases ls with
 | nil=>rfl
 | cons x r =>
  rw [if_neg (by simp),show ((((x::r).map SB).length:Int)==0)=false by rw [beq_eq_false_iff_ne];simp;omega,cond_false]
  have:=uL (x::r) [44] 9000 h (by omega) (by decide)
  rw [show (⟨#[44]⟩:ByteArray)=SB [44] from rfl,this];rfl
def bH (e:Entry):List (List UInt8) :=
 [e.Key.data.toList,e.Item.data.toList]++([e.Version,e.First,e.Last,e.Every,e.Days,e.From,e.To,e.Prio].map Lib.itoa)++[bif e.Gone then [103,111,110,101]else [111,110],kM (e.Except.map Lib.itoa),kM (e.Tags.map λt=>t.data.toList)]
theorem uR {body:Nat->Int->List ByteArray->Option (Ctl (List ByteArray) Unit)} (hb:∀k n s,body k n s=(strconv_Itoa n).bind λr=>(jO s ([r]:List ByteArray)).bind λa=>some (.go a)) :
  ∀(l:List Int) (k:Nat) (out:List ByteArray),(∀n∈l,Med n)->out.length+l.length<=1000000->forR body l k out=some (.go (out++(l.map Lib.itoa).map SB))
 | [],k,out,_,_=>by simp [forR]
 | n::l,k,out,h,ho=>by
  simp only [List.length_cons]at ho
  have hstep:body k n out=some (.go (out++[SB (Lib.itoa n)])):=by
   rw [hb,AX (h n (by simp)),ob_,iP _ _ (by simp only [List.length_cons,List.length_nil];omega)];rfl
  rw [forR,hstep,ob_]
  simp only []
  rw [uR hb l (k+1) _ (λm hm=>h m (List.mem_cons_of_mem _ hm)) (by simp only [List.length_append,List.length_cons,List.length_nil];omega)]
  simp
theorem tZ (e:Entry) (hm:∀n ∈ [e.Version,e.First,e.Last,e.Every,e.Days,e.From,e.To,e.Prio],Med n) (hx:∀n∈e.Except,Med n) (hxl:e.Except.length<=10000) (ht:∀t∈e.Tags,t.size<=5000) (htl:e.Tags.length<=10000)
  (hw:∀w∈bH e,w.length<=5000):dz e=some (SB (Lib.join (bH e) [32]++[10])):=by
 have r1:=uR (body:=λk x s=>gH k x s) (λ_ _ _=>rfl) [e.Version,e.First,e.Last,e.Every,e.Days,e.From,e.To,e.Prio] 0 [e.Key,e.Item] hm (by simp)
 have r2:=uR (body:=λk x s=>gJ k x s) (λ_ _ _=>rfl) e.Except 0 [] hx (by simp only [List.length_nil];omega)
 rw [List.nil_append]at r2
 have l1:=ru (e.Except.map Lib.itoa) (by rw [List.length_map];omega) (λw hm=>by
  obtain ⟨n,hn,rfl⟩:=List.mem_map.1 hm
  have:=nE (hx n hn)
  omega)
 have etags:e.Tags=(e.Tags.map λt=>t.data.toList).map SB:=by
  rw [List.map_map]
  exact (List.map_id _).symm.trans (List.map_congr_left (λx _=>rfl))
 have l2:=ru (e.Tags.map λt=>t.data.toList) (by rw [List.length_map];omega) (λw hm=>by
  obtain ⟨t,h1,rfl⟩:=List.mem_map.1 hm
  have:=ht t h1
  rw [Go.Lib.size_eq]at this
  omega)
 rw [<- etags]at l2
 have hgone:(bif e.Gone then some (⟨#[103,111,110,101]⟩:ByteArray)else some (⟨#[111,110]⟩:ByteArray))=some (SB (bif e.Gone then [103,111,110,101]else [111,110])):=by cases e.Gone <;> rfl
 have hwords:([e.Key,e.Item]++([e.Version,e.First,e.Last,e.Every,e.Days,e.From,e.To,e.Prio].map Lib.itoa).map SB)++[SB (bif e.Gone then [103,111,110,101]else [111,110]),SB (kM (e.Except.map Lib.itoa)),SB (kM (e.Tags.map λt=>t.data.toList))]=(bH e).map SB:=by
  unfold bH
  simp only [List.map_append,List.map_cons,List.map_nil]
 have hj:=uL (bH e) [32] 5000 hw (by simp [bH]) (by decide)
 have hjl:=pq [32] 5000 (bH e) hw
 have hel:(bH e).length=13:=by simp [bH]
 unfold dz
 rw [eF (by simp),r1,ob_,iH,hgone,ob_,eF (by omega),r2,ob_,iH,l1,ob_,l2,ob_,
  iP _ _ (by simp),ob_,hwords]
 have hne:neL ((bH e).map SB)=some ():=by
  unfold bH
  rfl
 rw [hne,ob_,show (⟨#[32]⟩:ByteArray)=SB [32] from rfl,hj,ob_]
 have hcat:qL (SB (Lib.join (bH e) [32])) (⟨#[10]⟩:ByteArray)=some (SB (Lib.join (bH e) [32]++[10])):=by
  rw [pY (by rw [dA];show _+1<=_;rw [hel]at hjl;simp only [List.length_cons,List.length_nil]at hjl;omega),show (⟨#[10]⟩:ByteArray)=SB [10] from rfl,Eg]
 rw [hcat,ob_]
theorem II {α:Type} {l:List α} (h:l.length=13):∃a b c d e f g i j k m n o,l=[a,b,c,d,e,f,g,i,j,k,m,n,o]:=by
 match l,h with
 | [a,b,c,d,e,f,g,i,j,k,m,n,o],_=>exact⟨a,b,c,d,e,f,g,i,j,k,m,n,o,rfl⟩
theorem list8 {α:Type} {l:List α} (h:l.length=8):∃a b c d e f g i,l=[a,b,c,d,e,f,g,i]:=by
 match l,h with
 | [a,b,c,d,e,f,g,i],_=>exact⟨a,b,c,d,e,f,g,i,rfl⟩
structure ReadE (m:Nat) (e:Entry):Prop where
 key:e.Key.size<=m
 item:e.Item.size<=m
 nums:∀n ∈ [e.Version,e.First,e.Last,e.Every,e.Days,e.From,e.To,e.Prio],Med n
 days:∀n∈e.Except,Med n
 dayl:e.Except.length<=m+1
 tags:∀t∈e.Tags,t.size<=m
 tagl:e.Tags.length<=m+1
 big:12<=m
theorem mE (x:List UInt8) (hx:x.length<=5000):∃(ls:List (List UInt8)) (ok:Bool),bS (SB x)=some (ls.map SB,ok)/\kM ls=x/\ls.length<=x.length+1/\∀w∈ls,w.length<=x.length:=by
 by_cases h:x=[45]
 ·obtain ⟨ls,ok,a1,a2,_,_⟩:=AR x hx
  subst h
  have e:bS (SB [45])=some (([]:List (List UInt8)).map SB,true):=by
   unfold bS
   rw [show sEq (SB [45]) (⟨#[45]⟩:ByteArray)=true from (eT _ _).2 rfl,cond_true];rfl
  exact⟨[],true,e,rfl,by simp,λw hw=>by cases hw⟩
 ·obtain ⟨h1,h2⟩:=lM 44 x
  obtain ⟨b,hb⟩:=ol (⟨#[]⟩:ByteArray) ((spl 44 x).map SB) (by rw [List.length_map];omega)
  have hs:sEq (SB x) (⟨#[45]⟩:ByteArray)=false:=by
   cases hq:sEq (SB x) (⟨#[45]⟩:ByteArray)with
   | false=>rfl
   | true=>exact absurd (qa (m:=[45]) ((eT _ _).1 hq)) h
  have hsp:=uH 44 (s:=SB x) (by rw [dA];omega)
  refine⟨spl 44 x,!b,?_,?_,h1,h2⟩
  ·unfold bS
   rw [hs,cond_false,hsp,ob_]
   rw [show (List.map (λl=>(⟨l.toArray⟩:ByteArray)) (spl 44 (SB x).data.toList))=(spl 44 x).map SB from rfl,hb,ob_]
  ·unfold kM
   rw [if_neg (sN 44 x),uX]
theorem GK (x:List UInt8) (hx:x.length<=3000):∃(e:Entry) (ok:Bool),bX (SB x)=some (e,ok)/\(ok=true->ReadE x.length e/\bH e=spl 32 x/\dz e=some (SB (x++[10]))):=by
 obtain ⟨b,hb⟩:=zW x (by omega)
 have hw:=(lM 32 x).2
 have hw1:=(lM 32 x).1
 have hjn:=uX 32 x
 unfold bX
 rw [hb,ob_]
 generalize hws:spl 32 x=ws at hw hw1 hjn
 simp only []
 by_cases hlen:ws.length=13
 ·have hbig:12<=x.length:=by omega
  obtain ⟨w0,w1,w2,w3,w4,w5,w6,w7,w8,w9,w10,w11,w12,rfl⟩:=II hlen
  have i0:idx (List.map SB [w0,w1,w2,w3,w4,w5,w6,w7,w8,w9,w10,w11,w12]) 0=some (SB w0):=rfl
  have i1:idx (List.map SB [w0,w1,w2,w3,w4,w5,w6,w7,w8,w9,w10,w11,w12]) 1=some (SB w1):=rfl
  have i10:idx (List.map SB [w0,w1,w2,w3,w4,w5,w6,w7,w8,w9,w10,w11,w12]) 10=some (SB w10):=rfl
  have i11:idx (List.map SB [w0,w1,w2,w3,w4,w5,w6,w7,w8,w9,w10,w11,w12]) 11=some (SB w11):=rfl
  have i12:idx (List.map SB [w0,w1,w2,w3,w4,w5,w6,w7,w8,w9,w10,w11,w12]) 12=some (SB w12):=rfl
  have hsub:vz (List.map SB [w0,w1,w2,w3,w4,w5,w6,w7,w8,w9,w10,w11,w12]) 2 10=some ([w2,w3,w4,w5,w6,w7,w8,w9].map SB):=rfl
  have hl13:((((List.map SB [w0,w1,w2,w3,w4,w5,w6,w7,w8,w9,w10,w11,w12]).length:Nat):Int) != 13)=false:=rfl
  have hsz:∀w ∈ [w0,w1,w2,w3,w4,w5,w6,w7,w8,w9,w10,w11,w12],w.length<=x.length:=hw
  obtain ⟨ns,o1,a1,a2⟩:=xe [w2,w3,w4,w5,w6,w7,w8,w9] (λw hm=>by
   have:=hsz w (by
    simp only [List.mem_cons,List.not_mem_nil,or_false]at hm
    rcases hm with rfl|rfl|rfl|rfl|rfl|rfl|rfl|rfl <;> simp)
   omega) (by simp)
  obtain ⟨ls,o2,b1,b2,b3,b4⟩:=mE w11 (by have:=hsz w11 (by simp);omega)
  obtain ⟨ds,o3,c1,c2⟩:=xe ls (λw hm=>by have:=b4 w hm;have:=hsz w11 (by simp);omega) (by have:=hsz w11 (by simp);omega)
  obtain ⟨ts,o4,d1,d2,d3,d4⟩:=mE w12 (by have:=hsz w12 (by simp);omega)
  simp only [hl13,i10,cond_false,ob_]
  obtain ⟨v,hv,hv2⟩:∃v,(bif (!b)then some true else bif sNe (SB w10) (⟨#[111,110]⟩:ByteArray)then some (sNe (SB w10) (⟨#[103,111,110,101]⟩:ByteArray))else some false)=some v/\(v=false->w10=[111,110]\/w10=[103,111,110,101]):=by
   cases b with
   | false=>exact⟨true,rfl,(λh=>by cases h)⟩
   | true =>
    simp only [Bool.not_true,cond_false]
    cases h1:sNe (SB w10) (⟨#[111,110]⟩:ByteArray)with
    | false =>
     refine⟨false,rfl,λ_ => .inl ?_⟩
     have:(!sEq (SB w10) (⟨#[111,110]⟩:ByteArray))=false:=h1
     simp only [Bool.not_eq_false']at this
     exact qa (m:=[111,110]) ((eT _ _).1 this)
    | true =>
     refine⟨_,rfl,λh2 => .inr ?_⟩
     have:(!sEq (SB w10) (⟨#[103,111,110,101]⟩:ByteArray))=false:=h2
     simp only [Bool.not_eq_false']at this
     exact qa (m:=[103,111,110,101]) ((eT _ _).1 this)
  rw [hv,ob_]
  cases v with
  | true=>exact⟨_,false,rfl,(λh=>by cases h)⟩
  | false =>
  simp only [cond_false,hsub,a1,i11,b1,c1,i12,d1,ob_]
  cases o1 with
  | false=>exact⟨_,false,rfl,(λh=>by cases h)⟩
  | true =>
  cases o2 with
  | false=>exact⟨_,false,rfl,(λh=>by cases h)⟩
  | true =>
  cases o3 with
  | false=>exact⟨_,false,rfl,(λh=>by cases h)⟩
  | true =>
  cases o4 with
  | false=>exact⟨_,false,rfl,(λh=>by cases h)⟩
  | true =>
  obtain ⟨e1,e2⟩:=a2 rfl
  obtain ⟨f1,f2⟩:=c2 rfl
  obtain ⟨n2,n3,n4,n5,n6,n7,n8,n9,rfl⟩:=list8 (l:=ns) (by have:=congrArg List.length e1;simpa using this)
  have j0:idx [n2,n3,n4,n5,n6,n7,n8,n9] 0=some n2:=rfl
  have j1:idx [n2,n3,n4,n5,n6,n7,n8,n9] 1=some n3:=rfl
  have j2:idx [n2,n3,n4,n5,n6,n7,n8,n9] 2=some n4:=rfl
  have j3:idx [n2,n3,n4,n5,n6,n7,n8,n9] 3=some n5:=rfl
  have j4:idx [n2,n3,n4,n5,n6,n7,n8,n9] 4=some n6:=rfl
  have j5:idx [n2,n3,n4,n5,n6,n7,n8,n9] 5=some n7:=rfl
  have j6:idx [n2,n3,n4,n5,n6,n7,n8,n9] 6=some n8:=rfl
  have j7:idx [n2,n3,n4,n5,n6,n7,n8,n9] 7=some n9:=rfl
  simp only [Bool.not_true,cond_false,ob_,i0,i1,j0,j1,j2,j3,j4,j5,j6,j7]
  generalize hE:(⟨SB w0,SB w1,n2,n3,n4,n5,n6,ds,n7,n8,n9,ts.map SB,sEq (SB w10) (⟨#[103,111,110,101]⟩:ByteArray)⟩:Entry)=e
  refine⟨e,true,rfl,λ_ => ?_⟩
  have hR:ReadE x.length e:=by
   rw [<- hE]
   have hd:ds.length=ls.length:=by have:=congrArg List.length f1;simpa using this
   refine⟨by show (SB w0).size<=_;rw [dA];exact hsz w0 (by simp),by show (SB w1).size<=_;rw [dA];exact hsz w1 (by simp),?_,f2,by show ds.length<=_;have:=hsz w11 (by simp);omega,λt ht => ?_,by show (ts.map SB).length<=_;rw [List.length_map];have:=hsz w12 (by simp);omega,hbig⟩
   ·exact e2
   ·obtain ⟨y,hy,rfl⟩:=List.mem_map.1 ht
    rw [dA]
    have:=d4 y hy;have:=hsz w12 (by simp);omega
  have hgone:(bif sEq (SB w10) (⟨#[103,111,110,101]⟩:ByteArray)then [103,111,110,101]else [111,110])=w10:=by
   rcases hv2 rfl with h|h
   ·subst h
    cases hq:sEq (SB [111,110]) (⟨#[103,111,110,101]⟩:ByteArray)with
    | false=>rfl
    | true=>exact absurd (qa (m:=[103,111,110,101]) ((eT _ _).1 hq)) (by decide)
   ·subst h
    rw [show sEq (SB [103,111,110,101]) (⟨#[103,111,110,101]⟩:ByteArray)=true from (eT _ _).2 rfl];rfl
  have hE2:bH e=[w0,w1,w2,w3,w4,w5,w6,w7,w8,w9,w10,w11,w12]:=by
   rw [<- hE]
   unfold bH
   simp only []
   rw [hgone,f1,b2,show ((ts.map SB).map λt:ByteArray=>t.data.toList)=ts by rw [List.map_map];exact List.map_id' ts,d2,e1];rfl
  refine⟨hR,hE2,?_⟩
  have:=tZ e hR.nums hR.days (by have:=hR.dayl;omega) (λt ht=>by have:=hR.tags t ht;omega) (by have:=hR.tagl;omega) (λw hm=>by
   rw [hE2]at hm
   have:=hsz w hm
   omega)
  rw [this,hE2,hjn]
 ·have hl:(((ws.map SB).length:Int) != 13)=true:=by rw [List.length_map,bne_iff_ne];omega
  rw [hl]
  cases b <;> exact⟨_,false,rfl,(λh=>by cases h)⟩
end Go.Proofs.YtigdobmllbakiabGreatDoor.Law

