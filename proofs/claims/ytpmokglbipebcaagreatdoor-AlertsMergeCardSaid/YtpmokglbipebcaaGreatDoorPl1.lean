/-
  THE PLAIN LAW (part 1).
-/
import Derived.Test.YtpmokglbipebcaaGreatDoorEng5
import Derived.Test.YtpmokglbipebcaaGreatDoorDefs
import Derived.Lib.ItoaLen
namespace Go.Eng
set_option linter.unusedVariables false
set_option linter.unusedSimpArgs false
theorem fZ {α σ ρ:Type} {body:Nat->α->σ->Option (Ctl σ ρ)} {xs:List α} {s:σ} (hl:xs.length<=1000000000000):forL xs s body=forR body xs 0 s:=by unfold forL;rw [if_pos hl]
theorem Cy {α σ ρ:Type} {body:Nat->α->σ->Option (Ctl σ ρ)} (I:Nat->σ->Prop) (N:Nat):∀(xs:List α) (k:Nat) (s:σ),k+xs.length=N->(∀k x s,x∈xs->k<N->I k s->∃s',body k x s=some (.go s')/\I (k+1) s')->I k s->∃s',forR body xs k s=some (.go s')/\I N s'
 | [],k,s,hN,h,hi=>⟨s,rfl,by simp only [List.length_nil,Nat.add_zero]at hN;rw [<- hN];exact hi⟩
 | x::xs,k,s,hN,h,hi=>by
  simp only [List.length_cons]at hN
  obtain ⟨s1,h1,h2⟩:=h k x s (by simp) (by omega) hi
  obtain ⟨s2,h3,h4⟩:=Cy I N xs (k+1) s1 (by omega) (λk x s hx=>h k x s (by simp [hx])) h2
  exact⟨s2,by simp only [forR,h1,ob_];exact h3,h4⟩
theorem Di {α σ ρ:Type} {body:Nat->α->σ->Option (Ctl σ ρ)} (I:Nat->σ->Prop) {xs:List α} {s:σ} (hl:xs.length<=1000000000000) (h:∀k x s,x∈xs->k<xs.length->I k s->∃s',body k x s=some (.go s')/\I (k+1) s') (h0:I 0 s):∃s',forL xs s body=some (.go s')/\I xs.length s':=by
 obtain ⟨s',h1,h2⟩:=Cy I xs.length xs 0 s (by omega) h h0
 exact⟨s',by rw [fZ hl];exact h1,h2⟩
theorem lL {σ ρ τ:Type} (s:σ) (f:σ->Option τ) (g:ρ->Option τ):thenC (.go s) f g=f s:=rfl
theorem Ht {σ ρ τ:Type} (r:ρ) (f:σ->Option τ) (g:ρ->Option τ):thenC (.ret r) f g=g r:=rfl
theorem xR {α:Type} (xs:List α) (k:Nat):idx xs (k:Int)=xs[k]? := by simp [idx]
theorem fE {n:Int} (h : -9223372036854775808<=n/\n<=9223372036854775807):w64 n=n:=zH n h
theorem toL (s:ByteArray):s.toList=s.data.toList:=Go.Lib.toList_data s
theorem uL {a b:ByteArray} (h:a.toList=b.toList):a=b:=by
 rw [toL,toL]at h
 obtain ⟨⟨a⟩⟩:=a
 obtain ⟨⟨b⟩⟩:=b
 simp only at h
 rw [h]
theorem Ga (a b:ByteArray):sEq a b=true↔a=b:=by
 simp only [sEq,beq_iff_eq]
 exact⟨uL,λh=>by rw [h]⟩
theorem xY (a b:ByteArray):sEq a b=decide (a=b):=by
 rw [Bool.eq_iff_iff,Ga];simp
theorem r9 (a b:ByteArray):sNe a b = !decide (a=b):=by
 have:=xY a b;simp only [sEq,sNe]at *;rw [this]
abbrev bl:=Op.bytesLess
theorem bl_lt:∀(x y:List UInt8),bl x y=decide (x<y)
 | _,[]=>by simp [bl,Op.bytesLess]
 | [],_::_=>by simp [bl,Op.bytesLess]
 | a::x,b::y=>by
  have:=bl_lt x y
  simp only [bl,Op.bytesLess]at this ⊢
  rw [this,Bool.eq_iff_iff]
  simp only [Bool.or_eq_true,decide_eq_true_eq,Bool.and_eq_true,beq_iff_eq,List.cons_lt_cons_iff]
def lt (a b:ByteArray):Prop:=a.toList<b.toList
theorem Bd (a b:ByteArray):sLt a b=true↔lt a b:=by
 show bl a.toList b.toList=true↔_
 rw [bl_lt];simp [lt]
theorem yV (a:ByteArray):¬lt a a:=List.lt_irrefl a.toList
theorem lt_trans {a b c:ByteArray} (h:lt a b) (k:lt b c):lt a c:=List.lt_trans h k
theorem EQ (a b:ByteArray):lt a b\/a=b\/lt b a:=by
 rcases Classical.em (lt a b)with h|h
 ·exact .inl h
 ·rcases Classical.em (lt b a)with h2|h2
  ·exact .inr (.inr h2)
  ·exact .inr (.inl (uL (List.le_antisymm (List.not_lt.1 h2) (List.not_lt.1 h))))
theorem sNe_nil (a:ByteArray):sNe a ⟨#[]⟩=decide (a.size≠0):=by
 rw [r9,Go.Lib.size_eq,Bool.eq_iff_iff]
 simp only [Bool.not_eq_true',decide_eq_false_iff_not,decide_eq_true_eq,ne_eq]
 refine not_congr ⟨λh=>by rw [h];rfl,λh => ?_⟩
 exact uL (by rw [toL,List.eq_nil_of_length_eq_zero h,toL])
end Go.Eng

open Go Go.Eng
namespace Go.Proofs.YtpmokglbipebcaaGreatDoor.Law
set_option linter.unusedVariables false
set_option linter.unusedSimpArgs false
def Ok (s:Stream) (b:Int):Prop:=0<=s.f_at/\s.f_at<=b
theorem Ok.mono {s:Stream} {b c:Int} (h:Ok s b) (hc:b<=c):Ok s c:=⟨h.1,Int.le_trans h.2 hc⟩
theorem zh (x n:Int) (h:1<=n) (hn:n<=4611686018427387904):∃r,om x n=some r/\0<=r/\r<n:=by
 have h1:x.tmod n<n:=Int.tmod_lt_of_pos x (by omega)
 have h2 : -n<x.tmod n:=Int.lt_tmod_of_pos x (by omega)
 have hb:decide (n<1)=false:=by simp;omega
 have hn0:n≠0:=by omega
 simp only [om,hb,cond_false,GM,if_neg hn0,ob_]
 cases hd:decide (x.tmod n<0)with
 | true =>
  simp only [decide_eq_true_eq]at hd
  exact⟨_,rfl,by rw [fE (by omega)];omega,by rw [fE (by omega)];omega⟩
 | false =>
  simp only [decide_eq_false_iff_not]at hd
  exact⟨_,rfl,by omega,h1⟩
theorem nR (s:Stream) (n:Int) {b:Int} (hs:Ok s b) (hb:b<=1000000) (h:1<=n) (hn:n<=4611686018427387904):∃r s',bQ s n=some (r,s')/\0<=r/\r<n/\Ok s' (b+1):=by
 obtain ⟨h0,h1⟩:=hs
 have e1:w64 (s.f_at+1)=s.f_at+1:=fE (by omega)
 have e2:w64 (s.f_at+1-1)=s.f_at:=by rw [fE (by omega)];omega
 simp only [bQ,e1,e2]
 by_cases hl:s.L.length=0
 ·have:((s.L.length:Int)==0)=true:=by simp [hl]
  simp only [this,cond_true]
  obtain ⟨r,hr,h2,h3⟩:=zh (w64 ((s.f_at+1)*7919)) n h hn
  exact⟨r,_,by rw [hr];rfl,h2,h3,⟨by show 0<=s.f_at+1;omega,by show s.f_at+1<=b+1;omega⟩⟩
 ·have hne:(s.L.length:Int)≠0:=by omega
  have:((s.L.length:Int)==0)=false:=by simpa using hl
  simp only [this,cond_false,GM,quoO,if_neg hne,ob_]
  have h2:0<=s.f_at.tmod s.L.length:=Int.tmod_nonneg _ h0
  have hp:(0:Int)<(s.L.length:Int):=by have:=Nat.pos_of_ne_zero hl;omega
  have h3:s.f_at.tmod s.L.length<s.L.length:=Int.tmod_lt_of_pos _ hp
  have hi:idx s.L (s.f_at.tmod s.L.length)=some s.L[(s.f_at.tmod s.L.length).toNat]:=by
   simp only [idx,if_pos h2]
   exact List.getElem?_eq_getElem (by omega)
  obtain ⟨r1,hr1,_,_⟩:=zh s.L[(s.f_at.tmod s.L.length).toNat] 1073741824 (by decide) (by decide)
  simp only [hi,hr1,ob_]
  generalize w64 (r1+_)=y
  obtain ⟨r,hr,h4,h5⟩:=zh y n h hn
  exact⟨r,_,by rw [hr];rfl,h4,h5,⟨by show 0<=s.f_at+1;omega,by show s.f_at+1<=b+1;omega⟩⟩
theorem oV (s:Stream) (n:Int) {b:Int} (hs:Ok s b) (hb:b<=1000000) (h:1<=n) (hn:n<=1000):∃r s',cz s n=some (r,s')/\Ok s' (b+1):=by
 obtain ⟨r,s',h1,_,_,h2⟩:=nR s n hs hb h (by omega)
 exact⟨r==0,s',by simp only [cz,h1,ob_],h2⟩
theorem BF {α:Type} {l:List α} {r:Int} (h0:0<=r) (h1:r<l.length):∃y,idx l r=some y/\y∈l:=by
 refine⟨l[r.toNat]'(by omega),?_,List.getElem_mem _⟩
 simp only [idx,if_pos h0]
 exact List.getElem?_eq_getElem (by omega)
theorem qH (s:Stream) (l:List Int) {b:Int} (hs:Ok s b) (hb:b<=1000000) (h:1<=l.length) (hn:l.length<=1000):∃r s',eP s l=some (r,s')/\r∈l/\Ok s' (b+1):=by
 obtain ⟨r,s',h1,h2,h3,h4⟩:=nR s l.length hs hb (by omega) (by omega)
 obtain ⟨y,hy,hm⟩:=BF h2 h3
 exact⟨y,s',by simp only [eP,h1,hy,ob_],hm,h4⟩
theorem rY (s:Stream) (l:List ByteArray) {b:Int} (hs:Ok s b) (hb:b<=1000000) (h:1<=l.length) (hn:l.length<=1000):∃r s',dR s l=some (r,s')/\r∈l/\Ok s' (b+1):=by
 obtain ⟨r,s',h1,h2,h3,h4⟩:=nR s l.length hs hb (by omega) (by omega)
 obtain ⟨y,hy,hm⟩:=BF h2 h3
 exact⟨y,s',by simp only [dR,h1,hy,ob_],hm,h4⟩
theorem gX (s:Stream) (lo hi:Int) {b:Int} (hs:Ok s b) (hb:b<=1000000) (h:lo<=hi) (h1 : -1000000000000<=lo) (h2:hi<=1000000000000):∃r s',bg s lo hi=some (r,s')/\lo<=r/\r<=hi/\Ok s' (b+1):=by
 have hd:decide (hi<lo)=false:=by simp;omega
 have e1:w64 (hi-lo)=hi-lo:=fE (by omega)
 have e2:w64 (hi-lo+1)=hi-lo+1:=fE (by omega)
 obtain ⟨r,s',k1,k2,k3,k4⟩:=nR s (hi-lo+1) hs hb (by omega) (by omega)
 simp only [bg,hd,cond_false,e1,e2,k1,ob_]
 exact⟨_,s',rfl,by rw [fE (by omega)];omega,by rw [fE (by omega)];omega,k4⟩
theorem Fu (s:Stream) (lo hi:Int) {b:Int} (hs:Ok s b) (hb:b<=900000) (h:lo<=hi) (h1 : -1000000000000<=lo) (h2:hi<=1000000000000):∃r s',dE s lo hi=some (r,s')/\Ok s' (b+2):=by
 obtain ⟨c,s1,k1,k2⟩:=oV s 12 hs (by omega) (by decide) (by decide)
 simp only [dE,k1,ob_]
 cases c with
 | true =>
  obtain ⟨r,s2,m1,_,m2⟩:=qH s1 [(w64 (lo-1)),(w64 (hi+1)),lo,hi,(-1099511627776),1099511627776] k2 (by omega) (by simp) (by simp)
  simp only [cond_true,m1,ob_]
  exact⟨_,_,rfl,m2.mono (by omega)⟩
 | false =>
  obtain ⟨r,s2,m1,_,_,m2⟩:=gX s1 lo hi k2 (by omega) h h1 h2
  simp only [cond_false,m1,ob_]
  exact⟨_,_,rfl,m2.mono (by omega)⟩
end Go.Proofs.YtpmokglbipebcaaGreatDoor.Law

open Go Go.Eng
namespace Go.Proofs.YtpmokglbipebcaaGreatDoor.Law
set_option linter.unusedVariables false
set_option linter.unusedSimpArgs false
def Ad (b:UInt8):Bool:=decide (97<=b.toNat)&&decide (b.toNat<=122)
def CK (b:UInt8):Bool:=(decide (48<=b.toNat)&&decide (b.toNat<=57))||(b.toNat==45)||(b.toNat==95)
def okB (i:Nat) (b:UInt8):Bool:=Ad b||(decide (0<i)&&CK b)
def fu (s:ByteArray) (i:Nat):UInt8:=s.data.toList.getD i 0
def keyB (s:ByteArray):Bool:=decide (s.size≠0)&&(decide (s.size<=40)&&(List.range s.size).all λi=>okB i (fu s i))
theorem Dr (s:ByteArray) (k:Nat) (h:k<s.size):rU s (k:Int)=some (fu s k):=by
 have h1:s[k]? = some s[k]:=by simp [h]
 have h2:fu s k=s[k]:=by
  have hl:k<s.data.toList.length:=by rw [<- Go.Lib.size_eq];exact h
  simp only [fu,List.getD_eq_getElem?_getD,List.getElem?_eq_getElem hl,Option.getD_some]
  simp
  rfl
 simp only [rU,if_pos (Int.natCast_nonneg k),Int.toNat_natCast,h1,h2]
theorem DI (s:ByteArray) (k:Nat) (hs:s.size<=1000000000):iC s (k:Int)=some (if k<s.size then (bif okB k (fu s k)then .go ((k+1:Nat):Int)else .ret false)else .brk (k:Int)):=by
 unfold iC
 by_cases h:k<s.size
 ·have hd:decide ((k:Int)<(s.size:Int))=true:=by simp;omega
  have hw:w64 ((k:Int)+1)=((k+1:Nat):Int):=by rw [fE (by omega)];omega
  simp only [hd,cond_true,Dr s k h,ob_,if_pos h,hw]
  generalize fu s k=b
  simp only [okB,Ad,CK]
  have e1:decide ((b.toNat:Int)>=97)=decide (97<=b.toNat):=decide_eq_decide.2 (by omega)
  have e2:decide ((b.toNat:Int)<=122)=decide (b.toNat<=122):=decide_eq_decide.2 (by omega)
  have e3:decide ((k:Int)>0)=decide (0<k):=decide_eq_decide.2 (by omega)
  have e4:decide ((b.toNat:Int)>=48)=decide (48<=b.toNat):=decide_eq_decide.2 (by omega)
  have e5:decide ((b.toNat:Int)<=57)=decide (b.toNat<=57):=decide_eq_decide.2 (by omega)
  have e6:((b.toNat:Int)==45)=(b.toNat==45):=by rw [Bool.eq_iff_iff];simp;omega
  have e7:((b.toNat:Int)==95)=(b.toNat==95):=by rw [Bool.eq_iff_iff];simp;omega
  rw [e1,e2,e3,e4,e5,e6,e7]
  cases decide (97<=b.toNat) <;> cases decide (b.toNat<=122) <;> cases decide (0<k) <;> cases decide (48<=b.toNat) <;> cases decide (b.toNat<=57) <;> cases (b.toNat==45) <;> cases (b.toNat==95) <;> rfl
 ·have hd:decide ((k:Int)<(s.size:Int))=false:=by simp;omega
  simp only [hd,cond_false,if_neg h]
theorem zu (s:ByteArray) (hs:s.size<=1000000000):∀(n k:Nat),k+n=s.size->iterN (λi=>iC s i) (n+1) (k:Int)=some (bif (List.range' k n).all (λj=>okB j (fu s j))then .go (s.size:Int)else .ret false)
 | 0,k,h=>by
  have hk:¬k<s.size:=by omega
  simp only [iterN,DI s k hs,if_neg hk,ob_,List.range'_zero,List.all_nil,cond_true]
  rw [show (k:Int)=s.size by omega]
 | n+1,k,h=>by
  have hk:k<s.size:=by omega
  rw [iterN,DI s k hs,if_pos hk,ob_,List.range'_succ,List.all_cons]
  cases okB k (fu s k)with
  | true=>simp only [cond_true,Bool.true_and];exact zu s hs n (k+1) (by omega)
  | false=>rfl
theorem yH (s:ByteArray) (hs:s.size<=1000000000):kit_IsKey s=some (keyB s):=by
 have h:=ma (zu s hs s.size 0 (by omega))
 unfold kit_IsKey
 have h':jJ (0:Int) (λs_1=>iC s s_1)=_:=h
 rw [h',ob_,<- List.range_eq_range']
 have e:decide ((s.size:Int)<=40)=decide (s.size<=40):=decide_eq_decide.2 (by omega)
 simp only [keyB]
 cases (List.range s.size).all (λi=>okB i (fu s i))with
 | true =>
  rw [cond_true,lL,sNe_nil,e,Bool.and_true]
  cases decide (s.size≠0) <;> rfl
 | false=>simp only [cond_false,Ht,Bool.and_false]
def pW (t:ByteArray) (b:UInt8):Bool := !decide (ixB t (b.toNat:Int)<0)
theorem only_L1 (s t:ByteArray) (k x:Nat) (h:k<s.size):lm s t k x ()=some (bif pW t (fu s k)then .go ()else .ret false):=by
 simp only [lm,Dr s k h,strings_IndexByte,dY,ob_,pW]
 cases decide (ixB t ((fu s k).toNat:Int)<0) <;> rfl
theorem Dt (s t:ByteArray):∀(xs:List Nat) (k:Nat),k+xs.length=s.size->forR (λk x u=>lm s t k x u) xs k ()=some (bif (List.range' k xs.length).all (λj=>pW t (fu s j))then .go ()else .ret false)
 | [],k,h=>rfl
 | x::xs,k,h=>by
  simp only [List.length_cons]at h ⊢
  have hk:k<s.size:=by omega
  rw [forR,only_L1 s t k x hk,ob_,List.range'_succ,List.all_cons]
  cases pW t (fu s k)with
  | true=>simp only [cond_true,Bool.true_and];exact Dt s t xs (k+1) (by omega)
  | false=>rfl
theorem FM (s t:ByteArray) (hs:s.size<=1000000000):qi s t=some ((List.range s.size).all λi=>pW t (fu s i)):=by
 unfold qi
 rw [Int.toNat_natCast,fZ (by simp;omega),Dt s t _ 0 (by simp),ob_,List.length_range,<- List.range_eq_range']
 cases (List.range s.size).all (λi=>pW t (fu s i)) <;> rfl
def AC:ByteArray:=⟨#[97,98,99,100,101,102,103,104,105,106,107,108,109,110,111,112,113,114,115,116,117,118,119,120,121,122]⟩
def yA:ByteArray:=⟨#[97,98,99,100,101,102,103,104,105,106,107,108,109,110,111,112,113,114,115,116,117,118,119,120,121,122,48,49,50,51,52,53,54,55,56,57,45,95]⟩
theorem AJ:∀n:Fin 256,pW AC (UInt8.ofNat n.val)=Ad (UInt8.ofNat n.val)/\pW yA (UInt8.ofNat n.val)=(Ad (UInt8.ofNat n.val)||CK (UInt8.ofNat n.val)):=by decide +kernel
theorem Dy (b:UInt8):pW AC b=Ad b:=by
 have:=(AJ ⟨b.toNat,b.toNat_lt⟩).1
 simpa using this
theorem Dl (b:UInt8):pW yA b=(Ad b||CK b):=by
 have:=(AJ ⟨b.toNat,b.toNat_lt⟩).2
 simpa using this
theorem wo (s:ByteArray) (hs:s.size<=1000000000):qJ s=some (keyB s):=by
 unfold qJ lF
 have e1:decide ((1:Int)<=(s.size:Int))=decide (s.size≠0):=decide_eq_decide.2 (by omega)
 have e2:decide ((s.size:Int)<=40)=decide (s.size<=40):=decide_eq_decide.2 (by omega)
 rw [e1,e2]
 by_cases h1:s.size≠0
 ·by_cases h2:s.size<=40
  ·have hsub:zi s 0 1=some (s.extract 0 1):=by
    unfold zi;rw [if_pos ⟨by omega,by omega,by decide,by show 1<=s.size;omega⟩];rfl
   have hsz:(s.extract 0 1).size=1:=by simp [ByteArray.size_extract];omega
   have hb:fu (s.extract 0 1) 0=fu s 0:=by
    obtain ⟨⟨l⟩⟩:=s
    simp only [fu]
    cases l with
    | nil=>exact absurd rfl h1
    | cons b l=>simp [ByteArray.extract,ByteArray.copySlice]
   simp only [decide_eq_true h1,decide_eq_true h2,cond_true,ob_,hsub]
   have o1:=FM (s.extract 0 1) AC (by omega)
   have o2:=FM s yA hs
   unfold AC at o1
   unfold yA at o2
   rw [o1,ob_,o2]
   have e3:(List.range (s.extract 0 1).size).all (λi=>pW AC (fu (s.extract 0 1) i))=Ad (fu s 0):=by
    rw [hsz]
    simp only [List.range_succ,List.range_zero,List.nil_append,List.all_cons,List.all_nil,Bool.and_true]
    rw [hb,Dy]
   have e3':=e3
   unfold AC at e3'
   rw [e3']
   have e4:∀i,pW yA (fu s i)=(Ad (fu s i)||CK (fu s i)):=λi=>Dl _
   have e5:keyB s=(Ad (fu s 0)&&(List.range s.size).all (λi=>pW yA (fu s i))):=by
    simp only [keyB,decide_eq_true h1,decide_eq_true h2,Bool.true_and,e4]
    rw [Bool.eq_iff_iff]
    simp only [List.all_eq_true,List.mem_range,Bool.and_eq_true,okB,Bool.or_eq_true,decide_eq_true_eq]
    constructor
    ·intro h
     refine⟨?_,λi hi=>(h i hi).imp id (λh=>h.2)⟩
     rcases h 0 (by omega)with h|h
     ·exact h
     ·exact absurd h.1 (by omega)
    ·rintro ⟨h3,h4⟩ i hi
     by_cases e:i=0
     ·rw [e];exact .inl h3
     ·exact (h4 i hi).imp id (λh=>⟨by omega,h⟩)
   unfold yA at e5
   rw [e5]
   cases Ad (fu s 0) <;> rfl
  ·simp only [decide_eq_true h1,decide_eq_false h2,cond_true,cond_false,ob_,keyB,Bool.false_and,Bool.and_false]
 ·simp only [decide_eq_false h1,cond_false,ob_,keyB,Bool.false_and]
end Go.Proofs.YtpmokglbipebcaaGreatDoor.Law

open Go Go.Eng
namespace Go.Proofs.YtpmokglbipebcaaGreatDoor.Law
set_option linter.unusedVariables false
set_option linter.unusedSimpArgs false
theorem jb {α:Type} (xs ys:List α) (h:xs.length+ys.length<=1000000000):mZ xs ys=some (xs++ys):=by unfold mZ;rw [if_pos h]
theorem zf {α:Type} {i:Int} {xs:List α} (h0:0<=i) (h1:i<xs.length):inR i xs=some ():=by unfold inR;rw [if_pos ⟨h0,by omega⟩]
end Go.Proofs.YtpmokglbipebcaaGreatDoor.Law

open Go Go.Eng
namespace Go.Proofs.YtpmokglbipebcaaGreatDoor.Law
set_option linter.unusedVariables false
set_option linter.unusedSimpArgs false
abbrev SB (l:List UInt8):ByteArray:=⟨l.toArray⟩
theorem sb_of (s:ByteArray):SB s.data.toList=s:=rfl
theorem sb_inj {l m:List UInt8} (h:SB l=SB m):l=m:=by
 have:=congrArg (λs:ByteArray=>s.data.toList) h
 simpa using this
theorem BG {a b:ByteArray} (h:a.data.toList=b.data.toList):a=b:=by rw [<- sb_of a,<- sb_of b,h]
def Med (n:Int):Prop := -1000000000000000<=n/\n<=1000000000000000
theorem itoa_eq {n:Int} (h:Med n):strconv_Itoa n=some (SB (Go.Lib.itoa n)):=by
 unfold strconv_Itoa Gf
 unfold Med at h
 rw [if_pos ⟨by omega,by omega⟩]
theorem Dq {n:Int} (h:Med n):(Go.Lib.itoa n).length<=21:=by
 unfold Med at h
 exact Go.Lib.itoa_length_le n (by omega) (by omega)
theorem zA (sep y:List UInt8) (r:List (List UInt8)):Go.Lib.joinTail sep (y::r)=sep++y++Go.Lib.joinTail sep r:=by simp [Go.Lib.joinTail]
theorem Da (sep:List UInt8) (m:Nat):∀(r:List (List UInt8)),(∀x∈r,x.length<=m)->(Go.Lib.joinTail sep r).length<=r.length*(m+sep.length)
 | [],_=>by simp [Go.Lib.joinTail]
 | y::r,hy=>by
  rw [zA,List.length_append,List.length_append,List.length_cons,Nat.add_mul]
  have:=Da sep m r (λx hx=>hy x (List.mem_cons_of_mem _ hx))
  have:=hy y (by simp)
  omega
theorem FZ (sep:List UInt8) (m:Nat):∀(ls:List (List UInt8)),(∀x∈ls,x.length<=m)->(Go.Lib.join ls sep).length<=ls.length*(m+sep.length)
 | [],h=>by simp [Go.Lib.join_nil]
 | x::r,h=>by
  rw [Go.Lib.join_cons,List.length_append,List.length_cons,Nat.add_mul]
  have:=Da sep m r (λx hx=>h x (List.mem_cons_of_mem _ hx))
  have:=h x (by simp)
  omega
theorem Ja (ls:List (List UInt8)) (sep:List UInt8) (m:Nat) (h:∀x∈ls,x.length<=m) (hl:ls.length<=1000000) (hm:m+sep.length<=10000):strings_Join (ls.map SB) (SB sep)=some (SB (Go.Lib.join ls sep)):=by
 have h1:=FZ sep m ls h
 have h2:ls.length*(m+sep.length)<=1000000*10000:=Nat.mul_le_mul hl hm
 have e:(ls.map SB).map (λx=>x.data.toList)=ls:=by rw [List.map_map];exact List.map_id' ls
 unfold strings_Join Gj
 rw [e]
 have e2:(SB sep).data.toList=sep:=rfl
 rw [e2,if_pos ⟨by simp;omega,by omega⟩]
theorem wZ:∀(l:List Int) (k:Nat) (out:List ByteArray),(∀n∈l,Med n)->l.length+out.length<=1000000->forR (λk x s=>iK k x s) l k out=some (.go (out++l.map λn=>SB (Go.Lib.itoa n)))
 | [],k,out,h,hl=>by simp [forR]
 | n::l,k,out,h,hl=>by
  simp only [List.length_cons]at hl
  have ih:=wZ l (k+1) (out++[SB (Go.Lib.itoa n)]) (λx hx=>h x (List.mem_cons_of_mem _ hx)) (by simp;omega)
  have hstep:iK k n out=some (.go (out++[SB (Go.Lib.itoa n)])):=by
   unfold iK
   rw [itoa_eq (h n (by simp))]
   simp only [ob_]
   rw [jb _ _ (by simp;omega)]
   rfl
  simp only [forR,hstep,ob_]
  rw [ih]
  simp
theorem yh (l:List Int) (h:∀n∈l,Med n) (hl:l.length<=1000000):jT l=some (SB (Go.Lib.join (l.map Go.Lib.itoa) [32])):=by
 unfold jT
 rw [fZ (by omega),wZ l 0 [] h (by simpa using hl)]
 simp only [ob_,lL,List.nil_append]
 have e:(l.map λn=>SB (Go.Lib.itoa n))=(l.map Go.Lib.itoa).map SB:=by rw [List.map_map];rfl
 rw [e,Ja _ [32] 21 (λx hx=>by
  obtain ⟨n,hn,rfl⟩:=List.mem_map.1 hx
  exact Dq (h n hn)) (by simpa using hl) (by decide)]
 rfl
def Bh (b:UInt8):Bool:=decide (48<=b.toNat)&&decide (b.toNat<=57)
def numOf (l:List UInt8):Nat:=l.foldl (λa b=>a*10+(b.toNat-48)) 0
theorem xV {n:Nat} (h:n<10):(UInt8.ofNat (48+n)).toNat=48+n:=by
 rw [UInt8.toNat_ofNat',Nat.mod_eq_of_lt (by omega)]
theorem yF {u:Nat} (h:u<10):Go.Lib.decDigits u=[UInt8.ofNat (48+u)]:=by rw [Go.Lib.decDigits,dif_pos h]
theorem DT {u:Nat} (h:¬u<10):Go.Lib.decDigits u=Go.Lib.decDigits (u / 10)++[UInt8.ofNat (48+u % 10)]:=by rw [Go.Lib.decDigits,dif_neg h]
theorem uS (u:Nat):(Go.Lib.decDigits u).all Bh=true:=by
 induction u using Nat.strongRecOn with
 | ind u ih =>
  by_cases h:u<10
  ·rw [yF h]
   have:=xV h
   simp only [List.all_cons,List.all_nil,Bool.and_true,Bh,this,Bool.and_eq_true,decide_eq_true_eq]
   omega
  ·rw [DT h,List.all_append,ih (u / 10) (by omega)]
   have:=xV (show u % 10<10 by omega)
   simp only [List.all_cons,List.all_nil,Bool.and_true,Bool.true_and,Bh,this,Bool.and_eq_true,decide_eq_true_eq]
   omega
theorem AA (u:Nat):numOf (Go.Lib.decDigits u)=u:=by
 induction u using Nat.strongRecOn with
 | ind u ih =>
  by_cases h:u<10
  ·rw [yF h]
   have:=xV h
   simp only [numOf,List.foldl_cons,List.foldl_nil,this]
   omega
  ·rw [DT h]
   have:=xV (show u % 10<10 by omega)
   have h2:=ih (u / 10) (by omega)
   unfold numOf at h2 ⊢
   rw [List.foldl_append,h2]
   simp only [List.foldl_cons,List.foldl_nil,this]
   omega
theorem Cs {u v:Nat} (h:Go.Lib.decDigits u=Go.Lib.decDigits v):u=v:=by rw [<- AA u,<- AA v,h]
theorem Dx {n:Int} (h:0<=n):Go.Lib.itoa n=Go.Lib.decDigits n.toNat:=by unfold Go.Lib.itoa;rw [if_neg (by omega)]
theorem Hd {n m:Int} (hn:0<=n) (hm:0<=m) (h:Go.Lib.itoa n=Go.Lib.itoa m):n=m:=by
 rw [Dx hn,Dx hm]at h
 have:=Cs h
 omega
theorem BD {c:UInt8} (hc:Bh c=false) {l:List UInt8} (h:l.all Bh=true):c∉l:=λhm=>by
 have:=List.all_eq_true.1 h c hm
 rw [hc]at this;cases this
theorem itoa_no {n:Int} (hn:0<=n) {c:UInt8} (hc:Bh c=false):c∉Go.Lib.itoa n:=by rw [Dx hn];exact BD hc (uS _)
theorem oW {c:UInt8}:∀{a b x y:List UInt8},c∉a->c∉b->a++c::x=b++c::y->a=b/\x=y
 | [],[],x,y,_,_,h=>⟨rfl,by simpa using h⟩
 | [],b::bs,x,y,_,hb,h=>by
  simp only [List.nil_append,List.cons_append,List.cons.injEq]at h
  exact absurd (List.mem_cons.2 (.inl h.1)) hb
 | a::r,[],x,y,ha,_,h=>by
  simp only [List.nil_append,List.cons_append,List.cons.injEq]at h
  exact absurd (List.mem_cons.2 (.inl h.1.symm)) ha
 | a::r,b::bs,x,y,ha,hb,h=>by
  simp only [List.cons_append,List.cons.injEq]at h
  obtain ⟨h1,h2⟩:=oW (λhm=>ha (List.mem_cons_of_mem _ hm)) (λhm=>hb (List.mem_cons_of_mem _ hm)) h.2
  exact⟨by rw [h.1,h1],h2⟩
theorem key_all {s:ByteArray} (h:keyB s=true):∀b∈s.data.toList,okB 1 b=true:=λb hb=>by
 simp only [keyB,Bool.and_eq_true,List.all_eq_true]at h
 obtain ⟨i,hi,rfl⟩:=List.getElem_of_mem hb
 have hs:i<s.size:=by rw [Go.Lib.size_eq];exact hi
 have:=h.2.2 i (by simpa using hs)
 have e:fu s i=s.data.toList[i]:=by
  simp only [fu,List.getD_eq_getElem?_getD,List.getElem?_eq_getElem hi,Option.getD_some]
 rw [e]at this
 simp only [okB,Bool.or_eq_true,Bool.and_eq_true]at this ⊢
 rcases this with k|k
 ·exact .inl k
 ·exact .inr ⟨by decide,k.2⟩
theorem wm {s:ByteArray} (h:keyB s=true) {c:UInt8} (hc:okB 1 c=false):c∉s.data.toList:=λhm=>by
 have:=key_all h c hm
 rw [hc]at this;cases this
end Go.Proofs.YtpmokglbipebcaaGreatDoor.Law

open Go Go.Eng
namespace Go.Proofs.YtpmokglbipebcaaGreatDoor.Law
set_option linter.unusedVariables false
set_option linter.unusedSimpArgs false
theorem sb_app (l m:List UInt8):SB l++SB m=SB (l++m):=by
 apply uL;rw [toL,toL];simp
theorem F4 (l:List UInt8):(SB l).size=l.length:=by show l.toArray.size=_;simp
theorem qj (l m:List UInt8) (h:l.length+m.length<=1000000000000):kG (SB l) (SB m)=some (SB (l++m)):=by
 rw [<- sb_app]
 unfold kG
 rw [if_neg]
 have:IntKind.i64.max=9223372036854775807:=by decide
 rw [this,F4,F4];omega
theorem itoa_neg {n:Int} (h:n<0):Go.Lib.itoa n=45::Go.Lib.decDigits n.natAbs:=by unfold Go.Lib.itoa;rw [if_pos h]
theorem CX {n m:Int} (h:Go.Lib.itoa n=Go.Lib.itoa m):n=m:=by
 have h45:Bh 45=false:=by decide
 by_cases hn:0<=n <;> by_cases hm:0<=m
 ·exact Hd hn hm h
 ·rw [Dx hn,itoa_neg (show m<0 by omega)]at h
  exact absurd (by rw [h];simp) (BD h45 (uS n.toNat))
 ·rw [Dx hm,itoa_neg (show n<0 by omega)]at h
  exact absurd (by rw [<- h];simp) (BD h45 (uS m.toNat))
 ·rw [itoa_neg (show n<0 by omega),itoa_neg (show m<0 by omega),List.cons.injEq]at h
  have:=Cs h.2
  omega
theorem vv (n:Int) {c:UInt8} (hc:Bh c=false) (h45:c≠45):c∉Go.Lib.itoa n:=by
 by_cases hn:0<=n
 ·exact itoa_no hn hc
 ·rw [itoa_neg (show n<0 by omega)]
  intro hm
  rcases List.mem_cons.1 hm with h|h
  ·exact h45 h
  ·exact BD hc (uS _) h
theorem join2' (x y:List UInt8) (r:List (List UInt8)) (sep:List UInt8):Go.Lib.join (x::y::r) sep=x++(sep++Go.Lib.join (y::r) sep):=by
 rw [Go.Lib.join_cons,zA,Go.Lib.join_cons,List.append_assoc]
theorem Ei (n m:Int) (r:List Int):Go.Lib.join ((n::m::r).map Go.Lib.itoa) [32]=Go.Lib.itoa n++32::Go.Lib.join ((m::r).map Go.Lib.itoa) [32]:=by
 simp only [List.map_cons,join2'];rfl
theorem vN:∀{l m:List Int},l.length=m.length->Go.Lib.join (l.map Go.Lib.itoa) [32]=Go.Lib.join (m.map Go.Lib.itoa) [32]->l=m
 | [],[],_,_=>rfl
 | [n],[m],_,h=>by
  simp only [List.map_cons,List.map_nil,Go.Lib.join_one]at h
  rw [CX h]
 | n::n2::l,m::m2::r,hl,h=>by
  rw [Ei,Ei]at h
  obtain ⟨h1,h2⟩:=oW (vv n (by decide) (by decide)) (vv m (by decide) (by decide)) h
  rw [CX h1,vN (l:=n2::l) (m:=m2::r) (by simpa using hl) h2]
 | [],_::_,hl,_=>by simp at hl
 | _::_,[],hl,_=>by simp at hl
 | [_],_::_::_,hl,_=>by simp at hl
 | _::_::_,[_],hl,_=>by simp at hl
theorem vC {c:UInt8} (hc:Bh c=false) (h45:c≠45) (h32:c≠32):∀l:List Int,c∉Go.Lib.join (l.map Go.Lib.itoa) [32]
 | []=>by simp [Go.Lib.join_nil]
 | [n]=>by
  simp only [List.map_cons,List.map_nil,Go.Lib.join_one]
  exact vv n hc h45
 | n::m::r=>by
  rw [Ei]
  intro h
  rcases List.mem_append.1 h with h|h
  ·exact vv n hc h45 h
  ·rcases List.mem_cons.1 h with h|h
   ·exact h32 h
   ·exact vC hc h45 h32 (m::r) h
theorem zy (l:List Int) (h:∀n∈l,Med n):(Go.Lib.join (l.map Go.Lib.itoa) [32]).length<=l.length*22:=by
 have:=FZ [32] 21 (l.map Go.Lib.itoa) (λx hx=>by
  obtain ⟨n,hn,rfl⟩:=List.mem_map.1 hx
  exact Dq (h n hn))
 simpa using this
end Go.Proofs.YtpmokglbipebcaaGreatDoor.Law

open Go Go.Eng
namespace Go.Proofs.YtpmokglbipebcaaGreatDoor.Law
set_option linter.unusedVariables false
set_option linter.unusedSimpArgs false
def jl (n lo hi:Int):Bool:=decide (n<lo)||decide (n>hi)
theorem qE (n lo hi:Int):bX n lo hi=some (jl n lo hi):=by
 unfold bX jl
 cases decide (n<lo) <;> cases decide (n>hi) <;> rfl
theorem DF (n lo hi:Int):lF n lo hi=some (!jl n lo hi):=by
 unfold lF jl
 have e1:decide (lo<=n) = !decide (n<lo):=by rw [Bool.eq_iff_iff];simp
 have e2:decide (n<=hi) = !decide (n>hi):=by rw [Bool.eq_iff_iff];simp
 rw [e1,e2]
 cases decide (n<lo) <;> cases decide (n>hi) <;> rfl
theorem wP {n lo hi:Int} (h:jl n lo hi=false):lo<=n/\n<=hi:=by
 simp only [jl,Bool.or_eq_false_iff,decide_eq_false_iff_not]at h;omega
def zL (r:Rect):Bool:=jl r.X (-100000) 100000||jl r.Y (-100000) 100000||jl r.W 1 (w64 (100000-r.X))||jl r.H 1 (w64 (100000-r.Y))
theorem Bc (r:Rect):iQ r=some (bif zL r then 1 else 0):=by
 unfold iQ zL
 simp only [qE,ob_]
 cases jl r.X (-100000) 100000 <;> cases jl r.Y (-100000) 100000 <;> cases jl r.W 1 (w64 (100000-r.X)) <;> cases jl r.H 1 (w64 (100000-r.Y)) <;> rfl
theorem Cf (r:Rect):kP r=some (bif zL r then 1 else 0):=by
 unfold kP zL
 simp only [DF,ob_,Bool.not_not]
 cases jl r.X (-100000) 100000 <;> cases jl r.Y (-100000) 100000 <;> cases jl r.W 1 (w64 (100000-r.X)) <;> cases jl r.H 1 (w64 (100000-r.Y)) <;> rfl
end Go.Proofs.YtpmokglbipebcaaGreatDoor.Law

open Go Go.Eng
namespace Go.Proofs.YtpmokglbipebcaaGreatDoor.Law
set_option linter.unusedVariables false
set_option linter.unusedSimpArgs false
def sD:Int->List Run->Prop
 | _,[]=>True
 | lo,r::rs=>lo<r.f_from/\r.f_from<r.f_to/\sD r.f_to rs
theorem sD.mono {L:List Run} {lo lo':Int} (h:sD lo L) (hl:lo'<=lo):sD lo' L:=by
 cases L with
 | nil=>trivial
 | cons r L=>exact⟨by have:=h.1;omega,h.2⟩
def sub (rt:Int):Int->List Run->List Run
 | rf,[]=>bif decide (rf<rt)then [⟨rf,rt⟩]else []
 | rf,q::M=>bif decide (q.f_from<rt)then (bif decide (q.f_from>rf)then [⟨rf,q.f_from⟩]else [])++sub rt (max rf q.f_to) M else bif decide (rf<rt)then [⟨rf,rt⟩]else []
end Go.Proofs.YtpmokglbipebcaaGreatDoor.Law

namespace Go.Eng
set_option linter.unusedVariables false
set_option linter.unusedSimpArgs false
def F5 {α:Type} (cmp:α->α->Option Int) (a_2:Int) (s_21:(List α)×Int):Option (Ctl ((List α)×Int) (Unit)) :=
 (bif (decide (s_21.2>a_2))then (inR s_21.2 s_21.1).bind λ_=>(s_21.1[(0+(s_21.2).toNat)]?).bind λe_30=>(inR (w64 (s_21.2-1)) s_21.1).bind λ_=>(s_21.1[(0+((w64 (s_21.2-1))).toNat)]?).bind λe_33=>(cmp e_30 e_33).bind λr_35=>some (decide (r_35<0))else some false).bind λv_26=>bif v_26 then (inR (w64 (s_21.2-1)) s_21.1).bind λ_=>(s_21.1[(0+((w64 (s_21.2-1))).toNat)]?).bind λe_39=>(inR s_21.2 s_21.1).bind λ_=>(s_21.1[(0+(s_21.2).toNat)]?).bind λe_42=>(inR s_21.2 s_21.1).bind λ_=>(s_21.1[(0+(s_21.2).toNat)]?).bind λe_45=>(inR (w64 (s_21.2-1)) (s_21.1.set (0+(s_21.2).toNat) e_39)).bind λ_=>((s_21.1.set (0+(s_21.2).toNat) e_39)[(0+((w64 (s_21.2-1))).toNat)]?).bind λe_48=>some (.go (((s_21.1.set (0+(s_21.2).toNat) e_39).set (0+((w64 (s_21.2-1))).toNat) e_42),(w64 (s_21.2-1))))else some (.brk (s_21.1,s_21.2))
noncomputable def DW {α:Type} (cmp:α->α->Option Int) (b_3:Int) (a_2:Int) (s_10:(List α)×Int):Option (Ctl ((List α)×Int) (Unit)) :=
 bif (decide (s_10.2<b_3))then (jJ (s_10.1,s_10.2) (λs=>F5 cmp a_2 s)).bind λo_24=>thenC o_24 (λs_21=>some (.go (s_21.1,(w64 (s_10.2+1))))) (λ_=>none)else some (.brk (s_10.1,s_10.2))
noncomputable def EM {α:Type} (cmp:α->α->Option Int) (data_1:(List α)) (a_2:Int) (b_3:Int):Option ((List α)) :=
 (jJ (data_1,(w64 (a_2+1))) (λs=>DW cmp b_3 a_2 s)).bind λo_13=>thenC o_13 (λs_10=>some s_10.1) (λ_=>none)
noncomputable def IZ {α:Type} (cmp:α->α->Option Int) (b_3:Int) (a_2:Int) (data_1:(List α)) (limit_4:Int) (s_11:Unit):Option (Ctl (Unit) ((List α))) :=
 bif (decide ((w64 (b_3-a_2))<=12))then (EM cmp data_1 a_2 b_3).bind λr_17=>(jI r_17 data_1).bind λ_=>some (.ret r_17)else bif (limit_4==0)then none else none
noncomputable def Br {α:Type} (cmp:α->α->Option Int) (data_1:(List α)) (a_2:Int) (b_3:Int) (limit_4:Int):Option ((List α)) :=
 (jJ () (λs=>IZ cmp b_3 a_2 data_1 limit_4 s)).bind λo_14=>thenC o_14 (λs_11=>some data_1) (λr=>some r)
theorem FK {α:Type} (u v:α) (C:List α):∀A:List α,((A++u::v::C).set (A.length+1) u).set A.length v=A++v::u::C
 | []=>rfl
 | a::A=>by simp only [List.cons_append,List.length_cons,List.set_cons_succ,FK u v C A]
theorem get_0 {α:Type} (u:α) (C A:List α):(A++u::C)[A.length]? = some u:=by simp
theorem get_1 {α:Type} (u v:α) (C A:List α):(A++u::v::C)[A.length+1]? = some v:=by
 rw [List.getElem?_append_right (by omega)];simp
theorem Im {α:Type} (u v w:α) (C:List α):∀A:List α,(A++u::v::C).set (A.length+1) w=A++u::w::C
 | []=>rfl
 | a::A=>by simp only [List.cons_append,List.length_cons,List.set_cons_succ,Im u v w C A]
theorem EY {α:Type} {xs:List α} {i:Nat} (h:i<xs.length):inR (i:Int) xs=some ():=by
 unfold inR;rw [if_pos ⟨by omega,by simpa using h⟩]
section
variable {α:Type} {cmp:α->α->Option Int} {le:α->α->Prop} {p:α->Prop}
theorem insL1_s (u v:α) (A C:List α) {c:Int} (hc:cmp v u=some c) (hl:A.length<=1000000000):F5 cmp 0 (A++u::v::C,((A.length+1:Nat):Int))=some (bif decide (c<0)then .go (A++v::u::C,(A.length:Int))else .brk (A++u::v::C,((A.length+1:Nat):Int))):=by
 have hw:w64 (((A.length+1:Nat):Int)-1)=(A.length:Int):=by rw [zH _ (by omega)];omega
 have h1:inR ((A.length+1:Nat):Int) (A++u::v::C)=some ():=EY (by simp)
 have h2:inR (A.length:Int) (A++u::v::C)=some ():=EY (by simp)
 have h3:inR (A.length:Int) (A++u::u::C)=some ():=EY (by simp)
 have hd:decide (((A.length+1:Nat):Int)>0)=true:=by simp <;> omega
 have e1:0+((A.length+1:Nat):Int).toNat=A.length+1:=by omega
 have e2:0+((A.length:Nat):Int).toNat=A.length:=by omega
 unfold F5
 simp only [hw,h1,h2,hd,e1,e2,get_0,get_1,ob_,hc,cond_true,Im,h3]
 cases decide (c<0)with
 | false=>rfl
 | true =>
  simp only [cond_true]
  have:=FK u v C A
  rw [Im]at this
  rw [this]
theorem Ah (hc:∀a b,p a->p b->∃c,cmp a b=some c/\(c<0->le a b)/\(¬c<0->le b a)) (tr:∀a b c,le a b->le b c->le a c) (v:α) (hv:p v) (R:List α):∀(n:Nat) (A B:List α),A.length=n->n<=1000000000->(∀a∈A,p a)->(A++B).Pairwise le->(∀b∈B,le v b) ->
  ∃A' B',iterN (λs=>F5 cmp 0 s) (n+1) (A++v::(B++R),(A.length:Int))=some (.go (A'++v::(B'++R),(A'.length:Int)))/\A'++B'=A++B/\(A'++v::B').Pairwise le
 | 0,A,B,hA,hn,hpa,hp,hb=>by
  have:A=[]:=List.eq_nil_of_length_eq_zero hA
  subst this
  exact⟨[],B,by simp only [List.nil_append,List.length_nil,iterN,Option.bind];rfl,rfl,by simpa using ⟨hb,hp⟩⟩
 | n+1,A,B,hA,hn,hpa,hp,hb=>by
  rcases List.eq_nil_or_concat A with h|⟨A0,u,h⟩
  ·rw [h]at hA;cases hA
  ·subst h
   simp only [List.concat_eq_append]at hA hp hpa ⊢
   have hA0:A0.length=n:=by simpa using hA
   have hl:(A0++[u]).length=A0.length+1:=by simp
   have e:A0++[u]++v::(B++R)=A0++u::v::(B++R):=by simp
   obtain ⟨c,h1,h2,h3⟩:=hc v u hv (hpa u (by simp))
   rw [hl,e,iterN,insL1_s u v A0 (B++R) h1 (by omega),ob_]
   by_cases hcn:c<0
   ·simp only [decide_eq_true hcn,cond_true]
    have hp':(A0++(u::B)).Pairwise le:=by simpa using hp
    obtain ⟨A',B',k1,k2,k3⟩:=Ah hc tr v hv R n A0 (u::B) hA0 (by omega) (λa ha=>hpa a (by simp [ha])) hp' (λb hb'=>by
     rcases List.mem_cons.1 hb' with rfl|hb'
     ·exact h2 hcn
     ·exact hb b hb')
    refine⟨A',B',?_,by rw [k2];simp,k3⟩
    rw [<- k1];simp
   ·simp only [decide_eq_false hcn,cond_false]
    refine⟨A0++[u],B,by simp,rfl,?_⟩
    have huv:=h3 hcn
    rw [List.pairwise_append]at hp ⊢
    obtain ⟨p1,p2,p3⟩:=hp
    refine⟨p1,List.pairwise_cons.2 ⟨hb,p2⟩,λa ha b hb' => ?_⟩
    rcases List.mem_cons.1 hb' with rfl|hb'
    ·rcases List.mem_append.1 ha with ha|ha
     ·rw [List.pairwise_append]at p1
      exact tr _ _ _ (p1.2.2 a ha u (by simp)) huv
     ·rw [List.mem_singleton]at ha;subst ha;exact huv
    ·exact p3 a ha b hb'
theorem AU (hc:∀a b,p a->p b->∃c,cmp a b=some c/\(c<0->le a b)/\(¬c<0->le b a)) (tr:∀a b c,le a b->le b c->le a c):∀(Q P:List α),P.length+Q.length<=1000000000->(∀x∈P++Q,p x)->P.Pairwise le ->
  ∃s,iterN (λs=>DW cmp ((P.length+Q.length:Nat):Int) 0 s) (Q.length+1) (P++Q,(P.length:Int))=some (.go (s,((P.length+Q.length:Nat):Int)))/\s.Perm (P++Q)/\s.Pairwise le
 | [],P,hl,hpx,hp=>by
  refine⟨P,?_,by simp,hp⟩
  have hd:decide ((P.length:Int)<((P.length+([]:List α).length:Nat):Int))=false:=by simp
  simp only [iterN,DW,hd,cond_false,ob_,List.append_nil]
  simp
 | v::Q,P,hl,hpx,hp=>by
  simp only [List.length_cons]at hl
  have hd:decide ((P.length:Int)<((P.length+(v::Q).length:Nat):Int))=true:=by simp only [decide_eq_true_eq,List.length_cons];omega
  obtain ⟨A',B',k1,k2,k3⟩:=Ah hc tr v (hpx v (by simp)) Q P.length P [] rfl (by omega) (λa ha=>hpx a (by simp [ha])) (by simpa using hp) (λb hb=>by cases hb)
  rw [List.nil_append]at k1
  have hlo:=ma k1
  rw [List.length_cons,iterN]
  have hw:w64 ((P.length:Int)+1)=((A'++v::B').length:Int):=by
   have:=congrArg List.length k2
   simp only [List.length_append,List.length_nil]at this
   rw [zH _ (by omega)];simp only [List.length_append,List.length_cons];omega
  have h1:DW cmp ((P.length+(Q.length+1):Nat):Int) 0 (P++v::Q,(P.length:Int))=some (.go (A'++v::(B'++Q),((A'++v::B').length:Int))):=by
   have hd':decide ((P.length:Int)<((P.length+(Q.length+1):Nat):Int))=true:=hd
   unfold DW
   simp only [hd',cond_true,hlo,ob_,thenC,hw]
  have hlen:(A'++v::B').length=P.length+1:=by
   have:=congrArg List.length k2
   simp only [List.length_append,List.length_nil,List.length_cons]at this ⊢
   omega
  have hk:(A'++B').Perm P:=by rw [k2];simp
  have hperm:(A'++v::B').Perm (P++[v]):=(List.perm_middle).trans ((List.Perm.cons v hk).trans (List.perm_append_comm (l₁:=[v]) (l₂:=P)))
  obtain ⟨s,m1,m2,m3⟩:=AU hc tr Q (A'++v::B') (by omega) (λx hx=>by
   rcases List.mem_append.1 hx with hx|hx
   ·have:=hperm.mem_iff.1 hx
    exact hpx x (by rcases List.mem_append.1 this with h | h <;> simp_all)
   ·exact hpx x (by simp [hx])) k3
  rw [h1,ob_]
  have e:A'++v::(B'++Q)=(A'++v::B')++Q:=by simp
  have e2:P.length+(Q.length+1)=(A'++v::B').length+Q.length:=by omega
  simp only
  rw [e,e2]
  refine⟨s,m1,m2.trans ?_,m3⟩
  have:=List.Perm.append_right Q hperm
  simpa using this
theorem IU (hc:∀a b,p a->p b->∃c,cmp a b=some c/\(c<0->le a b)/\(¬c<0->le b a)) (tr:∀a b c,le a b->le b c->le a c) (l:List α) (hl:l.length<=12) (hpl:∀x∈l,p x) (lim:Int):∃s,Br cmp l 0 (l.length:Int) lim=some s/\s.Perm l/\s.Pairwise le:=by
 have key:∃s,EM cmp l 0 (l.length:Int)=some s/\s.Perm l/\s.Pairwise le:=by
  unfold EM
  have hw:w64 (0+1)=1:=rfl
  rw [hw]
  cases l with
  | nil=>exact⟨[],by rw [ma (n:=1) (o := .go ([],1)) rfl];rfl,.nil,.nil⟩
  | cons v Q =>
   obtain ⟨s,m1,m2,m3⟩:=AU hc tr Q [v] (by simp only [List.length_cons,List.length_nil]at hl ⊢;omega) (λx hx=>hpl x (by simpa using hx)) (List.pairwise_singleton _ _)
   have e:([v].length+Q.length:Nat)=(v::Q).length:=by simp only [List.length_cons,List.length_nil];omega
   rw [e]at m1
   have:=ma m1
   refine⟨s,?_,m2,m3⟩
   show (jJ (v::Q,1) _).bind _=_
   have e2:(([v]++Q,(([v]:List α).length:Int)):List α×Int)=(v::Q,1):=rfl
   rw [e2]at this
   rw [this];rfl
 obtain ⟨s,h1,h2,h3⟩:=key
 refine⟨s,?_,h2,h3⟩
 have hsm:jI s l=some ():=by unfold jI;rw [if_pos h2.length_eq]
 have hd:decide (w64 ((l.length:Int)-0)<=12)=true:=by
  have:(l.length:Int)-0=l.length:=by omega
  rw [this,zH _ (by omega)];simp;omega
 have:jJ () (λs=>IZ cmp (l.length:Int) 0 l lim s)=some (.ret s):=by
  refine ma (n:=1) ?_
  simp only [iterN,IZ,hd,cond_true,h1,hsm,ob_]
 unfold Br
 rw [this];rfl
end
end Go.Eng

open Go Go.Eng
namespace Go.Proofs.YtpmokglbipebcaaGreatDoor.Law
set_option linter.unusedVariables false
set_option linter.unusedSimpArgs false
theorem jb {α:Type} (xs ys:List α) (h:xs.length+ys.length<=1000000000):mZ xs ys=some (xs++ys):=by unfold mZ;rw [if_pos h]
def Fine (r:Rect):Prop:=(-100000<=r.X/\r.X<=100000)/\(-100000<=r.Y/\r.Y<=100000)/\(1<=r.W/\r.X+r.W<=100000)/\1<=r.H/\r.Y+r.H<=100000
theorem Io:∀n:Nat,n<=12->∃k,fM (IntKind.u64.wrap (n:Int))=some k:=by
 have h:(List.range 13).all (λn=>(fM (IntKind.u64.wrap (n:Int))).isSome)=true:=by kernel_rfl
 intro n hn
 have:=List.all_eq_true.1 h n (by simp;omega)
 exact Option.isSome_iff_exists.1 this
end Go.Proofs.YtpmokglbipebcaaGreatDoor.Law

open Go Go.Eng
namespace Go.Proofs.YtpmokglbipebcaaGreatDoor.Law
set_option linter.unusedVariables false
set_option linter.unusedSimpArgs false
end Go.Proofs.YtpmokglbipebcaaGreatDoor.Law

open Go Go.Eng
namespace Go.Proofs.YtpmokglbipebcaaGreatDoor.Law
set_option linter.unusedVariables false
set_option linter.unusedSimpArgs false
end Go.Proofs.YtpmokglbipebcaaGreatDoor.Law

