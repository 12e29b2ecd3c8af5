/-
  THE PLAIN LAW (part 1).
-/
import Derived.Test.YtpmokglbipebcaaGreatDoorEng5
import Derived.Test.YtpmokglbipebcaaGreatDoorDefs
import Derived.Lib.ItoaLen
namespace Go.Eng
set_option linter.unusedVariables false
set_option linter.unusedSimpArgs false
theorem fZ {α σ ρ:Type} {body:Nat->α->σ->Option (Ctl σ ρ)} {xs:List α} {s:σ} (hl:xs.length<=1000000000000):forL xs s body=forR body xs 0 s:=by unfold forL;rw [if_pos hl]
theorem DZ {α σ ρ:Type} {body:Nat->α->σ->Option (Ctl σ ρ)} (I:Nat->σ->Prop) (N:Nat):∀(xs:List α) (k:Nat) (s:σ),k+xs.length=N->(∀k x s,x∈xs->k<N->I k s->∃s',body k x s=some (.go s')/\I (k+1) s')->I k s->∃s',forR body xs k s=some (.go s')/\I N s'
 | [],k,s,hN,h,hi=>⟨s,rfl,by simp only [List.length_nil,Nat.add_zero]at hN;rw [<- hN];exact hi⟩
 | x::xs,k,s,hN,h,hi=>by
  simp only [List.length_cons]at hN
  obtain ⟨s1,h1,h2⟩:=h k x s (by simp) (by omega) hi
  obtain ⟨s2,h3,h4⟩:=DZ I N xs (k+1) s1 (by omega) (λk x s hx=>h k x s (by simp [hx])) h2
  exact⟨s2,by simp only [forR,h1,ob_];exact h3,h4⟩
theorem DF {α σ ρ:Type} {body:Nat->α->σ->Option (Ctl σ ρ)} (I:Nat->σ->Prop) {xs:List α} {s:σ} (hl:xs.length<=1000000000000) (h:∀k x s,x∈xs->k<xs.length->I k s->∃s',body k x s=some (.go s')/\I (k+1) s') (h0:I 0 s):∃s',forL xs s body=some (.go s')/\I xs.length s':=by
 obtain ⟨s',h1,h2⟩:=DZ I xs.length xs 0 s (by omega) h h0
 exact⟨s',by rw [fZ hl];exact h1,h2⟩
theorem lS {σ ρ τ:Type} (s:σ) (f:σ->Option τ) (g:ρ->Option τ):thenC (.go s) f g=f s:=rfl
theorem Hm {σ ρ τ:Type} (r:ρ) (f:σ->Option τ) (g:ρ->Option τ):thenC (.ret r) f g=g r:=rfl
theorem xW {α:Type} (xs:List α) (k:Nat):idx xs (k:Int)=xs[k]? := by simp [idx]
theorem fF {n:Int} (h : -9223372036854775808<=n/\n<=9223372036854775807):w64 n=n:=zo n h
theorem toL (s:ByteArray):s.toList=s.data.toList:=Go.Lib.toList_data s
theorem uQ {a b:ByteArray} (h:a.toList=b.toList):a=b:=by
 rw [toL,toL]at h
 obtain ⟨⟨a⟩⟩:=a
 obtain ⟨⟨b⟩⟩:=b
 simp only at h
 rw [h]
theorem FN (a b:ByteArray):sEq a b=true↔a=b:=by
 simp only [sEq,beq_iff_eq]
 exact⟨uQ,λh=>by rw [h]⟩
theorem xU (a b:ByteArray):sEq a b=decide (a=b):=by
 rw [Bool.eq_iff_iff,FN];simp
theorem sj (a b:ByteArray):sNe a b = !decide (a=b):=by
 have:=xU a b;simp only [sEq,sNe]at *;rw [this]
abbrev bl:=Op.bytesLess
theorem bl_lt:∀(x y:List UInt8),bl x y=decide (x<y)
 | _,[]=>by simp [bl,Op.bytesLess]
 | [],_::_=>by simp [bl,Op.bytesLess]
 | a::x,b::y=>by
  have:=bl_lt x y
  simp only [bl,Op.bytesLess]at this ⊢
  rw [this,Bool.eq_iff_iff]
  simp only [Bool.or_eq_true,decide_eq_true_eq,Bool.and_eq_true,beq_iff_eq,List.cons_lt_cons_iff]
def lt (a b:ByteArray):Prop:=a.toList<b.toList
theorem Cb (a b:ByteArray):sLt a b=true↔lt a b:=by
 show bl a.toList b.toList=true↔_
 rw [bl_lt];simp [lt]
theorem zy (a:ByteArray):¬lt a a:=List.lt_irrefl a.toList
theorem lt_trans {a b c:ByteArray} (h:lt a b) (k:lt b c):lt a c:=List.lt_trans h k
theorem EZ (a b:ByteArray):lt a b\/a=b\/lt b a:=by
 rcases Classical.em (lt a b)with h|h
 ·exact .inl h
 ·rcases Classical.em (lt b a)with h2|h2
  ·exact .inr (.inr h2)
  ·exact .inr (.inl (uQ (List.le_antisymm (List.not_lt.1 h2) (List.not_lt.1 h))))
theorem sNe_nil (a:ByteArray):sNe a ⟨#[]⟩=decide (a.size≠0):=by
 rw [sj,Go.Lib.size_eq,Bool.eq_iff_iff]
 simp only [Bool.not_eq_true',decide_eq_false_iff_not,decide_eq_true_eq,ne_eq]
 refine not_congr ⟨λh=>by rw [h];rfl,λh => ?_⟩
 exact uQ (by rw [toL,List.eq_nil_of_length_eq_zero h,toL])
end Go.Eng

open Go Go.Eng
namespace Go.Proofs.YtpmokglbipebcaaGreatDoor.Law
set_option linter.unusedVariables false
set_option linter.unusedSimpArgs false
def Ok (s:Stream) (b:Int):Prop:=0<=s.f_at/\s.f_at<=b
theorem Ok.mono {s:Stream} {b c:Int} (h:Ok s b) (hc:b<=c):Ok s c:=⟨h.1,Int.le_trans h.2 hc⟩
theorem zu (x n:Int) (h:1<=n) (hn:n<=4611686018427387904):∃r,oz x n=some r/\0<=r/\r<n:=by
 have h1:x.tmod n<n:=Int.tmod_lt_of_pos x (by omega)
 have h2 : -n<x.tmod n:=Int.lt_tmod_of_pos x (by omega)
 have hb:decide (n<1)=false:=by simp;omega
 have hn0:n≠0:=by omega
 simp only [oz,hb,cond_false,Gu,if_neg hn0,ob_]
 cases hd:decide (x.tmod n<0)with
 | true =>
  simp only [decide_eq_true_eq]at hd
  exact⟨_,rfl,by rw [fF (by omega)];omega,by rw [fF (by omega)];omega⟩
 | false =>
  simp only [decide_eq_false_iff_not]at hd
  exact⟨_,rfl,by omega,h1⟩
theorem nO (s:Stream) (n:Int) {b:Int} (hs:Ok s b) (hb:b<=1000000) (h:1<=n) (hn:n<=4611686018427387904):∃r s',bQ s n=some (r,s')/\0<=r/\r<n/\Ok s' (b+1):=by
 obtain ⟨h0,h1⟩:=hs
 have e1:w64 (s.f_at+1)=s.f_at+1:=fF (by omega)
 have e2:w64 (s.f_at+1-1)=s.f_at:=by rw [fF (by omega)];omega
 simp only [bQ,e1,e2]
 by_cases hl:s.L.length=0
 ·have:((s.L.length:Int)==0)=true:=by simp [hl]
  simp only [this,cond_true]
  obtain ⟨r,hr,h2,h3⟩:=zu (w64 ((s.f_at+1)*7919)) n h hn
  exact⟨r,_,by rw [hr];rfl,h2,h3,⟨by show 0<=s.f_at+1;omega,by show s.f_at+1<=b+1;omega⟩⟩
 ·have hne:(s.L.length:Int)≠0:=by omega
  have:((s.L.length:Int)==0)=false:=by simpa using hl
  simp only [this,cond_false,Gu,quoO,if_neg hne,ob_]
  have h2:0<=s.f_at.tmod s.L.length:=Int.tmod_nonneg _ h0
  have hp:(0:Int)<(s.L.length:Int):=by have:=Nat.pos_of_ne_zero hl;omega
  have h3:s.f_at.tmod s.L.length<s.L.length:=Int.tmod_lt_of_pos _ hp
  have hi:idx s.L (s.f_at.tmod s.L.length)=some s.L[(s.f_at.tmod s.L.length).toNat]:=by
   simp only [idx,if_pos h2]
   exact List.getElem?_eq_getElem (by omega)
  obtain ⟨r1,hr1,_,_⟩:=zu s.L[(s.f_at.tmod s.L.length).toNat] 1073741824 (by decide) (by decide)
  simp only [hi,hr1,ob_]
  generalize w64 (r1+_)=y
  obtain ⟨r,hr,h4,h5⟩:=zu y n h hn
  exact⟨r,_,by rw [hr];rfl,h4,h5,⟨by show 0<=s.f_at+1;omega,by show s.f_at+1<=b+1;omega⟩⟩
theorem o6 (s:Stream) (n:Int) {b:Int} (hs:Ok s b) (hb:b<=1000000) (h:1<=n) (hn:n<=1000):∃r s',cz s n=some (r,s')/\Ok s' (b+1):=by
 obtain ⟨r,s',h1,_,_,h2⟩:=nO s n hs hb h (by omega)
 exact⟨r==0,s',by simp only [cz,h1,ob_],h2⟩
theorem BC {α:Type} {l:List α} {r:Int} (h0:0<=r) (h1:r<l.length):∃y,idx l r=some y/\y∈l:=by
 refine⟨l[r.toNat]'(by omega),?_,List.getElem_mem _⟩
 simp only [idx,if_pos h0]
 exact List.getElem?_eq_getElem (by omega)
theorem qK (s:Stream) (l:List Int) {b:Int} (hs:Ok s b) (hb:b<=1000000) (h:1<=l.length) (hn:l.length<=1000):∃r s',eH s l=some (r,s')/\r∈l/\Ok s' (b+1):=by
 obtain ⟨r,s',h1,h2,h3,h4⟩:=nO s l.length hs hb (by omega) (by omega)
 obtain ⟨y,hy,hm⟩:=BC h2 h3
 exact⟨y,s',by simp only [eH,h1,hy,ob_],hm,h4⟩
theorem sI (s:Stream) (l:List ByteArray) {b:Int} (hs:Ok s b) (hb:b<=1000000) (h:1<=l.length) (hn:l.length<=1000):∃r s',dR s l=some (r,s')/\r∈l/\Ok s' (b+1):=by
 obtain ⟨r,s',h1,h2,h3,h4⟩:=nO s l.length hs hb (by omega) (by omega)
 obtain ⟨y,hy,hm⟩:=BC h2 h3
 exact⟨y,s',by simp only [dR,h1,hy,ob_],hm,h4⟩
theorem gW (s:Stream) (lo hi:Int) {b:Int} (hs:Ok s b) (hb:b<=1000000) (h:lo<=hi) (h1 : -1000000000000<=lo) (h2:hi<=1000000000000):∃r s',bg s lo hi=some (r,s')/\lo<=r/\r<=hi/\Ok s' (b+1):=by
 have hd:decide (hi<lo)=false:=by simp;omega
 have e1:w64 (hi-lo)=hi-lo:=fF (by omega)
 have e2:w64 (hi-lo+1)=hi-lo+1:=fF (by omega)
 obtain ⟨r,s',k1,k2,k3,k4⟩:=nO s (hi-lo+1) hs hb (by omega) (by omega)
 simp only [bg,hd,cond_false,e1,e2,k1,ob_]
 exact⟨_,s',rfl,by rw [fF (by omega)];omega,by rw [fF (by omega)];omega,k4⟩
theorem Fq (s:Stream) (lo hi:Int) {b:Int} (hs:Ok s b) (hb:b<=900000) (h:lo<=hi) (h1 : -1000000000000<=lo) (h2:hi<=1000000000000):∃r s',dD s lo hi=some (r,s')/\Ok s' (b+2):=by
 obtain ⟨c,s1,k1,k2⟩:=o6 s 12 hs (by omega) (by decide) (by decide)
 simp only [dD,k1,ob_]
 cases c with
 | true =>
  obtain ⟨r,s2,m1,_,m2⟩:=qK s1 [(w64 (lo-1)),(w64 (hi+1)),lo,hi,(-1099511627776),1099511627776] k2 (by omega) (by simp) (by simp)
  simp only [cond_true,m1,ob_]
  exact⟨_,_,rfl,m2.mono (by omega)⟩
 | false =>
  obtain ⟨r,s2,m1,_,_,m2⟩:=gW s1 lo hi k2 (by omega) h h1 h2
  simp only [cond_false,m1,ob_]
  exact⟨_,_,rfl,m2.mono (by omega)⟩
end Go.Proofs.YtpmokglbipebcaaGreatDoor.Law

open Go Go.Eng
namespace Go.Proofs.YtpmokglbipebcaaGreatDoor.Law
set_option linter.unusedVariables false
set_option linter.unusedSimpArgs false
def zK (b:UInt8):Bool:=decide (97<=b.toNat)&&decide (b.toNat<=122)
def CP (b:UInt8):Bool:=(decide (48<=b.toNat)&&decide (b.toNat<=57))||(b.toNat==45)||(b.toNat==95)
def okB (i:Nat) (b:UInt8):Bool:=zK b||(decide (0<i)&&CP b)
def fw (s:ByteArray) (i:Nat):UInt8:=s.data.toList.getD i 0
def keyB (s:ByteArray):Bool:=decide (s.size≠0)&&(decide (s.size<=40)&&(List.range s.size).all λi=>okB i (fw s i))
theorem Eg (s:ByteArray) (k:Nat) (h:k<s.size):rO s (k:Int)=some (fw s k):=by
 have h1:s[k]? = some s[k]:=by simp [h]
 have h2:fw s k=s[k]:=by
  have hl:k<s.data.toList.length:=by rw [<- Go.Lib.size_eq];exact h
  simp only [fw,List.getD_eq_getElem?_getD,List.getElem?_eq_getElem hl,Option.getD_some]
  simp
  rfl
 simp only [rO,if_pos (Int.natCast_nonneg k),Int.toNat_natCast,h1,h2]
theorem Dj (s:ByteArray) (k:Nat) (hs:s.size<=1000000000):iE s (k:Int)=some (if k<s.size then (bif okB k (fw s k)then .go ((k+1:Nat):Int)else .ret false)else .brk (k:Int)):=by
 unfold iE
 by_cases h:k<s.size
 ·have hd:decide ((k:Int)<(s.size:Int))=true:=by simp;omega
  have hw:w64 ((k:Int)+1)=((k+1:Nat):Int):=by rw [fF (by omega)];omega
  simp only [hd,cond_true,Eg s k h,ob_,if_pos h,hw]
  generalize fw s k=b
  simp only [okB,zK,CP]
  have e1:decide ((b.toNat:Int)>=97)=decide (97<=b.toNat):=decide_eq_decide.2 (by omega)
  have e2:decide ((b.toNat:Int)<=122)=decide (b.toNat<=122):=decide_eq_decide.2 (by omega)
  have e3:decide ((k:Int)>0)=decide (0<k):=decide_eq_decide.2 (by omega)
  have e4:decide ((b.toNat:Int)>=48)=decide (48<=b.toNat):=decide_eq_decide.2 (by omega)
  have e5:decide ((b.toNat:Int)<=57)=decide (b.toNat<=57):=decide_eq_decide.2 (by omega)
  have e6:((b.toNat:Int)==45)=(b.toNat==45):=by rw [Bool.eq_iff_iff];simp;omega
  have e7:((b.toNat:Int)==95)=(b.toNat==95):=by rw [Bool.eq_iff_iff];simp;omega
  rw [e1,e2,e3,e4,e5,e6,e7]
  cases decide (97<=b.toNat) <;> cases decide (b.toNat<=122) <;> cases decide (0<k) <;> cases decide (48<=b.toNat) <;> cases decide (b.toNat<=57) <;> cases (b.toNat==45) <;> cases (b.toNat==95) <;> rfl
 ·have hd:decide ((k:Int)<(s.size:Int))=false:=by simp;omega
  simp only [hd,cond_false,if_neg h]
theorem yT (s:ByteArray) (hs:s.size<=1000000000):∀(n k:Nat),k+n=s.size->iterN (λi=>iE s i) (n+1) (k:Int)=some (bif (List.range' k n).all (λj=>okB j (fw s j))then .go (s.size:Int)else .ret false)
 | 0,k,h=>by
  have hk:¬k<s.size:=by omega
  simp only [iterN,Dj s k hs,if_neg hk,ob_,List.range'_zero,List.all_nil,cond_true]
  rw [show (k:Int)=s.size by omega]
 | n+1,k,h=>by
  have hk:k<s.size:=by omega
  rw [iterN,Dj s k hs,if_pos hk,ob_,List.range'_succ,List.all_cons]
  cases okB k (fw s k)with
  | true=>simp only [cond_true,Bool.true_and];exact yT s hs n (k+1) (by omega)
  | false=>rfl
theorem yz (s:ByteArray) (hs:s.size<=1000000000):kit_IsKey s=some (keyB s):=by
 have h:=mr (yT s hs s.size 0 (by omega))
 unfold kit_IsKey
 have h':jF (0:Int) (λs_1=>iE s s_1)=_:=h
 rw [h',ob_,<- List.range_eq_range']
 have e:decide ((s.size:Int)<=40)=decide (s.size<=40):=decide_eq_decide.2 (by omega)
 simp only [keyB]
 cases (List.range s.size).all (λi=>okB i (fw s i))with
 | true =>
  rw [cond_true,lS,sNe_nil,e,Bool.and_true]
  cases decide (s.size≠0) <;> rfl
 | false=>simp only [cond_false,Hm,Bool.and_false]
def ql (t:ByteArray) (b:UInt8):Bool := !decide (ixB t (b.toNat:Int)<0)
theorem only_L1 (s t:ByteArray) (k x:Nat) (h:k<s.size):ll s t k x ()=some (bif ql t (fw s k)then .go ()else .ret false):=by
 simp only [ll,Eg s k h,strings_IndexByte,dZ,ob_,ql]
 cases decide (ixB t ((fw s k).toNat:Int)<0) <;> rfl
theorem Di (s t:ByteArray):∀(xs:List Nat) (k:Nat),k+xs.length=s.size->forR (λk x u=>ll s t k x u) xs k ()=some (bif (List.range' k xs.length).all (λj=>ql t (fw s j))then .go ()else .ret false)
 | [],k,h=>rfl
 | x::xs,k,h=>by
  simp only [List.length_cons]at h ⊢
  have hk:k<s.size:=by omega
  rw [forR,only_L1 s t k x hk,ob_,List.range'_succ,List.all_cons]
  cases ql t (fw s k)with
  | true=>simp only [cond_true,Bool.true_and];exact Di s t xs (k+1) (by omega)
  | false=>rfl
theorem FR (s t:ByteArray) (hs:s.size<=1000000000):p9 s t=some ((List.range s.size).all λi=>ql t (fw s i)):=by
 unfold p9
 rw [Int.toNat_natCast,fZ (by simp;omega),Di s t _ 0 (by simp),ob_,List.length_range,<- List.range_eq_range']
 cases (List.range s.size).all (λi=>ql t (fw s i)) <;> rfl
def Au:ByteArray:=⟨#[97,98,99,100,101,102,103,104,105,106,107,108,109,110,111,112,113,114,115,116,117,118,119,120,121,122]⟩
def zl:ByteArray:=⟨#[97,98,99,100,101,102,103,104,105,106,107,108,109,110,111,112,113,114,115,116,117,118,119,120,121,122,48,49,50,51,52,53,54,55,56,57,45,95]⟩
theorem AC:∀n:Fin 256,ql Au (UInt8.ofNat n.val)=zK (UInt8.ofNat n.val)/\ql zl (UInt8.ofNat n.val)=(zK (UInt8.ofNat n.val)||CP (UInt8.ofNat n.val)):=by decide +kernel
theorem Dy (b:UInt8):ql Au b=zK b:=by
 have:=(AC ⟨b.toNat,b.toNat_lt⟩).1
 simpa using this
theorem Dl (b:UInt8):ql zl b=(zK b||CP b):=by
 have:=(AC ⟨b.toNat,b.toNat_lt⟩).2
 simpa using this
theorem vX (s:ByteArray) (hs:s.size<=1000000000):qy s=some (keyB s):=by
 unfold qy lN
 have e1:decide ((1:Int)<=(s.size:Int))=decide (s.size≠0):=decide_eq_decide.2 (by omega)
 have e2:decide ((s.size:Int)<=40)=decide (s.size<=40):=decide_eq_decide.2 (by omega)
 rw [e1,e2]
 by_cases h1:s.size≠0
 ·by_cases h2:s.size<=40
  ·have hsub:zF s 0 1=some (s.extract 0 1):=by
    unfold zF;rw [if_pos ⟨by omega,by omega,by decide,by show 1<=s.size;omega⟩];rfl
   have hsz:(s.extract 0 1).size=1:=by simp [ByteArray.size_extract];omega
   have hb:fw (s.extract 0 1) 0=fw s 0:=by
    obtain ⟨⟨l⟩⟩:=s
    simp only [fw]
    cases l with
    | nil=>exact absurd rfl h1
    | cons b l=>simp [ByteArray.extract,ByteArray.copySlice]
   simp only [decide_eq_true h1,decide_eq_true h2,cond_true,ob_,hsub]
   have o1:=FR (s.extract 0 1) Au (by omega)
   have o2:=FR s zl hs
   unfold Au at o1
   unfold zl at o2
   rw [o1,ob_,o2]
   have e3:(List.range (s.extract 0 1).size).all (λi=>ql Au (fw (s.extract 0 1) i))=zK (fw s 0):=by
    rw [hsz]
    simp only [List.range_succ,List.range_zero,List.nil_append,List.all_cons,List.all_nil,Bool.and_true]
    rw [hb,Dy]
   have e3':=e3
   unfold Au at e3'
   rw [e3']
   have e4:∀i,ql zl (fw s i)=(zK (fw s i)||CP (fw s i)):=λi=>Dl _
   have e5:keyB s=(zK (fw s 0)&&(List.range s.size).all (λi=>ql zl (fw s i))):=by
    simp only [keyB,decide_eq_true h1,decide_eq_true h2,Bool.true_and,e4]
    rw [Bool.eq_iff_iff]
    simp only [List.all_eq_true,List.mem_range,Bool.and_eq_true,okB,Bool.or_eq_true,decide_eq_true_eq]
    constructor
    ·intro h
     refine⟨?_,λi hi=>(h i hi).imp id (λh=>h.2)⟩
     rcases h 0 (by omega)with h|h
     ·exact h
     ·exact absurd h.1 (by omega)
    ·rintro ⟨h3,h4⟩ i hi
     by_cases e:i=0
     ·rw [e];exact .inl h3
     ·exact (h4 i hi).imp id (λh=>⟨by omega,h⟩)
   unfold zl at e5
   rw [e5]
   cases zK (fw s 0) <;> rfl
  ·simp only [decide_eq_true h1,decide_eq_false h2,cond_true,cond_false,ob_,keyB,Bool.false_and,Bool.and_false]
 ·simp only [decide_eq_false h1,cond_false,ob_,keyB,Bool.false_and]
end Go.Proofs.YtpmokglbipebcaaGreatDoor.Law

open Go Go.Eng
namespace Go.Proofs.YtpmokglbipebcaaGreatDoor.Law
set_option linter.unusedVariables false
set_option linter.unusedSimpArgs false
def sK:Int->List Run->Prop
 | _,[]=>True
 | lo,r::rs=>lo<r.f_from/\r.f_from<r.f_to/\sK r.f_to rs
theorem sK.mono {L:List Run} {lo lo':Int} (h:sK lo L) (hl:lo'<=lo):sK lo' L:=by
 cases L with
 | nil=>trivial
 | cons r L=>exact⟨by have:=h.1;omega,h.2⟩
def sub (rt:Int):Int->List Run->List Run
 | rf,[]=>bif decide (rf<rt)then [⟨rf,rt⟩]else []
 | rf,q::M=>bif decide (q.f_from<rt)then (bif decide (q.f_from>rf)then [⟨rf,q.f_from⟩]else [])++sub rt (max rf q.f_to) M else bif decide (rf<rt)then [⟨rf,rt⟩]else []
end Go.Proofs.YtpmokglbipebcaaGreatDoor.Law

namespace Go.Eng
set_option linter.unusedVariables false
set_option linter.unusedSimpArgs false
def FZ {α:Type} (cmp:α->α->Option Int) (a_2:Int) (s_21:(List α)×Int):Option (Ctl ((List α)×Int) (Unit)) :=
 (bif (decide (s_21.2>a_2))then (inR s_21.2 s_21.1).bind λ_=>(s_21.1[(0+(s_21.2).toNat)]?).bind λe_30=>(inR (w64 (s_21.2-1)) s_21.1).bind λ_=>(s_21.1[(0+((w64 (s_21.2-1))).toNat)]?).bind λe_33=>(cmp e_30 e_33).bind λr_35=>some (decide (r_35<0))else some false).bind λv_26=>bif v_26 then (inR (w64 (s_21.2-1)) s_21.1).bind λ_=>(s_21.1[(0+((w64 (s_21.2-1))).toNat)]?).bind λe_39=>(inR s_21.2 s_21.1).bind λ_=>(s_21.1[(0+(s_21.2).toNat)]?).bind λe_42=>(inR s_21.2 s_21.1).bind λ_=>(s_21.1[(0+(s_21.2).toNat)]?).bind λe_45=>(inR (w64 (s_21.2-1)) (s_21.1.set (0+(s_21.2).toNat) e_39)).bind λ_=>((s_21.1.set (0+(s_21.2).toNat) e_39)[(0+((w64 (s_21.2-1))).toNat)]?).bind λe_48=>some (.go (((s_21.1.set (0+(s_21.2).toNat) e_39).set (0+((w64 (s_21.2-1))).toNat) e_42),(w64 (s_21.2-1))))else some (.brk (s_21.1,s_21.2))
noncomputable def Ec {α:Type} (cmp:α->α->Option Int) (b_3:Int) (a_2:Int) (s_10:(List α)×Int):Option (Ctl ((List α)×Int) (Unit)) :=
 bif (decide (s_10.2<b_3))then (jF (s_10.1,s_10.2) (λs=>FZ cmp a_2 s)).bind λo_24=>thenC o_24 (λs_21=>some (.go (s_21.1,(w64 (s_10.2+1))))) (λ_=>none)else some (.brk (s_10.1,s_10.2))
noncomputable def Er {α:Type} (cmp:α->α->Option Int) (data_1:(List α)) (a_2:Int) (b_3:Int):Option ((List α)) :=
 (jF (data_1,(w64 (a_2+1))) (λs=>Ec cmp b_3 a_2 s)).bind λo_13=>thenC o_13 (λs_10=>some s_10.1) (λ_=>none)
noncomputable def Ie {α:Type} (cmp:α->α->Option Int) (b_3:Int) (a_2:Int) (data_1:(List α)) (limit_4:Int) (s_11:Unit):Option (Ctl (Unit) ((List α))) :=
 bif (decide ((w64 (b_3-a_2))<=12))then (Er cmp data_1 a_2 b_3).bind λr_17=>(jH r_17 data_1).bind λ_=>some (.ret r_17)else bif (limit_4==0)then none else none
noncomputable def Ci {α:Type} (cmp:α->α->Option Int) (data_1:(List α)) (a_2:Int) (b_3:Int) (limit_4:Int):Option ((List α)) :=
 (jF () (λs=>Ie cmp b_3 a_2 data_1 limit_4 s)).bind λo_14=>thenC o_14 (λs_11=>some data_1) (λr=>some r)
theorem Ga {α:Type} (u v:α) (C:List α):∀A:List α,((A++u::v::C).set (A.length+1) u).set A.length v=A++v::u::C
 | []=>rfl
 | a::A=>by simp only [List.cons_append,List.length_cons,List.set_cons_succ,Ga u v C A]
theorem get_0 {α:Type} (u:α) (C A:List α):(A++u::C)[A.length]? = some u:=by simp
theorem get_1 {α:Type} (u v:α) (C A:List α):(A++u::v::C)[A.length+1]? = some v:=by
 rw [List.getElem?_append_right (by omega)];simp
theorem IJ {α:Type} (u v w:α) (C:List α):∀A:List α,(A++u::v::C).set (A.length+1) w=A++u::w::C
 | []=>rfl
 | a::A=>by simp only [List.cons_append,List.length_cons,List.set_cons_succ,IJ u v w C A]
theorem Fs {α:Type} {xs:List α} {i:Nat} (h:i<xs.length):inR (i:Int) xs=some ():=by
 unfold inR;rw [if_pos ⟨by omega,by simpa using h⟩]
section
variable {α:Type} {cmp:α->α->Option Int} {le:α->α->Prop} {p:α->Prop}
theorem insL1_s (u v:α) (A C:List α) {c:Int} (hc:cmp v u=some c) (hl:A.length<=1000000000):FZ cmp 0 (A++u::v::C,((A.length+1:Nat):Int))=some (bif decide (c<0)then .go (A++v::u::C,(A.length:Int))else .brk (A++u::v::C,((A.length+1:Nat):Int))):=by
 have hw:w64 (((A.length+1:Nat):Int)-1)=(A.length:Int):=by rw [zo _ (by omega)];omega
 have h1:inR ((A.length+1:Nat):Int) (A++u::v::C)=some ():=Fs (by simp)
 have h2:inR (A.length:Int) (A++u::v::C)=some ():=Fs (by simp)
 have h3:inR (A.length:Int) (A++u::u::C)=some ():=Fs (by simp)
 have hd:decide (((A.length+1:Nat):Int)>0)=true:=by simp <;> omega
 have e1:0+((A.length+1:Nat):Int).toNat=A.length+1:=by omega
 have e2:0+((A.length:Nat):Int).toNat=A.length:=by omega
 unfold FZ
 simp only [hw,h1,h2,hd,e1,e2,get_0,get_1,ob_,hc,cond_true,IJ,h3]
 cases decide (c<0)with
 | false=>rfl
 | true =>
  simp only [cond_true]
  have:=Ga u v C A
  rw [IJ]at this
  rw [this]
theorem AJ (hc:∀a b,p a->p b->∃c,cmp a b=some c/\(c<0->le a b)/\(¬c<0->le b a)) (tr:∀a b c,le a b->le b c->le a c) (v:α) (hv:p v) (R:List α):∀(n:Nat) (A B:List α),A.length=n->n<=1000000000->(∀a∈A,p a)->(A++B).Pairwise le->(∀b∈B,le v b) ->
  ∃A' B',iterN (λs=>FZ cmp 0 s) (n+1) (A++v::(B++R),(A.length:Int))=some (.go (A'++v::(B'++R),(A'.length:Int)))/\A'++B'=A++B/\(A'++v::B').Pairwise le
 | 0,A,B,hA,hn,hpa,hp,hb=>by
  have:A=[]:=List.eq_nil_of_length_eq_zero hA
  subst this
  exact⟨[],B,by simp only [List.nil_append,List.length_nil,iterN,Option.bind];rfl,rfl,by simpa using ⟨hb,hp⟩⟩
 | n+1,A,B,hA,hn,hpa,hp,hb=>by
  rcases List.eq_nil_or_concat A with h|⟨A0,u,h⟩
  ·rw [h]at hA;cases hA
  ·subst h
   simp only [List.concat_eq_append]at hA hp hpa ⊢
   have hA0:A0.length=n:=by simpa using hA
   have hl:(A0++[u]).length=A0.length+1:=by simp
   have e:A0++[u]++v::(B++R)=A0++u::v::(B++R):=by simp
   obtain ⟨c,h1,h2,h3⟩:=hc v u hv (hpa u (by simp))
   rw [hl,e,iterN,insL1_s u v A0 (B++R) h1 (by omega),ob_]
   by_cases hcn:c<0
   ·simp only [decide_eq_true hcn,cond_true]
    have hp':(A0++(u::B)).Pairwise le:=by simpa using hp
    obtain ⟨A',B',k1,k2,k3⟩:=AJ hc tr v hv R n A0 (u::B) hA0 (by omega) (λa ha=>hpa a (by simp [ha])) hp' (λb hb'=>by
     rcases List.mem_cons.1 hb' with rfl|hb'
     ·exact h2 hcn
     ·exact hb b hb')
    refine⟨A',B',?_,by rw [k2];simp,k3⟩
    rw [<- k1];simp
   ·simp only [decide_eq_false hcn,cond_false]
    refine⟨A0++[u],B,by simp,rfl,?_⟩
    have huv:=h3 hcn
    rw [List.pairwise_append]at hp ⊢
    obtain ⟨p1,p2,p3⟩:=hp
    refine⟨p1,List.pairwise_cons.2 ⟨hb,p2⟩,λa ha b hb' => ?_⟩
    rcases List.mem_cons.1 hb' with rfl|hb'
    ·rcases List.mem_append.1 ha with ha|ha
     ·rw [List.pairwise_append]at p1
      exact tr _ _ _ (p1.2.2 a ha u (by simp)) huv
     ·rw [List.mem_singleton]at ha;subst ha;exact huv
    ·exact p3 a ha b hb'
theorem Af (hc:∀a b,p a->p b->∃c,cmp a b=some c/\(c<0->le a b)/\(¬c<0->le b a)) (tr:∀a b c,le a b->le b c->le a c):∀(Q P:List α),P.length+Q.length<=1000000000->(∀x∈P++Q,p x)->P.Pairwise le ->
  ∃s,iterN (λs=>Ec cmp ((P.length+Q.length:Nat):Int) 0 s) (Q.length+1) (P++Q,(P.length:Int))=some (.go (s,((P.length+Q.length:Nat):Int)))/\s.Perm (P++Q)/\s.Pairwise le
 | [],P,hl,hpx,hp=>by
  refine⟨P,?_,by simp,hp⟩
  have hd:decide ((P.length:Int)<((P.length+([]:List α).length:Nat):Int))=false:=by simp
  simp only [iterN,Ec,hd,cond_false,ob_,List.append_nil]
  simp
 | v::Q,P,hl,hpx,hp=>by
  simp only [List.length_cons]at hl
  have hd:decide ((P.length:Int)<((P.length+(v::Q).length:Nat):Int))=true:=by simp only [decide_eq_true_eq,List.length_cons];omega
  obtain ⟨A',B',k1,k2,k3⟩:=AJ hc tr v (hpx v (by simp)) Q P.length P [] rfl (by omega) (λa ha=>hpx a (by simp [ha])) (by simpa using hp) (λb hb=>by cases hb)
  rw [List.nil_append]at k1
  have hlo:=mr k1
  rw [List.length_cons,iterN]
  have hw:w64 ((P.length:Int)+1)=((A'++v::B').length:Int):=by
   have:=congrArg List.length k2
   simp only [List.length_append,List.length_nil]at this
   rw [zo _ (by omega)];simp only [List.length_append,List.length_cons];omega
  have h1:Ec cmp ((P.length+(Q.length+1):Nat):Int) 0 (P++v::Q,(P.length:Int))=some (.go (A'++v::(B'++Q),((A'++v::B').length:Int))):=by
   have hd':decide ((P.length:Int)<((P.length+(Q.length+1):Nat):Int))=true:=hd
   unfold Ec
   simp only [hd',cond_true,hlo,ob_,thenC,hw]
  have hlen:(A'++v::B').length=P.length+1:=by
   have:=congrArg List.length k2
   simp only [List.length_append,List.length_nil,List.length_cons]at this ⊢
   omega
  have hk:(A'++B').Perm P:=by rw [k2];simp
  have hperm:(A'++v::B').Perm (P++[v]):=(List.perm_middle).trans ((List.Perm.cons v hk).trans (List.perm_append_comm (l₁:=[v]) (l₂:=P)))
  obtain ⟨s,m1,m2,m3⟩:=Af hc tr Q (A'++v::B') (by omega) (λx hx=>by
   rcases List.mem_append.1 hx with hx|hx
   ·have:=hperm.mem_iff.1 hx
    exact hpx x (by rcases List.mem_append.1 this with h | h <;> simp_all)
   ·exact hpx x (by simp [hx])) k3
  rw [h1,ob_]
  have e:A'++v::(B'++Q)=(A'++v::B')++Q:=by simp
  have e2:P.length+(Q.length+1)=(A'++v::B').length+Q.length:=by omega
  simp only
  rw [e,e2]
  refine⟨s,m1,m2.trans ?_,m3⟩
  have:=List.Perm.append_right Q hperm
  simpa using this
theorem Iu (hc:∀a b,p a->p b->∃c,cmp a b=some c/\(c<0->le a b)/\(¬c<0->le b a)) (tr:∀a b c,le a b->le b c->le a c) (l:List α) (hl:l.length<=12) (hpl:∀x∈l,p x) (lim:Int):∃s,Ci cmp l 0 (l.length:Int) lim=some s/\s.Perm l/\s.Pairwise le:=by
 have key:∃s,Er cmp l 0 (l.length:Int)=some s/\s.Perm l/\s.Pairwise le:=by
  unfold Er
  have hw:w64 (0+1)=1:=rfl
  rw [hw]
  cases l with
  | nil=>exact⟨[],by rw [mr (n:=1) (o := .go ([],1)) rfl];rfl,.nil,.nil⟩
  | cons v Q =>
   obtain ⟨s,m1,m2,m3⟩:=Af hc tr Q [v] (by simp only [List.length_cons,List.length_nil]at hl ⊢;omega) (λx hx=>hpl x (by simpa using hx)) (List.pairwise_singleton _ _)
   have e:([v].length+Q.length:Nat)=(v::Q).length:=by simp only [List.length_cons,List.length_nil];omega
   rw [e]at m1
   have:=mr m1
   refine⟨s,?_,m2,m3⟩
   show (jF (v::Q,1) _).bind _=_
   have e2:(([v]++Q,(([v]:List α).length:Int)):List α×Int)=(v::Q,1):=rfl
   rw [e2]at this
   rw [this];rfl
 obtain ⟨s,h1,h2,h3⟩:=key
 refine⟨s,?_,h2,h3⟩
 have hsm:jH s l=some ():=by unfold jH;rw [if_pos h2.length_eq]
 have hd:decide (w64 ((l.length:Int)-0)<=12)=true:=by
  have:(l.length:Int)-0=l.length:=by omega
  rw [this,zo _ (by omega)];simp;omega
 have:jF () (λs=>Ie cmp (l.length:Int) 0 l lim s)=some (.ret s):=by
  refine mr (n:=1) ?_
  simp only [iterN,Ie,hd,cond_true,h1,hsm,ob_]
 unfold Ci
 rw [this];rfl
end
end Go.Eng

open Go Go.Eng
namespace Go.Proofs.YtpmokglbipebcaaGreatDoor.Law
set_option linter.unusedVariables false
set_option linter.unusedSimpArgs false
theorem jJ {α:Type} (xs ys:List α) (h:xs.length+ys.length<=1000000000):oJ xs ys=some (xs++ys):=by unfold oJ;rw [if_pos h]
def Fine (r:Rect):Prop:=(-100000<=r.X/\r.X<=100000)/\(-100000<=r.Y/\r.Y<=100000)/\(1<=r.W/\r.X+r.W<=100000)/\1<=r.H/\r.Y+r.H<=100000
theorem Jp:∀n:Nat,n<=12->∃k,fK (IntKind.u64.wrap (n:Int))=some k:=by
 have h:(List.range 13).all (λn=>(fK (IntKind.u64.wrap (n:Int))).isSome)=true:=by kernel_rfl
 intro n hn
 have:=List.all_eq_true.1 h n (by simp;omega)
 exact Option.isSome_iff_exists.1 this
end Go.Proofs.YtpmokglbipebcaaGreatDoor.Law

open Go Go.Eng
namespace Go.Proofs.YtpmokglbipebcaaGreatDoor.Law
set_option linter.unusedVariables false
set_option linter.unusedSimpArgs false
abbrev SB (l:List UInt8):ByteArray:=⟨l.toArray⟩
theorem sb_of (s:ByteArray):SB s.data.toList=s:=rfl
theorem sb_inj {l m:List UInt8} (h:SB l=SB m):l=m:=by
 have:=congrArg (λs:ByteArray=>s.data.toList) h
 simpa using this
theorem Bd {a b:ByteArray} (h:a.data.toList=b.data.toList):a=b:=by rw [<- sb_of a,<- sb_of b,h]
def Med (n:Int):Prop := -1000000000000000<=n/\n<=1000000000000000
theorem itoa_eq {n:Int} (h:Med n):strconv_Itoa n=some (SB (Go.Lib.itoa n)):=by
 unfold strconv_Itoa FY
 unfold Med at h
 rw [if_pos ⟨by omega,by omega⟩]
theorem Ef {n:Int} (h:Med n):(Go.Lib.itoa n).length<=21:=by
 unfold Med at h
 exact Go.Lib.itoa_length_le n (by omega) (by omega)
theorem yB (sep y:List UInt8) (r:List (List UInt8)):Go.Lib.joinTail sep (y::r)=sep++y++Go.Lib.joinTail sep r:=by simp [Go.Lib.joinTail]
theorem DT (sep:List UInt8) (m:Nat):∀(r:List (List UInt8)),(∀x∈r,x.length<=m)->(Go.Lib.joinTail sep r).length<=r.length*(m+sep.length)
 | [],_=>by simp [Go.Lib.joinTail]
 | y::r,hy=>by
  rw [yB,List.length_append,List.length_append,List.length_cons,Nat.add_mul]
  have:=DT sep m r (λx hx=>hy x (List.mem_cons_of_mem _ hx))
  have:=hy y (by simp)
  omega
theorem Gj (sep:List UInt8) (m:Nat):∀(ls:List (List UInt8)),(∀x∈ls,x.length<=m)->(Go.Lib.join ls sep).length<=ls.length*(m+sep.length)
 | [],h=>by simp [Go.Lib.join_nil]
 | x::r,h=>by
  rw [Go.Lib.join_cons,List.length_append,List.length_cons,Nat.add_mul]
  have:=DT sep m r (λx hx=>h x (List.mem_cons_of_mem _ hx))
  have:=h x (by simp)
  omega
theorem Jh (ls:List (List UInt8)) (sep:List UInt8) (m:Nat) (h:∀x∈ls,x.length<=m) (hl:ls.length<=1000000) (hm:m+sep.length<=10000):strings_Join (ls.map SB) (SB sep)=some (SB (Go.Lib.join ls sep)):=by
 have h1:=Gj sep m ls h
 have h2:ls.length*(m+sep.length)<=1000000*10000:=Nat.mul_le_mul hl hm
 have e:(ls.map SB).map (λx=>x.data.toList)=ls:=by rw [List.map_map];exact List.map_id' ls
 unfold strings_Join FQ
 rw [e]
 have e2:(SB sep).data.toList=sep:=rfl
 rw [e2,if_pos ⟨by simp;omega,by omega⟩]
theorem wY:∀(l:List Int) (k:Nat) (out:List ByteArray),(∀n∈l,Med n)->l.length+out.length<=1000000->forR (λk x s=>iM k x s) l k out=some (.go (out++l.map λn=>SB (Go.Lib.itoa n)))
 | [],k,out,h,hl=>by simp [forR]
 | n::l,k,out,h,hl=>by
  simp only [List.length_cons]at hl
  have ih:=wY l (k+1) (out++[SB (Go.Lib.itoa n)]) (λx hx=>h x (List.mem_cons_of_mem _ hx)) (by simp;omega)
  have hstep:iM k n out=some (.go (out++[SB (Go.Lib.itoa n)])):=by
   unfold iM
   rw [itoa_eq (h n (by simp))]
   simp only [ob_]
   rw [jJ _ _ (by simp;omega)]
   rfl
  simp only [forR,hstep,ob_]
  rw [ih]
  simp
theorem yP (l:List Int) (h:∀n∈l,Med n) (hl:l.length<=1000000):jO l=some (SB (Go.Lib.join (l.map Go.Lib.itoa) [32])):=by
 unfold jO
 rw [fZ (by omega),wY l 0 [] h (by simpa using hl)]
 simp only [ob_,lS,List.nil_append]
 have e:(l.map λn=>SB (Go.Lib.itoa n))=(l.map Go.Lib.itoa).map SB:=by rw [List.map_map];rfl
 rw [e,Jh _ [32] 21 (λx hx=>by
  obtain ⟨n,hn,rfl⟩:=List.mem_map.1 hx
  exact Ef (h n hn)) (by simpa using hl) (by decide)]
 rfl
def Bu (b:UInt8):Bool:=decide (48<=b.toNat)&&decide (b.toNat<=57)
def numOf (l:List UInt8):Nat:=l.foldl (λa b=>a*10+(b.toNat-48)) 0
theorem xR {n:Nat} (h:n<10):(UInt8.ofNat (48+n)).toNat=48+n:=by
 rw [UInt8.toNat_ofNat',Nat.mod_eq_of_lt (by omega)]
theorem yh {u:Nat} (h:u<10):Go.Lib.decDigits u=[UInt8.ofNat (48+u)]:=by rw [Go.Lib.decDigits,dif_pos h]
theorem C8 {u:Nat} (h:¬u<10):Go.Lib.decDigits u=Go.Lib.decDigits (u / 10)++[UInt8.ofNat (48+u % 10)]:=by rw [Go.Lib.decDigits,dif_neg h]
theorem vK (u:Nat):(Go.Lib.decDigits u).all Bu=true:=by
 induction u using Nat.strongRecOn with
 | ind u ih =>
  by_cases h:u<10
  ·rw [yh h]
   have:=xR h
   simp only [List.all_cons,List.all_nil,Bool.and_true,Bu,this,Bool.and_eq_true,decide_eq_true_eq]
   omega
  ·rw [C8 h,List.all_append,ih (u / 10) (by omega)]
   have:=xR (show u % 10<10 by omega)
   simp only [List.all_cons,List.all_nil,Bool.and_true,Bool.true_and,Bu,this,Bool.and_eq_true,decide_eq_true_eq]
   omega
theorem Aj (u:Nat):numOf (Go.Lib.decDigits u)=u:=by
 induction u using Nat.strongRecOn with
 | ind u ih =>
  by_cases h:u<10
  ·rw [yh h]
   have:=xR h
   simp only [numOf,List.foldl_cons,List.foldl_nil,this]
   omega
  ·rw [C8 h]
   have:=xR (show u % 10<10 by omega)
   have h2:=ih (u / 10) (by omega)
   unfold numOf at h2 ⊢
   rw [List.foldl_append,h2]
   simp only [List.foldl_cons,List.foldl_nil,this]
   omega
theorem DW {u v:Nat} (h:Go.Lib.decDigits u=Go.Lib.decDigits v):u=v:=by rw [<- Aj u,<- Aj v,h]
theorem Ed {n:Int} (h:0<=n):Go.Lib.itoa n=Go.Lib.decDigits n.toNat:=by unfold Go.Lib.itoa;rw [if_neg (by omega)]
theorem Hd {n m:Int} (hn:0<=n) (hm:0<=m) (h:Go.Lib.itoa n=Go.Lib.itoa m):n=m:=by
 rw [Ed hn,Ed hm]at h
 have:=DW h
 omega
theorem Bq {c:UInt8} (hc:Bu c=false) {l:List UInt8} (h:l.all Bu=true):c∉l:=λhm=>by
 have:=List.all_eq_true.1 h c hm
 rw [hc]at this;cases this
theorem itoa_no {n:Int} (hn:0<=n) {c:UInt8} (hc:Bu c=false):c∉Go.Lib.itoa n:=by rw [Ed hn];exact Bq hc (vK _)
theorem o5 {c:UInt8}:∀{a b x y:List UInt8},c∉a->c∉b->a++c::x=b++c::y->a=b/\x=y
 | [],[],x,y,_,_,h=>⟨rfl,by simpa using h⟩
 | [],b::bs,x,y,_,hb,h=>by
  simp only [List.nil_append,List.cons_append,List.cons.injEq]at h
  exact absurd (List.mem_cons.2 (.inl h.1)) hb
 | a::r,[],x,y,ha,_,h=>by
  simp only [List.nil_append,List.cons_append,List.cons.injEq]at h
  exact absurd (List.mem_cons.2 (.inl h.1.symm)) ha
 | a::r,b::bs,x,y,ha,hb,h=>by
  simp only [List.cons_append,List.cons.injEq]at h
  obtain ⟨h1,h2⟩:=o5 (λhm=>ha (List.mem_cons_of_mem _ hm)) (λhm=>hb (List.mem_cons_of_mem _ hm)) h.2
  exact⟨by rw [h.1,h1],h2⟩
theorem key_all {s:ByteArray} (h:keyB s=true):∀b∈s.data.toList,okB 1 b=true:=λb hb=>by
 simp only [keyB,Bool.and_eq_true,List.all_eq_true]at h
 obtain ⟨i,hi,rfl⟩:=List.getElem_of_mem hb
 have hs:i<s.size:=by rw [Go.Lib.size_eq];exact hi
 have:=h.2.2 i (by simpa using hs)
 have e:fw s i=s.data.toList[i]:=by
  simp only [fw,List.getD_eq_getElem?_getD,List.getElem?_eq_getElem hi,Option.getD_some]
 rw [e]at this
 simp only [okB,Bool.or_eq_true,Bool.and_eq_true]at this ⊢
 rcases this with k|k
 ·exact .inl k
 ·exact .inr ⟨by decide,k.2⟩
theorem vN {s:ByteArray} (h:keyB s=true) {c:UInt8} (hc:okB 1 c=false):c∉s.data.toList:=λhm=>by
 have:=key_all h c hm
 rw [hc]at this;cases this
end Go.Proofs.YtpmokglbipebcaaGreatDoor.Law

open Go Go.Eng
namespace Go.Proofs.YtpmokglbipebcaaGreatDoor.Law
set_option linter.unusedVariables false
set_option linter.unusedSimpArgs false
theorem sb_app (l m:List UInt8):SB l++SB m=SB (l++m):=by
 apply uQ;rw [toL,toL];simp
theorem FE (l:List UInt8):(SB l).size=l.length:=by show l.toArray.size=_;simp
theorem qi (l m:List UInt8) (h:l.length+m.length<=1000000000000):kE (SB l) (SB m)=some (SB (l++m)):=by
 rw [<- sb_app]
 unfold kE
 rw [if_neg]
 have:IntKind.i64.max=9223372036854775807:=by decide
 rw [this,FE,FE];omega
theorem itoa_neg {n:Int} (h:n<0):Go.Lib.itoa n=45::Go.Lib.decDigits n.natAbs:=by unfold Go.Lib.itoa;rw [if_pos h]
theorem CL {n m:Int} (h:Go.Lib.itoa n=Go.Lib.itoa m):n=m:=by
 have h45:Bu 45=false:=by decide
 by_cases hn:0<=n <;> by_cases hm:0<=m
 ·exact Hd hn hm h
 ·rw [Ed hn,itoa_neg (show m<0 by omega)]at h
  exact absurd (by rw [h];simp) (Bq h45 (vK n.toNat))
 ·rw [Ed hm,itoa_neg (show n<0 by omega)]at h
  exact absurd (by rw [<- h];simp) (Bq h45 (vK m.toNat))
 ·rw [itoa_neg (show n<0 by omega),itoa_neg (show m<0 by omega),List.cons.injEq]at h
  have:=DW h.2
  omega
theorem uJ (n:Int) {c:UInt8} (hc:Bu c=false) (h45:c≠45):c∉Go.Lib.itoa n:=by
 by_cases hn:0<=n
 ·exact itoa_no hn hc
 ·rw [itoa_neg (show n<0 by omega)]
  intro hm
  rcases List.mem_cons.1 hm with h|h
  ·exact h45 h
  ·exact Bq hc (vK _) h
theorem join2' (x y:List UInt8) (r:List (List UInt8)) (sep:List UInt8):Go.Lib.join (x::y::r) sep=x++(sep++Go.Lib.join (y::r) sep):=by
 rw [Go.Lib.join_cons,yB,Go.Lib.join_cons,List.append_assoc]
theorem EC (n m:Int) (r:List Int):Go.Lib.join ((n::m::r).map Go.Lib.itoa) [32]=Go.Lib.itoa n++32::Go.Lib.join ((m::r).map Go.Lib.itoa) [32]:=by
 simp only [List.map_cons,join2'];rfl
theorem wD:∀{l m:List Int},l.length=m.length->Go.Lib.join (l.map Go.Lib.itoa) [32]=Go.Lib.join (m.map Go.Lib.itoa) [32]->l=m
 | [],[],_,_=>rfl
 | [n],[m],_,h=>by
  simp only [List.map_cons,List.map_nil,Go.Lib.join_one]at h
  rw [CL h]
 | n::n2::l,m::m2::r,hl,h=>by
  rw [EC,EC]at h
  obtain ⟨h1,h2⟩:=o5 (uJ n (by decide) (by decide)) (uJ m (by decide) (by decide)) h
  rw [CL h1,wD (l:=n2::l) (m:=m2::r) (by simpa using hl) h2]
 | [],_::_,hl,_=>by simp at hl
 | _::_,[],hl,_=>by simp at hl
 | [_],_::_::_,hl,_=>by simp at hl
 | _::_::_,[_],hl,_=>by simp at hl
theorem vo {c:UInt8} (hc:Bu c=false) (h45:c≠45) (h32:c≠32):∀l:List Int,c∉Go.Lib.join (l.map Go.Lib.itoa) [32]
 | []=>by simp [Go.Lib.join_nil]
 | [n]=>by
  simp only [List.map_cons,List.map_nil,Go.Lib.join_one]
  exact uJ n hc h45
 | n::m::r=>by
  rw [EC]
  intro h
  rcases List.mem_append.1 h with h|h
  ·exact uJ n hc h45 h
  ·rcases List.mem_cons.1 h with h|h
   ·exact h32 h
   ·exact vo hc h45 h32 (m::r) h
theorem zI (l:List Int) (h:∀n∈l,Med n):(Go.Lib.join (l.map Go.Lib.itoa) [32]).length<=l.length*22:=by
 have:=Gj [32] 21 (l.map Go.Lib.itoa) (λx hx=>by
  obtain ⟨n,hn,rfl⟩:=List.mem_map.1 hx
  exact Ef (h n hn))
 simpa using this
end Go.Proofs.YtpmokglbipebcaaGreatDoor.Law

open Go Go.Eng
namespace Go.Proofs.YtpmokglbipebcaaGreatDoor.Law
set_option linter.unusedVariables false
set_option linter.unusedSimpArgs false
def jr (n lo hi:Int):Bool:=decide (n<lo)||decide (n>hi)
theorem qG (n lo hi:Int):bW n lo hi=some (jr n lo hi):=by
 unfold bW jr
 cases decide (n<lo) <;> cases decide (n>hi) <;> rfl
theorem CW (n lo hi:Int):lN n lo hi=some (!jr n lo hi):=by
 unfold lN jr
 have e1:decide (lo<=n) = !decide (n<lo):=by rw [Bool.eq_iff_iff];simp
 have e2:decide (n<=hi) = !decide (n>hi):=by rw [Bool.eq_iff_iff];simp
 rw [e1,e2]
 cases decide (n<lo) <;> cases decide (n>hi) <;> rfl
theorem wI {n lo hi:Int} (h:jr n lo hi=false):lo<=n/\n<=hi:=by
 simp only [jr,Bool.or_eq_false_iff,decide_eq_false_iff_not]at h;omega
def zY (r:Rect):Bool:=jr r.X (-100000) 100000||jr r.Y (-100000) 100000||jr r.W 1 (w64 (100000-r.X))||jr r.H 1 (w64 (100000-r.Y))
theorem Bf (r:Rect):iO r=some (bif zY r then 1 else 0):=by
 unfold iO zY
 simp only [qG,ob_]
 cases jr r.X (-100000) 100000 <;> cases jr r.Y (-100000) 100000 <;> cases jr r.W 1 (w64 (100000-r.X)) <;> cases jr r.H 1 (w64 (100000-r.Y)) <;> rfl
theorem Bi (r:Rect):kQ r=some (bif zY r then 1 else 0):=by
 unfold kQ zY
 simp only [CW,ob_,Bool.not_not]
 cases jr r.X (-100000) 100000 <;> cases jr r.Y (-100000) 100000 <;> cases jr r.W 1 (w64 (100000-r.X)) <;> cases jr r.H 1 (w64 (100000-r.Y)) <;> rfl
end Go.Proofs.YtpmokglbipebcaaGreatDoor.Law

open Go Go.Eng
namespace Go.Proofs.YtpmokglbipebcaaGreatDoor.Law
set_option linter.unusedVariables false
set_option linter.unusedSimpArgs false
end Go.Proofs.YtpmokglbipebcaaGreatDoor.Law

open Go Go.Eng
namespace Go.Proofs.YtpmokglbipebcaaGreatDoor.Law
set_option linter.unusedVariables false
set_option linter.unusedSimpArgs false
end Go.Proofs.YtpmokglbipebcaaGreatDoor.Law

open Go Go.Eng
namespace Go.Proofs.YtpmokglbipebcaaGreatDoor.Law
set_option linter.unusedVariables false
set_option linter.unusedSimpArgs false
section
variable {is:Int->Int->Option Bool} {xs ys:List Int} {s13:(List Rect)×(List Rect)×Int} {y y2:Int} {j:Nat}
end
end Go.Proofs.YtpmokglbipebcaaGreatDoor.Law

