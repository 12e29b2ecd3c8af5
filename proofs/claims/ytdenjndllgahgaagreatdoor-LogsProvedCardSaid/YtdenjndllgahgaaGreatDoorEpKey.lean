import Derived.Test.YtdenjndllgahgaaGreatDoorEpStream
/-
  PLAIN LEMMAS: keys.
-/
open Go Go.Eng
namespace Go.Proofs.YtdenjndllgahgaaGreatDoor.Law
set_option linter.unusedVariables false
set_option linter.unusedSimpArgs false
def wS (b:UInt8):Bool:=decide (97<=b.toNat)&&decide (b.toNat<=122)
def zz (b:UInt8):Bool:=(decide (48<=b.toNat)&&decide (b.toNat<=57))||(b.toNat==45)||(b.toNat==95)
def okB (i:Nat) (b:UInt8):Bool:=wS b||(decide (0<i)&&zz b)
def bZ (s:ByteArray) (i:Nat):UInt8:=s.data.toList.getD i 0
def ow (s:ByteArray):Bool:=decide (s.size≠0)&&(decide (s.size<=40)&&(List.range s.size).all λi=>okB i (bZ s i))
theorem wG (s:ByteArray) (k:Nat) (h:k<s.size):qN s (k:Int)=some (bZ s k):=by
 have h1:s[k]? = some s[k]:=by simp [h]
 have h2:bZ s k=s[k]:=by
  have hl:k<s.data.toList.length:=by rw [<- Go.Lib.size_eq];exact h
  simp only [bZ,List.getD_eq_getElem?_getD,List.getElem?_eq_getElem hl,Option.getD_some]
  simp
  rfl
 simp only [qN,if_pos (Int.natCast_nonneg k),Int.toNat_natCast,h1,h2]
theorem Ac (s:ByteArray) (k:Nat) (hs:s.size<=1000000000):gq s (k:Int)=some (if k<s.size then (bif okB k (bZ s k)then .go ((k+1:Nat):Int)else .ret false)else .brk (k:Int)):=by
 unfold gq
 by_cases h:k<s.size
 ·have hd:decide ((k:Int)<(s.size:Int))=true:=by simp;omega
  have hw:w64 ((k:Int)+1)=((k+1:Nat):Int):=by rw [cK (by omega)];omega
  simp only [hd,cond_true,wG s k h,ob_,if_pos h,hw]
  generalize bZ s k=b
  simp only [okB,wS,zz]
  have e1:decide ((b.toNat:Int)>=97)=decide (97<=b.toNat):=decide_eq_decide.2 (by omega)
  have e2:decide ((b.toNat:Int)<=122)=decide (b.toNat<=122):=decide_eq_decide.2 (by omega)
  have e3:decide ((k:Int)>0)=decide (0<k):=decide_eq_decide.2 (by omega)
  have e4:decide ((b.toNat:Int)>=48)=decide (48<=b.toNat):=decide_eq_decide.2 (by omega)
  have e5:decide ((b.toNat:Int)<=57)=decide (b.toNat<=57):=decide_eq_decide.2 (by omega)
  have e6:((b.toNat:Int)==45)=(b.toNat==45):=by rw [Bool.eq_iff_iff];simp;omega
  have e7:((b.toNat:Int)==95)=(b.toNat==95):=by rw [Bool.eq_iff_iff];simp;omega
  rw [e1,e2,e3,e4,e5,e6,e7]
  cases decide (97<=b.toNat) <;> cases decide (b.toNat<=122) <;> cases decide (0<k) <;> cases decide (48<=b.toNat) <;> cases decide (b.toNat<=57) <;> cases (b.toNat==45) <;> cases (b.toNat==95) <;> rfl
 ·have hd:decide ((k:Int)<(s.size:Int))=false:=by simp;omega
  simp only [hd,cond_false,if_neg h]
theorem uY (s:ByteArray) (hs:s.size<=1000000000):∀(n k:Nat),k+n=s.size->aZ (λi=>gq s i) (n+1) (k:Int)=some (bif (List.range' k n).all (λj=>okB j (bZ s j))then .go (s.size:Int)else .ret false)
 | 0,k,h=>by
  have hk:¬k<s.size:=by omega
  simp only [aZ,Ac s k hs,if_neg hk,ob_,List.range'_zero,List.all_nil,cond_true]
  rw [show (k:Int)=s.size by omega]
 | n+1,k,h=>by
  have hk:k<s.size:=by omega
  rw [aZ,Ac s k hs,if_pos hk,ob_,List.range'_succ,List.all_cons]
  cases okB k (bZ s k)with
  | true=>simp only [cond_true,Bool.true_and];exact uY s hs n (k+1) (by omega)
  | false=>rfl
theorem rE (s:ByteArray) (hs:s.size<=1000000000):jh s=some (ow s):=by
 have h:=dL (uY s hs s.size 0 (by omega))
 unfold jh
 have h':jw (0:Int) (λs_1=>gq s s_1)=_:=h
 rw [h',ob_,<- List.range_eq_range']
 have e:decide ((s.size:Int)<=40)=decide (s.size<=40):=decide_eq_decide.2 (by omega)
 simp only [ow]
 cases (List.range s.size).all (λi=>okB i (bZ s i))with
 | true =>
  rw [cond_true,iV,sNe_nil,e,Bool.and_true]
  cases decide (s.size≠0) <;> rfl
 | false=>simp only [cond_false,xH,Bool.and_false]
def lh (t:ByteArray) (b:UInt8):Bool := !decide (ixB t (b.toNat:Int)<0)
theorem only_L1 (s t:ByteArray) (k x:Nat) (h:k<s.size):jk s t k x ()=some (bif lh t (bZ s k)then .go ()else .ret false):=by
 simp only [jk,wG s k h,strings_IndexByte,bX,ob_,lh]
 cases decide (ixB t ((bZ s k).toNat:Int)<0) <;> rfl
theorem zt (s t:ByteArray):∀(xs:List Nat) (k:Nat),k+xs.length=s.size->dW (λk x u=>jk s t k x u) xs k ()=some (bif (List.range' k xs.length).all (λj=>lh t (bZ s j))then .go ()else .ret false)
 | [],k,h=>rfl
 | x::xs,k,h=>by
  simp only [List.length_cons]at h ⊢
  have hk:k<s.size:=by omega
  rw [dW,only_L1 s t k x hk,ob_,List.range'_succ,List.all_cons]
  cases lh t (bZ s k)with
  | true=>simp only [cond_true,Bool.true_and];exact zt s t xs (k+1) (by omega)
  | false=>rfl
theorem ym (s t:ByteArray) (hs:s.size<=1000000000):kK s t=some ((List.range s.size).all λi=>lh t (bZ s i)):=by
 unfold kK
 rw [Int.toNat_natCast,fo (by simp;omega),zt s t _ 0 (by simp),ob_,List.length_range,<- List.range_eq_range']
 cases (List.range s.size).all (λi=>lh t (bZ s i)) <;> rfl
def xB:ByteArray:=⟨#[97,98,99,100,101,102,103,104,105,106,107,108,109,110,111,112,113,114,115,116,117,118,119,120,121,122]⟩
def ve:ByteArray:=⟨#[97,98,99,100,101,102,103,104,105,106,107,108,109,110,111,112,113,114,115,116,117,118,119,120,121,122,48,49,50,51,52,53,54,55,56,57,45,95]⟩
theorem xG:∀n:Fin 256,lh xB (UInt8.ofNat n.val)=wS (UInt8.ofNat n.val)/\lh ve (UInt8.ofNat n.val)=(wS (UInt8.ofNat n.val)||zz (UInt8.ofNat n.val)):=by decide +kernel
theorem zX (b:UInt8):lh xB b=wS b:=by
 have:=(xG ⟨b.toNat,b.toNat_lt⟩).1
 simpa using this
theorem AA (b:UInt8):lh ve b=(wS b||zz b):=by
 have:=(xG ⟨b.toNat,b.toNat_lt⟩).2
 simpa using this
theorem xz (s:ByteArray) (hs:s.size<=1000000000):pM s=some (ow s):=by
 unfold pM nL
 have e1:decide ((1:Int)<=(s.size:Int))=decide (s.size≠0):=decide_eq_decide.2 (by omega)
 have e2:decide ((s.size:Int)<=40)=decide (s.size<=40):=decide_eq_decide.2 (by omega)
 rw [e1,e2]
 by_cases h1:s.size≠0
 ·by_cases h2:s.size<=40
  ·have hsub:sU s 0 1=some (s.extract 0 1):=by
    unfold sU;rw [if_pos ⟨by omega,by omega,by decide,by show 1<=s.size;omega⟩];rfl
   have hsz:(s.extract 0 1).size=1:=by simp [ByteArray.size_extract];omega
   have hb:bZ (s.extract 0 1) 0=bZ s 0:=by
    obtain ⟨⟨l⟩⟩:=s
    simp only [bZ]
    cases l with
    | nil=>exact absurd rfl h1
    | cons b l=>simp [ByteArray.extract,ByteArray.copySlice]
   simp only [decide_eq_true h1,decide_eq_true h2,cond_true,ob_,hsub]
   have o1:=ym (s.extract 0 1) xB (by omega)
   have o2:=ym s ve hs
   unfold xB at o1
   unfold ve at o2
   rw [o1,ob_,o2]
   have e3:(List.range (s.extract 0 1).size).all (λi=>lh xB (bZ (s.extract 0 1) i))=wS (bZ s 0):=by
    rw [hsz]
    simp only [List.range_succ,List.range_zero,List.nil_append,List.all_cons,List.all_nil,Bool.and_true]
    rw [hb,zX]
   have e3':=e3
   unfold xB at e3'
   rw [e3']
   have e4:∀i,lh ve (bZ s i)=(wS (bZ s i)||zz (bZ s i)):=λi=>AA _
   have e5:ow s=(wS (bZ s 0)&&(List.range s.size).all (λi=>lh ve (bZ s i))):=by
    simp only [ow,decide_eq_true h1,decide_eq_true h2,Bool.true_and,e4]
    rw [Bool.eq_iff_iff]
    simp only [List.all_eq_true,List.mem_range,Bool.and_eq_true,okB,Bool.or_eq_true,decide_eq_true_eq]
    constructor
    ·intro h
     refine⟨?_,λi hi=>(h i hi).imp id (λh=>h.2)⟩
     rcases h 0 (by omega)with h|h
     ·exact h
     ·exact absurd h.1 (by omega)
    ·rintro ⟨h3,h4⟩ i hi
     by_cases e:i=0
     ·rw [e];exact .inl h3
     ·exact (h4 i hi).imp id (λh=>⟨by omega,h⟩)
   unfold ve at e5
   rw [e5]
   cases wS (bZ s 0) <;> rfl
  ·simp only [decide_eq_true h1,decide_eq_false h2,cond_true,cond_false,ob_,ow,Bool.false_and,Bool.and_false]
 ·simp only [decide_eq_false h1,cond_false,ob_,ow,Bool.false_and]
end Go.Proofs.YtdenjndllgahgaaGreatDoor.Law

