import Derived.Test.YtdenjndllgahgaaGreatDoorEpStream
/-
  PLAIN LEMMAS: keys.
-/
open Go Go.Eng
namespace Go.Proofs.YtdenjndllgahgaaGreatDoor.Law
set_option linter.unusedVariables false
set_option linter.unusedSimpArgs false
def wh (b:UInt8):Bool:=decide (97<=b.toNat)&&decide (b.toNat<=122)
def yP (b:UInt8):Bool:=(decide (48<=b.toNat)&&decide (b.toNat<=57))||(b.toNat==45)||(b.toNat==95)
def okB (i:Nat) (b:UInt8):Bool:=wh b||(decide (0<i)&&yP b)
def bQ (s:ByteArray) (i:Nat):UInt8:=s.data.toList.getD i 0
def nG (s:ByteArray):Bool:=decide (s.size≠0)&&(decide (s.size<=40)&&(List.range s.size).all λi=>okB i (bQ s i))
theorem uI (s:ByteArray) (k:Nat) (h:k<s.size):qb s (k:Int)=some (bQ s k):=by
 have h1:s[k]? = some s[k]:=by simp [h]
 have h2:bQ s k=s[k]:=by
  have hl:k<s.data.toList.length:=by rw [<- Go.Lib.size_eq];exact h
  simp only [bQ,List.getD_eq_getElem?_getD,List.getElem?_eq_getElem hl,Option.getD_some]
  simp
  rfl
 simp only [qb,if_pos (Int.natCast_nonneg k),Int.toNat_natCast,h1,h2]
theorem zI (s:ByteArray) (k:Nat) (hs:s.size<=1000000000):fG s (k:Int)=some (if k<s.size then (bif okB k (bQ s k)then .go ((k+1:Nat):Int)else .ret false)else .brk (k:Int)):=by
 unfold fG
 by_cases h:k<s.size
 ·have hd:decide ((k:Int)<(s.size:Int))=true:=by simp;omega
  have hw:w64 ((k:Int)+1)=((k+1:Nat):Int):=by rw [dI (by omega)];omega
  simp only [hd,cond_true,uI s k h,ob_,if_pos h,hw]
  generalize bQ s k=b
  simp only [okB,wh,yP]
  have e1:decide ((b.toNat:Int)>=97)=decide (97<=b.toNat):=decide_eq_decide.2 (by omega)
  have e2:decide ((b.toNat:Int)<=122)=decide (b.toNat<=122):=decide_eq_decide.2 (by omega)
  have e3:decide ((k:Int)>0)=decide (0<k):=decide_eq_decide.2 (by omega)
  have e4:decide ((b.toNat:Int)>=48)=decide (48<=b.toNat):=decide_eq_decide.2 (by omega)
  have e5:decide ((b.toNat:Int)<=57)=decide (b.toNat<=57):=decide_eq_decide.2 (by omega)
  have e6:((b.toNat:Int)==45)=(b.toNat==45):=by rw [Bool.eq_iff_iff];simp;omega
  have e7:((b.toNat:Int)==95)=(b.toNat==95):=by rw [Bool.eq_iff_iff];simp;omega
  rw [e1,e2,e3,e4,e5,e6,e7]
  cases decide (97<=b.toNat) <;> cases decide (b.toNat<=122) <;> cases decide (0<k) <;> cases decide (48<=b.toNat) <;> cases decide (b.toNat<=57) <;> cases (b.toNat==45) <;> cases (b.toNat==95) <;> rfl
 ·have hd:decide ((k:Int)<(s.size:Int))=false:=by simp;omega
  simp only [hd,cond_false,if_neg h]
theorem ug (s:ByteArray) (hs:s.size<=1000000000):∀(n k:Nat),k+n=s.size->fE (λi=>fG s i) (n+1) (k:Int)=some (bif (List.range' k n).all (λj=>okB j (bQ s j))then .go (s.size:Int)else .ret false)
 | 0,k,h=>by
  have hk:¬k<s.size:=by omega
  simp only [fE,zI s k hs,if_neg hk,ob_,List.range'_zero,List.all_nil,cond_true]
  rw [show (k:Int)=s.size by omega]
 | n+1,k,h=>by
  have hk:k<s.size:=by omega
  rw [fE,zI s k hs,if_pos hk,ob_,List.range'_succ,List.all_cons]
  cases okB k (bQ s k)with
  | true=>simp only [cond_true,Bool.true_and];exact ug s hs n (k+1) (by omega)
  | false=>rfl
theorem qy (s:ByteArray) (hs:s.size<=1000000000):iJ s=some (nG s):=by
 have h:=mX (ug s hs s.size 0 (by omega))
 unfold iJ
 have h':nA (0:Int) (λs_1=>fG s s_1)=_:=h
 rw [h',ob_,<- List.range_eq_range']
 have e:decide ((s.size:Int)<=40)=decide (s.size<=40):=decide_eq_decide.2 (by omega)
 simp only [nG]
 cases (List.range s.size).all (λi=>okB i (bQ s i))with
 | true =>
  rw [cond_true,gL,sNe_nil,e,Bool.and_true]
  cases decide (s.size≠0) <;> rfl
 | false=>simp only [cond_false,xu,Bool.and_false]
def kv (t:ByteArray) (b:UInt8):Bool := !decide (ixB t (b.toNat:Int)<0)
theorem only_L1 (s t:ByteArray) (k x:Nat) (h:k<s.size):iK s t k x ()=some (bif kv t (bQ s k)then .go ()else .ret false):=by
 simp only [iK,uI s k h,strings_IndexByte,bS,ob_,kv]
 cases decide (ixB t ((bQ s k).toNat:Int)<0) <;> rfl
theorem zQ (s t:ByteArray):∀(xs:List Nat) (k:Nat),k+xs.length=s.size->dF (λk x u=>iK s t k x u) xs k ()=some (bif (List.range' k xs.length).all (λj=>kv t (bQ s j))then .go ()else .ret false)
 | [],k,h=>rfl
 | x::xs,k,h=>by
  simp only [List.length_cons]at h ⊢
  have hk:k<s.size:=by omega
  rw [dF,only_L1 s t k x hk,ob_,List.range'_succ,List.all_cons]
  cases kv t (bQ s k)with
  | true=>simp only [cond_true,Bool.true_and];exact zQ s t xs (k+1) (by omega)
  | false=>rfl
theorem xI (s t:ByteArray) (hs:s.size<=1000000000):jR s t=some ((List.range s.size).all λi=>kv t (bQ s i)):=by
 unfold jR
 rw [Int.toNat_natCast,fo (by simp;omega),zQ s t _ 0 (by simp),ob_,List.length_range,<- List.range_eq_range']
 cases (List.range s.size).all (λi=>kv t (bQ s i)) <;> rfl
def wU:ByteArray:=⟨#[97,98,99,100,101,102,103,104,105,106,107,108,109,110,111,112,113,114,115,116,117,118,119,120,121,122]⟩
def ve:ByteArray:=⟨#[97,98,99,100,101,102,103,104,105,106,107,108,109,110,111,112,113,114,115,116,117,118,119,120,121,122,48,49,50,51,52,53,54,55,56,57,45,95]⟩
theorem wV:∀n:Fin 256,kv wU (UInt8.ofNat n.val)=wh (UInt8.ofNat n.val)/\kv ve (UInt8.ofNat n.val)=(wh (UInt8.ofNat n.val)||yP (UInt8.ofNat n.val)):=by decide +kernel
theorem yK (b:UInt8):kv wU b=wh b:=by
 have:=(wV ⟨b.toNat,b.toNat_lt⟩).1
 simpa using this
theorem zy (b:UInt8):kv ve b=(wh b||yP b):=by
 have:=(wV ⟨b.toNat,b.toNat_lt⟩).2
 simpa using this
theorem wO (s:ByteArray) (hs:s.size<=1000000000):oL s=some (nG s):=by
 unfold oL mG
 have e1:decide ((1:Int)<=(s.size:Int))=decide (s.size≠0):=decide_eq_decide.2 (by omega)
 have e2:decide ((s.size:Int)<=40)=decide (s.size<=40):=decide_eq_decide.2 (by omega)
 rw [e1,e2]
 by_cases h1:s.size≠0
 ·by_cases h2:s.size<=40
  ·have hsub:ry s 0 1=some (s.extract 0 1):=by
    unfold ry;rw [if_pos ⟨by omega,by omega,by decide,by show 1<=s.size;omega⟩];rfl
   have hsz:(s.extract 0 1).size=1:=by simp [ByteArray.size_extract];omega
   have hb:bQ (s.extract 0 1) 0=bQ s 0:=by
    obtain ⟨⟨l⟩⟩:=s
    simp only [bQ]
    cases l with
    | nil=>exact absurd rfl h1
    | cons b l=>simp [ByteArray.extract,ByteArray.copySlice]
   simp only [decide_eq_true h1,decide_eq_true h2,cond_true,ob_,hsub]
   have o1:=xI (s.extract 0 1) wU (by omega)
   have o2:=xI s ve hs
   unfold wU at o1
   unfold ve at o2
   rw [o1,ob_,o2]
   have e3:(List.range (s.extract 0 1).size).all (λi=>kv wU (bQ (s.extract 0 1) i))=wh (bQ s 0):=by
    rw [hsz]
    simp only [List.range_succ,List.range_zero,List.nil_append,List.all_cons,List.all_nil,Bool.and_true]
    rw [hb,yK]
   have e3':=e3
   unfold wU at e3'
   rw [e3']
   have e4:∀i,kv ve (bQ s i)=(wh (bQ s i)||yP (bQ s i)):=λi=>zy _
   have e5:nG s=(wh (bQ s 0)&&(List.range s.size).all (λi=>kv ve (bQ s i))):=by
    simp only [nG,decide_eq_true h1,decide_eq_true h2,Bool.true_and,e4]
    rw [Bool.eq_iff_iff]
    simp only [List.all_eq_true,List.mem_range,Bool.and_eq_true,okB,Bool.or_eq_true,decide_eq_true_eq]
    constructor
    ·intro h
     refine⟨?_,λi hi=>(h i hi).imp id (λh=>h.2)⟩
     rcases h 0 (by omega)with h|h
     ·exact h
     ·exact absurd h.1 (by omega)
    ·rintro ⟨h3,h4⟩ i hi
     by_cases e:i=0
     ·rw [e];exact .inl h3
     ·exact (h4 i hi).imp id (λh=>⟨by omega,h⟩)
   unfold ve at e5
   rw [e5]
   cases wh (bQ s 0) <;> rfl
  ·simp only [decide_eq_true h1,decide_eq_false h2,cond_true,cond_false,ob_,nG,Bool.false_and,Bool.and_false]
 ·simp only [decide_eq_false h1,cond_false,ob_,nG,Bool.false_and]
end Go.Proofs.YtdenjndllgahgaaGreatDoor.Law

