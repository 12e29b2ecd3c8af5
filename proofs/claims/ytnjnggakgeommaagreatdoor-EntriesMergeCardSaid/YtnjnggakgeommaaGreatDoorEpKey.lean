import Derived.Test.YtnjnggakgeommaaGreatDoorEpStream
/-
  PLAIN LEMMAS: keys.
-/
open Go Go.Eng
namespace Go.Proofs.YtnjnggakgeommaaGreatDoor.Law
set_option linter.unusedVariables false
set_option linter.unusedSimpArgs false
def yn (b:UInt8):Bool:=decide (97<=b.toNat)&&decide (b.toNat<=122)
def Bn (b:UInt8):Bool:=(decide (48<=b.toNat)&&decide (b.toNat<=57))||(b.toNat==45)||(b.toNat==95)
def okB (i:Nat) (b:UInt8):Bool:=yn b||(decide (0<i)&&Bn b)
def eP (s:ByteArray) (i:Nat):UInt8:=s.data.toList.getD i 0
def jk (s:ByteArray):Bool:=decide (s.size≠0)&&(decide (s.size<=40)&&(List.range s.size).all λi=>okB i (eP s i))
theorem AU (s:ByteArray) (k:Nat) (h:k<s.size):BS s (k:Int)=some (eP s k):=by
 have h1:s[k]? = some s[k]:=by simp [h]
 have h2:eP s k=s[k]:=by
  have hl:k<s.data.toList.length:=by rw [<- Go.Lib.size_eq];exact h
  simp only [eP,List.getD_eq_getElem?_getD,List.getElem?_eq_getElem hl,Option.getD_some]
  simp
  rfl
 simp only [BS,if_pos (Int.natCast_nonneg k),Int.toNat_natCast,h1,h2]
theorem Aq (s:ByteArray) (k:Nat) (hs:s.size<=1000000000):iy s (k:Int)=some (if k<s.size then (bif okB k (eP s k)then .go ((k+1:Nat):Int)else .ret false)else .brk (k:Int)):=by
 unfold iy
 by_cases h:k<s.size
 ·have hd:decide ((k:Int)<(s.size:Int))=true:=by simp;omega
  have hw:w64 ((k:Int)+1)=((k+1:Nat):Int):=by rw [bN (by omega)];omega
  simp only [hd,cond_true,AU s k h,ob_,if_pos h,hw]
  generalize eP s k=b
  simp only [okB,yn,Bn]
  have e1:decide ((b.toNat:Int)>=97)=decide (97<=b.toNat):=decide_eq_decide.2 (by omega)
  have e2:decide ((b.toNat:Int)<=122)=decide (b.toNat<=122):=decide_eq_decide.2 (by omega)
  have e3:decide ((k:Int)>0)=decide (0<k):=decide_eq_decide.2 (by omega)
  have e4:decide ((b.toNat:Int)>=48)=decide (48<=b.toNat):=decide_eq_decide.2 (by omega)
  have e5:decide ((b.toNat:Int)<=57)=decide (b.toNat<=57):=decide_eq_decide.2 (by omega)
  have e6:((b.toNat:Int)==45)=(b.toNat==45):=by rw [Bool.eq_iff_iff];simp;omega
  have e7:((b.toNat:Int)==95)=(b.toNat==95):=by rw [Bool.eq_iff_iff];simp;omega
  rw [e1,e2,e3,e4,e5,e6,e7]
  cases decide (97<=b.toNat) <;> cases decide (b.toNat<=122) <;> cases decide (0<k) <;> cases decide (48<=b.toNat) <;> cases decide (b.toNat<=57) <;> cases (b.toNat==45) <;> cases (b.toNat==95) <;> rfl
 ·have hd:decide ((k:Int)<(s.size:Int))=false:=by simp;omega
  simp only [hd,cond_false,if_neg h]
theorem xw (s:ByteArray) (hs:s.size<=1000000000):∀(n k:Nat),k+n=s.size->fM (λi=>iy s i) (n+1) (k:Int)=some (bif (List.range' k n).all (λj=>okB j (eP s j))then .go (s.size:Int)else .ret false)
 | 0,k,h=>by
  have hk:¬k<s.size:=by omega
  simp only [fM,Aq s k hs,if_neg hk,ob_,List.range'_zero,List.all_nil,cond_true]
  rw [show (k:Int)=s.size by omega]
 | n+1,k,h=>by
  have hk:k<s.size:=by omega
  rw [fM,Aq s k hs,if_pos hk,ob_,List.range'_succ,List.all_cons]
  cases okB k (eP s k)with
  | true=>simp only [cond_true,Bool.true_and];exact xw s hs n (k+1) (by omega)
  | false=>rfl
theorem qb (s:ByteArray) (hs:s.size<=1000000000):jr s=some (jk s):=by
 have h:=iY (xw s hs s.size 0 (by omega))
 unfold jr
 have h':kg (0:Int) (λs_1=>iy s s_1)=_:=h
 rw [h',ob_,<- List.range_eq_range']
 have e:decide ((s.size:Int)<=40)=decide (s.size<=40):=decide_eq_decide.2 (by omega)
 simp only [jk]
 cases (List.range s.size).all (λi=>okB i (eP s i))with
 | true =>
  rw [cond_true,fZ,sNe_nil,e,Bool.and_true]
  cases decide (s.size≠0) <;> rfl
 | false=>simp only [cond_false,yX,Bool.and_false]
def nS (t:ByteArray) (b:UInt8):Bool := !decide (ixB t (b.toNat:Int)<0)
theorem only_L1 (s t:ByteArray) (k x:Nat) (h:k<s.size):jZ s t k x ()=some (bif nS t (eP s k)then .go ()else .ret false):=by
 simp only [jZ,AU s k h,strings_IndexByte,dJ,ob_,nS]
 cases decide (ixB t ((eP s k).toNat:Int)<0) <;> rfl
theorem AL (s t:ByteArray):∀(xs:List Nat) (k:Nat),k+xs.length=s.size->dR (λk x u=>jZ s t k x u) xs k ()=some (bif (List.range' k xs.length).all (λj=>nS t (eP s j))then .go ()else .ret false)
 | [],k,h=>rfl
 | x::xs,k,h=>by
  simp only [List.length_cons]at h ⊢
  have hk:k<s.size:=by omega
  rw [dR,only_L1 s t k x hk,ob_,List.range'_succ,List.all_cons]
  cases nS t (eP s k)with
  | true=>simp only [cond_true,Bool.true_and];exact AL s t xs (k+1) (by omega)
  | false=>rfl
theorem Dj (s t:ByteArray) (hs:s.size<=1000000000):nA s t=some ((List.range s.size).all λi=>nS t (eP s i)):=by
 unfold nA
 rw [Int.toNat_natCast,fq (by simp;omega),AL s t _ 0 (by simp),ob_,List.length_range,<- List.range_eq_range']
 cases (List.range s.size).all (λi=>nS t (eP s i)) <;> rfl
def yO:ByteArray:=⟨#[97,98,99,100,101,102,103,104,105,106,107,108,109,110,111,112,113,114,115,116,117,118,119,120,121,122]⟩
def xP:ByteArray:=⟨#[97,98,99,100,101,102,103,104,105,106,107,108,109,110,111,112,113,114,115,116,117,118,119,120,121,122,48,49,50,51,52,53,54,55,56,57,45,95]⟩
theorem yL:∀n:Fin 256,nS yO (UInt8.ofNat n.val)=yn (UInt8.ofNat n.val)/\nS xP (UInt8.ofNat n.val)=(yn (UInt8.ofNat n.val)||Bn (UInt8.ofNat n.val)):=by decide +kernel
theorem A7 (b:UInt8):nS yO b=yn b:=by
 have:=(yL ⟨b.toNat,b.toNat_lt⟩).1
 simpa using this
theorem Br (b:UInt8):nS xP b=(yn b||Bn b):=by
 have:=(yL ⟨b.toNat,b.toNat_lt⟩).2
 simpa using this
theorem oo (s:ByteArray) (hs:s.size<=1000000000):lS s=some (jk s):=by
 unfold lS jV
 have e1:decide ((1:Int)<=(s.size:Int))=decide (s.size≠0):=decide_eq_decide.2 (by omega)
 have e2:decide ((s.size:Int)<=40)=decide (s.size<=40):=decide_eq_decide.2 (by omega)
 rw [e1,e2]
 by_cases h1:s.size≠0
 ·by_cases h2:s.size<=40
  ·have hsub:Bh s 0 1=some (s.extract 0 1):=by
    unfold Bh;rw [if_pos ⟨by omega,by omega,by decide,by show 1<=s.size;omega⟩];rfl
   have hsz:(s.extract 0 1).size=1:=by simp [ByteArray.size_extract];omega
   have hb:eP (s.extract 0 1) 0=eP s 0:=by
    obtain ⟨⟨l⟩⟩:=s
    simp only [eP]
    cases l with
    | nil=>exact absurd rfl h1
    | cons b l=>simp [ByteArray.extract,ByteArray.copySlice]
   simp only [decide_eq_true h1,decide_eq_true h2,cond_true,ob_,hsub]
   have o1:=Dj (s.extract 0 1) yO (by omega)
   have o2:=Dj s xP hs
   unfold yO at o1
   unfold xP at o2
   rw [o1,ob_,o2]
   have e3:(List.range (s.extract 0 1).size).all (λi=>nS yO (eP (s.extract 0 1) i))=yn (eP s 0):=by
    rw [hsz]
    simp only [List.range_succ,List.range_zero,List.nil_append,List.all_cons,List.all_nil,Bool.and_true]
    rw [hb,A7]
   have e3':=e3
   unfold yO at e3'
   rw [e3']
   have e4:∀i,nS xP (eP s i)=(yn (eP s i)||Bn (eP s i)):=λi=>Br _
   have e5:jk s=(yn (eP s 0)&&(List.range s.size).all (λi=>nS xP (eP s i))):=by
    simp only [jk,decide_eq_true h1,decide_eq_true h2,Bool.true_and,e4]
    rw [Bool.eq_iff_iff]
    simp only [List.all_eq_true,List.mem_range,Bool.and_eq_true,okB,Bool.or_eq_true,decide_eq_true_eq]
    constructor
    ·intro h
     refine⟨?_,λi hi=>(h i hi).imp id (λh=>h.2)⟩
     rcases h 0 (by omega)with h|h
     ·exact h
     ·exact absurd h.1 (by omega)
    ·rintro ⟨h3,h4⟩ i hi
     by_cases e:i=0
     ·rw [e];exact .inl h3
     ·exact (h4 i hi).imp id (λh=>⟨by omega,h⟩)
   unfold xP at e5
   rw [e5]
   cases yn (eP s 0) <;> rfl
  ·simp only [decide_eq_true h1,decide_eq_false h2,cond_true,cond_false,ob_,jk,Bool.false_and,Bool.and_false]
 ·simp only [decide_eq_false h1,cond_false,ob_,jk,Bool.false_and]
theorem zY {s:ByteArray} (h:jk s=true):s.size≠0:=by
 simp only [jk,Bool.and_eq_true,decide_eq_true_eq]at h
 exact h.1
end Go.Proofs.YtnjnggakgeommaaGreatDoor.Law

