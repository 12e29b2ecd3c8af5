/-
  THE PLAIN LAW (part 1).
-/
import Derived.Test.YtnfedlledilojaaGreatDoorEng5
import Derived.Test.YtnfedlledilojaaGreatDoorDefs
import Derived.Lib.ItoaLen
namespace Go.Eng
set_option linter.unusedVariables false
set_option linter.unusedSimpArgs false
theorem eX {α σ ρ:Type} {body:Nat->α->σ->Option (Ctl σ ρ)} {xs:List α} {s:σ} (hl:xs.length<=1000000000000):lm xs s body=eD body xs 0 s:=by unfold lm;rw [if_pos hl]
theorem Al {α σ ρ:Type} {body:Nat->α->σ->Option (Ctl σ ρ)} (I:Nat->σ->Prop) (N:Nat):∀(xs:List α) (k:Nat) (s:σ),k+xs.length=N->(∀k x s,x∈xs->k<N->I k s->∃s',body k x s=some (.go s')/\I (k+1) s')->I k s->∃s',eD body xs k s=some (.go s')/\I N s'
 | [],k,s,hN,h,hi=>⟨s,rfl,by simp only [List.length_nil,Nat.add_zero]at hN;rw [<- hN];exact hi⟩
 | x::xs,k,s,hN,h,hi=>by
  simp only [List.length_cons]at hN
  obtain ⟨s1,h1,h2⟩:=h k x s (by simp) (by omega) hi
  obtain ⟨s2,h3,h4⟩:=Al I N xs (k+1) s1 (by omega) (λk x s hx=>h k x s (by simp [hx])) h2
  exact⟨s2,by simp only [eD,h1,ob_];exact h3,h4⟩
theorem oM {α σ ρ:Type} {body:Nat->α->σ->Option (Ctl σ ρ)} (I:Nat->σ->Prop) {xs:List α} {s:σ} (hl:xs.length<=1000000000000) (h:∀k x s,x∈xs->k<xs.length->I k s->∃s',body k x s=some (.go s')/\I (k+1) s') (h0:I 0 s):∃s',lm xs s body=some (.go s')/\I xs.length s':=by
 obtain ⟨s',h1,h2⟩:=Al I xs.length xs 0 s (by omega) h h0
 exact⟨s',by rw [eX hl];exact h1,h2⟩
theorem jk {σ ρ τ:Type} (s:σ) (f:σ->Option τ) (g:ρ->Option τ):eZ (.go s) f g=f s:=rfl
theorem En {σ ρ τ:Type} (r:ρ) (f:σ->Option τ) (g:ρ->Option τ):eZ (.ret r) f g=g r:=rfl
theorem nO {α:Type} (xs:List α) (k:Nat):idx xs (k:Int)=xs[k]? := by simp [idx]
theorem dC {n:Int} (h : -9223372036854775808<=n/\n<=9223372036854775807):w64 n=n:=Ey n h
theorem toL (s:ByteArray):s.toList=s.data.toList:=Go.Lib.toList_data s
theorem uL {a b:ByteArray} (h:a.toList=b.toList):a=b:=by
 rw [toL,toL]at h
 obtain ⟨⟨a⟩⟩:=a
 obtain ⟨⟨b⟩⟩:=b
 simp only at h
 rw [h]
theorem iG (a b:ByteArray):sEq a b=true↔a=b:=by
 simp only [sEq,beq_iff_eq]
 exact⟨uL,λh=>by rw [h]⟩
theorem CX (a b:ByteArray):sEq a b=decide (a=b):=by
 rw [Bool.eq_iff_iff,iG];simp
theorem zk (a b:ByteArray):sNe a b = !decide (a=b):=by
 have:=CX a b;simp only [sEq,sNe]at *;rw [this]
def lt (a b:ByteArray):Prop:=a.toList<b.toList
theorem u7 (a:ByteArray):¬lt a a:=List.lt_irrefl a.toList
theorem lt_trans {a b c:ByteArray} (h:lt a b) (k:lt b c):lt a c:=List.lt_trans h k
theorem sNe_nil (a:ByteArray):sNe a ⟨#[]⟩=decide (a.size≠0):=by
 rw [zk,Go.Lib.size_eq,Bool.eq_iff_iff]
 simp only [Bool.not_eq_true',decide_eq_false_iff_not,decide_eq_true_eq,ne_eq]
 refine not_congr ⟨λh=>by rw [h];rfl,λh => ?_⟩
 exact uL (by rw [toL,List.eq_nil_of_length_eq_zero h,toL])
end Go.Eng

open Go Go.Eng
namespace Go.Proofs.YtnfedlledilojaaGreatDoor.Law
set_option linter.unusedVariables false
set_option linter.unusedSimpArgs false
def Ok (s:Stream) (b:Int):Prop:=0<=s.f_at/\s.f_at<=b
theorem Ok.mono {s:Stream} {b c:Int} (h:Ok s b) (hc:b<=c):Ok s c:=⟨h.1,Int.le_trans h.2 hc⟩
theorem wS (x n:Int) (h:1<=n) (hn:n<=4611686018427387904):∃r,kW x n=some r/\0<=r/\r<n:=by
 have h1:x.tmod n<n:=Int.tmod_lt_of_pos x (by omega)
 have h2 : -n<x.tmod n:=Int.lt_tmod_of_pos x (by omega)
 have hb:decide (n<1)=false:=by simp;omega
 have hn0:n≠0:=by omega
 simp only [kW,hb,cond_false,Ee,if_neg hn0,ob_]
 cases hd:decide (x.tmod n<0)with
 | true =>
  simp only [decide_eq_true_eq]at hd
  exact⟨_,rfl,by rw [dC (by omega)];omega,by rw [dC (by omega)];omega⟩
 | false =>
  simp only [decide_eq_false_iff_not]at hd
  exact⟨_,rfl,by omega,h1⟩
theorem lX (s:Stream) (n:Int) {b:Int} (hs:Ok s b) (hb:b<=1000000) (h:1<=n) (hn:n<=4611686018427387904):∃r s',bg s n=some (r,s')/\0<=r/\r<n/\Ok s' (b+1):=by
 obtain ⟨h0,h1⟩:=hs
 have e1:w64 (s.f_at+1)=s.f_at+1:=dC (by omega)
 have e2:w64 (s.f_at+1-1)=s.f_at:=by rw [dC (by omega)];omega
 simp only [bg,e1,e2]
 by_cases hl:s.L.length=0
 ·have:((s.L.length:Int)==0)=true:=by simp [hl]
  simp only [this,cond_true]
  obtain ⟨r,hr,h2,h3⟩:=wS (w64 ((s.f_at+1)*7919)) n h hn
  exact⟨r,_,by rw [hr];rfl,h2,h3,⟨by show 0<=s.f_at+1;omega,by show s.f_at+1<=b+1;omega⟩⟩
 ·have hne:(s.L.length:Int)≠0:=by omega
  have:((s.L.length:Int)==0)=false:=by simpa using hl
  simp only [this,cond_false,Ee,Eg,if_neg hne,ob_]
  have h2:0<=s.f_at.tmod s.L.length:=Int.tmod_nonneg _ h0
  have hp:(0:Int)<(s.L.length:Int):=by have:=Nat.pos_of_ne_zero hl;omega
  have h3:s.f_at.tmod s.L.length<s.L.length:=Int.tmod_lt_of_pos _ hp
  have hi:idx s.L (s.f_at.tmod s.L.length)=some s.L[(s.f_at.tmod s.L.length).toNat]:=by
   simp only [idx,if_pos h2]
   exact List.getElem?_eq_getElem (by omega)
  obtain ⟨r1,hr1,_,_⟩:=wS s.L[(s.f_at.tmod s.L.length).toNat] 1073741824 (by decide) (by decide)
  simp only [hi,hr1,ob_]
  generalize w64 (r1+_)=y
  obtain ⟨r,hr,h4,h5⟩:=wS y n h hn
  exact⟨r,_,by rw [hr];rfl,h4,h5,⟨by show 0<=s.f_at+1;omega,by show s.f_at+1<=b+1;omega⟩⟩
theorem flip_ok (s:Stream) (n:Int) {b:Int} (hs:Ok s b) (hb:b<=1000000) (h:1<=n) (hn:n<=1000):∃r s',dB s n=some (r,s')/\Ok s' (b+1):=by
 obtain ⟨r,s',h1,_,_,h2⟩:=lX s n hs hb h (by omega)
 exact⟨r==0,s',by simp only [dB,h1,ob_],h2⟩
theorem Cx {α:Type} {l:List α} {r:Int} (h0:0<=r) (h1:r<l.length):∃y,idx l r=some y/\y∈l:=by
 refine⟨l[r.toNat]'(by omega),?_,List.getElem_mem _⟩
 simp only [idx,if_pos h0]
 exact List.getElem?_eq_getElem (by omega)
theorem pick_ok (s:Stream) (l:List Int) {b:Int} (hs:Ok s b) (hb:b<=1000000) (h:1<=l.length) (hn:l.length<=1000):∃r s',cK s l=some (r,s')/\r∈l/\Ok s' (b+1):=by
 obtain ⟨r,s',h1,h2,h3,h4⟩:=lX s l.length hs hb (by omega) (by omega)
 obtain ⟨y,hy,hm⟩:=Cx h2 h3
 exact⟨y,s',by simp only [cK,h1,hy,ob_],hm,h4⟩
theorem some_ok (s:Stream) (l:List ByteArray) {b:Int} (hs:Ok s b) (hb:b<=1000000) (h:1<=l.length) (hn:l.length<=1000):∃r s',bU s l=some (r,s')/\r∈l/\Ok s' (b+1):=by
 obtain ⟨r,s',h1,h2,h3,h4⟩:=lX s l.length hs hb (by omega) (by omega)
 obtain ⟨y,hy,hm⟩:=Cx h2 h3
 exact⟨y,s',by simp only [bU,h1,hy,ob_],hm,h4⟩
theorem EZ (s:Stream) (lo hi:Int) {b:Int} (hs:Ok s b) (hb:b<=1000000) (h:lo<=hi) (h1 : -1000000000000<=lo) (h2:hi<=1000000000000):∃r s',dS s lo hi=some (r,s')/\lo<=r/\r<=hi/\Ok s' (b+1):=by
 have hd:decide (hi<lo)=false:=by simp;omega
 have e1:w64 (hi-lo)=hi-lo:=dC (by omega)
 have e2:w64 (hi-lo+1)=hi-lo+1:=dC (by omega)
 obtain ⟨r,s',k1,k2,k3,k4⟩:=lX s (hi-lo+1) hs hb (by omega) (by omega)
 simp only [dS,hd,cond_false,e1,e2,k1,ob_]
 exact⟨_,s',rfl,by rw [dC (by omega)];omega,by rw [dC (by omega)];omega,k4⟩
def oP (b:UInt8):Bool:=decide (97<=b.toNat)&&decide (b.toNat<=122)
def Ab (b:UInt8):Bool:=(decide (48<=b.toNat)&&decide (b.toNat<=57))||(b.toNat==45)||(b.toNat==95)
def okB (i:Nat) (b:UInt8):Bool:=oP b||(decide (0<i)&&Ab b)
def bN (s:ByteArray) (i:Nat):UInt8:=s.data.toList.getD i 0
def keyB (s:ByteArray):Bool:=decide (s.size≠0)&&(decide (s.size<=40)&&(List.range s.size).all λi=>okB i (bN s i))
theorem ow (s:ByteArray) (k:Nat) (h:k<s.size):qI s (k:Int)=some (bN s k):=by
 have h1:s[k]? = some s[k]:=by simp [h]
 have h2:bN s k=s[k]:=by
  have hl:k<s.data.toList.length:=by rw [<- Go.Lib.size_eq];exact h
  simp only [bN,List.getD_eq_getElem?_getD,List.getElem?_eq_getElem hl,Option.getD_some]
  simp
  rfl
 simp only [qI,if_pos (Int.natCast_nonneg k),Int.toNat_natCast,h1,h2]
theorem AA (s:ByteArray) (k:Nat) (hs:s.size<=1000000000):fP s (k:Int)=some (if k<s.size then (bif okB k (bN s k)then .go ((k+1:Nat):Int)else .ret false)else .brk (k:Int)):=by
 unfold fP
 by_cases h:k<s.size
 ·have hd:decide ((k:Int)<(s.size:Int))=true:=by simp;omega
  have hw:w64 ((k:Int)+1)=((k+1:Nat):Int):=by rw [dC (by omega)];omega
  simp only [hd,cond_true,ow s k h,ob_,if_pos h,hw]
  generalize bN s k=b
  simp only [okB,oP,Ab]
  have e1:decide ((b.toNat:Int)>=97)=decide (97<=b.toNat):=decide_eq_decide.2 (by omega)
  have e2:decide ((b.toNat:Int)<=122)=decide (b.toNat<=122):=decide_eq_decide.2 (by omega)
  have e3:decide ((k:Int)>0)=decide (0<k):=decide_eq_decide.2 (by omega)
  have e4:decide ((b.toNat:Int)>=48)=decide (48<=b.toNat):=decide_eq_decide.2 (by omega)
  have e5:decide ((b.toNat:Int)<=57)=decide (b.toNat<=57):=decide_eq_decide.2 (by omega)
  have e6:((b.toNat:Int)==45)=(b.toNat==45):=by rw [Bool.eq_iff_iff];simp;omega
  have e7:((b.toNat:Int)==95)=(b.toNat==95):=by rw [Bool.eq_iff_iff];simp;omega
  rw [e1,e2,e3,e4,e5,e6,e7]
  cases decide (97<=b.toNat) <;> cases decide (b.toNat<=122) <;> cases decide (0<k) <;> cases decide (48<=b.toNat) <;> cases decide (b.toNat<=57) <;> cases (b.toNat==45) <;> cases (b.toNat==95) <;> rfl
 ·have hd:decide ((k:Int)<(s.size:Int))=false:=by simp;omega
  simp only [hd,cond_false,if_neg h]
theorem wY (s:ByteArray) (hs:s.size<=1000000000):∀(n k:Nat),k+n=s.size->dR (λi=>fP s i) (n+1) (k:Int)=some (bif (List.range' k n).all (λj=>okB j (bN s j))then .go (s.size:Int)else .ret false)
 | 0,k,h=>by
  have hk:¬k<s.size:=by omega
  simp only [dR,AA s k hs,if_neg hk,ob_,List.range'_zero,List.all_nil,cond_true]
  rw [show (k:Int)=s.size by omega]
 | n+1,k,h=>by
  have hk:k<s.size:=by omega
  rw [dR,AA s k hs,if_pos hk,ob_,List.range'_succ,List.all_cons]
  cases okB k (bN s k)with
  | true=>simp only [cond_true,Bool.true_and];exact wY s hs n (k+1) (by omega)
  | false=>rfl
theorem qV (s:ByteArray) (hs:s.size<=1000000000):iY s=some (keyB s):=by
 have h:=ll (wY s hs s.size 0 (by omega))
 unfold iY
 have h':qh (0:Int) (λs_1=>fP s s_1)=_:=h
 rw [h',ob_,<- List.range_eq_range']
 have e:decide ((s.size:Int)<=40)=decide (s.size<=40):=decide_eq_decide.2 (by omega)
 simp only [keyB]
 cases (List.range s.size).all (λi=>okB i (bN s i))with
 | true =>
  rw [cond_true,jk,sNe_nil,e,Bool.and_true]
  cases decide (s.size≠0) <;> rfl
 | false=>simp only [cond_false,En,Bool.and_false]
def jV (t:ByteArray) (b:UInt8):Bool := !decide (ixB t (b.toNat:Int)<0)
theorem only_L1 (s t:ByteArray) (k x:Nat) (h:k<s.size):iX s t k x ()=some (bif jV t (bN s k)then .go ()else .ret false):=by
 simp only [iX,ow s k h,strings_IndexByte,bD,ob_,jV]
 cases decide (ixB t ((bN s k).toNat:Int)<0) <;> rfl
theorem Ac (s t:ByteArray):∀(xs:List Nat) (k:Nat),k+xs.length=s.size->eD (λk x u=>iX s t k x u) xs k ()=some (bif (List.range' k xs.length).all (λj=>jV t (bN s j))then .go ()else .ret false)
 | [],k,h=>rfl
 | x::xs,k,h=>by
  simp only [List.length_cons]at h ⊢
  have hk:k<s.size:=by omega
  rw [eD,only_L1 s t k x hk,ob_,List.range'_succ,List.all_cons]
  cases jV t (bN s k)with
  | true=>simp only [cond_true,Bool.true_and];exact Ac s t xs (k+1) (by omega)
  | false=>rfl
theorem uP (s t:ByteArray) (hs:s.size<=1000000000):iw s t=some ((List.range s.size).all λi=>jV t (bN s i)):=by
 unfold iw
 rw [Int.toNat_natCast,eX (by simp;omega),Ac s t _ 0 (by simp),ob_,List.length_range,<- List.range_eq_range']
 cases (List.range s.size).all (λi=>jV t (bN s i)) <;> rfl
def yE:ByteArray:=⟨#[97,98,99,100,101,102,103,104,105,106,107,108,109,110,111,112,113,114,115,116,117,118,119,120,121,122]⟩
def vW:ByteArray:=⟨#[97,98,99,100,101,102,103,104,105,106,107,108,109,110,111,112,113,114,115,116,117,118,119,120,121,122,48,49,50,51,52,53,54,55,56,57,45,95]⟩
theorem yh:∀n:Fin 256,jV yE (UInt8.ofNat n.val)=oP (UInt8.ofNat n.val)/\jV vW (UInt8.ofNat n.val)=(oP (UInt8.ofNat n.val)||Ab (UInt8.ofNat n.val)):=by decide +kernel
theorem Aa (b:UInt8):jV yE b=oP b:=by
 have:=(yh ⟨b.toNat,b.toNat_lt⟩).1
 simpa using this
theorem Bb (b:UInt8):jV vW b=(oP b||Ab b):=by
 have:=(yh ⟨b.toNat,b.toNat_lt⟩).2
 simpa using this
theorem yx (s:ByteArray) (hs:s.size<=1000000000):pK s=some (keyB s):=by
 unfold pK nA
 have e1:decide ((1:Int)<=(s.size:Int))=decide (s.size≠0):=decide_eq_decide.2 (by omega)
 have e2:decide ((s.size:Int)<=40)=decide (s.size<=40):=decide_eq_decide.2 (by omega)
 rw [e1,e2]
 by_cases h1:s.size≠0
 ·by_cases h2:s.size<=40
  ·have hsub:ik s 0 1=some (s.extract 0 1):=by
    unfold ik;rw [if_pos ⟨by omega,by omega,by decide,by show 1<=s.size;omega⟩];rfl
   have hsz:(s.extract 0 1).size=1:=by simp [ByteArray.size_extract];omega
   have hb:bN (s.extract 0 1) 0=bN s 0:=by
    obtain ⟨⟨l⟩⟩:=s
    simp only [bN]
    cases l with
    | nil=>exact absurd rfl h1
    | cons b l=>simp [ByteArray.extract,ByteArray.copySlice]
   simp only [decide_eq_true h1,decide_eq_true h2,cond_true,ob_,hsub]
   have o1:=uP (s.extract 0 1) yE (by omega)
   have o2:=uP s vW hs
   unfold yE at o1
   unfold vW at o2
   rw [o1,ob_,o2]
   have e3:(List.range (s.extract 0 1).size).all (λi=>jV yE (bN (s.extract 0 1) i))=oP (bN s 0):=by
    rw [hsz]
    simp only [List.range_succ,List.range_zero,List.nil_append,List.all_cons,List.all_nil,Bool.and_true]
    rw [hb,Aa]
   have e3':=e3
   unfold yE at e3'
   rw [e3']
   have e4:∀i,jV vW (bN s i)=(oP (bN s i)||Ab (bN s i)):=λi=>Bb _
   have e5:keyB s=(oP (bN s 0)&&(List.range s.size).all (λi=>jV vW (bN s i))):=by
    simp only [keyB,decide_eq_true h1,decide_eq_true h2,Bool.true_and,e4]
    rw [Bool.eq_iff_iff]
    simp only [List.all_eq_true,List.mem_range,Bool.and_eq_true,okB,Bool.or_eq_true,decide_eq_true_eq]
    constructor
    ·intro h
     refine⟨?_,λi hi=>(h i hi).imp id (λh=>h.2)⟩
     rcases h 0 (by omega)with h|h
     ·exact h
     ·exact absurd h.1 (by omega)
    ·rintro ⟨h3,h4⟩ i hi
     by_cases e:i=0
     ·rw [e];exact .inl h3
     ·exact (h4 i hi).imp id (λh=>⟨by omega,h⟩)
   unfold vW at e5
   rw [e5]
   cases oP (bN s 0) <;> rfl
  ·simp only [decide_eq_true h1,decide_eq_false h2,cond_true,cond_false,ob_,keyB,Bool.false_and,Bool.and_false]
 ·simp only [decide_eq_false h1,cond_false,ob_,keyB,Bool.false_and]
def spl (c:UInt8):List UInt8->List (List UInt8)
 | []=>[[]]
 | b::l=>if b=c then []::spl c l else match spl c l with
  | []=>[[b]]
  | x::r=>(b::x)::r
theorem Fv (c:UInt8):∀l,spl c l ≠ []
 | []=>by simp [spl]
 | b::l=>by
  unfold spl
  split
  ·simp
  ·split <;> simp
theorem FK {c:UInt8}:∀{x:List UInt8},c∉x->spl c x=[x]
 | [],_=>rfl
 | b::x,h=>by
  have hb:b≠c:=λe=>h (by simp [e])
  have ih:=FK (x:=x) (λe=>h (List.mem_cons_of_mem _ e))
  unfold spl
  rw [if_neg hb,ih]
theorem CL {c:UInt8}:∀{x:List UInt8} (y:List UInt8),c∉x->spl c (x++c::y)=x::spl c y
 | [],y,_=>by
  show spl c (c::y)=_
  rw [spl,if_pos rfl]
 | b::x,y,h=>by
  have hb:b≠c:=λe=>h (by simp [e])
  have ih:=CL (x:=x) y (λe=>h (List.mem_cons_of_mem _ e))
  show spl c (b::(x++c::y))=_
  rw [spl,if_neg hb,ih]
theorem index_c {c b:UInt8} (h:b≠c) (l:List UInt8):Lib.index (b::l) [c]=if Lib.index l [c] == -1 then -1 else Lib.index l [c]+1:=by
 have hp:([c]:List UInt8).isPrefixOf (b::l)=false:=by simp [List.isPrefixOf,Ne.symm h]
 rw [Lib.index,hp];simp
theorem yl (c:UInt8):∀l:List UInt8,Lib.splitK [c] 0 (l.count c) l=spl c l
 | []=>rfl
 | b::l=>by
  have ih:=yl c l
  by_cases hb:b=c
  ·subst hb
   rw [List.count_cons_self,spl,if_pos rfl,<- ih,Lib.splitK]
   have h0:Lib.index (b::l) [b]=0:=by rw [Lib.index];simp [List.isPrefixOf]
   rw [h0]
   simp
  ·rw [List.count_cons_of_ne hb,spl,if_neg hb,<- ih]
   cases hn:l.count c with
   | zero=>rfl
   | succ n =>
    rw [Lib.splitK,Lib.splitK,index_c hb]
    have hg:=Lib.index_ge l [c]
    by_cases hm:Lib.index l [c] = -1
    ·rw [hm];rfl
    ·have e1:(Lib.index l [c] == -1)=false:=by simpa using hm
     rw [e1]
     simp only [Bool.false_eq_true,if_false]
     have e2:(Lib.index l [c]+1 == -1)=false:=by rw [beq_eq_false_iff_ne];omega
     rw [e2]
     simp only [Bool.false_eq_true,if_false,Nat.add_zero,List.length_cons,List.length_nil,Nat.zero_add]
     rw [show (Lib.index l [c]+1).toNat=(Lib.index l [c]).toNat+1 by omega]
     rfl
theorem Ai (c:UInt8) {s:ByteArray} (hs:s.size<4294967281):strings_Split s (⟨#[c]⟩:ByteArray)=some ((spl c s.data.toList).map λl=>(⟨l.toArray⟩:ByteArray)):=by
 have h1:(1:Nat)<=(⟨#[c]⟩:ByteArray).size:=Nat.le_refl 1
 show wC s (⟨#[c]⟩:ByteArray)=_
 unfold wC
 rw [if_pos ⟨hs,h1⟩]
 have e1:Lib.countB s (⟨#[c]⟩:ByteArray)=s.data.toList.count c:=by
  show Lib.count s.data.toList [c]=_
  exact Lib.count_one c _
 have e2:=Lib.splitB_data (⟨#[c]⟩:ByteArray) 0 (s.data.toList.count c) s
 have e3:(Lib.splitB (⟨#[c]⟩:ByteArray) 0 (s.data.toList.count c) s).map (λx=>x.data.toList)=spl c s.data.toList:=by
  rw [<- yl];exact e2
 rw [e1,<- e3,List.map_map]
 congr 1
 exact (List.map_id _).symm.trans (List.map_congr_left (λx _=>rfl))
def nX (b:UInt8):Bool:=decide (48<=b.toNat)&&decide (b.toNat<=57)
theorem digB_of {n:Nat} (h:n<10):(UInt8.ofNat (48+n)).toNat=48+n:=by
 rw [UInt8.toNat_ofNat'];omega
theorem ddS {u:Nat} (h:u<10):Lib.decDigits u=[UInt8.ofNat (48+u)]:=by rw [Lib.decDigits,dif_pos h]
theorem ddB {u:Nat} (h:¬u<10):Lib.decDigits u=Lib.decDigits (u / 10)++[UInt8.ofNat (48+u % 10)]:=by rw [Lib.decDigits,dif_neg h]
theorem tu:∀(l:List UInt8) (a m:Nat) (b:UInt8) (d:Nat),Lib.decFrom a l=some m->Lib.digitVal b=some d->Lib.decFrom a (l++[b])=some (m*10+d)
 | [],a,m,b,d,h,hd=>by
  simp only [Lib.decFrom,so_]at h
  subst h
  simp only [List.nil_append,Lib.decFrom,hd]
 | x::l,a,m,b,d,h,hd=>by
  simp only [List.cons_append,Lib.decFrom]at h ⊢
  cases hx:Lib.digitVal x with
  | none=>rw [hx]at h;cases h
  | some e =>
   rw [hx]at h
   exact tu l _ m b d h hd
theorem dd_ne (u:Nat):Lib.decDigits u ≠ []:=by
 by_cases h:u<10
 ·rw [ddS h];simp
 ·rw [ddB h];simp
theorem Cz (u:Nat) (h:u≠0):∀b l,Lib.decDigits u=b::l->b.toNat≠48:=by
 induction u using Nat.strongRecOn with
 | ind u ih =>
  intro b l e
  by_cases h1:u<10
  ·rw [ddS h1]at e
   simp only [List.cons.injEq]at e
   rw [<- e.1,digB_of h1]
   omega
  ·rw [ddB h1]at e
   cases hd:Lib.decDigits (u / 10)with
   | nil=>exact absurd hd (dd_ne _)
   | cons x r =>
    rw [hd,List.cons_append,List.cons.injEq]at e
    rw [<- e.1]
    exact ih (u / 10) (by omega) (by omega) x r hd
theorem xe {s:ByteArray} {k:Nat} (h:k<s.size):s.data.toList[k]? = some (bN s k):=by
 have hl:k<s.data.toList.length:=by rw [<- Go.Lib.size_eq];exact h
 unfold bN
 rw [List.getD_eq_getElem?_getD,List.getElem?_eq_getElem hl];rfl
theorem F7 {s:ByteArray} {b:UInt8} (h:0<s.size) (hl:s.size<1000000000) (hb:bN s 0=b) (h45:b≠45):strings_TrimPrefix s (⟨#[45]⟩:ByteArray)=some s:=by
 unfold strings_TrimPrefix bA bE
 have h1:((⟨#[45]⟩:ByteArray).size:Int)=1:=rfl
 have h2:ik s 0 1=some (s.extract 0 1):=by
  unfold ik
  rw [if_pos (by omega)];rfl
 have h3:sEq (s.extract 0 1) (⟨#[45]⟩:ByteArray)=false:=by
  cases hq:sEq (s.extract 0 1) (⟨#[45]⟩:ByteArray)with
  | false=>rfl
  | true =>
   exfalso
   have e:=(iG _ _).1 hq
   have e2:(s.extract 0 1).data.toList=s.data.toList.take 1:=by
    rw [ByteArray.data_extract,Array.toList_extract]
    rfl
   have e3:=congrArg (λx:ByteArray=>x.data.toList[0]?) e
   simp only [e2]at e3
   have hg:=xe h
   rw [hb]at hg
   rw [List.getElem?_take,if_pos (by omega),hg]at e3
   have:(⟨#[45]⟩:ByteArray).data.toList[0]? = some 45:=rfl
   rw [this,so_]at e3
   exact h45 e3
 rw [h1,decide_eq_true (by omega),cond_true,h2,ob_,h3]
 rfl
def cZ (s:ByteArray):Prop:=s.size<=1000
theorem bX {s:ByteArray} (h:Nat.ble s.size 1000=true):cZ s:=Nat.le_of_ble_eq_true h
theorem kF {α:Type} (xs ys:List α) (h:xs.length+ys.length<=1000000000):ut xs ys=some (xs++ys):=by unfold ut;rw [if_pos h]
theorem lZ {α:Type} {p:α->Prop} {xs:List α} {i:Nat} {a:α} (h:∀x∈xs,p x) (ha:p a):∀x∈xs.set i a,p x:=λx hx=>by
 rcases List.mem_or_eq_of_mem_set hx with h1|h1
 ·exact h x h1
 ·rw [h1];exact ha
theorem inR_ok {α:Type} {i:Int} {xs:List α} (h0:0<=i) (h1:i<xs.length):inR i xs=some ():=by unfold inR;rw [if_pos ⟨h0,by omega⟩]
def uC (e:Int):Ctl Unit Int:=bif e==0 then .go ()else .ret e
theorem sG (e:Int):eZ (uC e) (λ_=>some (0:Int)) (λr=>some r)=some e:=by
 unfold uC
 cases h:e==0 with
 | true=>simp only [cond_true,jk];rw [eq_of_beq h]
 | false=>rfl
theorem wJ {α:Type} {l:List α} {k:Nat} {x:α} (h:l[k]? = some x) (hk:0<k) (hl:l.length<=1000000000):∃y,idx l (w64 ((k:Int)-1))=some y/\l[k-1]? = some y:=by
 have hlt:k<l.length:=(List.getElem?_eq_some_iff.1 h).1
 rw [dC (by omega),show (k:Int)-1=((k-1:Nat):Int) by omega,nO]
 exact⟨l[k-1],List.getElem?_eq_getElem (by omega),List.getElem?_eq_getElem (by omega)⟩
def zf {α:Type} (stp:Option α->α->Int):Option α->List α->Int
 | _,[]=>0
 | p,x::xs=>bif stp p x==0 then zf stp (some x) xs else stp p x
def sZ {α:Type} (l:List α) (k:Nat):Option α:=if k=0 then none else l[k-1]?
theorem pu {α:Type} {stp:Option α->α->Int} {body:Nat->α->Unit->Option (Ctl Unit Int)} (l:List α):∀(xs:List α) (k:Nat),l.drop k=xs->(∀k x,l[k]? = some x->body k x ()=some (uC (stp (sZ l k) x))) ->
  eD body xs k ()=some (uC (zf stp (sZ l k) xs))
 | [],k,h,hb=>rfl
 | x::xs,k,h,hb=>by
  have hg:=EE h
  rw [eD,hb k x hg,ob_,zf]
  cases he:stp (sZ l k) x==0 with
  | true =>
   simp only [uC,he,cond_true]
   rw [pu l xs (k+1) (bJ h) hb]
   have:sZ l (k+1)=some x:=by simp [sZ,hg]
   rw [this];rfl
  | false=>simp only [uC,he,cond_false]
theorem chkG_0 {α:Type} {stp:Option α->α->Int}:∀{l:List α} {p:Option α},zf stp p l=0->match l with
  | []=>True
  | x::xs=>stp p x=0/\zf stp (some x) xs=0
 | [],_,_=>trivial
 | x::xs,p,h=>by
  rw [zf]at h
  cases he:stp p x==0 with
  | true=>rw [he]at h;exact⟨eq_of_beq he,h⟩
  | false=>rw [he,cond_false]at h;rw [h]at he;cases he
def oL (n lo hi:Int):Bool:=decide (n<lo)||decide (n>hi)
theorem wW (n lo hi:Int):fq n lo hi=some (oL n lo hi):=by
 unfold fq oL
 cases decide (n<lo) <;> cases decide (n>hi) <;> rfl
theorem in_eq (n lo hi:Int):nA n lo hi=some (!oL n lo hi):=by
 unfold nA oL
 have e1:decide (lo<=n) = !decide (n<lo):=by rw [Bool.eq_iff_iff];simp
 have e2:decide (n<=hi) = !decide (n>hi):=by rw [Bool.eq_iff_iff];simp
 rw [e1,e2]
 cases decide (n<lo) <;> cases decide (n>hi) <;> rfl
theorem outB_f {n lo hi:Int} (h:oL n lo hi=false):lo<=n/\n<=hi:=by
 simp only [oL,Bool.or_eq_false_iff,decide_eq_false_iff_not]at h;omega
def jY (n:Int):Bool := !oL n 0 345686399999
theorem og (n:Int):dK n=some (jY n):=by
 unfold dK jY oL
 have e1:decide (n>=0) = !decide (n<0):=by rw [Bool.eq_iff_iff];simp
 have e2:decide (n<345686400000) = !decide (n>345686399999):=by rw [Bool.eq_iff_iff];simp;omega
 rw [e1,e2]
 cases decide (n<0) <;> cases decide (n>345686399999) <;> rfl
theorem zH (n:Int):lu n=some (jY n):=by
 unfold lu;rw [in_eq];rfl
theorem wT {n:Int} (h:jY n=true):0<=n/\n<=345686399999:=by
 unfold jY at h;exact outB_f (by simpa using h)
def or0 (a b:Int):Int:=bif a==0 then b else a
theorem sj (a b:ByteArray):(lt a b/\qy a b = -1)\/(a=b/\qy a b=0)\/(lt b a/\qy a b=1):=by
 have key:∀(x y:List UInt8),(x<y/\Lib.compareBytes x y = -1)\/(x=y/\Lib.compareBytes x y=0)\/(y<x/\Lib.compareBytes x y=1):=by
  intro x
  induction x with
  | nil=>intro y;cases y with
   | nil=>exact .inr (.inl ⟨rfl,rfl⟩)
   | cons b y=>exact .inl ⟨by simp,rfl⟩
  | cons a x ih=>intro y;cases y with
   | nil=>exact .inr (.inr ⟨by simp,rfl⟩)
   | cons b y =>
    simp only [Lib.compareBytes,List.cons_lt_cons_iff,List.cons.injEq]
    by_cases h1:a<b
    ·exact .inl ⟨.inl h1,by rw [if_pos h1]⟩
    ·by_cases h2:b<a
     ·exact .inr (.inr ⟨.inl h2,by rw [if_neg h1,if_pos h2]⟩)
     ·have e:a=b:=UInt8.le_antisymm (UInt8.not_lt.1 h2) (UInt8.not_lt.1 h1)
      subst e
      rw [if_neg h1,if_neg h1]
      rcases ih y with⟨h,k⟩|⟨h,k⟩|⟨h,k⟩
      ·exact .inl ⟨.inr ⟨rfl,h⟩,k⟩
      ·exact .inr (.inl ⟨⟨rfl,h⟩,k⟩)
      ·exact .inr (.inr ⟨.inr ⟨rfl,h⟩,k⟩)
 unfold qy lt
 rw [toL,toL]
 rcases key a.data.toList b.data.toList with⟨h,k⟩|⟨h,k⟩|⟨h,k⟩
 ·exact .inl ⟨h,k⟩
 ·exact .inr (.inl ⟨uL (by rw [toL,toL];exact h),k⟩)
 ·exact .inr (.inr ⟨h,k⟩)
theorem qA (a b:ByteArray):strings_Compare a b=some (qy a b):=rfl
def Ef (a b:Int):Int:=if a<b then -1 else if a>b then 1 else 0
theorem yC (a b:Int):cmp_Compare_int a b=some (Ef a b):=by
 have e:∀x:Int,(x != x)=false:=by simp
 unfold cmp_Compare_int cmp_isNaN_int Ef
 simp only [e,ob_,cond_false]
 by_cases h:a<b
 ·simp only [decide_eq_true h,cond_true,if_pos h]
 ·by_cases h2:a>b
  ·simp only [decide_eq_false h,decide_eq_true h2,cond_true,cond_false,if_neg h,if_pos h2]
  ·simp only [decide_eq_false h,decide_eq_false h2,cond_false,if_neg h,if_neg h2]
theorem F4 (a b:Int):jH [a,b]=some (or0 a b):=by
 unfold jH or0
 rw [eX (by simp)]
 simp only [eD,jL]
 cases ha:a==0 with
 | false =>
  have:(a != 0)=true:=by simp [bne,ha]
  simp only [this,cond_true,cond_false,ob_,eZ]
 | true =>
  have:(a != 0)=false:=by simp [bne,ha]
  simp only [this,cond_true,cond_false,ob_]
  cases hb:b==0 with
  | false =>
   have:(b != 0)=true:=by simp [bne,hb]
   simp only [this,cond_true,ob_,eZ]
  | true =>
   have:(b != 0)=false:=by simp [bne,hb]
   simp only [this,cond_false,ob_,eZ]
   rw [eq_of_beq hb]
theorem wu (n:Int):IntKind.u64.wrap n=n % 18446744073709551616:=by simp [IntKind.wrap,IntKind.bits,IntKind.signed]
theorem wu_id {n:Int} (h0:0<=n) (h1:n<18446744073709551616):IntKind.u64.wrap n=n:=by rw [wu];exact Int.emod_eq_of_lt h0 h1
theorem wu_in (n:Int):0<=IntKind.u64.wrap n/\IntKind.u64.wrap n<18446744073709551616:=by rw [wu];omega
abbrev BB (l:List UInt8):ByteArray:=⟨l.toArray⟩
theorem bb_of (s:ByteArray):s=BB s.data.toList:=rfl
theorem EJ (l m:List UInt8):BB l++BB m=BB (l++m):=by
  apply uL;rw [toL,toL];simp
theorem dz (l:List UInt8):(BB l).size=l.length:=by show l.toArray.size=_;simp
theorem pG {x y:ByteArray} (h:x.size+y.size<=1000000000000):gG x y=some (x++y):=by
  unfold gG
  rw [if_neg]
  have:IntKind.i64.max=9223372036854775807:=by decide
  rw [this];omega
theorem ry (x y:ByteArray):(x++y).size=x.size+y.size:=ByteArray.size_append
def yw (h:Int) (b:UInt8):Int:=IntKind.u64.wrap ((Ed .u64 h (IntKind.u64.wrap (b.toNat:Int)))*1099511628211)
def fnv (bs:List UInt8):Int:=bs.foldl yw 14695981039346656037
theorem CO:∀(bs:List UInt8) (h:Int),0<=h/\h<18446744073709551616->0<=bs.foldl yw h/\bs.foldl yw h<18446744073709551616
  | [],h,hh=>hh
  | b::bs,h,hh=>CO bs _ (wu_in _)
theorem fnv_in (bs:List UInt8):0<=fnv bs/\fnv bs<18446744073709551616:=CO bs _ (by decide)
theorem uh:∀(bs:List UInt8) (k:Nat) (h:Int),eD (λk x u=>lU k x u) (bs.map λb=>(b.toNat:Int)) k h=some (.go (bs.foldl yw h))
  | [],k,h=>rfl
  | b::bs,k,h=>by
    simp only [List.map_cons,eD]
    exact uh bs (k+1) (yw h b)
def Bz (n:Nat):UInt8:=if n<10 then UInt8.ofNat (48+n)else UInt8.ofNat (87+n)
def Cm:Nat->Nat->List UInt8
  | 0,_=>[]
  | k+1,u=>Cm k (u / 16)++[Bz (u % 16)]
theorem Ao:∀(k u:Nat),(Cm k u).length=k
  | 0,u=>rfl
  | k+1,u=>by simp [Cm,Ao k]
def qi:ByteArray:=⟨#[48,49,50,51,52,53,54,55,56,57,97,98,99,100,101,102]⟩
def digs:ByteArray:=⟨#[48,49,50,51,52,53,54,55,56,57,97,98,99,100,101,102,103,104,105,106,107,108,109,110,111,112,113,114,115,116,117,118,119,120,121,122]⟩
theorem El:∀n:Fin 16,ik qi (n.val:Int) ((n.val+1:Nat):Int)=some (BB [Bz n.val])/\qI digs (n.val:Int)=some (Bz n.val):=by decide +kernel
theorem Fj {n:Nat} (h:n<16):ik qi (n:Int) ((n+1:Nat):Int)=some (BB [Bz n]):=(El ⟨n,h⟩).1
theorem qj:∀(xs:List Nat) (k:Nat) (u:Nat) (out:List UInt8),u<18446744073709551616->xs.length+out.length<=1000->∃u',eD (λk x s=>iQ k x s) xs k ((u:Int),BB out)=some (.go (u',BB (Cm xs.length u++out)))
  | [],k,u,out,h,hl=>⟨_,rfl⟩
  | x::xs,k,u,out,h,hl=>by
    simp only [List.length_cons]at hl
    obtain ⟨u',hu'⟩:=qj xs (k+1) (u / 16) (Bz (u % 16)::out) (by omega) (by simp;omega)
    refine⟨u',?_⟩
    simp only [eD]
    have hm:((u:Int).tmod 16)=((u % 16:Nat):Int):=rfl
    have hd:((u:Int).tdiv 16)=((u / 16:Nat):Int):=rfl
    have hlt:u % 16<16:=Nat.mod_lt _ (by omega)
    have hstep:iQ k x ((u:Int),BB out)=some (.go (((u / 16:Nat):Int),BB (Bz (u % 16)::out))):=by
      unfold iQ
      simp only [hm,hd]
      rw [wu_id (n:=((u % 16:Nat):Int)+1) (by omega) (by omega),wu_id (n:=((u / 16:Nat):Int)) (by omega) (by omega)]
      have h1:ik (⟨#[48,49,50,51,52,53,54,55,56,57,97,98,99,100,101,102]⟩:ByteArray) ((u % 16:Nat):Int) (((u % 16:Nat):Int)+1)=some (BB [Bz (u % 16)]):=Fj hlt
      rw [h1]
      simp only [ob_]
      rw [pG (by rw [dz,dz];simp;omega),EJ]
      rfl
    rw [hstep]
    simp only [ob_]
    rw [hu']
    simp [Cm]
theorem BS (s:ByteArray) (hs:s.size<=1000000000):lL s=some (BB (Cm 16 (fnv s.data.toList).toNat)):=by
  unfold lL
  have hl:(aI s).length<=1000000000000:=by simp only [aI,List.length_map];rw [<- Go.Lib.size_eq];omega
  rw [eX hl]
  have h1:=uh s.data.toList 0 14695981039346656037
  unfold aI
  rw [h1]
  simp only [ob_,jk]
  obtain ⟨b1,b2⟩:=fnv_in s.data.toList
  rw [eX (by decide)]
  obtain ⟨u',hu⟩:=qj (List.range (16:Int).toNat) 0 (fnv s.data.toList).toNat [] (by omega) (by decide)
  have e:(((fnv s.data.toList).toNat:Nat):Int)=s.data.toList.foldl yw 14695981039346656037:=Int.toNat_of_nonneg b1
  rw [e]at hu
  have e2:BB []=(⟨#[]⟩:ByteArray):=rfl
  rw [e2]at hu
  rw [hu]
  simp only [ob_,jk,List.append_nil]
  rfl
def nums (l:List UInt8):List Int:=l.map λb=>(b.toNat:Int)
theorem Br (l:List UInt8):Go.strOfNums (nums l)=BB l:=by
  unfold Go.strOfNums nums
  rw [List.map_map]
  have:(l.map ((λn:Int=>UInt8.ofNat n.toNat) ∘ λb:UInt8=>(b.toNat:Int)))=l:=by
    have:((λn:Int=>UInt8.ofNat n.toNat) ∘ λb:UInt8=>(b.toNat:Int))=id:=by
      funext b;simp
    rw [this,List.map_id]
  rw [this]
def Med (n:Int):Prop := -1000000000000000<=n/\n<=1000000000000000
theorem rA {n:Int} (h:Med n):strconv_Itoa n=some (BB (Go.Lib.itoa n)):=by
 unfold strconv_Itoa CJ
 unfold Med at h
 rw [if_pos ⟨by omega,by omega⟩]
theorem fE {n:Int} (h:Med n):(Go.Lib.itoa n).length<=21:=by
 unfold Med at h
 exact Go.Lib.itoa_length_le n (by omega) (by omega)
theorem iB (l m:List UInt8) (h:l.length+m.length<=1000000000000):gG (BB l) (BB m)=some (BB (l++m)):=by
 rw [pG (by rw [dz,dz];exact h),EJ]
theorem join_le (sep:List UInt8) (m:Nat):∀(ls:List (List UInt8)),(∀x∈ls,x.length<=m)->(Go.Lib.join ls sep).length<=ls.length*(m+sep.length)
 | [],h=>by simp [Go.Lib.join_nil]
 | x::r,h=>by
  have h1:∀(r:List (List UInt8)),(∀x∈r,x.length<=m)->(Go.Lib.joinTail sep r).length<=r.length*(m+sep.length):=by
   intro r
   induction r with
   | nil=>intro _;simp [Go.Lib.joinTail]
   | cons y r ih =>
    intro hy
    have e:(Go.Lib.joinTail sep (y::r))=sep++y++Go.Lib.joinTail sep r:=by simp [Go.Lib.joinTail]
    rw [e,List.length_append,List.length_append,List.length_cons,Nat.add_mul]
    have:=ih (λx hx=>hy x (List.mem_cons_of_mem _ hx))
    have:=hy y (by simp)
    omega
  rw [Go.Lib.join_cons,List.length_append,List.length_cons,Nat.add_mul]
  have:=h1 r (λx hx=>h x (List.mem_cons_of_mem _ hx))
  have:=h x (by simp)
  omega
theorem E9 (ls:List (List UInt8)) (sep:List UInt8) (m:Nat) (h:∀x∈ls,x.length<=m) (hl:ls.length<=1000000) (hm:m+sep.length<=10000):strings_Join (ls.map BB) (BB sep)=some (BB (Go.Lib.join ls sep)):=by
 have h1:=join_le sep m ls h
 have h2:ls.length*(m+sep.length)<=1000000*10000:=Nat.mul_le_mul hl hm
 have e:(ls.map BB).map (λx=>x.data.toList)=ls:=by rw [List.map_map];exact List.map_id' ls
 unfold strings_Join CV
 rw [e]
 have e2:(BB sep).data.toList=sep:=rfl
 rw [e2,if_pos ⟨by simp;omega,by omega⟩]
theorem sW:∀(l:List Int) (k:Nat) (out:List ByteArray),(∀n∈l,Med n)->l.length+out.length<=1000000->eD (λk x s=>fK k x s) l k out=some (.go (out++l.map λn=>BB (Go.Lib.itoa n)))
 | [],k,out,h,hl=>by simp [eD]
 | n::l,k,out,h,hl=>by
  simp only [List.length_cons]at hl
  have ih:=sW l (k+1) (out++[BB (Go.Lib.itoa n)]) (λx hx=>h x (List.mem_cons_of_mem _ hx)) (by simp;omega)
  have hstep:fK k n out=some (.go (out++[BB (Go.Lib.itoa n)])):=by
   unfold fK
   rw [rA (h n (by simp))]
   simp only [ob_]
   rw [kF _ _ (by simp;omega)]
   rfl
  simp only [eD,hstep,ob_]
  rw [ih]
  simp
theorem BU (l:List Int) (h:∀n∈l,Med n) (hl:l.length<=1000000):jQ l=some (BB (Go.Lib.join (l.map Go.Lib.itoa) [32])):=by
 unfold jQ
 rw [eX (by omega),sW l 0 [] h (by simpa using hl)]
 simp only [ob_,jk,List.nil_append]
 have e:(l.map λn=>BB (Go.Lib.itoa n))=(l.map Go.Lib.itoa).map BB:=by rw [List.map_map];rfl
 have hj:=E9 (l.map Go.Lib.itoa) [32] 21 (λx hx=>by
  obtain ⟨n,hn,rfl⟩:=List.mem_map.1 hx
  exact fE (h n hn)) (by simpa using hl) (by decide)
 rw [e]
 have e2:(⟨#[32]⟩:ByteArray)=BB [32]:=rfl
 rw [e2,hj]
 rfl
def GoodL (x:Log_):Prop:=cZ x.Player/\cZ x.Item/\cZ x.Sum/\Med x.No/\Med x.Clock/\Med x.Long
def ql (x:Log_):List UInt8:=x.Player.data.toList++[32]++x.Item.data.toList++[32]++Go.Lib.itoa x.No++[32]++Go.Lib.itoa x.Clock++[32]++Go.Lib.itoa x.Long
theorem gy {s:ByteArray} (h:cZ s):s.data.toList.length<=1000:=by rw [<- Go.Lib.size_eq];exact h
theorem pU {x:Log_} (h:GoodL x):(ql x).length<=2100:=by
 obtain ⟨h1,h2,_,h4,h5,h6⟩:=h
 have:=gy h1;have:=gy h2;have:=fE h4;have:=fE h5;have:=fE h6
 simp only [ql,List.length_append,List.length_cons,List.length_nil]
 omega
theorem line_eq {x:Log_} (h:GoodL x):kZ x=some (BB (ql x)):=by
 obtain ⟨h1,h2,_,h4,h5,h6⟩:=h
 have l1:=gy h1;have l2:=gy h2;have l4:=fE h4;have l5:=fE h5;have l6:=fE h6
 unfold kZ
 rw [rA h4,rA h5,rA h6]
 rw [show x.Player=BB x.Player.data.toList from rfl,show x.Item=BB x.Item.data.toList from rfl,show (⟨#[32]⟩:ByteArray)=BB [32] from rfl]
 simp only [ob_]
 rw [iB _ _ (by simp only [List.length_append,List.length_cons,List.length_nil];omega)];simp only [ob_]
 rw [iB _ _ (by simp only [List.length_append,List.length_cons,List.length_nil];omega)];simp only [ob_]
 rw [iB _ _ (by simp only [List.length_append,List.length_cons,List.length_nil];omega)];simp only [ob_]
 rw [iB _ _ (by simp only [List.length_append,List.length_cons,List.length_nil];omega)];simp only [ob_]
 rw [iB _ _ (by simp only [List.length_append,List.length_cons,List.length_nil];omega)];simp only [ob_]
 rw [iB _ _ (by simp only [List.length_append,List.length_cons,List.length_nil];omega)];simp only [ob_]
 rw [iB _ _ (by simp only [List.length_append,List.length_cons,List.length_nil];omega)];simp only [ob_]
 rw [iB _ _ (by simp only [List.length_append,List.length_cons,List.length_nil];omega)];simp only [ob_]
 rfl
theorem vM {x:Log_} (h:GoodL x):iT x=some (BB (ql x)):=by
 obtain ⟨h1,h2,_,h4,h5,h6⟩:=h
 have l1:=gy h1;have l2:=gy h2;have l4:=fE h4;have l5:=fE h5;have l6:=fE h6
 have hn:=BU [x.No,x.Clock,x.Long] (λn hn=>by
  simp only [List.mem_cons,List.not_mem_nil,or_false]at hn
  rcases hn with rfl|rfl|rfl
  ·exact h4
  ·exact h5
  ·exact h6) (by simp)
 have hj:Go.Lib.join ([x.No,x.Clock,x.Long].map Go.Lib.itoa) [32]=Go.Lib.itoa x.No++[32]++Go.Lib.itoa x.Clock++[32]++Go.Lib.itoa x.Long:=by
  simp [Go.Lib.join_cons,Go.Lib.joinTail]
 rw [hj]at hn
 unfold iT
 rw [hn]
 have lj:(Go.Lib.itoa x.No++[32]++Go.Lib.itoa x.Clock++[32]++Go.Lib.itoa x.Long).length<=100:=by simp only [List.length_append,List.length_cons,List.length_nil];omega
 rw [show x.Player=BB x.Player.data.toList from rfl,show x.Item=BB x.Item.data.toList from rfl,show (⟨#[32]⟩:ByteArray)=BB [32] from rfl]
 rw [iB _ _ (by simp only [List.length_append,List.length_cons,List.length_nil];omega)];simp only [ob_]
 rw [iB _ _ (by simp only [List.length_append,List.length_cons,List.length_nil];omega)];simp only [ob_]
 rw [iB _ _ (by simp only [List.length_append,List.length_cons,List.length_nil];omega)];simp only [ob_]
 rw [iB _ _ (by simp only [List.length_append,List.length_cons,List.length_nil];omega)];simp only [ob_]
 unfold ql
 simp
def mk (l:List UInt8):ByteArray:=BB (Cm 16 (fnv l).toNat)
theorem CQ (l:List UInt8):(mk l).size=16:=by unfold mk;rw [dz,Ao]
theorem lF (l:List UInt8):cZ (mk l):=by unfold cZ;rw [CQ];decide
theorem markR (l:List UInt8) (h:l.length<=1000000000):lL (BB l)=some (mk l):=BS (BB l) (by rw [dz];exact h)
def formF (x:Log_):Int:=bif !keyB x.Player then 5 else bif !keyB x.Item then 5 else bif (oL x.No 1 1000000||(oL x.Clock 0 345686399999||oL x.Long 1 86400000))then 1 else 0
theorem Ak {x:Log_} (h:GoodL x):gL x=some (formF x):=by
 obtain ⟨h1,h2,_,_,_,_⟩:=h
 unfold cZ at h1 h2
 unfold gL formF
 rw [qV x.Player (by omega),qV x.Item (by omega)]
 simp only [ob_,wW]
 cases keyB x.Player <;> cases keyB x.Item <;> cases oL x.No 1 1000000 <;> cases oL x.Clock 0 345686399999 <;> cases oL x.Long 1 86400000 <;> rfl
theorem Ci {x:Log_} (h:GoodL x):jS x=some (formF x):=by
 obtain ⟨h1,h2,_,_,_,_⟩:=h
 unfold cZ at h1 h2
 unfold jS formF
 rw [yx x.Player (by omega),yx x.Item (by omega)]
 simp only [ob_,in_eq,zH,jY]
 cases keyB x.Player <;> cases keyB x.Item <;> cases oL x.No 1 1000000 <;> cases oL x.Clock 0 345686399999 <;> cases oL x.Long 1 86400000 <;> rfl
def Dt (b:UInt8):Bool:=qi.data.toList.contains b
theorem F3:∀n:Fin 256,jV qi (UInt8.ofNat n.val)=Dt (UInt8.ofNat n.val):=by decide +kernel
theorem Aw (b:UInt8):jV qi b=Dt b:=by
 have:=F3 ⟨b.toNat,b.toNat_lt⟩
 simpa using this
def markB (s:ByteArray):Bool:=(s.size==16)&&s.data.toList.all Dt
theorem yI (s:ByteArray) (p:UInt8->Bool):((List.range s.size).all λi=>p (bN s i))=s.data.toList.all p:=by
 rw [Bool.eq_iff_iff,List.all_eq_true,List.all_eq_true]
 constructor
 ·intro h b hb
  obtain ⟨i,hi,rfl⟩:=List.getElem_of_mem hb
  have:=h i (List.mem_range.2 (by rw [Go.Lib.size_eq];exact hi))
  simpa [bN,List.getD,List.getElem?_eq_getElem hi]using this
 ·intro h i hi
  have hi':i<s.data.toList.length:=by rw [<- Go.Lib.size_eq];exact List.mem_range.1 hi
  have:=h _ (List.getElem_mem hi')
  simpa [bN,List.getD,List.getElem?_eq_getElem hi']using this
theorem FB (s:ByteArray):((s.size:Int)==16)=(s.size==16):=by
 rw [Bool.eq_iff_iff];simp only [beq_iff_eq];omega
theorem zy {s:ByteArray} (h:cZ s):lI s=some (markB s):=by
 unfold cZ at h
 unfold lI markB
 rw [FB]
 have ho:=uP s qi (by omega)
 have e:(λi=>jV qi (bN s i))=(λi=>Dt (bN s i)):=by funext i;exact Aw _
 rw [e,yI]at ho
 have ho':iw s (⟨#[48,49,50,51,52,53,54,55,56,57,97,98,99,100,101,102]⟩:ByteArray)=some (s.data.toList.all Dt):=ho
 rw [ho']
 cases (s.size==16) <;> rfl
theorem pO {p:UInt8->Bool}:∀(l:List UInt8),l.dropWhile p=[]↔l.all p=true
 | []=>by simp
 | x::l=>by
  rw [List.dropWhile_cons]
  cases h:p x with
  | true=>simp [h,pO l]
  | false=>simp [h]
theorem ER (l cs:List UInt8):Go.Lib.trimS l cs=[]↔l.all (cs.contains ·)=true:=by
 unfold Go.Lib.trimS Go.Lib.trimLeftS Go.Lib.trimRightS
 rw [pO,List.all_reverse]
 constructor
 ·intro h
  have h2:(l.reverse.dropWhile (cs.contains ·))=[]:=by
   cases hd:l.reverse.dropWhile (cs.contains ·)with
   | nil=>rfl
   | cons x r =>
    rw [hd]at h
    have h3:∀(m:List UInt8),m.dropWhile (cs.contains ·)=x::r->cs.contains x=false:=by
     intro m
     induction m with
     | nil=>intro e;simp at e
     | cons y m ih =>
      intro e
      rw [List.dropWhile_cons]at e
      cases hy:cs.contains y with
      | true=>rw [hy]at e;exact ih e
      | false=>rw [hy]at e;simp only [Bool.false_eq_true,if_false,List.cons.injEq]at e;rw [<- e.1];exact hy
    have:=h3 _ hd
    simp only [List.all_cons,this,Bool.false_and,Bool.false_eq_true]at h
  rw [pO,List.all_reverse]at h2
  exact h2
 ·intro h
  have:l.reverse.dropWhile (cs.contains ·)=[]:=by rw [pO,List.all_reverse];exact h
  rw [this];rfl
theorem D9 {s:ByteArray} (h:cZ s):jg s=some (markB s):=by
 unfold cZ at h
 unfold jg markB
 rw [FB]
 have ht:kE s (⟨#[48,49,50,51,52,53,54,55,56,57,97,98,99,100,101,102]⟩:ByteArray)=some (BB (Go.Lib.trimS s.data.toList qi.data.toList)):=by
  unfold kE y5
  rw [if_pos ⟨by omega,by decide,by decide⟩]
  rfl
 rw [ht]
 have e:sEq (BB (Go.Lib.trimS s.data.toList qi.data.toList)) (⟨#[]⟩:ByteArray)=s.data.toList.all Dt:=by
  rw [Bool.eq_iff_iff,iG]
  have:=ER s.data.toList qi.data.toList
  constructor
  ·intro h
   apply this.1
   have:=congrArg (λx:ByteArray=>x.data.toList) h
   simpa using this
  ·intro h
   rw [this.2 h]
 simp only [ob_,e]
 cases (s.size==16) <;> rfl
def cmpL (a b:Log_):Int:=or0 (qy a.Player b.Player) (Ef a.No b.No)
theorem wG (a b:Log_):fe a b=some (cmpL a b):=by
 simp only [fe,qA,yC,F4,ob_];rfl
theorem sign_eq {a b:Int} (ha:Med a) (hb:Med b):oO (w64 (a-b))=some (Ef a b):=by
 unfold Med at ha hb
 rw [dC (by omega)]
 unfold oO Ef
 by_cases h1:a<b
 ·have e1:decide (a-b<0)=true:=decide_eq_true (by omega)
  simp only [e1,cond_true,if_pos h1]
 ·have e1:decide (a-b<0)=false:=decide_eq_false (by omega)
  by_cases h2:a>b
  ·have e2:decide (a-b>0)=true:=decide_eq_true (by omega)
   simp only [e1,e2,cond_true,cond_false,if_neg h1,if_pos h2]
  ·have e2:decide (a-b>0)=false:=decide_eq_false (by omega)
   simp only [e1,e2,cond_false,if_neg h1,if_neg h2]
theorem DD (a:ByteArray):qy a a=0:=by
 rcases sj a a with⟨h,_⟩|⟨_,h⟩|⟨h,_⟩
 ·exact absurd h (u7 a)
 ·exact h
 ·exact absurd h (u7 a)
theorem cmpB_0 {a b:ByteArray} (h:qy a b=0):a=b:=by
 rcases sj a b with⟨_,h'⟩|⟨h',_⟩|⟨_,h'⟩
 ·rw [h]at h';cases h'
 ·exact h'
 ·rw [h]at h';cases h'
theorem zX {a b:Log_} (ha:GoodL a) (hb:GoodL b):jl a b=some (cmpL a b):=by
 unfold jl cmpL or0
 rw [zk]
 by_cases h:a.Player=b.Player
 ·have e:(!decide (a.Player=b.Player))=false:=by simp [h]
  rw [e,h,DD]
  simp only [cond_false,sign_eq ha.2.2.2.1 hb.2.2.2.1,ob_]
  rfl
 ·have e:(!decide (a.Player=b.Player))=true:=by simp [h]
  have e2:(qy a.Player b.Player==0)=false:=by
   cases hc:(qy a.Player b.Player==0)with
   | false=>rfl
   | true=>exact absurd (cmpB_0 (eq_of_beq hc)) h
  rw [e,e2]
  simp only [cond_true,qA,ob_,cond_false]
def EC (p:Option Log_) (x:Log_):Int:=bif formF x != 0 then formF x else bif !markB x.Sum then 3 else match p with
 | none=>0
 | some o=>bif decide (cmpL o x>=0)then 7 else 0
def oW (l:List Log_):Int:=bif decide (l.length>2000)then 2 else zf EC none l
theorem logsK (l:List Log_) (hs:∀x∈l,GoodL x) (hl:l.length<=1000000):dF l=some (oW l):=by
 unfold dF oW
 have e:decide ((l.length:Int)>2000)=decide (l.length>2000):=decide_eq_decide.2 (by omega)
 rw [e]
 cases decide (l.length>2000)with
 | true=>rfl
 | false =>
  simp only [cond_false]
  rw [eX (by omega),pu (stp:=EC) l l 0 rfl (λk x hx => ?_)]
  ·simp only [ob_,sG];rfl
  ·have hg:=hs x (List.mem_of_getElem? hx)
   simp only [fU,Ak hg,D9 hg.2.2.1,ob_,EC]
   cases hf:(formF x != 0)with
   | true =>
    have:(formF x==0)=false:=by simpa using hf
    simp only [cond_true,uC,this,cond_false]
   | false =>
   simp only [cond_false]
   cases markB x.Sum with
   | false=>rfl
   | true =>
   simp only [Bool.not_true,cond_false]
   by_cases hk0:0<k
   ·obtain ⟨y,h1,h2⟩:=wJ hx hk0 (by omega)
    have hd:decide ((k:Int)>0)=true:=by simp;omega
    simp only [hd,cond_true,h1,ob_,sZ,if_neg (show ¬k=0 by omega),h2,wG]
    cases decide (cmpL y x>=0) <;> rfl
   ·have hk0:k=0:=by omega
    subst hk0
    rfl
theorem logsR (l:List Log_) (hs:∀x∈l,GoodL x) (hl:l.length<=1000000):fA l=some (oW l):=by
 unfold fA oW
 have e:decide ((l.length:Int)>2000)=decide (l.length>2000):=decide_eq_decide.2 (by omega)
 rw [e]
 cases decide (l.length>2000)with
 | true=>rfl
 | false =>
  simp only [cond_false]
  rw [eX (by omega),pu (stp:=EC) l l 0 rfl (λk x hx => ?_)]
  ·simp only [ob_,sG];rfl
  ·have hg:=hs x (List.mem_of_getElem? hx)
   simp only [ib,Ci hg,zy hg.2.2.1,ob_,EC]
   cases hf:(formF x != 0)with
   | true =>
    have:(formF x==0)=false:=by simpa using hf
    simp only [cond_true,uC,this,cond_false]
   | false =>
   simp only [cond_false]
   cases markB x.Sum with
   | false=>rfl
   | true =>
   simp only [Bool.not_true,cond_false]
   by_cases hk0:0<k
   ·obtain ⟨y,h1,h2⟩:=wJ hx hk0 (by omega)
    have hd:decide ((k:Int)>0)=true:=by simp;omega
    have hy:=hs y (List.mem_of_getElem? h2)
    simp only [hd,cond_true,h1,ob_,sZ,if_neg (show ¬k=0 by omega),h2,zX hy hg]
    cases decide (cmpL y x>=0) <;> rfl
   ·have hk0:k=0:=by omega
    subst hk0
    rfl
theorem zu {b:UInt8} (h:nX b=true):Lib.digitVal b=some (b.toNat-48):=by
 unfold nX at h
 simp only [Bool.and_eq_true,decide_eq_true_eq]at h
 unfold Lib.digitVal
 rw [if_pos h]
theorem uj:∀(l:List UInt8) (a:Nat),l.all nX=true->∃v,Lib.decFrom a l=some v
 | [],a,_=>⟨a,rfl⟩
 | b::l,a,h=>by
  simp only [List.all_cons,Bool.and_eq_true]at h
  obtain ⟨v,hv⟩:=uj l (a*10+(b.toNat-48)) h.2
  exact⟨v,by simp only [Lib.decFrom,zu h.1];exact hv⟩
theorem Cj (b:UInt8) (h:nX b=true):b=UInt8.ofNat (48+(b.toNat-48)):=by
 unfold nX at h
 simp only [Bool.and_eq_true,decide_eq_true_eq]at h
 rw [show 48+(b.toNat-48)=b.toNat by omega,UInt8.ofNat_toNat]
theorem Bu:∀(n:Nat) (t:List UInt8),t.length=n+1->t.all nX=true->(∀b l,t=b::l->b.toNat≠48)->∃v,Lib.decFrom 0 t=some v/\v≠0/\Lib.decDigits v=t
 | 0,t,hl,h,h0=>by
  match t,hl,h,h0 with
  | [b],_,h,h0 =>
   simp only [List.all_cons,List.all_nil,Bool.and_true]at h
   have hb:=h0 b [] rfl
   have hd:=h
   unfold nX at hd
   simp only [Bool.and_eq_true,decide_eq_true_eq]at hd
   refine⟨b.toNat-48,by simp only [Lib.decFrom,zu h];congr 1;omega,by omega,?_⟩
   rw [ddS (by omega),<- Cj b h]
 | n+1,t,hl,h,h0=>by
  have hne:t ≠ []:=λe=>by rw [e]at hl;simp at hl
  obtain ⟨t',b,rfl⟩:∃t' b,t=t'++[b]:=⟨t.dropLast,t.getLast hne,(List.dropLast_concat_getLast hne).symm⟩
  have hl':t'.length=n+1:=by simpa using hl
  rw [List.all_append]at h
  simp only [List.all_cons,List.all_nil,Bool.and_true,Bool.and_eq_true]at h
  obtain ⟨v,v1,v2,v3⟩:=Bu n t' hl' h.1 (λb' l' e=>h0 b' (l'++[b]) (by rw [e];rfl))
  have hd:=h.2
  unfold nX at hd
  simp only [Bool.and_eq_true,decide_eq_true_eq]at hd
  refine⟨v*10+(b.toNat-48),tu t' 0 v b _ v1 (zu h.2),by omega,?_⟩
  rw [ddB (by omega),show (v*10+(b.toNat-48)) / 10=v by omega,show (v*10+(b.toNat-48)) % 10=b.toNat-48 by omega,v3,<- Cj b h.2]
theorem dd_zero {r:List UInt8} (hr:r ≠ []) {b:UInt8} (hb:b.toNat=48) (v:Nat):Lib.decDigits v≠b::r:=λe=>by
 by_cases hv:v=0
 ·subst hv
  rw [ddS (by decide)]at e
  simp only [List.cons.injEq]at e
  exact hr e.2.symm
 ·exact Cz v hv b r e hb
def lW:List UInt8->List UInt8
 | []=>[]
 | b::t=>if b=45 then t else b::t
theorem trim_eq (l:List UInt8) (hl:l.length<1000000000):strings_TrimPrefix (BB l) (⟨#[45]⟩:ByteArray)=some (BB (lW l)):=by
 cases l with
 | nil=>decide +kernel
 | cons b t =>
  by_cases hb:b=45
  ·subst hb
   have hs:(BB (45::t)).size=t.length+1:=by rw [dz];rfl
   unfold strings_TrimPrefix bA bE
   have h1:((⟨#[45]⟩:ByteArray).size:Int)=1:=rfl
   have h2:ik (BB (45::t)) 0 1=some (⟨#[45]⟩:ByteArray):=by
    unfold ik
    rw [if_pos (by rw [hs];omega)]
    congr 1
    apply ByteArray.ext
    apply Array.ext'
    rw [ByteArray.data_extract,Array.toList_extract]
    rfl
   have h3:ik (BB (45::t)) 1 ((BB (45::t)).size:Int)=some (BB t):=by
    unfold ik
    rw [if_pos (by rw [hs];omega)]
    congr 1
    apply ByteArray.ext
    apply Array.ext'
    rw [ByteArray.data_extract,Array.toList_extract,Int.toNat_natCast,hs]
    show ((45::t).take (t.length+1)).drop 1=t
    rw [List.take_of_length_le (by simp)];rfl
   rw [h1,decide_eq_true (by rw [hs];omega),cond_true,h2,ob_,show sEq (⟨#[45]⟩:ByteArray) (⟨#[45]⟩:ByteArray)=true from (iG _ _).2 rfl]
   simp only [ob_,cond_true,h3]
   rw [show lW (45::t)=t by simp [lW]]
  ·have:=F7 (s:=BB (b::t)) (b:=b) (by rw [dz];simp) (by rw [dz];exact hl) rfl hb
   rw [this,show lW (b::t)=b::t by simp [lW,hb]]
theorem Fq (r:List UInt8) (hr:r.length<=1000):qh 0 (λt=>dL (BB r) t)=some (bif r.all nX then .go (r.length:Int)else .ret (0,false)):=by
 have hsz:(BB r).size=r.length:=dz r
 have hit:∀(d j:Nat),j+d=r.length->∃n,dR (λt=>dL (BB r) t) n (j:Int)=some (bif (r.drop j).all nX then .go (r.length:Int)else .ret (0,false)):=by
  intro d
  induction d with
  | zero =>
   intro j hj
   have hj':j=r.length:=by omega
   subst hj'
   refine⟨1,?_⟩
   simp only [dR,dL]
   rw [decide_eq_false (by rw [hsz];omega),List.drop_length];rfl
  | succ d ih =>
   intro j hj
   have hjl:j<r.length:=by omega
   have hc:qI (BB r) (j:Int)=some r[j]:=by
    rw [ow (BB r) j (by rw [hsz];exact hjl)]
    have:=xe (s:=BB r) (k:=j) (by rw [hsz];exact hjl)
    have h2:(BB r).data.toList[j]? = some r[j]:=List.getElem?_eq_getElem hjl
    rw [h2]at this
    exact this.symm
   have hdr:r.drop j=r[j]::r.drop (j+1):=List.drop_eq_getElem_cons hjl
   rw [hdr,List.all_cons]
   cases hd:nX r[j]with
   | false =>
    refine⟨1,?_⟩
    simp only [dR,dL]
    rw [decide_eq_true (by rw [hsz];omega),cond_true,hc,ob_,ob_]
    unfold nX at hd
    simp only [Bool.false_and,cond_false]
    by_cases h48:(r[j].toNat:Int)<48
    ·rw [decide_eq_true h48];rfl
    ·rw [decide_eq_false h48,cond_false,ob_]
     have h57:(r[j].toNat:Int)>57:=by
      by_cases h:r[j].toNat<=57
      ·rw [decide_eq_true (by omega),decide_eq_true h]at hd;cases hd
      ·omega
     rw [decide_eq_true h57];rfl
   | true =>
    obtain ⟨n,hn⟩:=ih (j+1) (by omega)
    refine⟨n+1,?_⟩
    unfold nX at hd
    simp only [Bool.and_eq_true,decide_eq_true_eq]at hd
    have hstep:dL (BB r) (j:Int)=some (.go ((j+1:Nat):Int)):=by
     unfold dL
     rw [decide_eq_true (by rw [hsz];omega),cond_true,hc,ob_,decide_eq_false (by omega),cond_false,ob_,decide_eq_false (by omega),ob_,cond_false,dC (by omega)]
     rfl
    rw [dR,hstep,ob_,Bool.true_and]
    exact hn
 obtain ⟨n,hn⟩:=hit r.length 0 (by omega)
 exact ll hn
theorem Ff:∀n:Fin 256,jV (⟨#[48,49,50,51,52,53,54,55,56,57]⟩:ByteArray) (UInt8.ofNat n.val)=nX (UInt8.ofNat n.val):=by decide +kernel
theorem Dx (r:List UInt8) (hr:r.length<=1000):iw (BB r) (⟨#[48,49,50,51,52,53,54,55,56,57]⟩:ByteArray)=some (r.all nX):=by
 rw [uP _ _ (by rw [dz];omega),yI]
 congr 1
 show r.all _=r.all nX
 congr 1
 funext b
 have:=Ff ⟨b.toNat,b.toNat_lt⟩
 simpa using this
theorem zA (r:List UInt8):sEq (BB r) (⟨#[]⟩:ByteArray)=r.isEmpty:=by
 cases r with
 | nil=>exact (iG _ _).2 rfl
 | cons b r =>
  cases h:sEq (BB (b::r)) (⟨#[]⟩:ByteArray)with
  | false=>rfl
  | true =>
   have:=congrArg ByteArray.size ((iG _ _).1 h)
   rw [dz]at this
   change _=0 at this
   simp at this
theorem Bo {a b:List UInt8} (h:BB a=BB b):a=b:=by
 have:=congrArg (λx:ByteArray=>x.data.toList) h
 exact this
theorem vY (l:List UInt8) (hl:l.length<=100000):∃(n n':Int) (ok:Bool),iM (BB l) 15=some (n,ok)/\jF (BB l) 15=some (n',ok)/\(ok=true->n'=n)/\Med n/\Med n':=by
 have med0:Med 0:=by unfold Med;omega
 have hsz:∀r:List UInt8,((BB r).size:Int)=(r.length:Int):=λr=>by rw [dz]
 unfold iM jF
 rw [trim_eq l (by omega),ob_,ob_,zA,hsz]
 generalize hr:lW l=r
 cases he:r.isEmpty with
 | true=>exact⟨0,0,false,rfl,rfl,(λh=>by cases h),med0,med0⟩
 | false =>
 simp only [cond_false]
 by_cases hlen:(r.length:Int)>15
 ·rw [decide_eq_true hlen]
  exact⟨0,0,false,rfl,rfl,(λh=>by cases h),med0,med0⟩
 ·rw [decide_eq_false hlen]
  simp only [cond_false]
  have hrl:r.length<=15:=by omega
  rw [Dx r (by omega),Fq r (by omega),ob_,ob_,ob_]
  match r,he,hr,hlen,hrl with
  | b::t,he,hr,hlen,hrl =>
  have hb0:qI (BB (b::t)) 0=some b:=by
   have h00:=ow (BB (b::t)) 0 (by rw [dz];simp)
   rw [show ((0:Nat):Int)=0 from rfl]at h00
   rw [h00];rfl
  rw [hb0,ob_]
  cases hall:(b::t).all nX with
  | false =>
   simp only [Bool.not_false,cond_true,cond_false]
   refine⟨0,0,false,?_,rfl,(λh=>by cases h),med0,med0⟩
   cases ((b.toNat:Int)==48)with
   | false=>rfl
   | true =>
    simp only [cond_true,ob_]
    cases sNe (BB l) (⟨#[48]⟩:ByteArray) <;> rfl
  | true =>
   simp only [Bool.not_true,cond_true,cond_false]
   obtain ⟨v,hv⟩:=uj (b::t) 0 hall
   have hvb:v<1000000000000000:=by
    have:=Lib.decFrom_lt _ _ _ hv
    have h2:(10:Nat) ^ (b::t).length<=10 ^ 15:=Nat.pow_le_pow_right (by decide) hrl
    omega
   have hdn:Lib.decNat (b::t)=some v:=by unfold Lib.decNat;exact hv
   have hbd:nX b=true:=by simp only [List.all_cons,Bool.and_eq_true]at hall;exact hall.1
   have hb45:b≠45:=λe=>by rw [e]at hbd;exact absurd hbd (by decide)
   have hb43:b≠43:=λe=>by rw [e]at hbd;exact absurd hbd (by decide)
   obtain ⟨n,hn,hnm,hw⟩:∃n:Int,Lib.atoi l=some n/\Med n/\(Lib.itoa n=l↔¬(b.toNat=48/\l ≠ [48])):=by
    cases l with
    | nil=>simp [lW]at hr
    | cons c l' =>
     by_cases hc:c=45
     ·subst hc
      rw [show lW (45::l')=l' by simp [lW]]at hr
      subst hr
      refine⟨-(v:Int),by simp [Lib.atoi,hdn],by unfold Med;omega,?_⟩
      by_cases h48:b.toNat=48
      ·refine⟨λe => ?_,λk=>absurd ⟨h48,by simp⟩ k⟩
       exfalso
       unfold Lib.itoa at e
       by_cases hv0:v=0
       ·subst hv0
        rw [if_neg (by omega)]at e
        rw [show (-((0:Nat):Int)).toNat=0 from rfl,ddS (by decide)]at e
        simp only [List.cons.injEq]at e
        exact absurd e.2 (by simp)
       ·rw [if_pos (by omega)]at e
        simp only [List.cons.injEq,true_and]at e
        rw [show (-(v:Int)).natAbs=v by omega]at e
        exact Cz v hv0 b t e h48
      ·obtain ⟨v',e1,e2,e3⟩:=Bu t.length (b::t) rfl hall (λb' l'' e=>by
        simp only [List.cons.injEq]at e
        rw [<- e.1];exact h48)
       rw [hv,so_]at e1
       subst e1
       refine⟨λ_ k=>h48 k.1,λ_ => ?_⟩
       unfold Lib.itoa
       rw [if_pos (by omega),show (-(v:Int)).natAbs=v by omega,e3]
     ·rw [show lW (c::l')=c::l' by simp [lW,hc]]at hr
      simp only [List.cons.injEq]at hr
      obtain ⟨rfl,rfl⟩:=hr
      have n1:(c==45)=false:=by rw [beq_eq_false_iff_ne];exact hb45
      have n2:(c==43)=false:=by rw [beq_eq_false_iff_ne];exact hb43
      refine⟨(v:Int),by simp [Lib.atoi,n1,n2,hdn],by unfold Med;omega,?_⟩
      have hi:Lib.itoa (v:Int)=Lib.decDigits v:=by unfold Lib.itoa;rw [if_neg (by omega)];rfl
      rw [hi]
      by_cases h48:c.toNat=48
      ·have hc48:c=48:=by
        have:=Cj c hbd
        rw [h48]at this
        exact this
       cases l' with
       | nil =>
        refine⟨λ_ k=>k.2 (by rw [hc48]),λ_ => ?_⟩
        have:v=0:=by
         simp only [Lib.decFrom,zu hbd,so_]at hv
         omega
        rw [this,ddS (by decide),hc48];rfl
       | cons x l'' =>
        refine⟨λe=>absurd e (dd_zero (by simp) h48 v),λk=>absurd ⟨h48,by simp⟩ k⟩
      ·obtain ⟨v',e1,e2,e3⟩:=Bu l'.length (c::l') rfl hall (λb' l'' e=>by
        simp only [List.cons.injEq]at e
        rw [<- e.1];exact h48)
       rw [hv,so_]at e1
       subst e1
       exact⟨λ_ k=>h48 k.1,λ_=>e3⟩
   have hll:l.length<=16:=by
    cases l with
    | nil=>simp
    | cons c l' =>
     have h2:l'.length<=(lW (c::l')).length:=by
      by_cases hc:c=45
      ·simp [lW,hc]
      ·simp [lW,hc]
     rw [hr]at h2
     simp only [List.length_cons]at hrl h2 ⊢;omega
   have ha:strconv_Atoi (BB l)=some n:=by
    show Be (BB l)=some n
    unfold Be
    rw [if_pos (by rw [dz];omega)];exact hn
   have h48e:((b.toNat:Int)==48)=decide (b.toNat=48):=by
    rw [Bool.eq_iff_iff];simp;omega
   have hsn:sNe (BB l) (⟨#[48]⟩:ByteArray)=decide (l ≠ [48]):=by
    show (!sEq (BB l) (⟨#[48]⟩:ByteArray))=_
    rw [show sEq (BB l) (⟨#[48]⟩:ByteArray)=decide (l=[48]) by
     rw [Bool.eq_iff_iff,iG]
     simp only [decide_eq_true_eq]
     exact⟨λh=>Bo (b:=[48]) h,λh=>by rw [h]⟩]
    by_cases h:l=[48] <;> simp [h]
   have hse:sEq (BB (Lib.itoa n)) (BB l)=decide (Lib.itoa n=l):=by
    rw [Bool.eq_iff_iff,iG]
    simp only [decide_eq_true_eq]
    exact⟨λh=>Bo h,λh=>by rw [h]⟩
   rw [ha,ob_,ob_,rA hnm,ob_,ob_,hse,h48e,hsn]
   by_cases hbad:b.toNat=48/\l ≠ [48]
   ·rw [decide_eq_true hbad.1,decide_eq_true hbad.2,decide_eq_false (λe=>hw.1 e hbad)]
    exact⟨0,n,false,rfl,rfl,(λh=>by cases h),med0,hnm⟩
   ·rw [decide_eq_true (hw.2 hbad)]
    refine⟨n,n,true,?_,rfl,λ_=>rfl,hnm,hnm⟩
    by_cases h48:b.toNat=48
    ·have:¬l ≠ [48]:=λh=>hbad ⟨h48,h⟩
     rw [decide_eq_true h48,decide_eq_false this];rfl
    ·rw [decide_eq_false h48];rfl
theorem xO (v:ByteArray) (l:List ByteArray) (hl:l.length<=1000000):∃b,bn l v=some b:=by
 have key:∀(xs:List ByteArray) (k:Nat),∃o:Ctl Unit Int,eD (λk x s=>bI v k x s) xs k ()=some o/\(o = .go ()\/∃n,o = .ret n):=by
  intro xs
  induction xs with
  | nil=>exact λk=>⟨_,rfl,.inl rfl⟩
  | cons x xs ih =>
   intro k
   rw [eD]
   unfold bI
   cases sEq v x with
   | true=>exact⟨_,rfl,.inr ⟨_,rfl⟩⟩
   | false=>exact ih (k+1)
 obtain ⟨o,ho,hc⟩:=key l 0
 unfold bn dD
 rw [eX (by omega),ho,ob_]
 rcases hc with rfl|⟨n,rfl⟩ <;> exact⟨_,rfl⟩
theorem rF (c:UInt8):∀l:List UInt8,(spl c l).length<=l.length+1/\∀w∈spl c l,w.length<=l.length
 | []=>⟨by simp [spl],λw hw=>by simp [spl]at hw;subst hw;simp⟩
 | b::l=>by
  obtain ⟨h1,h2⟩:=rF c l
  unfold spl
  split
  ·refine⟨by simp only [List.length_cons];omega,λw hw => ?_⟩
   rcases List.mem_cons.1 hw with rfl|hw
   ·simp
   ·have:=h2 w hw
    simp only [List.length_cons];omega
  ·split
   ·exact⟨by simp,λw hw=>by simp at hw;subst hw;simp⟩
   ·rename_i x r hr
    rw [hr]at h1 h2
    refine⟨by simp only [List.length_cons]at h1 ⊢;omega,λw hw => ?_⟩
    rcases List.mem_cons.1 hw with rfl|hw
    ·have:=h2 x (by simp)
     simp only [List.length_cons];omega
    ·have:=h2 w (by simp [hw])
     simp only [List.length_cons];omega
theorem D6 (x:List UInt8) (hx:x.length<=100000):∃b,kN (BB x)=some ((spl 32 x).map BB,b):=by
 have hs:=Ai 32 (s:=BB x) (by rw [dz];omega)
 obtain ⟨b,hb⟩:=xO (⟨#[]⟩:ByteArray) ((spl 32 x).map BB) (by rw [List.length_map];have:=(rF 32 x).1;omega)
 unfold kN
 rw [hs,ob_]
 rw [show (List.map (λl=>(⟨l.toArray⟩:ByteArray)) (spl 32 (BB x).data.toList))=(spl 32 x).map BB from rfl,hb,ob_]
 exact⟨_,rfl⟩
theorem Az (s:ByteArray):pJ s=kN s:=rfl
theorem list6 {α:Type} {l:List α} (h:l.length=6):∃a b c d e f,l=[a,b,c,d,e,f]:=by
 match l,h with
 | [a,b,c,d,e,f],_=>exact⟨a,b,c,d,e,f,rfl⟩
theorem DC (x:List UInt8) (hx:x.length<=1000):∃(lg:Log_) (ok:Bool),fu (BB x)=some (lg,ok)/\(ok=true->GoodL lg) /\
  ∀out:List Log_,out.length<=1000000->∃out',fO (BB x) out=some (ok,out')/\(ok=true->out'=out++[lg]):=by
 obtain ⟨b,hb⟩:=D6 x (by omega)
 have hw:=(rF 32 x).2
 unfold fu fO
 rw [Az,hb]
 generalize hws:spl 32 x=ws at hw
 have bad:∀v:Bool,(bif (!b)then some true else some ((((ws.map BB).length:Nat):Int) != 6))=some v->v=true\/∃a b c d e f,ws=[a,b,c,d,e,f]:=λv hv=>by
  cases b with
  | false=>exact .inl (Option.some.inj hv).symm
  | true =>
   have hv:=Option.some.inj hv
   by_cases h6:ws.length=6
   ·exact .inr (list6 h6)
   ·refine .inl (hv.symm.trans ?_)
    rw [List.length_map,bne_iff_ne]
    omega
 obtain ⟨v,hv⟩:∃v,(bif (!b)then some true else some ((((ws.map BB).length:Nat):Int) != 6))=some v:=by cases b <;> exact⟨_,rfl⟩
 simp only [ob_]
 rw [hv,ob_]
 rcases bad v hv with rfl|⟨w0,w1,w2,w3,w4,w5,hw6⟩
 ·exact⟨_,false,rfl,(λh=>by cases h),λout ho=>⟨out,rfl,(λh=>by cases h)⟩⟩
 ·subst hw6
  cases v with
  | true=>exact⟨_,false,rfl,(λh=>by cases h),λout ho=>⟨out,rfl,(λh=>by cases h)⟩⟩
  | false =>
  simp only [cond_false]
  have hsz:∀w ∈ [w0,w1,w2,w3,w4,w5],w.length<=1000:=λw hm=>Nat.le_trans (hw w hm) hx
  obtain ⟨n2,m2,o2,a1,a2,a3,a4,a5⟩:=vY w2 (by have:=hsz w2 (by simp);omega)
  obtain ⟨n3,m3,o3,b1,b2,b3,b4,b5⟩:=vY w3 (by have:=hsz w3 (by simp);omega)
  obtain ⟨n4,m4,o4,c1,c2,c3,c4,c5⟩:=vY w4 (by have:=hsz w4 (by simp);omega)
  have i0:idx ([w0,w1,w2,w3,w4,w5].map BB) 0=some (BB w0):=rfl
  have i1:idx ([w0,w1,w2,w3,w4,w5].map BB) 1=some (BB w1):=rfl
  have i2:idx ([w0,w1,w2,w3,w4,w5].map BB) 2=some (BB w2):=rfl
  have i3:idx ([w0,w1,w2,w3,w4,w5].map BB) 3=some (BB w3):=rfl
  have i4:idx ([w0,w1,w2,w3,w4,w5].map BB) 4=some (BB w4):=rfl
  have i5:idx ([w0,w1,w2,w3,w4,w5].map BB) 5=some (BB w5):=rfl
  have hsub:wh ([w0,w1,w2,w3,w4,w5].map BB) 2 5=some [BB w2,BB w3,BB w4]:=rfl
  have hni:iy [BB w2,BB w3,BB w4] 15=some ([m2,m3,m4],o2&&o3&&o4):=by
   unfold iy
   have step:∀(k:Nat) (w:List UInt8) (l:List Int) (ok:Bool) (m:Int) (o:Bool),l.length<=10->jF (BB w) 15=some (m,o)->fD 15 k (BB w) (l,ok)=some (.go (l++[m],ok&&o)):=by
    intro k w l ok m o hl h
    unfold fD
    rw [h,ob_]
    simp only []
    rw [kF _ _ (by simp only [List.length_cons,List.length_nil];omega),ob_]
    cases ok <;> rfl
   rw [eX (by simp),eD,step 0 w2 [] true m2 o2 (by simp) a2,ob_]
   simp only []
   rw [eD,step 1 w3 _ _ m3 o3 (by simp) b2,ob_]
   simp only []
   rw [eD,step 2 w4 _ _ m4 o4 (by simp) c2,ob_]
   simp only [eD,eZ,ob_,Bool.true_and,List.nil_append,List.cons_append]
  have j0:idx [m2,m3,m4] 0=some m2:=rfl
  have j1:idx [m2,m3,m4] 1=some m3:=rfl
  have j2:idx [m2,m3,m4] 2=some m4:=rfl
  have hsh:∀w ∈ [w0,w1,w2,w3,w4,w5],cZ (BB w):=λw hm=>by unfold cZ;rw [dz];exact hsz w hm
  simp only [i0,i1,i2,i3,i4,i5,a1,b1,c1,ob_]
  refine⟨⟨BB w0,BB w1,n2,n3,n4,BB w5⟩,o2&&o3&&o4,?_,λ_=>⟨hsh w0 (by simp),hsh w1 (by simp),hsh w5 (by simp),a4,b4,c4⟩,λout ho => ?_⟩
  ·cases o2 <;> cases o3 <;> rfl
  ·rw [hsub,ob_,hni,ob_]
   simp only [j0,j1,j2,ob_]
   rw [kF _ _ (by simp only [List.length_cons,List.length_nil];omega),ob_]
   refine⟨_,rfl,λh => ?_⟩
   simp only [Bool.and_eq_true]at h
   rw [a3 h.1.1,b3 h.1.2,c3 h.2]
end Go.Proofs.YtnfedlledilojaaGreatDoor.Law

