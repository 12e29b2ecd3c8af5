/-
  THE PLAIN LAW (part 1).
-/
import Derived.Test.YtljhfffghjclfabGreatDoorEng5
import Derived.Test.YtljhfffghjclfabGreatDoorDefs
import Derived.Lib.ItoaLen
namespace Go.Eng
set_option linter.unusedVariables false
set_option linter.unusedSimpArgs false
theorem gJ {α σ ρ:Type} {body:Nat->α->σ->Option (Ctl σ ρ)} {xs:List α} {s:σ} (hl:xs.length<=1000000000000):forL xs s body=forR body xs 0 s:=by unfold forL;rw [if_pos hl]
theorem Kj {α σ ρ:Type} {body:Nat->α->σ->Option (Ctl σ ρ)} (I:Nat->σ->Prop) (N:Nat):∀(xs:List α) (k:Nat) (s:σ),k+xs.length=N->(∀k x s,x∈xs->k<N->I k s->∃o,body k x s=some (.go o)/\I (k+1) o)->I k s->∃o,forR body xs k s=some (.go o)/\I N o
 | [],k,s,A,h,hi=>⟨s,rfl,by simp only [List.length_nil,Nat.add_zero]at A;rw [<- A];exact hi⟩
 | x::xs,k,s,A,h,hi=>by
  simp only [List.length_cons]at A
  obtain ⟨s1,h1,h2⟩:=h k x s (by simp) (by omega) hi
  obtain ⟨s2,J,F⟩:=Kj I N xs (k+1) s1 (by omega) (λk x s B=>h k x s (by simp [B])) h2
  exact⟨s2,by simp only [forR,h1,ob_];exact J,F⟩
theorem KA {α σ ρ:Type} {body:Nat->α->σ->Option (Ctl σ ρ)} (I:Nat->σ->Prop) {xs:List α} {s:σ} (hl:xs.length<=1000000000000) (h:∀k x s,x∈xs->k<xs.length->I k s->∃o,body k x s=some (.go o)/\I (k+1) o) (A:I 0 s):∃o,forL xs s body=some (.go o)/\I xs.length o:=by
 obtain ⟨o,h1,h2⟩:=Kj I xs.length xs 0 s (by omega) h A
 exact⟨o,by rw [gJ hl];exact h1,h2⟩
theorem lX {σ ρ τ:Type} (s:σ) (f:σ->Option τ) (g:ρ->Option τ):thenC (.go s) f g=f s:=rfl
theorem Oe {σ ρ τ:Type} (r:ρ) (f:σ->Option τ) (g:ρ->Option τ):thenC (.ret r) f g=g r:=rfl
theorem Ju {α:Type} (xs:List α) (k:Nat):idx xs (k:Int)=xs[k]? := by simp [idx]
theorem gM {n:Int} (h : -9223372036854775808<=n/\n<=9223372036854775807):w64 n=n:=ED n h
theorem toL (s:ByteArray):s.toList=s.data.toList:=Go.Lib.toList_data s
theorem Ap {a b:ByteArray} (h:a.toList=b.toList):a=b:=by
 rw [toL,toL]at h
 obtain ⟨⟨a⟩⟩:=a
 obtain ⟨⟨b⟩⟩:=b
 simp only at h
 rw [h]
theorem gY (a b:ByteArray):sEq a b=true↔a=b:=by
 simp only [sEq,beq_iff_eq]
 exact⟨Ap,λh=>by rw [h]⟩
theorem Io (a b:ByteArray):sEq a b=decide (a=b):=by
 rw [Bool.eq_iff_iff,gY];simp
theorem yg (a b:ByteArray):sNe a b = !decide (a=b):=by
 have:=Io a b;simp only [sEq,sNe]at *;rw [this]
abbrev bl:=Op.bytesLess
theorem bl_lt:∀(x y:List UInt8),bl x y=decide (x<y)
 | _,[]=>by simp [bl,Op.bytesLess]
 | [],_::_=>by simp [bl,Op.bytesLess]
 | a::x,b::y=>by
  have:=bl_lt x y
  simp only [bl,Op.bytesLess]at this ⊢
  rw [this,Bool.eq_iff_iff]
  simp only [Bool.or_eq_true,decide_eq_true_eq,Bool.and_eq_true,beq_iff_eq,List.cons_lt_cons_iff]
def lt (a b:ByteArray):Prop:=a.toList<b.toList
theorem DI (a b:ByteArray):sLt a b=true↔lt a b:=by
 show bl a.toList b.toList=true↔_
 rw [bl_lt];simp [lt]
theorem vz (a:ByteArray):¬lt a a:=List.lt_irrefl a.toList
theorem lt_trans {a b c:ByteArray} (h:lt a b) (k:lt b c):lt a c:=List.lt_trans h k
theorem Je (a b:ByteArray):lt a b\/a=b\/lt b a:=by
 rcases Classical.em (lt a b)with h|h
 ·exact .inl h
 ·rcases Classical.em (lt b a)with h2|h2
  ·exact .inr (.inr h2)
  ·exact .inr (.inl (Ap (List.le_antisymm (List.not_lt.1 h2) (List.not_lt.1 h))))
theorem sLe_iff (a b:ByteArray):sLe a b=true↔¬lt b a:=by
 have h1:=DI a b
 have h2:=gY a b
 simp only [sLe,Bool.or_eq_true]
 constructor
 ·rintro (h|h)
  ·exact λk=>vz _ (lt_trans (h1.1 h) k)
  ·rw [h2.1 h];exact vz _
 ·intro h
  rcases Je a b with k|k|k
  ·exact .inl (h1.2 k)
  ·exact .inr (h2.2 k)
  ·exact absurd k h
theorem oF (a:ByteArray):sNe a ⟨#[]⟩=decide (a.size≠0):=by
 rw [yg,Go.Lib.size_eq,Bool.eq_iff_iff]
 simp only [Bool.not_eq_true',decide_eq_false_iff_not,decide_eq_true_eq,ne_eq]
 refine not_congr ⟨λh=>by rw [h];rfl,λh => ?_⟩
 exact Ap (by rw [toL,List.eq_nil_of_length_eq_zero h,toL])
end Go.Eng

open Go Go.Eng
namespace Go.Proofs.YtljhfffghjclfabGreatDoor.Law
set_option linter.unusedVariables false
set_option linter.unusedSimpArgs false
def Ok (s:Stream) (b:Int):Prop:=0<=s.f_at/\s.f_at<=b
theorem Ok.mono {s:Stream} {b c:Int} (h:Ok s b) (hc:b<=c):Ok s c:=⟨h.1,Int.le_trans h.2 hc⟩
theorem Ef (x n:Int) (h:1<=n) (A:n<=4611686018427387904):∃r,sP x n=some r/\0<=r/\r<n:=by
 have h1:x.tmod n<n:=Int.tmod_lt_of_pos x (by omega)
 have h2 : -n<x.tmod n:=Int.lt_tmod_of_pos x (by omega)
 have hb:decide (n<1)=false:=by simp;omega
 have o:n≠0:=by omega
 simp only [sP,hb,cond_false,KN,if_neg o,ob_]
 cases hd:decide (x.tmod n<0)with
 | true =>
  simp only [decide_eq_true_eq]at hd
  exact⟨_,rfl,by rw [gM (by omega)];omega,by rw [gM (by omega)];omega⟩
 | false =>
  simp only [decide_eq_false_iff_not]at hd
  exact⟨_,rfl,by omega,h1⟩
theorem rq (s:Stream) (n:Int) {b:Int} (hs:Ok s b) (hb:b<=1000000) (h:1<=n) (I:n<=4611686018427387904):∃r F,eB s n=some (r,F)/\0<=r/\r<n/\Ok F (b+1):=by
 obtain ⟨M,h1⟩:=hs
 have e1:w64 (s.f_at+1)=s.f_at+1:=gM (by omega)
 have e2:w64 (s.f_at+1-1)=s.f_at:=by rw [gM (by omega)];omega
 simp only [eB,e1,e2]
 by_cases hl:s.L.length=0
 ·have:((s.L.length:Int)==0)=true:=by simp [hl]
  simp only [this,cond_true]
  obtain ⟨r,A,h2,J⟩:=Ef (w64 ((s.f_at+1)*7919)) n h I
  exact⟨r,_,by rw [A];rfl,h2,J,⟨by show 0<=s.f_at+1;omega,by show s.f_at+1<=b+1;omega⟩⟩
 ·have o:(s.L.length:Int)≠0:=by omega
  have:((s.L.length:Int)==0)=false:=by simpa using hl
  simp only [this,cond_false,KN,MP,if_neg o,ob_]
  have h2:0<=s.f_at.tmod s.L.length:=Int.tmod_nonneg _ M
  have hp:(0:Int)<(s.L.length:Int):=by have:=Nat.pos_of_ne_zero hl;omega
  have J:s.f_at.tmod s.L.length<s.L.length:=Int.tmod_lt_of_pos _ hp
  have hi:idx s.L (s.f_at.tmod s.L.length)=some s.L[(s.f_at.tmod s.L.length).toNat]:=by
   simp only [idx,if_pos h2]
   exact List.getElem?_eq_getElem (by omega)
  obtain ⟨r1,B,_,_⟩:=Ef s.L[(s.f_at.tmod s.L.length).toNat] 1073741824 (by decide) (by decide)
  simp only [hi,B,ob_]
  generalize w64 (r1+_)=y
  obtain ⟨r,A,N,O⟩:=Ef y n h I
  exact⟨r,_,by rw [A];rfl,N,O,⟨by show 0<=s.f_at+1;omega,by show s.f_at+1<=b+1;omega⟩⟩
theorem Ns (s:Stream) (n:Int) {b:Int} (hs:Ok s b) (hb:b<=1000000) (h:1<=n) (A:n<=1000):∃r o,jX s n=some (r,o)/\Ok o (b+1):=by
 obtain ⟨r,o,h1,_,_,h2⟩:=rq s n hs hb h (by omega)
 exact⟨r==0,o,by simp only [jX,h1,ob_],h2⟩
theorem NZ {α:Type} {l:List α} {r:Int} (h:0<=r) (h1:r<l.length):∃y,idx l r=some y/\y∈l:=by
 refine⟨l[r.toNat]'(by omega),?_,List.getElem_mem _⟩
 simp only [idx,if_pos h]
 exact List.getElem?_eq_getElem (by omega)
theorem D5 (s:Stream) (l:List Int) {b:Int} (hs:Ok s b) (hb:b<=1000000) (h:1<=l.length) (I:l.length<=1000):∃r o,iw s l=some (r,o)/\r∈l/\Ok o (b+1):=by
 obtain ⟨r,o,h1,h2,A,B⟩:=rq s l.length hs hb (by omega) (by omega)
 obtain ⟨y,F,hm⟩:=NZ h2 A
 exact⟨y,o,by simp only [iw,h1,F,ob_],hm,B⟩
theorem D8 (s:Stream) (l:List ByteArray) {b:Int} (hs:Ok s b) (hb:b<=1000000) (h:1<=l.length) (I:l.length<=1000):∃r o,gp s l=some (r,o)/\r∈l/\Ok o (b+1):=by
 obtain ⟨r,o,h1,h2,A,B⟩:=rq s l.length hs hb (by omega) (by omega)
 obtain ⟨y,F,hm⟩:=NZ h2 A
 exact⟨y,o,by simp only [gp,h1,F,ob_],hm,B⟩
theorem oZ (s:Stream) (o hi:Int) {b:Int} (hs:Ok s b) (hb:b<=1000000) (h:o<=hi) (h1 : -1000000000000<=o) (h2:hi<=1000000000000):∃r A,dG s o hi=some (r,A)/\o<=r/\r<=hi/\Ok A (b+1):=by
 have F:decide (hi<o)=false:=by simp;omega
 have e1:w64 (hi-o)=hi-o:=gM (by omega)
 have e2:w64 (hi-o+1)=hi-o+1:=gM (by omega)
 obtain ⟨r,A,I,L,J,B⟩:=rq s (hi-o+1) hs hb (by omega) (by omega)
 simp only [dG,F,cond_false,e1,e2,I,ob_]
 exact⟨_,A,rfl,by rw [gM (by omega)];omega,by rw [gM (by omega)];omega,B⟩
end Go.Proofs.YtljhfffghjclfabGreatDoor.Law

open Go Go.Eng
namespace Go.Proofs.YtljhfffghjclfabGreatDoor.Law
set_option linter.unusedVariables false
set_option linter.unusedSimpArgs false
def Jh (b:UInt8):Bool:=decide (97<=b.toNat)&&decide (b.toNat<=122)
def moreB (b:UInt8):Bool:=(decide (48<=b.toNat)&&decide (b.toNat<=57))||(b.toNat==45)||(b.toNat==95)
def okB (i:Nat) (b:UInt8):Bool:=Jh b||(decide (0<i)&&moreB b)
def kZ (s:ByteArray) (i:Nat):UInt8:=s.data.toList.getD i 0
def keyB (s:ByteArray):Bool:=decide (s.size≠0)&&(decide (s.size<=40)&&(List.range s.size).all λi=>okB i (kZ s i))
theorem uO (s:ByteArray) (k:Nat) (h:k<s.size):yV s (k:Int)=some (kZ s k):=by
 have h1:s[k]? = some s[k]:=by simp [h]
 have h2:kZ s k=s[k]:=by
  have hl:k<s.data.toList.length:=by rw [<- Go.Lib.size_eq];exact h
  simp only [kZ,List.getD_eq_getElem?_getD,List.getElem?_eq_getElem hl,Option.getD_some]
  simp
  rfl
 simp only [yV,if_pos (Int.natCast_nonneg k),Int.toNat_natCast,h1,h2]
theorem Ki (s:ByteArray) (k:Nat) (hs:s.size<=1000000000):jC s (k:Int)=some (if k<s.size then (bif okB k (kZ s k)then .go ((k+1:Nat):Int)else .ret false)else .brk (k:Int)):=by
 unfold jC
 by_cases h:k<s.size
 ·have o:decide ((k:Int)<(s.size:Int))=true:=by simp;omega
  have J:w64 ((k:Int)+1)=((k+1:Nat):Int):=by rw [gM (by omega)];omega
  simp only [o,cond_true,uO s k h,ob_,if_pos h,J]
  generalize kZ s k=b
  simp only [okB,Jh,moreB]
  have e1:decide ((b.toNat:Int)>=97)=decide (97<=b.toNat):=decide_eq_decide.2 (by omega)
  have e2:decide ((b.toNat:Int)<=122)=decide (b.toNat<=122):=decide_eq_decide.2 (by omega)
  have B:decide ((k:Int)>0)=decide (0<k):=decide_eq_decide.2 (by omega)
  have A:decide ((b.toNat:Int)>=48)=decide (48<=b.toNat):=decide_eq_decide.2 (by omega)
  have F:decide ((b.toNat:Int)<=57)=decide (b.toNat<=57):=decide_eq_decide.2 (by omega)
  have e6:((b.toNat:Int)==45)=(b.toNat==45):=by rw [Bool.eq_iff_iff];simp;omega
  have I:((b.toNat:Int)==95)=(b.toNat==95):=by rw [Bool.eq_iff_iff];simp;omega
  rw [e1,e2,B,A,F,e6,I]
  cases decide (97<=b.toNat) <;> cases decide (b.toNat<=122) <;> cases decide (0<k) <;> cases decide (48<=b.toNat) <;> cases decide (b.toNat<=57) <;> cases (b.toNat==45) <;> cases (b.toNat==95) <;> rfl
 ·have o:decide ((k:Int)<(s.size:Int))=false:=by simp;omega
  simp only [o,cond_false,if_neg h]
theorem FP (s:ByteArray) (hs:s.size<=1000000000):∀(n k:Nat),k+n=s.size->iterN (λi=>jC s i) (n+1) (k:Int)=some (bif (List.range' k n).all (λj=>okB j (kZ s j))then .go (s.size:Int)else .ret false)
 | 0,k,h=>by
  have o:¬k<s.size:=by omega
  simp only [iterN,Ki s k hs,if_neg o,ob_,List.range'_zero,List.all_nil,cond_true]
  rw [show (k:Int)=s.size by omega]
 | n+1,k,h=>by
  have o:k<s.size:=by omega
  rw [iterN,Ki s k hs,if_pos o,ob_,List.range'_succ,List.all_cons]
  cases okB k (kZ s k)with
  | true=>simp only [cond_true,Bool.true_and];exact FP s hs n (k+1) (by omega)
  | false=>rfl
theorem uT (s:ByteArray) (hs:s.size<=1000000000):kit_IsKey s=some (keyB s):=by
 have h:=lZ (FP s hs s.size 0 (by omega))
 unfold kit_IsKey
 have A:jH (0:Int) (λo=>jC s o)=_:=h
 rw [A,ob_,<- List.range_eq_range']
 have e:decide ((s.size:Int)<=40)=decide (s.size<=40):=decide_eq_decide.2 (by omega)
 simp only [keyB]
 cases (List.range s.size).all (λi=>okB i (kZ s i))with
 | true =>
  rw [cond_true,lX,oF,e,Bool.and_true]
  cases decide (s.size≠0) <;> rfl
 | false=>simp only [cond_false,Oe,Bool.and_false]
end Go.Proofs.YtljhfffghjclfabGreatDoor.Law

open Go Go.Eng
namespace Go.Proofs.YtljhfffghjclfabGreatDoor.Law
set_option linter.unusedVariables false
set_option linter.unusedSimpArgs false
def spl (c:UInt8):List UInt8->List (List UInt8)
 | []=>[[]]
 | b::l=>if b=c then []::spl c l else match spl c l with
  | []=>[[b]]
  | x::r=>(b::x)::r
theorem Jp (c:UInt8):∀l,spl c l ≠ []
 | []=>by simp [spl]
 | b::l=>by
  unfold spl
  split
  ·simp
  ·split <;> simp
theorem QJ {c:UInt8}:∀{x:List UInt8},c∉x->spl c x=[x]
 | [],_=>rfl
 | b::x,h=>by
  have hb:b≠c:=λe=>h (by simp [e])
  have o:=QJ (x:=x) (λe=>h (List.mem_cons_of_mem _ e))
  unfold spl
  rw [if_neg hb,o]
theorem IG {c:UInt8}:∀{x:List UInt8} (y:List UInt8),c∉x->spl c (x++c::y)=x::spl c y
 | [],y,_=>by
  show spl c (c::y)=_
  rw [spl,if_pos rfl]
 | b::x,y,h=>by
  have hb:b≠c:=λe=>h (by simp [e])
  have o:=IG (x:=x) y (λe=>h (List.mem_cons_of_mem _ e))
  show spl c (b::(x++c::y))=_
  rw [spl,if_neg hb,o]
theorem index_c {c b:UInt8} (h:b≠c) (l:List UInt8):Lib.index (b::l) [c]=if Lib.index l [c] == -1 then -1 else Lib.index l [c]+1:=by
 have hp:([c]:List UInt8).isPrefixOf (b::l)=false:=by simp [List.isPrefixOf,Ne.symm h]
 rw [Lib.index,hp];simp
theorem Ht (c:UInt8):∀l:List UInt8,Lib.splitK [c] 0 (l.count c) l=spl c l
 | []=>rfl
 | b::l=>by
  have h:=Ht c l
  by_cases hb:b=c
  ·subst hb
   rw [List.count_cons_self,spl,if_pos rfl,<- h,Lib.splitK]
   have o:Lib.index (b::l) [b]=0:=by rw [Lib.index];simp [List.isPrefixOf]
   rw [o]
   simp
  ·rw [List.count_cons_of_ne hb,spl,if_neg hb,<- h]
   cases hn:l.count c with
   | zero=>rfl
   | succ n =>
    rw [Lib.splitK,Lib.splitK,index_c hb]
    have A:=Lib.index_ge l [c]
    by_cases hm:Lib.index l [c] = -1
    ·rw [hm];rfl
    ·have e1:(Lib.index l [c] == -1)=false:=by simpa using hm
     rw [e1]
     simp only [Bool.false_eq_true,if_false]
     have e2:(Lib.index l [c]+1 == -1)=false:=by rw [beq_eq_false_iff_ne];omega
     rw [e2]
     simp only [Bool.false_eq_true,if_false,Nat.add_zero,List.length_cons,List.length_nil,Nat.zero_add]
     rw [show (Lib.index l [c]+1).toNat=(Lib.index l [c]).toNat+1 by omega]
     rfl
theorem EW (c:UInt8) {s:ByteArray} (hs:s.size<4294967281):strings_Split s (⟨#[c]⟩:ByteArray)=some ((spl c s.data.toList).map λl=>(⟨l.toArray⟩:ByteArray)):=by
 have h1:(1:Nat)<=(⟨#[c]⟩:ByteArray).size:=Nat.le_refl 1
 show El s (⟨#[c]⟩:ByteArray)=_
 unfold El
 rw [if_pos ⟨hs,h1⟩]
 have e1:Lib.countB s (⟨#[c]⟩:ByteArray)=s.data.toList.count c:=by
  show Lib.count s.data.toList [c]=_
  exact Lib.count_one c _
 have e2:=Lib.splitB_data (⟨#[c]⟩:ByteArray) 0 (s.data.toList.count c) s
 have h:(Lib.splitB (⟨#[c]⟩:ByteArray) 0 (s.data.toList.count c) s).map (λx=>x.data.toList)=spl c s.data.toList:=by
  rw [<- Ht];exact e2
 rw [e1,<- h,List.map_map]
 congr 1
 exact (List.map_id _).symm.trans (List.map_congr_left (λx _=>rfl))
def uH (b:UInt8):Bool:=decide (48<=b.toNat)&&decide (b.toNat<=57)
theorem I4 {n:Nat} (h:n<10):(UInt8.ofNat (48+n)).toNat=48+n:=by
 rw [UInt8.toNat_ofNat'];omega
theorem ddS {u:Nat} (h:u<10):Lib.decDigits u=[UInt8.ofNat (48+u)]:=by rw [Lib.decDigits,dif_pos h]
theorem ddB {u:Nat} (h:¬u<10):Lib.decDigits u=Lib.decDigits (u / 10)++[UInt8.ofNat (48+u % 10)]:=by rw [Lib.decDigits,dif_neg h]
theorem LZ (u:Nat):∀b∈Lib.decDigits u,uH b=true:=by
 induction u using Nat.strongRecOn with
 | ind u o =>
  by_cases h:u<10
  ·rw [ddS h]
   intro b hb
   rw [List.mem_singleton.1 hb]
   unfold uH
   rw [I4 h,decide_eq_true (by omega),decide_eq_true (by omega)];rfl
  ·rw [ddB h]
   intro b hb
   rcases List.mem_append.1 hb with hb|hb
   ·exact o (u / 10) (by omega) b hb
   ·rw [List.mem_singleton.1 hb]
    unfold uH
    rw [I4 (Nat.mod_lt _ (by decide)),decide_eq_true (by omega),decide_eq_true (by omega)];rfl
theorem dv_of {n:Nat} (h:n<10):Lib.digitVal (UInt8.ofNat (48+n))=some n:=by
 have:∀n:Fin 10,Lib.digitVal (UInt8.ofNat (48+n.val))=some n.val:=by decide
 exact this ⟨n,h⟩
theorem yc:∀(l:List UInt8) (a m:Nat) (b:UInt8) (d:Nat),Lib.decFrom a l=some m->Lib.digitVal b=some d->Lib.decFrom a (l++[b])=some (m*10+d)
 | [],a,m,b,d,h,o=>by
  simp only [Lib.decFrom,so_]at h
  subst h
  simp only [List.nil_append,Lib.decFrom,o]
 | x::l,a,m,b,d,h,o=>by
  simp only [List.cons_append,Lib.decFrom]at h ⊢
  cases hx:Lib.digitVal x with
  | none=>rw [hx]at h;cases h
  | some e =>
   rw [hx]at h
   exact yc l _ m b d h o
theorem FK (u:Nat):Lib.decFrom 0 (Lib.decDigits u)=some u:=by
 induction u using Nat.strongRecOn with
 | ind u o =>
  by_cases h:u<10
  ·rw [ddS h]
   simp only [Lib.decFrom,dv_of h]
   congr 1;omega
  ·rw [ddB h,yc _ 0 (u / 10) _ (u % 10) (o (u / 10) (by omega)) (dv_of (Nat.mod_lt _ (by decide)))]
   congr 1;omega
theorem K3 (u:Nat):Lib.decDigits u ≠ []:=by
 by_cases h:u<10
 ·rw [ddS h];simp
 ·rw [ddB h];simp
theorem Jl (u:Nat) (h:u≠0):∀b l,Lib.decDigits u=b::l->b.toNat≠48:=by
 induction u using Nat.strongRecOn with
 | ind u o =>
  intro b l e
  by_cases h1:u<10
  ·rw [ddS h1]at e
   simp only [List.cons.injEq]at e
   rw [<- e.1,I4 h1]
   omega
  ·rw [ddB h1]at e
   cases hd:Lib.decDigits (u / 10)with
   | nil=>exact absurd hd (K3 _)
   | cons x r =>
    rw [hd,List.cons_append,List.cons.injEq]at e
    rw [<- e.1]
    exact o (u / 10) (by omega) (by omega) x r hd
theorem Mx:∀(k u:Nat),u<10 ^ (k+1)->(Lib.decDigits u).length<=k+1
 | 0,u,h=>by rw [ddS (by omega)];simp
 | k+1,u,h=>by
  by_cases h1:u<10
  ·rw [ddS h1];simp
  ·rw [ddB h1,List.length_append]
   have:=Mx k (u / 10) (by rw [Nat.pow_succ]at h;omega)
   simp only [List.length_cons,List.length_nil];omega
theorem atoi_dd (u:Nat):Lib.atoi (Lib.decDigits u)=some (u:Int):=by
 cases hd:Lib.decDigits u with
 | nil=>exact absurd hd (K3 u)
 | cons b l =>
  have hb:=LZ u b (by rw [hd];exact List.mem_cons_self)
  unfold uH at hb
  simp only [Bool.and_eq_true,decide_eq_true_eq]at hb
  have n1:(b==45)=false:=by rw [beq_eq_false_iff_ne];intro e;rw [e]at hb;exact absurd hb.1 (by decide)
  have n2:(b==43)=false:=by rw [beq_eq_false_iff_ne];intro e;rw [e]at hb;exact absurd hb.1 (by decide)
  simp only [Lib.atoi,n1,n2,Bool.false_eq_true,if_false]
  have e:Lib.decNat (b::l)=some u:=by
   unfold Lib.decNat
   rw [<- hd,FK]
   rw [hd];rfl
  rw [e];rfl
theorem zX {s:ByteArray} {k:Nat} (h:k<s.size):s.data.toList[k]? = some (kZ s k):=by
 have hl:k<s.data.toList.length:=by rw [<- Go.Lib.size_eq];exact h
 unfold kZ
 rw [List.getD_eq_getElem?_getD,List.getElem?_eq_getElem hl];rfl
theorem QO {s:ByteArray} {b:UInt8} (h:0<s.size) (hl:s.size<1000000000) (hb:kZ s 0=b) (A:b≠45):strings_TrimPrefix s (⟨#[45]⟩:ByteArray)=some s:=by
 unfold strings_TrimPrefix dB bQ
 have h1:((⟨#[45]⟩:ByteArray).size:Int)=1:=rfl
 have h2:rW s 0 1=some (s.extract 0 1):=by
  unfold rW
  rw [if_pos (by omega)];rfl
 have F:sEq (s.extract 0 1) (⟨#[45]⟩:ByteArray)=false:=by
  cases hq:sEq (s.extract 0 1) (⟨#[45]⟩:ByteArray)with
  | false=>rfl
  | true =>
   exfalso
   have e:=(gY _ _).1 hq
   have e2:(s.extract 0 1).data.toList=s.data.toList.take 1:=by
    rw [ByteArray.data_extract,Array.toList_extract]
    rfl
   have o:=congrArg (λx:ByteArray=>x.data.toList[0]?) e
   simp only [e2]at o
   have B:=zX h
   rw [hb]at B
   rw [List.getElem?_take,if_pos (by omega),B]at o
   have:(⟨#[45]⟩:ByteArray).data.toList[0]? = some 45:=rfl
   rw [this,so_]at o
   exact A o
 rw [h1,decide_eq_true (by omega),cond_true,h2,ob_,F]
 rfl
end Go.Proofs.YtljhfffghjclfabGreatDoor.Law

open Go Go.Eng
namespace Go.Proofs.YtljhfffghjclfabGreatDoor.Law
set_option linter.unusedVariables false
set_option linter.unusedSimpArgs false
def yK:Int->List Run->Prop
 | _,[]=>True
 | lo,r::h=>lo<r.f_from/\r.f_from<r.f_to/\yK r.f_to h
theorem yK.mono {L:List Run} {A o:Int} (h:yK A L) (hl:o<=A):yK o L:=by
 cases L with
 | nil=>trivial
 | cons r L=>exact⟨by have:=h.1;omega,h.2⟩
def sub (h:Int):Int->List Run->List Run
 | rf,[]=>bif decide (rf<h)then [⟨rf,h⟩]else []
 | rf,q::M=>bif decide (q.f_from<h)then (bif decide (q.f_from>rf)then [⟨rf,q.f_from⟩]else [])++sub h (max rf q.f_to) M else bif decide (rf<h)then [⟨rf,h⟩]else []
end Go.Proofs.YtljhfffghjclfabGreatDoor.Law

namespace Go.Eng
set_option linter.unusedVariables false
set_option linter.unusedSimpArgs false
def Ny {α:Type} (cmp:α->α->Option Int) (L:Int) (h:(List α)×Int):Option (Ctl ((List α)×Int) (Unit)) :=
 (bif (decide (h.2>L))then (inR h.2 h.1).bind λ_=>(h.1[(0+(h.2).toNat)]?).bind λB=>(inR (w64 (h.2-1)) h.1).bind λ_=>(h.1[(0+((w64 (h.2-1))).toNat)]?).bind λJ=>(cmp B J).bind λF=>some (decide (F<0))else some false).bind λI=>bif I then (inR (w64 (h.2-1)) h.1).bind λ_=>(h.1[(0+((w64 (h.2-1))).toNat)]?).bind λo=>(inR h.2 h.1).bind λ_=>(h.1[(0+(h.2).toNat)]?).bind λA=>(inR h.2 h.1).bind λ_=>(h.1[(0+(h.2).toNat)]?).bind λM=>(inR (w64 (h.2-1)) (h.1.set (0+(h.2).toNat) o)).bind λ_=>((h.1.set (0+(h.2).toNat) o)[(0+((w64 (h.2-1))).toNat)]?).bind λN=>some (.go (((h.1.set (0+(h.2).toNat) o).set (0+((w64 (h.2-1))).toNat) A),(w64 (h.2-1))))else some (.brk (h.1,h.2))
noncomputable def Kh {α:Type} (cmp:α->α->Option Int) (B:Int) (F:Int) (h:(List α)×Int):Option (Ctl ((List α)×Int) (Unit)) :=
 bif (decide (h.2<B))then (jH (h.1,h.2) (λs=>Ny cmp F s)).bind λA=>thenC A (λo=>some (.go (o.1,(w64 (h.2+1))))) (λ_=>none)else some (.brk (h.1,h.2))
noncomputable def MM {α:Type} (cmp:α->α->Option Int) (h:(List α)) (o:Int) (F:Int):Option ((List α)) :=
 (jH (h,(w64 (o+1))) (λs=>Kh cmp F o s)).bind λA=>thenC A (λB=>some B.1) (λ_=>none)
noncomputable def RD {α:Type} (cmp:α->α->Option Int) (B:Int) (F:Int) (h:(List α)) (o:Int) (I:Unit):Option (Ctl (Unit) ((List α))) :=
 bif (decide ((w64 (B-F))<=12))then (MM cmp h F B).bind λA=>(ni A h).bind λ_=>some (.ret A)else bif (o==0)then none else none
noncomputable def LJ {α:Type} (cmp:α->α->Option Int) (h:(List α)) (B:Int) (F:Int) (o:Int):Option ((List α)) :=
 (jH () (λs=>RD cmp F B h o s)).bind λA=>thenC A (λI=>some h) (λr=>some r)
theorem NG {α:Type} (u v:α) (C:List α):∀A:List α,((A++u::v::C).set (A.length+1) u).set A.length v=A++v::u::C
 | []=>rfl
 | a::A=>by simp only [List.cons_append,List.length_cons,List.set_cons_succ,NG u v C A]
theorem get_0 {α:Type} (u:α) (C A:List α):(A++u::C)[A.length]? = some u:=by simp
theorem get_1 {α:Type} (u v:α) (C A:List α):(A++u::v::C)[A.length+1]? = some v:=by
 rw [List.getElem?_append_right (by omega)];simp
theorem QU {α:Type} (u v w:α) (C:List α):∀A:List α,(A++u::v::C).set (A.length+1) w=A++u::w::C
 | []=>rfl
 | a::A=>by simp only [List.cons_append,List.length_cons,List.set_cons_succ,QU u v w C A]
theorem MU {α:Type} {xs:List α} {i:Nat} (h:i<xs.length):inR (i:Int) xs=some ():=by
 unfold inR;rw [if_pos ⟨by omega,by simpa using h⟩]
section
variable {α:Type} {cmp:α->α->Option Int} {le:α->α->Prop} {p:α->Prop}
theorem insL1_s (u v:α) (A C:List α) {c:Int} (hc:cmp v u=some c) (hl:A.length<=1000000000):Ny cmp 0 (A++u::v::C,((A.length+1:Nat):Int))=some (bif decide (c<0)then .go (A++v::u::C,(A.length:Int))else .brk (A++u::v::C,((A.length+1:Nat):Int))):=by
 have o:w64 (((A.length+1:Nat):Int)-1)=(A.length:Int):=by rw [ED _ (by omega)];omega
 have h1:inR ((A.length+1:Nat):Int) (A++u::v::C)=some ():=MU (by simp)
 have h2:inR (A.length:Int) (A++u::v::C)=some ():=MU (by simp)
 have B:inR (A.length:Int) (A++u::u::C)=some ():=MU (by simp)
 have h:decide (((A.length+1:Nat):Int)>0)=true:=by simp <;> omega
 have e1:0+((A.length+1:Nat):Int).toNat=A.length+1:=by omega
 have e2:0+((A.length:Nat):Int).toNat=A.length:=by omega
 unfold Ny
 simp only [o,h1,h2,h,e1,e2,get_0,get_1,ob_,hc,cond_true,QU,B]
 cases decide (c<0)with
 | false=>rfl
 | true =>
  simp only [cond_true]
  have:=NG u v C A
  rw [QU]at this
  rw [this]
theorem Hu (hc:∀a b,p a->p b->∃c,cmp a b=some c/\(c<0->le a b)/\(¬c<0->le b a)) (Z:∀a b c,le a b->le b c->le a c) (v:α) (hv:p v) (R:List α):∀(n:Nat) (A B:List α),A.length=n->n<=1000000000->(∀a∈A,p a)->(A++B).Pairwise le->(∀b∈B,le v b) ->
  ∃M N,iterN (λs=>Ny cmp 0 s) (n+1) (A++v::(B++R),(A.length:Int))=some (.go (M++v::(N++R),(M.length:Int)))/\M++N=A++B/\(M++v::N).Pairwise le
 | 0,A,B,L,hn,I,hp,hb=>by
  have:A=[]:=List.eq_nil_of_length_eq_zero L
  subst this
  exact⟨[],B,by simp only [List.nil_append,List.length_nil,iterN,Option.bind];rfl,rfl,by simpa using ⟨hb,hp⟩⟩
 | n+1,A,B,L,hn,I,hp,hb=>by
  rcases List.eq_nil_or_concat A with h|⟨F,u,h⟩
  ·rw [h]at L;cases L
  ·subst h
   simp only [List.concat_eq_append]at L hp I ⊢
   have W:F.length=n:=by simpa using L
   have hl:(F++[u]).length=F.length+1:=by simp
   have e:F++[u]++v::(B++R)=F++u::v::(B++R):=by simp
   obtain ⟨c,h1,h2,h3⟩:=hc v u hv (I u (by simp))
   rw [hl,e,iterN,insL1_s u v F (B++R) h1 (by omega),ob_]
   by_cases hcn:c<0
   ·simp only [decide_eq_true hcn,cond_true]
    have Y:(F++(u::B)).Pairwise le:=by simpa using hp
    obtain ⟨M,N,k1,k2,k3⟩:=Hu hc Z v hv R n F (u::B) W (by omega) (λa J=>I a (by simp [J])) Y (λb o=>by
     rcases List.mem_cons.1 o with rfl|o
     ·exact h2 hcn
     ·exact hb b o)
    refine⟨M,N,?_,by rw [k2];simp,k3⟩
    rw [<- k1];simp
   ·simp only [decide_eq_false hcn,cond_false]
    refine⟨F++[u],B,by simp,rfl,?_⟩
    have O:=h3 hcn
    rw [List.pairwise_append]at hp ⊢
    obtain ⟨X,p2,p3⟩:=hp
    refine⟨X,List.pairwise_cons.2 ⟨hb,p2⟩,λa J b o => ?_⟩
    rcases List.mem_cons.1 o with rfl|o
    ·rcases List.mem_append.1 J with J|J
     ·rw [List.pairwise_append]at X
      exact Z _ _ _ (X.2.2 a J u (by simp)) O
     ·rw [List.mem_singleton]at J;subst J;exact O
    ·exact p3 a J b o
theorem GH (hc:∀a b,p a->p b->∃c,cmp a b=some c/\(c<0->le a b)/\(¬c<0->le b a)) (O:∀a b c,le a b->le b c->le a c):∀(Q P:List α),P.length+Q.length<=1000000000->(∀x∈P++Q,p x)->P.Pairwise le ->
  ∃s,iterN (λs=>Kh cmp ((P.length+Q.length:Nat):Int) 0 s) (Q.length+1) (P++Q,(P.length:Int))=some (.go (s,((P.length+Q.length:Nat):Int)))/\s.Perm (P++Q)/\s.Pairwise le
 | [],P,hl,A,hp=>by
  refine⟨P,?_,by simp,hp⟩
  have J:decide ((P.length:Int)<((P.length+([]:List α).length:Nat):Int))=false:=by simp
  simp only [iterN,Kh,J,cond_false,ob_,List.append_nil]
  simp
 | v::Q,P,hl,A,hp=>by
  simp only [List.length_cons]at hl
  have J:decide ((P.length:Int)<((P.length+(v::Q).length:Nat):Int))=true:=by simp only [decide_eq_true_eq,List.length_cons];omega
  obtain ⟨B,F,W,M,k3⟩:=Hu hc O v (A v (by simp)) Q P.length P [] rfl (by omega) (λa ha=>A a (by simp [ha])) (by simpa using hp) (λb hb=>by cases hb)
  rw [List.nil_append]at W
  have N:=lZ W
  rw [List.length_cons,iterN]
  have hw:w64 ((P.length:Int)+1)=((B++v::F).length:Int):=by
   have:=congrArg List.length M
   simp only [List.length_append,List.length_nil]at this
   rw [ED _ (by omega)];simp only [List.length_append,List.length_cons];omega
  have h1:Kh cmp ((P.length+(Q.length+1):Nat):Int) 0 (P++v::Q,(P.length:Int))=some (.go (B++v::(F++Q),((B++v::F).length:Int))):=by
   have L:decide ((P.length:Int)<((P.length+(Q.length+1):Nat):Int))=true:=J
   unfold Kh
   simp only [L,cond_true,N,ob_,thenC,hw]
  have R:(B++v::F).length=P.length+1:=by
   have:=congrArg List.length M
   simp only [List.length_append,List.length_nil,List.length_cons]at this ⊢
   omega
  have hk:(B++F).Perm P:=by rw [M];simp
  have o:(B++v::F).Perm (P++[v]):=(List.perm_middle).trans ((List.Perm.cons v hk).trans (List.perm_append_comm (l₁:=[v]) (l₂:=P)))
  obtain ⟨s,Z,Y,X⟩:=GH hc O Q (B++v::F) (by omega) (λx I=>by
   rcases List.mem_append.1 I with I|I
   ·have:=o.mem_iff.1 I
    exact A x (by rcases List.mem_append.1 this with h | h <;> simp_all)
   ·exact A x (by simp [I])) k3
  rw [h1,ob_]
  have e:B++v::(F++Q)=(B++v::F)++Q:=by simp
  have e2:P.length+(Q.length+1)=(B++v::F).length+Q.length:=by omega
  simp only
  rw [e,e2]
  refine⟨s,Z,Y.trans ?_,X⟩
  have:=List.Perm.append_right Q o
  simpa using this
theorem pdq_ok (hc:∀a b,p a->p b->∃c,cmp a b=some c/\(c<0->le a b)/\(¬c<0->le b a)) (O:∀a b c,le a b->le b c->le a c) (l:List α) (hl:l.length<=12) (A:∀x∈l,p x) (h:Int):∃s,LJ cmp l 0 (l.length:Int) h=some s/\s.Perm l/\s.Pairwise le:=by
 have key:∃s,MM cmp l 0 (l.length:Int)=some s/\s.Perm l/\s.Pairwise le:=by
  unfold MM
  have L:w64 (0+1)=1:=rfl
  rw [L]
  cases l with
  | nil=>exact⟨[],by rw [lZ (n:=1) (o := .go ([],1)) rfl];rfl,.nil,.nil⟩
  | cons v Q =>
   obtain ⟨s,F,R,M⟩:=GH hc O Q [v] (by simp only [List.length_cons,List.length_nil]at hl ⊢;omega) (λx I=>A x (by simpa using I)) (List.pairwise_singleton _ _)
   have e:([v].length+Q.length:Nat)=(v::Q).length:=by simp only [List.length_cons,List.length_nil];omega
   rw [e]at F
   have:=lZ F
   refine⟨s,?_,R,M⟩
   show (jH (v::Q,1) _).bind _=_
   have e2:(([v]++Q,(([v]:List α).length:Int)):List α×Int)=(v::Q,1):=rfl
   rw [e2]at this
   rw [this];rfl
 obtain ⟨s,h1,h2,N⟩:=key
 refine⟨s,?_,h2,N⟩
 have B:ni s l=some ():=by unfold ni;rw [if_pos h2.length_eq]
 have J:decide (w64 ((l.length:Int)-0)<=12)=true:=by
  have:(l.length:Int)-0=l.length:=by omega
  rw [this,ED _ (by omega)];simp;omega
 have:jH () (λs=>RD cmp (l.length:Int) 0 l h s)=some (.ret s):=by
  refine lZ (n:=1) ?_
  simp only [iterN,RD,J,cond_true,h1,B,ob_]
 unfold LJ
 rw [this];rfl
end
end Go.Eng

open Go Go.Eng
namespace Go.Proofs.YtljhfffghjclfabGreatDoor.Law
set_option linter.unusedVariables false
set_option linter.unusedSimpArgs false
theorem nD {α:Type} (xs ys:List α) (h:xs.length+ys.length<=1000000000):jE xs ys=some (xs++ys):=by unfold jE;rw [if_pos h]
def Fine (r:Rect):Prop:=(-100000<=r.X/\r.X<=100000)/\(-100000<=r.Y/\r.Y<=100000)/\(1<=r.W/\r.X+r.W<=100000)/\1<=r.H/\r.Y+r.H<=100000
theorem len_ok:∀n:Nat,n<=12->∃k,iV (IntKind.u64.wrap (n:Int))=some k:=by
 have h:(List.range 13).all (λn=>(iV (IntKind.u64.wrap (n:Int))).isSome)=true:=by kernel_rfl
 intro n o
 have:=List.all_eq_true.1 h n (by simp;omega)
 exact Option.isSome_iff_exists.1 this
end Go.Proofs.YtljhfffghjclfabGreatDoor.Law

open Go Go.Eng
namespace Go.Proofs.YtljhfffghjclfabGreatDoor.Law
set_option linter.unusedVariables false
set_option linter.unusedSimpArgs false
abbrev SB (l:List UInt8):ByteArray:=⟨l.toArray⟩
theorem IB {l m:List UInt8} (h:SB l=SB m):l=m:=by
 have:=congrArg (λs:ByteArray=>s.data.toList) h
 simpa using this
def Med (n:Int):Prop := -1000000000000000<=n/\n<=1000000000000000
theorem ND {n:Int} (h:Med n):strconv_Itoa n=some (SB (Go.Lib.itoa n)):=by
 unfold strconv_Itoa M7
 unfold Med at h
 rw [if_pos ⟨by omega,by omega⟩]
theorem AL {n:Int} (h:Med n):(Go.Lib.itoa n).length<=21:=by
 unfold Med at h
 exact Go.Lib.itoa_length_le n (by omega) (by omega)
theorem zB (h y:List UInt8) (r:List (List UInt8)):Go.Lib.joinTail h (y::r)=h++y++Go.Lib.joinTail h r:=by simp [Go.Lib.joinTail]
theorem K4 (h:List UInt8) (m:Nat):∀(r:List (List UInt8)),(∀x∈r,x.length<=m)->(Go.Lib.joinTail h r).length<=r.length*(m+h.length)
 | [],_=>by simp [Go.Lib.joinTail]
 | y::r,o=>by
  rw [zB,List.length_append,List.length_append,List.length_cons,Nat.add_mul]
  have:=K4 h m r (λx A=>o x (List.mem_cons_of_mem _ A))
  have:=o y (by simp)
  omega
theorem N9 (o:List UInt8) (m:Nat):∀(A:List (List UInt8)),(∀x∈A,x.length<=m)->(Go.Lib.join A o).length<=A.length*(m+o.length)
 | [],h=>by simp [Go.Lib.join_nil]
 | x::r,h=>by
  rw [Go.Lib.join_cons,List.length_append,List.length_cons,Nat.add_mul]
  have:=K4 o m r (λx B=>h x (List.mem_cons_of_mem _ B))
  have:=h x (by simp)
  omega
theorem PT (A:List (List UInt8)) (o:List UInt8) (m:Nat) (h:∀x∈A,x.length<=m) (hl:A.length<=1000000) (hm:m+o.length<=10000):strings_Join (A.map SB) (SB o)=some (SB (Go.Lib.join A o)):=by
 have h1:=N9 o m A h
 have h2:A.length*(m+o.length)<=1000000*10000:=Nat.mul_le_mul hl hm
 have e:(A.map SB).map (λx=>x.data.toList)=A:=by rw [List.map_map];exact List.map_id' A
 unfold strings_Join NW
 rw [e]
 have e2:(SB o).data.toList=o:=rfl
 rw [e2,if_pos ⟨by simp;omega,by omega⟩]
theorem CS:∀(l:List Int) (k:Nat) (o:List ByteArray),(∀n∈l,Med n)->l.length+o.length<=1000000->forR (λk x s=>jR k x s) l k o=some (.go (o++l.map λn=>SB (Go.Lib.itoa n)))
 | [],k,o,h,hl=>by simp [forR]
 | n::l,k,o,h,hl=>by
  simp only [List.length_cons]at hl
  have F:=CS l (k+1) (o++[SB (Go.Lib.itoa n)]) (λx B=>h x (List.mem_cons_of_mem _ B)) (by simp;omega)
  have A:jR k n o=some (.go (o++[SB (Go.Lib.itoa n)])):=by
   unfold jR
   rw [ND (h n (by simp))]
   simp only [ob_]
   rw [nD _ _ (by simp;omega)]
   rfl
  simp only [forR,A,ob_]
  rw [F]
  simp
theorem E9 (l:List Int) (h:∀n∈l,Med n) (hl:l.length<=1000000):lH l=some (SB (Go.Lib.join (l.map Go.Lib.itoa) [32])):=by
 unfold lH
 rw [gJ (by omega),CS l 0 [] h (by simpa using hl)]
 simp only [ob_,lX,List.nil_append]
 have e:(l.map λn=>SB (Go.Lib.itoa n))=(l.map Go.Lib.itoa).map SB:=by rw [List.map_map];rfl
 rw [e,PT _ [32] 21 (λx o=>by
  obtain ⟨n,A,rfl⟩:=List.mem_map.1 o
  exact AL (h n A)) (by simpa using hl) (by decide)]
 rfl
def IY (b:UInt8):Bool:=decide (48<=b.toNat)&&decide (b.toNat<=57)
theorem NH {n:Nat} (h:n<10):(UInt8.ofNat (48+n)).toNat=48+n:=by
 rw [UInt8.toNat_ofNat',Nat.mod_eq_of_lt (by omega)]
theorem LP {u:Nat} (h:u<10):Go.Lib.decDigits u=[UInt8.ofNat (48+u)]:=by rw [Go.Lib.decDigits,dif_pos h]
theorem QC {u:Nat} (h:¬u<10):Go.Lib.decDigits u=Go.Lib.decDigits (u / 10)++[UInt8.ofNat (48+u % 10)]:=by rw [Go.Lib.decDigits,dif_neg h]
theorem Ak (u:Nat):(Go.Lib.decDigits u).all IY=true:=by
 induction u using Nat.strongRecOn with
 | ind u o =>
  by_cases h:u<10
  ·rw [LP h]
   have:=NH h
   simp only [List.all_cons,List.all_nil,Bool.and_true,IY,this,Bool.and_eq_true,decide_eq_true_eq]
   omega
  ·rw [QC h,List.all_append,o (u / 10) (by omega)]
   have:=NH (show u % 10<10 by omega)
   simp only [List.all_cons,List.all_nil,Bool.and_true,Bool.true_and,IY,this,Bool.and_eq_true,decide_eq_true_eq]
   omega
theorem CK {n:Int} (h:0<=n):Go.Lib.itoa n=Go.Lib.decDigits n.toNat:=by unfold Go.Lib.itoa;rw [if_neg (by omega)]
theorem Ql {c:UInt8} (hc:IY c=false) {l:List UInt8} (h:l.all IY=true):c∉l:=λhm=>by
 have:=List.all_eq_true.1 h c hm
 rw [hc]at this;cases this
theorem itoa_no {n:Int} (h:0<=n) {c:UInt8} (hc:IY c=false):c∉Go.Lib.itoa n:=by rw [CK h];exact Ql hc (Ak _)
theorem key_all {s:ByteArray} (h:keyB s=true):∀b∈s.data.toList,okB 1 b=true:=λb hb=>by
 simp only [keyB,Bool.and_eq_true,List.all_eq_true]at h
 obtain ⟨i,hi,rfl⟩:=List.getElem_of_mem hb
 have hs:i<s.size:=by rw [Go.Lib.size_eq];exact hi
 have:=h.2.2 i (by simpa using hs)
 have e:kZ s i=s.data.toList[i]:=by
  simp only [kZ,List.getD_eq_getElem?_getD,List.getElem?_eq_getElem hi,Option.getD_some]
 rw [e]at this
 simp only [okB,Bool.or_eq_true,Bool.and_eq_true]at this ⊢
 rcases this with k|k
 ·exact .inl k
 ·exact .inr ⟨by decide,k.2⟩
theorem BR {s:ByteArray} (h:keyB s=true) {c:UInt8} (hc:okB 1 c=false):c∉s.data.toList:=λhm=>by
 have:=key_all h c hm
 rw [hc]at this;cases this
end Go.Proofs.YtljhfffghjclfabGreatDoor.Law

open Go Go.Eng
namespace Go.Proofs.YtljhfffghjclfabGreatDoor.Law
set_option linter.unusedVariables false
set_option linter.unusedSimpArgs false
theorem sb_app (l m:List UInt8):SB l++SB m=SB (l++m):=by
 apply Ap;rw [toL,toL];simp
theorem fG (l:List UInt8):(SB l).size=l.length:=by show l.toArray.size=_;simp
theorem jq (l m:List UInt8) (h:l.length+m.length<=1000000000000):fu (SB l) (SB m)=some (SB (l++m)):=by
 rw [<- sb_app]
 unfold fu
 rw [if_neg]
 have:IntKind.i64.max=9223372036854775807:=by decide
 rw [this,fG,fG];omega
theorem itoa_neg {n:Int} (h:n<0):Go.Lib.itoa n=45::Go.Lib.decDigits n.natAbs:=by unfold Go.Lib.itoa;rw [if_pos h]
theorem AP (n:Int) {c:UInt8} (hc:IY c=false) (o:c≠45):c∉Go.Lib.itoa n:=by
 by_cases hn:0<=n
 ·exact itoa_no hn hc
 ·rw [itoa_neg (show n<0 by omega)]
  intro hm
  rcases List.mem_cons.1 hm with h|h
  ·exact o h
  ·exact Ql hc (Ak _) h
theorem nK (x y:List UInt8) (r:List (List UInt8)) (h:List UInt8):Go.Lib.join (x::y::r) h=x++(h++Go.Lib.join (y::r) h):=by
 rw [Go.Lib.join_cons,zB,Go.Lib.join_cons,List.append_assoc]
theorem joinI' (n m:Int) (r:List Int):Go.Lib.join ((n::m::r).map Go.Lib.itoa) [32]=Go.Lib.itoa n++32::Go.Lib.join ((m::r).map Go.Lib.itoa) [32]:=by
 simp only [List.map_cons,nK];rfl
theorem rJ (l:List Int) (h:∀n∈l,Med n):(Go.Lib.join (l.map Go.Lib.itoa) [32]).length<=l.length*22:=by
 have:=N9 [32] 21 (l.map Go.Lib.itoa) (λx o=>by
  obtain ⟨n,A,rfl⟩:=List.mem_map.1 o
  exact AL (h n A))
 simpa using this
end Go.Proofs.YtljhfffghjclfabGreatDoor.Law

open Go Go.Eng
namespace Go.Proofs.YtljhfffghjclfabGreatDoor.Law
set_option linter.unusedVariables false
set_option linter.unusedSimpArgs false
theorem JN {b:UInt8} (h:uH b=true):Lib.digitVal b=some (b.toNat-48):=by
 unfold uH at h
 simp only [Bool.and_eq_true,decide_eq_true_eq]at h
 unfold Lib.digitVal
 rw [if_pos h]
theorem CE:∀(l:List UInt8) (a:Nat),l.all uH=true->∃v,Lib.decFrom a l=some v
 | [],a,_=>⟨a,rfl⟩
 | b::l,a,h=>by
  simp only [List.all_cons,Bool.and_eq_true]at h
  obtain ⟨v,o⟩:=CE l (a*10+(b.toNat-48)) h.2
  exact⟨v,by simp only [Lib.decFrom,JN h.1];exact o⟩
theorem MB (b:UInt8) (h:uH b=true):b=UInt8.ofNat (48+(b.toNat-48)):=by
 unfold uH at h
 simp only [Bool.and_eq_true,decide_eq_true_eq]at h
 rw [show 48+(b.toNat-48)=b.toNat by omega,UInt8.ofNat_toNat]
theorem MX:∀(n:Nat) (t:List UInt8),t.length=n+1->t.all uH=true->(∀b l,t=b::l->b.toNat≠48)->∃v,Lib.decFrom 0 t=some v/\v≠0/\Lib.decDigits v=t
 | 0,t,hl,h,A=>by
  match t,hl,h,A with
  | [b],_,h,A =>
   simp only [List.all_cons,List.all_nil,Bool.and_true]at h
   have hb:=A b [] rfl
   have o:=h
   unfold uH at o
   simp only [Bool.and_eq_true,decide_eq_true_eq]at o
   refine⟨b.toNat-48,by simp only [Lib.decFrom,JN h];congr 1;omega,by omega,?_⟩
   rw [ddS (by omega),<- MB b h]
 | n+1,t,hl,h,A=>by
  have B:t ≠ []:=λe=>by rw [e]at hl;simp at hl
  obtain ⟨t',b,rfl⟩:∃t' b,t=t'++[b]:=⟨t.dropLast,t.getLast B,(List.dropLast_concat_getLast B).symm⟩
  have F:t'.length=n+1:=by simpa using hl
  rw [List.all_append]at h
  simp only [List.all_cons,List.all_nil,Bool.and_true,Bool.and_eq_true]at h
  obtain ⟨v,I,v2,v3⟩:=MX n t' F h.1 (λb' l' e=>A b' (l'++[b]) (by rw [e];rfl))
  have o:=h.2
  unfold uH at o
  simp only [Bool.and_eq_true,decide_eq_true_eq]at o
  refine⟨v*10+(b.toNat-48),yc t' 0 v b _ I (JN h.2),by omega,?_⟩
  rw [ddB (by omega),show (v*10+(b.toNat-48)) / 10=v by omega,show (v*10+(b.toNat-48)) % 10=b.toNat-48 by omega,v3,<- MB b h.2]
theorem dd_zero {r:List UInt8} (h:r ≠ []) {b:UInt8} (hb:b.toNat=48) (v:Nat):Lib.decDigits v≠b::r:=λe=>by
 by_cases hv:v=0
 ·subst hv
  rw [ddS (by decide)]at e
  simp only [List.cons.injEq]at e
  exact h e.2.symm
 ·exact Jl v hv b r e hb
def qj:List UInt8->List UInt8
 | []=>[]
 | b::t=>if b=45 then t else b::t
theorem M5 (l:List UInt8) (hl:l.length<1000000000):strings_TrimPrefix (SB l) (⟨#[45]⟩:ByteArray)=some (SB (qj l)):=by
 cases l with
 | nil=>decide +kernel
 | cons b t =>
  by_cases hb:b=45
  ·subst hb
   have hs:(SB (45::t)).size=t.length+1:=by rw [fG];rfl
   unfold strings_TrimPrefix dB bQ
   have h1:((⟨#[45]⟩:ByteArray).size:Int)=1:=rfl
   have h2:rW (SB (45::t)) 0 1=some (⟨#[45]⟩:ByteArray):=by
    unfold rW
    rw [if_pos (by rw [hs];omega)]
    congr 1
    apply ByteArray.ext
    apply Array.ext'
    rw [ByteArray.data_extract,Array.toList_extract]
    rfl
   have h:rW (SB (45::t)) 1 ((SB (45::t)).size:Int)=some (SB t):=by
    unfold rW
    rw [if_pos (by rw [hs];omega)]
    congr 1
    apply ByteArray.ext
    apply Array.ext'
    rw [ByteArray.data_extract,Array.toList_extract,Int.toNat_natCast,hs]
    show ((45::t).take (t.length+1)).drop 1=t
    rw [List.take_of_length_le (by simp)];rfl
   rw [h1,decide_eq_true (by rw [hs];omega),cond_true,h2,ob_,show sEq (⟨#[45]⟩:ByteArray) (⟨#[45]⟩:ByteArray)=true from (gY _ _).2 rfl]
   simp only [ob_,cond_true,h]
   rw [show qj (45::t)=t by simp [qj]]
  ·have:=QO (s:=SB (b::t)) (b:=b) (by rw [fG];simp) (by rw [fG];exact hl) rfl hb
   rw [this,show qj (b::t)=b::t by simp [qj,hb]]
theorem KU (r:List UInt8) (N:r.length<=1000):jH 0 (λt=>gZ (SB r) t)=some (bif r.all uH then .go (r.length:Int)else .ret (0,false)):=by
 have hsz:(SB r).size=r.length:=fG r
 have F:∀(d j:Nat),j+d=r.length->∃n,iterN (λt=>gZ (SB r) t) n (j:Int)=some (bif (r.drop j).all uH then .go (r.length:Int)else .ret (0,false)):=by
  intro d
  induction d with
  | zero =>
   intro j hj
   have I:j=r.length:=by omega
   subst I
   refine⟨1,?_⟩
   simp only [iterN,gZ]
   rw [decide_eq_false (by rw [hsz];omega),List.drop_length];rfl
  | succ d M =>
   intro j hj
   have o:j<r.length:=by omega
   have hc:yV (SB r) (j:Int)=some r[j]:=by
    rw [uO (SB r) j (by rw [hsz];exact o)]
    have:=zX (s:=SB r) (k:=j) (by rw [hsz];exact o)
    have h2:(SB r).data.toList[j]? = some r[j]:=List.getElem?_eq_getElem o
    rw [h2]at this
    exact this.symm
   have L:r.drop j=r[j]::r.drop (j+1):=List.drop_eq_getElem_cons o
   rw [L,List.all_cons]
   cases hd:uH r[j]with
   | false =>
    refine⟨1,?_⟩
    simp only [iterN,gZ]
    rw [decide_eq_true (by rw [hsz];omega),cond_true,hc,ob_,ob_]
    unfold uH at hd
    simp only [Bool.false_and,cond_false]
    by_cases h48:(r[j].toNat:Int)<48
    ·rw [decide_eq_true h48];rfl
    ·rw [decide_eq_false h48,cond_false,ob_]
     have B:(r[j].toNat:Int)>57:=by
      by_cases h:r[j].toNat<=57
      ·rw [decide_eq_true (by omega),decide_eq_true h]at hd;cases hd
      ·omega
     rw [decide_eq_true B];rfl
   | true =>
    obtain ⟨n,J⟩:=M (j+1) (by omega)
    refine⟨n+1,?_⟩
    unfold uH at hd
    simp only [Bool.and_eq_true,decide_eq_true_eq]at hd
    have A:gZ (SB r) (j:Int)=some (.go ((j+1:Nat):Int)):=by
     unfold gZ
     rw [decide_eq_true (by rw [hsz];omega),cond_true,hc,ob_,decide_eq_false (by omega),cond_false,ob_,decide_eq_false (by omega),ob_,cond_false,gM (by omega)]
     rfl
    rw [iterN,A,ob_,Bool.true_and]
    exact J
 obtain ⟨n,J⟩:=F r.length 0 (by omega)
 exact lZ J
theorem zy (r:List UInt8):sEq (SB r) (⟨#[]⟩:ByteArray)=r.isEmpty:=by
 cases r with
 | nil=>exact (gY _ _).2 rfl
 | cons b r =>
  cases h:sEq (SB (b::r)) (⟨#[]⟩:ByteArray)with
  | false=>rfl
  | true =>
   have:=congrArg ByteArray.size ((gY _ _).1 h)
   rw [fG]at this
   change _=0 at this
   simp at this
theorem EU (c:UInt8):∀l:List UInt8,Lib.join (spl c l) [c]=l
 | []=>by simp [spl,Lib.join_one]
 | b::l=>by
  have h:=EU c l
  unfold spl
  by_cases hb:b=c
  ·rw [if_pos hb,Lib.join_cons,List.nil_append]
   cases hs:spl c l with
   | nil=>exact absurd hs (Jp c l)
   | cons x r =>
    rw [hs,Lib.join_cons]at h
    rw [zB,List.append_assoc,h,hb];rfl
  ·rw [if_neg hb]
   cases hs:spl c l with
   | nil=>exact absurd hs (Jp c l)
   | cons x r =>
    rw [hs,Lib.join_cons]at h
    show Lib.join ((b::x)::r) [c]=_
    rw [Lib.join_cons,List.cons_append,h]
theorem num_kit (l:List UInt8) (hl:l.length<=100000) (M:Int) (hM:M<=15):∃(n:Int) (ok:Bool),nS (SB l) M=some (n,ok)/\Med n/\(ok=true->Lib.itoa n=l):=by
 have A:Med 0:=by unfold Med;omega
 have hsz:∀r:List UInt8,((SB r).size:Int)=(r.length:Int):=λr=>by rw [fG]
 unfold nS
 rw [M5 l (by omega),ob_,zy,hsz]
 generalize F:qj l=r
 cases he:r.isEmpty with
 | true=>exact⟨0,false,rfl,A,(λh=>by cases h)⟩
 | false =>
 simp only [cond_false]
 by_cases o:(r.length:Int)>M
 ·rw [decide_eq_true o]
  exact⟨0,false,rfl,A,(λh=>by cases h)⟩
 ·rw [decide_eq_false o]
  simp only [cond_false]
  have I:r.length<=15:=by omega
  rw [KU r (by omega),ob_]
  match r,he,F,o,I with
  | b::t,he,F,o,I =>
  have Y:yV (SB (b::t)) 0=some b:=by
   have O:=uO (SB (b::t)) 0 (by rw [fG];simp)
   rw [show ((0:Nat):Int)=0 from rfl]at O
   rw [O];rfl
  rw [Y,ob_]
  have X:sNe (SB l) (⟨#[48]⟩:ByteArray)=decide (l ≠ [48]):=by
   show (!sEq (SB l) (⟨#[48]⟩:ByteArray))=_
   rw [show sEq (SB l) (⟨#[48]⟩:ByteArray)=decide (l=[48]) by
    rw [Bool.eq_iff_iff,gY]
    simp only [decide_eq_true_eq]
    exact⟨λh=>IB (m:=[48]) h,λh=>by rw [h]⟩]
   by_cases h:l=[48] <;> simp [h]
  have R:((b.toNat:Int)==48)=decide (b.toNat=48):=by
   rw [Bool.eq_iff_iff];simp;omega
  rw [R,X]
  cases hall:(b::t).all uH with
  | false =>
   simp only [cond_false]
   refine⟨0,false,?_,A,(λh=>by cases h)⟩
   cases decide (b.toNat=48)with
   | false=>rfl
   | true =>
    simp only [cond_true,ob_]
    cases decide (l ≠ [48]) <;> rfl
  | true =>
   simp only [cond_true]
   obtain ⟨v,N⟩:=CE (b::t) 0 hall
   have hvb:v<1000000000000000:=by
    have:=Lib.decFrom_lt _ _ _ N
    have h2:(10:Nat) ^ (b::t).length<=10 ^ 15:=Nat.pow_le_pow_right (by decide) I
    omega
   have L:Lib.decNat (b::t)=some v:=by unfold Lib.decNat;exact N
   have B:uH b=true:=by simp only [List.all_cons,Bool.and_eq_true]at hall;exact hall.1
   have hb45:b≠45:=λe=>by rw [e]at B;exact absurd B (by decide)
   have hb43:b≠43:=λe=>by rw [e]at B;exact absurd B (by decide)
   obtain ⟨n,hn,Z,hw⟩:∃n:Int,Lib.atoi l=some n/\Med n/\(Lib.itoa n=l↔¬(b.toNat=48/\l ≠ [48])):=by
    cases l with
    | nil=>simp [qj]at F
    | cons c l' =>
     by_cases hc:c=45
     ·subst hc
      rw [show qj (45::l')=l' by simp [qj]]at F
      subst F
      refine⟨-(v:Int),by simp [Lib.atoi,L],by unfold Med;omega,?_⟩
      by_cases h48:b.toNat=48
      ·refine⟨λe => ?_,λk=>absurd ⟨h48,by simp⟩ k⟩
       exfalso
       unfold Lib.itoa at e
       by_cases hv0:v=0
       ·subst hv0
        rw [if_neg (by omega)]at e
        rw [show (-((0:Nat):Int)).toNat=0 from rfl,ddS (by decide)]at e
        simp only [List.cons.injEq]at e
        exact absurd e.2 (by simp)
       ·rw [if_pos (by omega)]at e
        simp only [List.cons.injEq,true_and]at e
        rw [show (-(v:Int)).natAbs=v by omega]at e
        exact Jl v hv0 b t e h48
      ·obtain ⟨v',e1,e2,e3⟩:=MX t.length (b::t) rfl hall (λb' W e=>by
        simp only [List.cons.injEq]at e
        rw [<- e.1];exact h48)
       rw [N,so_]at e1
       subst e1
       refine⟨λ_ k=>h48 k.1,λ_ => ?_⟩
       unfold Lib.itoa
       rw [if_pos (by omega),show (-(v:Int)).natAbs=v by omega,e3]
     ·rw [show qj (c::l')=c::l' by simp [qj,hc]]at F
      simp only [List.cons.injEq]at F
      obtain ⟨rfl,rfl⟩:=F
      have n1:(c==45)=false:=by rw [beq_eq_false_iff_ne];exact hb45
      have n2:(c==43)=false:=by rw [beq_eq_false_iff_ne];exact hb43
      refine⟨(v:Int),by simp [Lib.atoi,n1,n2,L],by unfold Med;omega,?_⟩
      have hi:Lib.itoa (v:Int)=Lib.decDigits v:=by unfold Lib.itoa;rw [if_neg (by omega)];rfl
      rw [hi]
      by_cases h48:c.toNat=48
      ·have J:c=48:=by
        have:=MB c B
        rw [h48]at this
        exact this
       cases l' with
       | nil =>
        refine⟨λ_ k=>k.2 (by rw [J]),λ_ => ?_⟩
        have:v=0:=by
         simp only [Lib.decFrom,JN B,so_]at N
         omega
        rw [this,ddS (by decide),J];rfl
       | cons x W =>
        refine⟨λe=>absurd e (dd_zero (by simp) h48 v),λk=>absurd ⟨h48,by simp⟩ k⟩
      ·obtain ⟨v',e1,e2,e3⟩:=MX l'.length (c::l') rfl hall (λb' W e=>by
        simp only [List.cons.injEq]at e
        rw [<- e.1];exact h48)
       rw [N,so_]at e1
       subst e1
       exact⟨λ_ k=>h48 k.1,λ_=>e3⟩
   have hll:l.length<=16:=by
    cases l with
    | nil=>simp
    | cons c l' =>
     have h2:l'.length<=(qj (c::l')).length:=by
      by_cases hc:c=45
      ·simp [qj,hc]
      ·simp [qj,hc]
     rw [F]at h2
     simp only [List.length_cons]at I h2 ⊢;omega
   have ha:strconv_Atoi (SB l)=some n:=by
    show Fh (SB l)=some n
    unfold Fh
    rw [if_pos (by rw [fG];omega)];exact hn
   by_cases hbad:b.toNat=48/\l ≠ [48]
   ·rw [decide_eq_true hbad.1,decide_eq_true hbad.2]
    exact⟨0,false,rfl,A,(λh=>by cases h)⟩
   ·refine⟨n,true,?_,Z,λ_=>hw.2 hbad⟩
    by_cases h48:b.toNat=48
    ·have:¬l ≠ [48]:=λh=>hbad ⟨h48,h⟩
     rw [decide_eq_true h48,decide_eq_false this]
     simp only [cond_true,ob_,cond_false,lX,ha]
    ·rw [decide_eq_false h48]
     simp only [cond_false,ob_,lX,ha]
theorem Gu (v:ByteArray) (l:List ByteArray) (hl:l.length<=1000000):∃b,bU l v=some b:=by
 have key:∀(xs:List ByteArray) (k:Nat),∃o:Ctl Unit Int,forR (λk x s=>bA v k x s) xs k ()=some o/\(o = .go ()\/∃n,o = .ret n):=by
  intro xs
  induction xs with
  | nil=>exact λk=>⟨_,rfl,.inl rfl⟩
  | cons x xs h =>
   intro k
   rw [forR]
   unfold bA
   cases sEq v x with
   | true=>exact⟨_,rfl,.inr ⟨_,rfl⟩⟩
   | false=>exact h (k+1)
 obtain ⟨o,ho,hc⟩:=key l 0
 unfold bU bu
 rw [gJ (by omega),ho,ob_]
 rcases hc with rfl|⟨n,rfl⟩ <;> exact⟨_,rfl⟩
theorem AR (c:UInt8):∀l:List UInt8,(spl c l).length<=l.length+1/\∀w∈spl c l,w.length<=l.length
 | []=>⟨by simp [spl],λw h=>by simp [spl]at h;subst h;simp⟩
 | b::l=>by
  obtain ⟨h1,h2⟩:=AR c l
  unfold spl
  split
  ·refine⟨by simp only [List.length_cons];omega,λw h => ?_⟩
   rcases List.mem_cons.1 h with rfl|h
   ·simp
   ·have:=h2 w h
    simp only [List.length_cons];omega
  ·split
   ·exact⟨by simp,λw h=>by simp at h;subst h;simp⟩
   ·rename_i x r o
    rw [o]at h1 h2
    refine⟨by simp only [List.length_cons]at h1 ⊢;omega,λw h => ?_⟩
    rcases List.mem_cons.1 h with rfl|h
    ·have:=h2 x (by simp)
     simp only [List.length_cons];omega
    ·have:=h2 w (by simp [h])
     simp only [List.length_cons];omega
theorem Pg (x:List UInt8) (h:x.length<=100000):∃b,nY (SB x)=some ((spl 32 x).map SB,b):=by
 have hs:=EW 32 (s:=SB x) (by rw [fG];omega)
 obtain ⟨b,hb⟩:=Gu (⟨#[]⟩:ByteArray) ((spl 32 x).map SB) (by rw [List.length_map];have:=(AR 32 x).1;omega)
 unfold nY
 rw [hs,ob_]
 rw [show (List.map (λl=>(⟨l.toArray⟩:ByteArray)) (spl 32 (SB x).data.toList))=(spl 32 x).map SB from rfl,hb,ob_]
 exact⟨_,rfl⟩
theorem A8 (l:List UInt8) (a b:Nat) (h1:a<=b) (h2:b<=l.length):rW (SB l) (a:Int) (b:Int)=some (SB ((l.take b).drop a)):=by
 unfold rW
 rw [if_pos (by rw [fG];omega),Int.toNat_natCast,Int.toNat_natCast]
 congr 1
 apply ByteArray.ext
 apply Array.ext'
 rw [ByteArray.data_extract,Array.toList_extract]
 show l.extract a b=(l.take b).drop a
 rw [List.drop_take]
end Go.Proofs.YtljhfffghjclfabGreatDoor.Law

open Go Go.Eng
namespace Go.Proofs.YtljhfffghjclfabGreatDoor.Law
set_option linter.unusedVariables false
set_option linter.unusedSimpArgs false
def pJ (n h hi:Int):Bool:=decide (n<h)||decide (n>hi)
theorem sH (n h hi:Int):aQ n h hi=some (pJ n h hi):=by
 unfold aQ pJ
 cases decide (n<h) <;> cases decide (n>hi) <;> rfl
theorem JC {n o hi:Int} (h:pJ n o hi=false):o<=n/\n<=hi:=by
 simp only [pJ,Bool.or_eq_false_iff,decide_eq_false_iff_not]at h;omega
theorem tX {n o hi:Int} (h:o<=n/\n<=hi):pJ n o hi=false:=by
 simp only [pJ,Bool.or_eq_false_iff,decide_eq_false_iff_not];omega
def EO (r:Rect):Bool:=pJ r.X (-100000) 100000||pJ r.Y (-100000) 100000||pJ r.W 1 (w64 (100000-r.X))||pJ r.H 1 (w64 (100000-r.Y))
theorem AJ (r:Rect):gP r=some (bif EO r then 1 else 0):=by
 unfold gP EO
 simp only [sH,ob_]
 cases pJ r.X (-100000) 100000 <;> cases pJ r.Y (-100000) 100000 <;> cases pJ r.W 1 (w64 (100000-r.X)) <;> cases pJ r.H 1 (w64 (100000-r.Y)) <;> rfl
end Go.Proofs.YtljhfffghjclfabGreatDoor.Law

open Go Go.Eng
namespace Go.Proofs.YtljhfffghjclfabGreatDoor.Law
set_option linter.unusedVariables false
set_option linter.unusedSimpArgs false
end Go.Proofs.YtljhfffghjclfabGreatDoor.Law

open Go Go.Eng
namespace Go.Proofs.YtljhfffghjclfabGreatDoor.Law
set_option linter.unusedVariables false
set_option linter.unusedSimpArgs false
end Go.Proofs.YtljhfffghjclfabGreatDoor.Law

open Go Go.Eng
namespace Go.Proofs.YtljhfffghjclfabGreatDoor.Law
set_option linter.unusedVariables false
set_option linter.unusedSimpArgs false
section
variable {is:Int->Int->Option Bool} {xs ys:List Int} {s13:(List Rect)×(List Rect)×Int} {y y2:Int} {j:Nat}
end
end Go.Proofs.YtljhfffghjclfabGreatDoor.Law

open Go Go.Eng
namespace Go.Proofs.YtljhfffghjclfabGreatDoor.Law
set_option linter.unusedVariables false
set_option linter.unusedSimpArgs false
end Go.Proofs.YtljhfffghjclfabGreatDoor.Law

open Go Go.Eng
namespace Go.Proofs.YtljhfffghjclfabGreatDoor.Law
set_option linter.unusedVariables false
set_option linter.unusedSimpArgs false
end Go.Proofs.YtljhfffghjclfabGreatDoor.Law

open Go Go.Eng
namespace Go.Proofs.YtljhfffghjclfabGreatDoor.Law
set_option linter.unusedVariables false
set_option linter.unusedSimpArgs false
theorem OE {r:Rect} (h:EO r=false):Fine r:=by
 unfold EO at h
 simp only [Bool.or_eq_false_iff]at h
 obtain ⟨⟨⟨h1,h2⟩,A⟩,o⟩:=h
 have h1:=JC h1
 have h2:=JC h2
 rw [gM (by omega)]at A o
 have A:=JC A
 have o:=JC o
 exact⟨by omega,by omega,by omega,by omega,by omega⟩
def has1 (x y:Int) (r:Rect):Bool:=(decide (r.X<=x)&&decide (x<r.X+r.W))&&(decide (r.Y<=y)&&decide (y<r.Y+r.H))
end Go.Proofs.YtljhfffghjclfabGreatDoor.Law

open Go Go.Eng
namespace Go.Proofs.YtljhfffghjclfabGreatDoor.Law
set_option linter.unusedVariables false
set_option linter.unusedSimpArgs false
def zA (e:Int):Ctl Unit Int:=bif e==0 then .go ()else .ret e
theorem Bb {α:Type} {l:List α} {k:Nat} {x:α} (h:l[k]? = some x) (A:0<k) (hl:l.length<=1000000000):∃y,idx l (w64 ((k:Int)-1))=some y/\l[k-1]? = some y:=by
 have o:k<l.length:=(List.getElem?_eq_some_iff.1 h).1
 rw [gM (by omega),show (k:Int)-1=((k-1:Nat):Int) by omega,Ju]
 exact⟨l[k-1],List.getElem?_eq_getElem (by omega),List.getElem?_eq_getElem (by omega)⟩
end Go.Proofs.YtljhfffghjclfabGreatDoor.Law

open Go Go.Eng
namespace Go.Proofs.YtljhfffghjclfabGreatDoor.Law
set_option linter.unusedVariables false
set_option linter.unusedSimpArgs false
def KC (n:Int):Bool := !pJ n 0 345686399999
theorem CU (n:Int):cZ n=some (KC n):=by
 unfold cZ KC pJ
 have e1:decide (n>=0) = !decide (n<0):=by rw [Bool.eq_iff_iff];simp
 have e2:decide (n<345686400000) = !decide (n>345686399999):=by rw [Bool.eq_iff_iff];simp;omega
 rw [e1,e2]
 cases decide (n<0) <;> cases decide (n>345686399999) <;> rfl
def or0 (a b:Int):Int:=bif a==0 then b else a
theorem Ib (a b:ByteArray):(lt a b/\FN a b = -1)\/(a=b/\FN a b=0)\/(lt b a/\FN a b=1):=by
 have key:∀(x y:List UInt8),(x<y/\Lib.compareBytes x y = -1)\/(x=y/\Lib.compareBytes x y=0)\/(y<x/\Lib.compareBytes x y=1):=by
  intro x
  induction x with
  | nil=>intro y;cases y with
   | nil=>exact .inr (.inl ⟨rfl,rfl⟩)
   | cons b y=>exact .inl ⟨by simp,rfl⟩
  | cons a x o=>intro y;cases y with
   | nil=>exact .inr (.inr ⟨by simp,rfl⟩)
   | cons b y =>
    simp only [Lib.compareBytes,List.cons_lt_cons_iff,List.cons.injEq]
    by_cases h1:a<b
    ·exact .inl ⟨.inl h1,by rw [if_pos h1]⟩
    ·by_cases h2:b<a
     ·exact .inr (.inr ⟨.inl h2,by rw [if_neg h1,if_pos h2]⟩)
     ·have e:a=b:=UInt8.le_antisymm (UInt8.not_lt.1 h2) (UInt8.not_lt.1 h1)
      subst e
      rw [if_neg h1,if_neg h1]
      rcases o y with⟨h,k⟩|⟨h,k⟩|⟨h,k⟩
      ·exact .inl ⟨.inr ⟨rfl,h⟩,k⟩
      ·exact .inr (.inl ⟨⟨rfl,h⟩,k⟩)
      ·exact .inr (.inr ⟨.inr ⟨rfl,h⟩,k⟩)
 unfold FN lt
 rw [toL,toL]
 rcases key a.data.toList b.data.toList with⟨h,k⟩|⟨h,k⟩|⟨h,k⟩
 ·exact .inl ⟨h,k⟩
 ·exact .inr (.inl ⟨Ap (by rw [toL,toL];exact h),k⟩)
 ·exact .inr (.inr ⟨h,k⟩)
theorem Ex (a b:ByteArray):strings_Compare a b=some (FN a b):=rfl
def MF (a b:Int):Int:=if a<b then -1 else if a>b then 1 else 0
theorem Hr (a b:Int):cmp_Compare_int a b=some (MF a b):=by
 have e:∀x:Int,(x != x)=false:=by simp
 unfold cmp_Compare_int cmp_isNaN_int MF
 simp only [e,ob_,cond_false]
 by_cases h:a<b
 ·simp only [decide_eq_true h,cond_true,if_pos h]
 ·by_cases h2:a>b
  ·simp only [decide_eq_false h,decide_eq_true h2,cond_true,cond_false,if_neg h,if_pos h2]
  ·simp only [decide_eq_false h,decide_eq_false h2,cond_false,if_neg h,if_neg h2]
theorem RN (a b:Int):pU [a,b]=some (or0 a b):=by
 unfold pU or0
 rw [gJ (by simp)]
 simp only [forR,pV]
 cases ha:a==0 with
 | false =>
  have:(a != 0)=true:=by simp [bne,ha]
  simp only [this,cond_true,cond_false,ob_,thenC]
 | true =>
  have:(a != 0)=false:=by simp [bne,ha]
  simp only [this,cond_true,cond_false,ob_]
  cases hb:b==0 with
  | false =>
   have:(b != 0)=true:=by simp [bne,hb]
   simp only [this,cond_true,ob_,thenC]
  | true =>
   have:(b != 0)=false:=by simp [bne,hb]
   simp only [this,cond_false,ob_,thenC]
   rw [eq_of_beq hb]
end Go.Proofs.YtljhfffghjclfabGreatDoor.Law

open Go Go.Eng
namespace Go.Proofs.YtljhfffghjclfabGreatDoor.Law
set_option linter.unusedVariables false
set_option linter.unusedSimpArgs false
theorem or0_neg {a b:Int}:or0 a b<0↔a<0\/a=0/\b<0:=by
 unfold or0
 by_cases h:a=0
 ·subst h;simp
 ·have:(a==0)=false:=by simpa using h
  rw [this,cond_false];omega
theorem Q9 {a b:Int}:MF a b<0↔a<b:=by
 unfold MF
 split
 ·omega
 ·split <;> omega
theorem Ot {a b:Int}:MF a b=0↔a=b:=by
 unfold MF
 split
 ·omega
 ·split <;> omega
theorem Q3 {a b:ByteArray}:FN a b<0↔lt a b:=by
 rcases Ib a b with⟨h,e⟩|⟨h,e⟩|⟨h,e⟩
 ·rw [e];exact⟨λ_=>h,λ_=>by decide⟩
 ·rw [e,h];exact⟨λk=>absurd k (by decide),λk=>absurd k (vz _)⟩
 ·rw [e];exact⟨λk=>absurd k (by decide),λk=>absurd (lt_trans k h) (vz _)⟩
end Go.Proofs.YtljhfffghjclfabGreatDoor.Law

open Go Go.Eng
namespace Go.Proofs.YtljhfffghjclfabGreatDoor.Law
set_option linter.unusedVariables false
set_option linter.unusedSimpArgs false
theorem sort12 {α:Type} {cmp:α->α->Option Int} (c:α->α->Int) {S:List α->Option (List α)} (J:∀x,S x=(iV (IntKind.u64.wrap (x.length:Int))).bind λF=>(LJ cmp x 0 (x.length:Int) F).bind λo=>(ni o x).bind λ_=>some o)
  {xs:List α} (hl:xs.length<=12) (R:∀a∈xs,∀b∈xs,cmp a b=some (c a b)) (B:∀a b,c a b<0->¬c b a<0) (L:∀a b d,¬c a b<0->¬c b d<0->¬c a d<0) :
  ∃r,S xs=some r/\r.Perm xs/\r.Pairwise (λa b=>¬c b a<0):=by
 obtain ⟨k,N⟩:=len_ok xs.length hl
 obtain ⟨s,h1,h2,O⟩:=pdq_ok (cmp:=cmp) (le:=λa b=>¬c b a<0) (p:=(· ∈ xs)) (λa b M hb=>⟨c a b,R a M b hb,λh=>B a b h,λh=>h⟩) (λa b d h k=>L d b a k h) xs hl (λx I=>I) k
 refine⟨s,?_,h2,O⟩
 have A:ni s xs=some ():=by unfold ni;rw [if_pos h2.length_eq]
 rw [J,N,ob_,h1,ob_,A];rfl
end Go.Proofs.YtljhfffghjclfabGreatDoor.Law

open Go Go.Eng
namespace Go.Proofs.YtljhfffghjclfabGreatDoor.Law
set_option linter.unusedVariables false
set_option linter.unusedSimpArgs false
theorem NY {α σ ρ:Type} {body:Nat->α->σ->Option (Ctl σ ρ)} (I:Nat->σ->Prop) (xs:List α):∀(l:List α) (k:Nat) (s:σ),xs.drop k=l->k<=xs.length->(∀k x s,xs[k]? = some x->I k s->∃o,body k x s=some (.go o)/\I (k+1) o)->I k s->∃o,forR body l k s=some (.go o)/\I xs.length o
 | [],k,s,A,F,h,hi=>by
  have:=List.drop_eq_nil_iff.1 A
  obtain rfl:k=xs.length:=by omega
  exact⟨s,rfl,hi⟩
 | x::l,k,s,A,F,h,hi=>by
  obtain ⟨s1,h1,h2⟩:=h k x s (JV A) hi
  obtain ⟨s2,J,B⟩:=NY I xs l (k+1) s1 (aW A) (by have:=DY A;omega) h h2
  exact⟨s2,by rw [forR,h1,ob_];exact J,B⟩
theorem yo {α σ ρ:Type} {body:Nat->α->σ->Option (Ctl σ ρ)} (I:Nat->σ->Prop) {xs:List α} {s:σ} (hl:xs.length<=1000000000000) (h:∀k x s,xs[k]? = some x->I k s->∃o,body k x s=some (.go o)/\I (k+1) o) (A:I 0 s):∃o,forL xs s body=some (.go o)/\I xs.length o:=by
 rw [gJ hl]
 exact NY I xs xs 0 s rfl (Nat.zero_le _) h A
theorem gG {a b:ByteArray} (h:sLt a b=true):lt a b:=(DI a b).1 h
end Go.Proofs.YtljhfffghjclfabGreatDoor.Law

open Go Go.Eng
namespace Go.Proofs.YtljhfffghjclfabGreatDoor.Law
set_option linter.unusedVariables false
set_option linter.unusedSimpArgs false
structure Band where
 a:Int
 b:Int
 row:List Run
end Go.Proofs.YtljhfffghjclfabGreatDoor.Law

open Go Go.Eng
namespace Go.Proofs.YtljhfffghjclfabGreatDoor.Law
set_option linter.unusedVariables false
set_option linter.unusedSimpArgs false
end Go.Proofs.YtljhfffghjclfabGreatDoor.Law

open Go Go.Eng
namespace Go.Proofs.YtljhfffghjclfabGreatDoor.Law
set_option linter.unusedVariables false
set_option linter.unusedSimpArgs false
end Go.Proofs.YtljhfffghjclfabGreatDoor.Law

open Go Go.Eng
namespace Go.Proofs.YtljhfffghjclfabGreatDoor.Law
set_option linter.unusedVariables false
set_option linter.unusedSimpArgs false
end Go.Proofs.YtljhfffghjclfabGreatDoor.Law

open Go Go.Eng
namespace Go.Proofs.YtljhfffghjclfabGreatDoor.Law
set_option linter.unusedVariables false
set_option linter.unusedSimpArgs false
end Go.Proofs.YtljhfffghjclfabGreatDoor.Law

open Go Go.Eng
namespace Go.Proofs.YtljhfffghjclfabGreatDoor.Law
set_option linter.unusedVariables false
set_option linter.unusedSimpArgs false
def b01 (b:Bool):Int:=bif b then 1 else 0
def ind (r:Rect) (x y:Int):Int:=b01 (has1 x y r)
end Go.Proofs.YtljhfffghjclfabGreatDoor.Law

open Go Go.Eng
namespace Go.Proofs.YtljhfffghjclfabGreatDoor.Law
set_option linter.unusedVariables false
set_option linter.unusedSimpArgs false
end Go.Proofs.YtljhfffghjclfabGreatDoor.Law

open Go Go.Eng
namespace Go.Proofs.YtljhfffghjclfabGreatDoor.Law
set_option linter.unusedVariables false
set_option linter.unusedSimpArgs false
theorem Oy {r:Rect} (h:Fine r):EO r=false:=by
 unfold Fine at h
 unfold EO
 rw [gM (n:=100000-r.X) (by omega),gM (n:=100000-r.Y) (by omega),tX (by omega),tX (by omega),tX (by omega),tX (by omega)];rfl
end Go.Proofs.YtljhfffghjclfabGreatDoor.Law

open Go Go.Eng
namespace Go.Proofs.YtljhfffghjclfabGreatDoor.Law
set_option linter.unusedVariables false
set_option linter.unusedSimpArgs false
def back (h H y:Int):Int:=((y+1)*h-1) / H
end Go.Proofs.YtljhfffghjclfabGreatDoor.Law

open Go Go.Eng
namespace Go.Proofs.YtljhfffghjclfabGreatDoor.Law
set_option linter.unusedVariables false
set_option linter.unusedSimpArgs false
end Go.Proofs.YtljhfffghjclfabGreatDoor.Law

open Go Go.Eng
namespace Go.Proofs.YtljhfffghjclfabGreatDoor.Law
set_option linter.unusedVariables false
set_option linter.unusedSimpArgs false
theorem L6 (s:Stream) {b:Int} (hs:Ok s b) (hb:b<=900000):∃r h,iK s=some (r,h)/\Fine r/\(-2<=r.X/\r.X<=8 /\ -2<=r.Y/\r.Y<=8/\r.W<=5/\r.H<=5)/\Ok h (b+4):=by
 unfold iK
 obtain ⟨X,F,J,c2,Z,N⟩:=oZ s (-2) 8 hs (by omega) (by decide) (by decide) (by decide)
 obtain ⟨Y,L,A,O,d3,I⟩:=oZ F (-2) 8 N (by omega) (by decide) (by decide) (by decide)
 obtain ⟨U,B,e1,e2,R,o⟩:=oZ L 1 5 I (by omega) (by decide) (by decide) (by decide)
 obtain ⟨V,q4,f1,f2,f3,M⟩:=oZ B 1 5 o (by omega) (by decide) (by decide) (by decide)
 simp only [J,A,e1,f1,ob_]
 refine⟨_,_,rfl,?_,by simp only [];omega,M.mono (by omega)⟩
 unfold Fine
 simp only [];omega
end Go.Proofs.YtljhfffghjclfabGreatDoor.Law

open Go Go.Eng
namespace Go.Proofs.YtljhfffghjclfabGreatDoor.Law
set_option linter.unusedVariables false
set_option linter.unusedSimpArgs false
def uW {σ ρ:Type} (s:σ) (body:σ->Option (Ctl σ ρ)):Option (Ctl σ ρ):=iterN body 300 s
def Le {α:Type} (a b:Option α):Prop:=∀r,a=some r->b=some r
theorem Le.refl {α:Type} (a:Option α):Le a a:=λ_ h=>h
theorem Le.bind {α β:Type} {a b:Option α} {f g:α->Option β} (h:Le a b) (k:∀x,Le (f x) (g x)):Le (a.bind f) (b.bind g):=λr e=>by
 obtain ⟨x,h1,h2⟩:=Option.bind_eq_some_iff.1 e
 rw [h x h1];exact k x r h2
theorem Le.cond {α:Type} {a b c d:Option α} {t:Bool} (h:Le a c) (k:Le b d):Le (bif t then a else b) (bif t then c else d):=by
 cases t
 ·exact k
 ·exact h
theorem Le.thenC {σ ρ τ:Type} {o:Ctl σ ρ} {f B:σ->Option τ} {g A:ρ->Option τ} (h:∀x,Le (f x) (B x)) (k:∀x,Le (g x) (A x)):Le (Go.Eng.thenC o f g) (Go.Eng.thenC o B A):=by
 cases o
 ·exact h _
 ·exact Le.refl _
 ·exact k _
theorem Le.forR {α σ ρ:Type} {b b':Nat->α->σ->Option (Ctl σ ρ)} (h:∀k x s,Le (b k x s) (b' k x s)):∀(xs:List α) (k:Nat) (s:σ),Le (Go.Eng.forR b xs k s) (Go.Eng.forR b' xs k s)
 | [],k,s=>Le.refl _
 | x::xs,k,s=>Le.bind (h k x s) (λc=>by
   cases c with
   | go o=>exact Le.forR h xs _ _
   | brk o=>exact Le.refl _
   | ret r=>exact Le.refl _)
theorem Le.forL {α σ ρ:Type} {xs:List α} {s:σ} {b b':Nat->α->σ->Option (Ctl σ ρ)} (h:∀k x s,Le (b k x s) (b' k x s)):Le (Go.Eng.forL xs s b) (Go.Eng.forL xs s b'):=by
 unfold Go.Eng.forL
 split
 ·exact Le.forR h xs 0 s
 ·exact Le.refl _
theorem Le.iterN {σ ρ:Type} {b b':σ->Option (Ctl σ ρ)} (h:∀s,Le (b s) (b' s)):∀(n:Nat) (s:σ),Le (Go.Eng.iterN b n s) (Go.Eng.iterN b' n s)
 | 0,s=>Le.refl _
 | n+1,s=>Le.bind (h s) (λc=>by
   cases c with
   | go o=>exact Le.iterN h n o
   | brk o=>exact Le.refl _
   | ret r=>exact Le.refl _)
theorem Le.loop {σ ρ:Type} {s:σ} {b b':σ->Option (Ctl σ ρ)} (h:∀s,Le (b s) (b' s)):Le (uW s b) (jH s b'):=λr e=>lZ (Le.iterN h _ _ r e)
end Go.Proofs.YtljhfffghjclfabGreatDoor.Law

open Go Go.Eng
namespace Go.Proofs.YtljhfffghjclfabGreatDoor.Law
set_option linter.unusedVariables false
set_option linter.unusedSimpArgs false
def O7 (x:Int):List Int->List Int
 | []=>[x]
 | y::l=>bif decide (x<=y)then x::y::l else y::O7 x l
def ET:List Int->List Int
 | []=>[]
 | x::l=>O7 x (ET l)
theorem BS (x:Int):∀l,(O7 x l).Perm (x::l)
 | [] => .refl _
 | y::l=>by
  unfold O7
  cases decide (x<=y)with
  | true=>exact .refl _
  | false=>exact ((BS x l).cons y).trans (List.Perm.swap x y l)
theorem CV:∀l,(ET l).Perm l
 | [] => .refl _
 | x::l=>(BS x _).trans ((CV l).cons x)
theorem Dh (x:Int):∀l:List Int,l.Pairwise (· <= ·)->(O7 x l).Pairwise (· <= ·)
 | [],_=>List.pairwise_singleton _ _
 | y::l,h=>by
  obtain ⟨h1,h2⟩:=List.pairwise_cons.1 h
  unfold O7
  by_cases hx:x<=y
  ·rw [decide_eq_true hx,cond_true]
   exact List.pairwise_cons.2 ⟨λz o=>by
    rcases List.mem_cons.1 o with rfl|o
    ·exact hx
    ·exact Int.le_trans hx (h1 z o),h⟩
  ·rw [decide_eq_false hx,cond_false]
   exact List.pairwise_cons.2 ⟨λz o=>by
    rcases List.mem_cons.1 ((BS x l).mem_iff.1 o)with rfl|o
    ·omega
    ·exact h1 z o,Dh x l h2⟩
theorem zm:∀l,(ET l).Pairwise (· <= ·)
 | [] => .nil
 | x::l=>Dh x _ (zm l)
theorem O0 (l:List Int):l.mergeSort (λx y=>decide (x<=y))=ET l:=by
 refine List.Perm.eq_of_pairwise (le:=(· <= ·)) (λa b _ _ h1 h2=>Int.le_antisymm h1 h2) ?_ (zm l) ((List.mergeSort_perm l _).trans (CV l).symm)
 have:=List.pairwise_mergeSort (le:=λ(x y:Int)=>decide (x<=y)) (λa b c=>by simp;omega) (λa b=>by simp;omega) l
 exact this.imp (by simp)
def Ru (l:List Int):Option (List Int):=bif Nat.ble l.length 1000 then some (ET l)else none
theorem Rw (l:List Int):Le (Ru l) (iT l):=λr h=>by
 unfold Ru at h
 cases hb:Nat.ble l.length 1000 with
 | false=>rw [hb]at h;cases h
 | true =>
  rw [hb,cond_true]at h
  have:=Nat.le_of_ble_eq_true hb
  unfold iT Ob
  rw [if_pos (by omega),O0];exact h
end Go.Proofs.YtljhfffghjclfabGreatDoor.Law

