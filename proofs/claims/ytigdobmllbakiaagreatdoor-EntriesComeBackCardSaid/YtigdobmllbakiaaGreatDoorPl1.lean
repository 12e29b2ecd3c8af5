/-
  THE PLAIN LAW (part 1).
-/
import Derived.Test.YtigdobmllbakiaaGreatDoorEng5
import Derived.Test.YtigdobmllbakiaaGreatDoorDefs
import Derived.Lib.ItoaLen
namespace Go.Eng
set_option linter.unusedVariables false
set_option linter.unusedSimpArgs false
theorem gz {α σ ρ:Type} {body:Nat->α->σ->Option (Ctl σ ρ)} {xs:List α} {s:σ} (hl:xs.length<=1000000000000):forL xs s body=forR body xs 0 s:=by unfold forL;rw [if_pos hl]
theorem Ih {α σ ρ:Type} {body:Nat->α->σ->Option (Ctl σ ρ)} (I:Nat->σ->Prop) (N:Nat):∀(xs:List α) (k:Nat) (s:σ),k+xs.length=N->(∀k x s,x∈xs->k<N->I k s->∃s',body k x s=some (.go s')/\I (k+1) s')->I k s->∃s',forR body xs k s=some (.go s')/\I N s'
 | [],k,s,hN,h,hi=>⟨s,rfl,by simp only [List.length_nil,Nat.add_zero]at hN;rw [<- hN];exact hi⟩
 | x::xs,k,s,hN,h,hi=>by
  simp only [List.length_cons]at hN
  obtain ⟨s1,h1,h2⟩:=h k x s (by simp) (by omega) hi
  obtain ⟨s2,h3,h4⟩:=Ih I N xs (k+1) s1 (by omega) (λk x s hx=>h k x s (by simp [hx])) h2
  exact⟨s2,by simp only [forR,h1,ob_];exact h3,h4⟩
theorem MO {α σ ρ:Type} {body:Nat->α->σ->Option (Ctl σ ρ)} (I:Nat->σ->Prop) {xs:List α} {s:σ} (hl:xs.length<=1000000000000) (h:∀k x s,x∈xs->k<xs.length->I k s->∃s',body k x s=some (.go s')/\I (k+1) s') (h0:I 0 s):∃s',forL xs s body=some (.go s')/\I xs.length s':=by
 obtain ⟨s',h1,h2⟩:=Ih I xs.length xs 0 s (by omega) h h0
 exact⟨s',by rw [gz hl];exact h1,h2⟩
theorem iH {σ ρ τ:Type} (s:σ) (f:σ->Option τ) (g:ρ->Option τ):thenC (.go s) f g=f s:=rfl
theorem Lg {σ ρ τ:Type} (r:ρ) (f:σ->Option τ) (g:ρ->Option τ):thenC (.ret r) f g=g r:=rfl
theorem wu {α:Type} (xs:List α) (k:Nat):idx xs (k:Int)=xs[k]? := by simp [idx]
theorem lF {n:Int} (h : -9223372036854775808<=n/\n<=9223372036854775807):w64 n=n:=Mh n h
theorem toL (s:ByteArray):s.toList=s.data.toList:=Go.Lib.toList_data s
theorem Bu {a b:ByteArray} (h:a.toList=b.toList):a=b:=by
 rw [toL,toL]at h
 obtain ⟨⟨a⟩⟩:=a
 obtain ⟨⟨b⟩⟩:=b
 simp only at h
 rw [h]
theorem dU (a b:ByteArray):sEq a b=true↔a=b:=by
 simp only [sEq,beq_iff_eq]
 exact⟨Bu,λh=>by rw [h]⟩
theorem sEq_dec (a b:ByteArray):sEq a b=decide (a=b):=by
 rw [Bool.eq_iff_iff,dU];simp
theorem sNe_dec (a b:ByteArray):sNe a b = !decide (a=b):=by
 have:=sEq_dec a b;simp only [sEq,sNe]at *;rw [this]
abbrev bl:=Op.bytesLess
theorem bl_lt:∀(x y:List UInt8),bl x y=decide (x<y)
 | _,[]=>by simp [bl,Op.bytesLess]
 | [],_::_=>by simp [bl,Op.bytesLess]
 | a::x,b::y=>by
  have:=bl_lt x y
  simp only [bl,Op.bytesLess]at this ⊢
  rw [this,Bool.eq_iff_iff]
  simp only [Bool.or_eq_true,decide_eq_true_eq,Bool.and_eq_true,beq_iff_eq,List.cons_lt_cons_iff]
def lt (a b:ByteArray):Prop:=a.toList<b.toList
theorem Fz (a b:ByteArray):sLt a b=true↔lt a b:=by
 show bl a.toList b.toList=true↔_
 rw [bl_lt];simp [lt]
theorem Fh (a:ByteArray):¬lt a a:=List.lt_irrefl a.toList
theorem lt_trans {a b c:ByteArray} (h:lt a b) (k:lt b c):lt a c:=List.lt_trans h k
theorem Mw (a b:ByteArray):lt a b\/a=b\/lt b a:=by
 rcases Classical.em (lt a b)with h|h
 ·exact .inl h
 ·rcases Classical.em (lt b a)with h2|h2
  ·exact .inr (.inr h2)
  ·exact .inr (.inl (Bu (List.le_antisymm (List.not_lt.1 h2) (List.not_lt.1 h))))
theorem EM (a b:ByteArray):sLe a b=true↔¬lt b a:=by
 have h1:=Fz a b
 have h2:=dU a b
 simp only [sLe,Bool.or_eq_true]
 constructor
 ·rintro (h|h)
  ·exact λk=>Fh _ (lt_trans (h1.1 h) k)
  ·rw [h2.1 h];exact Fh _
 ·intro h
  rcases Mw a b with k|k|k
  ·exact .inl (h1.2 k)
  ·exact .inr (h2.2 k)
  ·exact absurd k h
theorem KI (a:ByteArray):sLe a ⟨#[]⟩=decide (a.size=0):=by
 rw [Bool.eq_iff_iff,EM,lt,toL,toL,Go.Lib.size_eq]
 cases a.data.toList <;> simp
theorem sNe_nil (a:ByteArray):sNe a ⟨#[]⟩=decide (a.size≠0):=by
 rw [sNe_dec,Go.Lib.size_eq,Bool.eq_iff_iff]
 simp only [Bool.not_eq_true',decide_eq_false_iff_not,decide_eq_true_eq,ne_eq]
 refine not_congr ⟨λh=>by rw [h];rfl,λh => ?_⟩
 exact Bu (by rw [toL,List.eq_nil_of_length_eq_zero h,toL])
end Go.Eng

open Go Go.Eng
namespace Go.Proofs.YtigdobmllbakiaaGreatDoor.Law
set_option linter.unusedVariables false
set_option linter.unusedSimpArgs false
def Ok (s:Stream) (b:Int):Prop:=0<=s.f_at/\s.f_at<=b
theorem Ok.mono {s:Stream} {b c:Int} (h:Ok s b) (hc:b<=c):Ok s c:=⟨h.1,Int.le_trans h.2 hc⟩
theorem BK (x n:Int) (h:1<=n) (hn:n<=4611686018427387904):∃r,qz x n=some r/\0<=r/\r<n:=by
 have h1:x.tmod n<n:=Int.tmod_lt_of_pos x (by omega)
 have h2 : -n<x.tmod n:=Int.lt_tmod_of_pos x (by omega)
 have hb:decide (n<1)=false:=by simp;omega
 have hn0:n≠0:=by omega
 simp only [qz,hb,cond_false,Hf,if_neg hn0,ob_]
 cases hd:decide (x.tmod n<0)with
 | true =>
  simp only [decide_eq_true_eq]at hd
  exact⟨_,rfl,by rw [lF (by omega)];omega,by rw [lF (by omega)];omega⟩
 | false =>
  simp only [decide_eq_false_iff_not]at hd
  exact⟨_,rfl,by omega,h1⟩
theorem tC (s:Stream) (n:Int) {b:Int} (hs:Ok s b) (hb:b<=1000000) (h:1<=n) (hn:n<=4611686018427387904):∃r s',d9 s n=some (r,s')/\0<=r/\r<n/\Ok s' (b+1):=by
 obtain ⟨h0,h1⟩:=hs
 have e1:w64 (s.f_at+1)=s.f_at+1:=lF (by omega)
 have e2:w64 (s.f_at+1-1)=s.f_at:=by rw [lF (by omega)];omega
 simp only [d9,e1,e2]
 by_cases hl:s.L.length=0
 ·have:((s.L.length:Int)==0)=true:=by simp [hl]
  simp only [this,cond_true]
  obtain ⟨r,hr,h2,h3⟩:=BK (w64 ((s.f_at+1)*7919)) n h hn
  exact⟨r,_,by rw [hr];rfl,h2,h3,⟨by show 0<=s.f_at+1;omega,by show s.f_at+1<=b+1;omega⟩⟩
 ·have hne:(s.L.length:Int)≠0:=by omega
  have:((s.L.length:Int)==0)=false:=by simpa using hl
  simp only [this,cond_false,Hf,JN,if_neg hne,ob_]
  have h2:0<=s.f_at.tmod s.L.length:=Int.tmod_nonneg _ h0
  have hp:(0:Int)<(s.L.length:Int):=by have:=Nat.pos_of_ne_zero hl;omega
  have h3:s.f_at.tmod s.L.length<s.L.length:=Int.tmod_lt_of_pos _ hp
  have hi:idx s.L (s.f_at.tmod s.L.length)=some s.L[(s.f_at.tmod s.L.length).toNat]:=by
   simp only [idx,if_pos h2]
   exact List.getElem?_eq_getElem (by omega)
  obtain ⟨r1,hr1,_,_⟩:=BK s.L[(s.f_at.tmod s.L.length).toNat] 1073741824 (by decide) (by decide)
  simp only [hi,hr1,ob_]
  generalize w64 (r1+_)=y
  obtain ⟨r,hr,h4,h5⟩:=BK y n h hn
  exact⟨r,_,by rw [hr];rfl,h4,h5,⟨by show 0<=s.f_at+1;omega,by show s.f_at+1<=b+1;omega⟩⟩
theorem Bl (s:Stream) (n:Int) {b:Int} (hs:Ok s b) (hb:b<=1000000) (h:1<=n) (hn:n<=1000):∃r s',eZ s n=some (r,s')/\Ok s' (b+1):=by
 obtain ⟨r,s',h1,_,_,h2⟩:=tC s n hs hb h (by omega)
 exact⟨r==0,s',by simp only [eZ,h1,ob_],h2⟩
theorem JW {α:Type} {l:List α} {r:Int} (h0:0<=r) (h1:r<l.length):∃y,idx l r=some y/\y∈l:=by
 refine⟨l[r.toNat]'(by omega),?_,List.getElem_mem _⟩
 simp only [idx,if_pos h0]
 exact List.getElem?_eq_getElem (by omega)
theorem ry (s:Stream) (l:List Int) {b:Int} (hs:Ok s b) (hb:b<=1000000) (h:1<=l.length) (hn:l.length<=1000):∃r s',dF s l=some (r,s')/\r∈l/\Ok s' (b+1):=by
 obtain ⟨r,s',h1,h2,h3,h4⟩:=tC s l.length hs hb (by omega) (by omega)
 obtain ⟨y,hy,hm⟩:=JW h2 h3
 exact⟨y,s',by simp only [dF,h1,hy,ob_],hm,h4⟩
theorem FL (s:Stream) (l:List ByteArray) {b:Int} (hs:Ok s b) (hb:b<=1000000) (h:1<=l.length) (hn:l.length<=1000):∃r s',iB s l=some (r,s')/\r∈l/\Ok s' (b+1):=by
 obtain ⟨r,s',h1,h2,h3,h4⟩:=tC s l.length hs hb (by omega) (by omega)
 obtain ⟨y,hy,hm⟩:=JW h2 h3
 exact⟨y,s',by simp only [iB,h1,hy,ob_],hm,h4⟩
theorem Nw (s:Stream) (lo hi:Int) {b:Int} (hs:Ok s b) (hb:b<=1000000) (h:lo<=hi) (h1 : -1000000000000<=lo) (h2:hi<=1000000000000):∃r s',jS s lo hi=some (r,s')/\lo<=r/\r<=hi/\Ok s' (b+1):=by
 have hd:decide (hi<lo)=false:=by simp;omega
 have e1:w64 (hi-lo)=hi-lo:=lF (by omega)
 have e2:w64 (hi-lo+1)=hi-lo+1:=lF (by omega)
 obtain ⟨r,s',k1,k2,k3,k4⟩:=tC s (hi-lo+1) hs hb (by omega) (by omega)
 simp only [jS,hd,cond_false,e1,e2,k1,ob_]
 exact⟨_,s',rfl,by rw [lF (by omega)];omega,by rw [lF (by omega)];omega,k4⟩
def F7 (b:UInt8):Bool:=decide (97<=b.toNat)&&decide (b.toNat<=122)
def moreB (b:UInt8):Bool:=(decide (48<=b.toNat)&&decide (b.toNat<=57))||(b.toNat==45)||(b.toNat==95)
def okB (i:Nat) (b:UInt8):Bool:=F7 b||(decide (0<i)&&moreB b)
def lC (s:ByteArray) (i:Nat):UInt8:=s.data.toList.getD i 0
def yU (s:ByteArray):Bool:=decide (s.size≠0)&&(decide (s.size<=40)&&(List.range s.size).all λi=>okB i (lC s i))
theorem sO (s:ByteArray) (k:Nat) (h:k<s.size):wR s (k:Int)=some (lC s k):=by
 have h1:s[k]? = some s[k]:=by simp [h]
 have h2:lC s k=s[k]:=by
  have hl:k<s.data.toList.length:=by rw [<- Go.Lib.size_eq];exact h
  simp only [lC,List.getD_eq_getElem?_getD,List.getElem?_eq_getElem hl,Option.getD_some]
  simp
  rfl
 simp only [wR,if_pos (Int.natCast_nonneg k),Int.toNat_natCast,h1,h2]
theorem GM (s:ByteArray) (k:Nat) (hs:s.size<=1000000000):jc s (k:Int)=some (if k<s.size then (bif okB k (lC s k)then .go ((k+1:Nat):Int)else .ret false)else .brk (k:Int)):=by
 unfold jc
 by_cases h:k<s.size
 ·have hd:decide ((k:Int)<(s.size:Int))=true:=by simp;omega
  have hw:w64 ((k:Int)+1)=((k+1:Nat):Int):=by rw [lF (by omega)];omega
  simp only [hd,cond_true,sO s k h,ob_,if_pos h,hw]
  generalize lC s k=b
  simp only [okB,F7,moreB]
  have e1:decide ((b.toNat:Int)>=97)=decide (97<=b.toNat):=decide_eq_decide.2 (by omega)
  have e2:decide ((b.toNat:Int)<=122)=decide (b.toNat<=122):=decide_eq_decide.2 (by omega)
  have e3:decide ((k:Int)>0)=decide (0<k):=decide_eq_decide.2 (by omega)
  have e4:decide ((b.toNat:Int)>=48)=decide (48<=b.toNat):=decide_eq_decide.2 (by omega)
  have e5:decide ((b.toNat:Int)<=57)=decide (b.toNat<=57):=decide_eq_decide.2 (by omega)
  have e6:((b.toNat:Int)==45)=(b.toNat==45):=by rw [Bool.eq_iff_iff];simp;omega
  have e7:((b.toNat:Int)==95)=(b.toNat==95):=by rw [Bool.eq_iff_iff];simp;omega
  rw [e1,e2,e3,e4,e5,e6,e7]
  cases decide (97<=b.toNat) <;> cases decide (b.toNat<=122) <;> cases decide (0<k) <;> cases decide (48<=b.toNat) <;> cases decide (b.toNat<=57) <;> cases (b.toNat==45) <;> cases (b.toNat==95) <;> rfl
 ·have hd:decide ((k:Int)<(s.size:Int))=false:=by simp;omega
  simp only [hd,cond_false,if_neg h]
theorem Cj (s:ByteArray) (hs:s.size<=1000000000):∀(n k:Nat),k+n=s.size->iterN (λi=>jc s i) (n+1) (k:Int)=some (bif (List.range' k n).all (λj=>okB j (lC s j))then .go (s.size:Int)else .ret false)
 | 0,k,h=>by
  have hk:¬k<s.size:=by omega
  simp only [iterN,GM s k hs,if_neg hk,ob_,List.range'_zero,List.all_nil,cond_true]
  rw [show (k:Int)=s.size by omega]
 | n+1,k,h=>by
  have hk:k<s.size:=by omega
  rw [iterN,GM s k hs,if_pos hk,ob_,List.range'_succ,List.all_cons]
  cases okB k (lC s k)with
  | true=>simp only [cond_true,Bool.true_and];exact Cj s hs n (k+1) (by omega)
  | false=>rfl
theorem CV (s:ByteArray) (hs:s.size<=1000000000):fE s=some (yU s):=by
 have h:=tV (Cj s hs s.size 0 (by omega))
 unfold fE
 have h':mF (0:Int) (λs_1=>jc s s_1)=_:=h
 rw [h',ob_,<- List.range_eq_range']
 have e:decide ((s.size:Int)<=40)=decide (s.size<=40):=decide_eq_decide.2 (by omega)
 simp only [yU]
 cases (List.range s.size).all (λi=>okB i (lC s i))with
 | true =>
  rw [cond_true,iH,sNe_nil,e,Bool.and_true]
  cases decide (s.size≠0) <;> rfl
 | false=>simp only [cond_false,Lg,Bool.and_false]
theorem Bn {s:ByteArray} (h:yU s=true):s.size≠0:=by
 simp only [yU,Bool.and_eq_true,decide_eq_true_eq]at h
 exact h.1
def spl (c:UInt8):List UInt8->List (List UInt8)
 | []=>[[]]
 | b::l=>if b=c then []::spl c l else match spl c l with
  | []=>[[b]]
  | x::r=>(b::x)::r
theorem BI (c:UInt8):∀l,spl c l ≠ []
 | []=>by simp [spl]
 | b::l=>by
  unfold spl
  split
  ·simp
  ·split <;> simp
theorem MM {c:UInt8}:∀{x:List UInt8},c∉x->spl c x=[x]
 | [],_=>rfl
 | b::x,h=>by
  have hb:b≠c:=λe=>h (by simp [e])
  have ih:=MM (x:=x) (λe=>h (List.mem_cons_of_mem _ e))
  unfold spl
  rw [if_neg hb,ih]
theorem Fx {c:UInt8}:∀{x:List UInt8} (y:List UInt8),c∉x->spl c (x++c::y)=x::spl c y
 | [],y,_=>by
  show spl c (c::y)=_
  rw [spl,if_pos rfl]
 | b::x,y,h=>by
  have hb:b≠c:=λe=>h (by simp [e])
  have ih:=Fx (x:=x) y (λe=>h (List.mem_cons_of_mem _ e))
  show spl c (b::(x++c::y))=_
  rw [spl,if_neg hb,ih]
theorem index_c {c b:UInt8} (h:b≠c) (l:List UInt8):Lib.index (b::l) [c]=if Lib.index l [c] == -1 then -1 else Lib.index l [c]+1:=by
 have hp:([c]:List UInt8).isPrefixOf (b::l)=false:=by simp [List.isPrefixOf,Ne.symm h]
 rw [Lib.index,hp];simp
theorem D9 (c:UInt8):∀l:List UInt8,Lib.splitK [c] 0 (l.count c) l=spl c l
 | []=>rfl
 | b::l=>by
  have ih:=D9 c l
  by_cases hb:b=c
  ·subst hb
   rw [List.count_cons_self,spl,if_pos rfl,<- ih,Lib.splitK]
   have h0:Lib.index (b::l) [b]=0:=by rw [Lib.index];simp [List.isPrefixOf]
   rw [h0]
   simp
  ·rw [List.count_cons_of_ne hb,spl,if_neg hb,<- ih]
   cases hn:l.count c with
   | zero=>rfl
   | succ n =>
    rw [Lib.splitK,Lib.splitK,index_c hb]
    have hg:=Lib.index_ge l [c]
    by_cases hm:Lib.index l [c] = -1
    ·rw [hm];rfl
    ·have e1:(Lib.index l [c] == -1)=false:=by simpa using hm
     rw [e1]
     simp only [Bool.false_eq_true,if_false]
     have e2:(Lib.index l [c]+1 == -1)=false:=by rw [beq_eq_false_iff_ne];omega
     rw [e2]
     simp only [Bool.false_eq_true,if_false,Nat.add_zero,List.length_cons,List.length_nil,Nat.zero_add]
     rw [show (Lib.index l [c]+1).toNat=(Lib.index l [c]).toNat+1 by omega]
     rfl
theorem qy (c:UInt8) {s:ByteArray} (hs:s.size<4294967281):strings_Split s (⟨#[c]⟩:ByteArray)=some ((spl c s.data.toList).map λl=>(⟨l.toArray⟩:ByteArray)):=by
 have h1:(1:Nat)<=(⟨#[c]⟩:ByteArray).size:=Nat.le_refl 1
 show Cz s (⟨#[c]⟩:ByteArray)=_
 unfold Cz
 rw [if_pos ⟨hs,h1⟩]
 have e1:Lib.countB s (⟨#[c]⟩:ByteArray)=s.data.toList.count c:=by
  show Lib.count s.data.toList [c]=_
  exact Lib.count_one c _
 have e2:=Lib.splitB_data (⟨#[c]⟩:ByteArray) 0 (s.data.toList.count c) s
 have e3:(Lib.splitB (⟨#[c]⟩:ByteArray) 0 (s.data.toList.count c) s).map (λx=>x.data.toList)=spl c s.data.toList:=by
  rw [<- D9];exact e2
 rw [e1,<- e3,List.map_map]
 congr 1
 exact (List.map_id _).symm.trans (List.map_congr_left (λx _=>rfl))
def pE (b:UInt8):Bool:=decide (48<=b.toNat)&&decide (b.toNat<=57)
theorem F3 {n:Nat} (h:n<10):(UInt8.ofNat (48+n)).toNat=48+n:=by
 rw [UInt8.toNat_ofNat'];omega
theorem ddS {u:Nat} (h:u<10):Lib.decDigits u=[UInt8.ofNat (48+u)]:=by rw [Lib.decDigits,dif_pos h]
theorem ddB {u:Nat} (h:¬u<10):Lib.decDigits u=Lib.decDigits (u / 10)++[UInt8.ofNat (48+u % 10)]:=by rw [Lib.decDigits,dif_neg h]
theorem EN (u:Nat):∀b∈Lib.decDigits u,pE b=true:=by
 induction u using Nat.strongRecOn with
 | ind u ih =>
  by_cases h:u<10
  ·rw [ddS h]
   intro b hb
   rw [List.mem_singleton.1 hb]
   unfold pE
   rw [F3 h,decide_eq_true (by omega),decide_eq_true (by omega)];rfl
  ·rw [ddB h]
   intro b hb
   rcases List.mem_append.1 hb with hb|hb
   ·exact ih (u / 10) (by omega) b hb
   ·rw [List.mem_singleton.1 hb]
    unfold pE
    rw [F3 (Nat.mod_lt _ (by decide)),decide_eq_true (by omega),decide_eq_true (by omega)];rfl
theorem dv_of {n:Nat} (h:n<10):Lib.digitVal (UInt8.ofNat (48+n))=some n:=by
 have:∀n:Fin 10,Lib.digitVal (UInt8.ofNat (48+n.val))=some n.val:=by decide
 exact this ⟨n,h⟩
theorem vZ:∀(l:List UInt8) (a m:Nat) (b:UInt8) (d:Nat),Lib.decFrom a l=some m->Lib.digitVal b=some d->Lib.decFrom a (l++[b])=some (m*10+d)
 | [],a,m,b,d,h,hd=>by
  simp only [Lib.decFrom,so_]at h
  subst h
  simp only [List.nil_append,Lib.decFrom,hd]
 | x::l,a,m,b,d,h,hd=>by
  simp only [List.cons_append,Lib.decFrom]at h ⊢
  cases hx:Lib.digitVal x with
  | none=>rw [hx]at h;cases h
  | some e =>
   rw [hx]at h
   exact vZ l _ m b d h hd
theorem Jt (u:Nat):Lib.decFrom 0 (Lib.decDigits u)=some u:=by
 induction u using Nat.strongRecOn with
 | ind u ih =>
  by_cases h:u<10
  ·rw [ddS h]
   simp only [Lib.decFrom,dv_of h]
   congr 1;omega
  ·rw [ddB h,vZ _ 0 (u / 10) _ (u % 10) (ih (u / 10) (by omega)) (dv_of (Nat.mod_lt _ (by decide)))]
   congr 1;omega
theorem Gn (u:Nat):Lib.decDigits u ≠ []:=by
 by_cases h:u<10
 ·rw [ddS h];simp
 ·rw [ddB h];simp
theorem E9 (u:Nat) (h:u≠0):∀b l,Lib.decDigits u=b::l->b.toNat≠48:=by
 induction u using Nat.strongRecOn with
 | ind u ih =>
  intro b l e
  by_cases h1:u<10
  ·rw [ddS h1]at e
   simp only [List.cons.injEq]at e
   rw [<- e.1,F3 h1]
   omega
  ·rw [ddB h1]at e
   cases hd:Lib.decDigits (u / 10)with
   | nil=>exact absurd hd (Gn _)
   | cons x r =>
    rw [hd,List.cons_append,List.cons.injEq]at e
    rw [<- e.1]
    exact ih (u / 10) (by omega) (by omega) x r hd
theorem I4:∀(k u:Nat),u<10 ^ (k+1)->(Lib.decDigits u).length<=k+1
 | 0,u,h=>by rw [ddS (by omega)];simp
 | k+1,u,h=>by
  by_cases h1:u<10
  ·rw [ddS h1];simp
  ·rw [ddB h1,List.length_append]
   have:=I4 k (u / 10) (by rw [Nat.pow_succ]at h;omega)
   simp only [List.length_cons,List.length_nil];omega
theorem atoi_dd (u:Nat):Lib.atoi (Lib.decDigits u)=some (u:Int):=by
 cases hd:Lib.decDigits u with
 | nil=>exact absurd hd (Gn u)
 | cons b l =>
  have hb:=EN u b (by rw [hd];exact List.mem_cons_self)
  unfold pE at hb
  simp only [Bool.and_eq_true,decide_eq_true_eq]at hb
  have n1:(b==45)=false:=by rw [beq_eq_false_iff_ne];intro e;rw [e]at hb;exact absurd hb.1 (by decide)
  have n2:(b==43)=false:=by rw [beq_eq_false_iff_ne];intro e;rw [e]at hb;exact absurd hb.1 (by decide)
  simp only [Lib.atoi,n1,n2,Bool.false_eq_true,if_false]
  have e:Lib.decNat (b::l)=some u:=by
   unfold Lib.decNat
   rw [<- hd,Jt]
   rw [hd];rfl
  rw [e];rfl
theorem sV {s:ByteArray} {k:Nat} (h:k<s.size):s.data.toList[k]? = some (lC s k):=by
 have hl:k<s.data.toList.length:=by rw [<- Go.Lib.size_eq];exact h
 unfold lC
 rw [List.getD_eq_getElem?_getD,List.getElem?_eq_getElem hl];rfl
theorem GV {s:ByteArray} {b:UInt8} (h:0<s.size) (hl:s.size<1000000000) (hb:lC s 0=b) (h45:b≠45):strings_TrimPrefix s (⟨#[45]⟩:ByteArray)=some s:=by
 unfold strings_TrimPrefix dn dA
 have h1:((⟨#[45]⟩:ByteArray).size:Int)=1:=rfl
 have h2:qw s 0 1=some (s.extract 0 1):=by
  unfold qw
  rw [if_pos (by omega)];rfl
 have h3:sEq (s.extract 0 1) (⟨#[45]⟩:ByteArray)=false:=by
  cases hq:sEq (s.extract 0 1) (⟨#[45]⟩:ByteArray)with
  | false=>rfl
  | true =>
   exfalso
   have e:=(dU _ _).1 hq
   have e2:(s.extract 0 1).data.toList=s.data.toList.take 1:=by
    rw [ByteArray.data_extract,Array.toList_extract]
    rfl
   have e3:=congrArg (λx:ByteArray=>x.data.toList[0]?) e
   simp only [e2]at e3
   have hg:=sV h
   rw [hb]at hg
   rw [List.getElem?_take,if_pos (by omega),hg]at e3
   have:(⟨#[45]⟩:ByteArray).data.toList[0]? = some 45:=rfl
   rw [this,so_]at e3
   exact h45 e3
 rw [h1,decide_eq_true (by omega),cond_true,h2,ob_,h3]
 rfl
def yK (s:ByteArray):Prop:=s.size<=1000
def G8 (x:Entry):Prop:=yK x.Key/\yK x.Item/\x.Except.length<=2000/\x.Tags.length<=2000/\∀t∈x.Tags,yK t
theorem zM {s:ByteArray} (h:Nat.ble s.size 1000=true):yK s:=Nat.le_of_ble_eq_true h
theorem pY {α:Type} (xs ys:List α) (h:xs.length+ys.length<=1000000000):lN xs ys=some (xs++ys):=by unfold lN;rw [if_pos h]
abbrev SB (l:List UInt8):ByteArray:=⟨l.toArray⟩
theorem u7 {l m:List UInt8} (h:SB l=SB m):l=m:=by
 have:=congrArg (λs:ByteArray=>s.data.toList) h
 simpa using this
def Med (n:Int):Prop := -1000000000000000<=n/\n<=1000000000000000
theorem Ki {n:Int} (h:Med n):strconv_Itoa n=some (SB (Go.Lib.itoa n)):=by
 unfold strconv_Itoa JX
 unfold Med at h
 rw [if_pos ⟨by omega,by omega⟩]
theorem vF {n:Int} (h:Med n):(Go.Lib.itoa n).length<=21:=by
 unfold Med at h
 exact Go.Lib.itoa_length_le n (by omega) (by omega)
theorem Lx (sep:List UInt8):Go.Lib.joinTail sep []=[]:=rfl
theorem nK (sep y:List UInt8) (r:List (List UInt8)):Go.Lib.joinTail sep (y::r)=sep++y++Go.Lib.joinTail sep r:=by simp [Go.Lib.joinTail]
theorem G5 (sep:List UInt8) (m:Nat):∀(r:List (List UInt8)),(∀x∈r,x.length<=m)->(Go.Lib.joinTail sep r).length<=r.length*(m+sep.length)
 | [],_=>by simp [Go.Lib.joinTail]
 | y::r,hy=>by
  rw [nK,List.length_append,List.length_append,List.length_cons,Nat.add_mul]
  have:=G5 sep m r (λx hx=>hy x (List.mem_cons_of_mem _ hx))
  have:=hy y (by simp)
  omega
theorem zb (sep:List UInt8) (m:Nat):∀(ls:List (List UInt8)),(∀x∈ls,x.length<=m)->(Go.Lib.join ls sep).length<=ls.length*(m+sep.length)
 | [],h=>by simp [Go.Lib.join_nil]
 | x::r,h=>by
  rw [Go.Lib.join_cons,List.length_append,List.length_cons,Nat.add_mul]
  have:=G5 sep m r (λx hx=>h x (List.mem_cons_of_mem _ hx))
  have:=h x (by simp)
  omega
theorem zh (ls:List (List UInt8)) (sep:List UInt8) (m:Nat) (h:∀x∈ls,x.length<=m) (hl:ls.length<=1000000) (hm:m+sep.length<=10000):strings_Join (ls.map SB) (SB sep)=some (SB (Go.Lib.join ls sep)):=by
 have h1:=zb sep m ls h
 have h2:ls.length*(m+sep.length)<=1000000*10000:=Nat.mul_le_mul hl hm
 have e:(ls.map SB).map (λx=>x.data.toList)=ls:=by rw [List.map_map];exact List.map_id' ls
 unfold strings_Join J8
 rw [e]
 have e2:(SB sep).data.toList=sep:=rfl
 rw [e2,if_pos ⟨by simp;omega,by omega⟩]
theorem Ay:∀(l:List Int) (k:Nat) (out:List ByteArray),(∀n∈l,Med n)->l.length+out.length<=1000000->forR (λk x s=>jw k x s) l k out=some (.go (out++l.map λn=>SB (Go.Lib.itoa n)))
 | [],k,out,h,hl=>by simp [forR]
 | n::l,k,out,h,hl=>by
  simp only [List.length_cons]at hl
  have ih:=Ay l (k+1) (out++[SB (Go.Lib.itoa n)]) (λx hx=>h x (List.mem_cons_of_mem _ hx)) (by simp;omega)
  have hstep:jw k n out=some (.go (out++[SB (Go.Lib.itoa n)])):=by
   unfold jw
   rw [Ki (h n (by simp))]
   simp only [ob_]
   rw [pY _ _ (by simp;omega)]
   rfl
  simp only [forR,hstep,ob_]
  rw [ih]
  simp
theorem Ji (l:List Int) (h:∀n∈l,Med n) (hl:l.length<=1000000):oG l=some (SB (Go.Lib.join (l.map Go.Lib.itoa) [32])):=by
 unfold oG
 rw [gz (by omega),Ay l 0 [] h (by simpa using hl)]
 simp only [ob_,iH,List.nil_append]
 have e:(l.map λn=>SB (Go.Lib.itoa n))=(l.map Go.Lib.itoa).map SB:=by rw [List.map_map];rfl
 rw [e,zh _ [32] 21 (λx hx=>by
  obtain ⟨n,hn,rfl⟩:=List.mem_map.1 hx
  exact vF (h n hn)) (by simpa using hl) (by decide)]
 rfl
theorem dJ (l:List UInt8):(SB l).size=l.length:=by show l.toArray.size=_;simp
theorem E5 {b:UInt8} (h:pE b=true):Lib.digitVal b=some (b.toNat-48):=by
 unfold pE at h
 simp only [Bool.and_eq_true,decide_eq_true_eq]at h
 unfold Lib.digitVal
 rw [if_pos h]
theorem Av:∀(l:List UInt8) (a:Nat),l.all pE=true->∃v,Lib.decFrom a l=some v
 | [],a,_=>⟨a,rfl⟩
 | b::l,a,h=>by
  simp only [List.all_cons,Bool.and_eq_true]at h
  obtain ⟨v,hv⟩:=Av l (a*10+(b.toNat-48)) h.2
  exact⟨v,by simp only [Lib.decFrom,E5 h.1];exact hv⟩
theorem Jq (b:UInt8) (h:pE b=true):b=UInt8.ofNat (48+(b.toNat-48)):=by
 unfold pE at h
 simp only [Bool.and_eq_true,decide_eq_true_eq]at h
 rw [show 48+(b.toNat-48)=b.toNat by omega,UInt8.ofNat_toNat]
theorem IC:∀(n:Nat) (t:List UInt8),t.length=n+1->t.all pE=true->(∀b l,t=b::l->b.toNat≠48)->∃v,Lib.decFrom 0 t=some v/\v≠0/\Lib.decDigits v=t
 | 0,t,hl,h,h0=>by
  match t,hl,h,h0 with
  | [b],_,h,h0 =>
   simp only [List.all_cons,List.all_nil,Bool.and_true]at h
   have hb:=h0 b [] rfl
   have hd:=h
   unfold pE at hd
   simp only [Bool.and_eq_true,decide_eq_true_eq]at hd
   refine⟨b.toNat-48,by simp only [Lib.decFrom,E5 h];congr 1;omega,by omega,?_⟩
   rw [ddS (by omega),<- Jq b h]
 | n+1,t,hl,h,h0=>by
  have hne:t ≠ []:=λe=>by rw [e]at hl;simp at hl
  obtain ⟨t',b,rfl⟩:∃t' b,t=t'++[b]:=⟨t.dropLast,t.getLast hne,(List.dropLast_concat_getLast hne).symm⟩
  have hl':t'.length=n+1:=by simpa using hl
  rw [List.all_append]at h
  simp only [List.all_cons,List.all_nil,Bool.and_true,Bool.and_eq_true]at h
  obtain ⟨v,v1,v2,v3⟩:=IC n t' hl' h.1 (λb' l' e=>h0 b' (l'++[b]) (by rw [e];rfl))
  have hd:=h.2
  unfold pE at hd
  simp only [Bool.and_eq_true,decide_eq_true_eq]at hd
  refine⟨v*10+(b.toNat-48),vZ t' 0 v b _ v1 (E5 h.2),by omega,?_⟩
  rw [ddB (by omega),show (v*10+(b.toNat-48)) / 10=v by omega,show (v*10+(b.toNat-48)) % 10=b.toNat-48 by omega,v3,<- Jq b h.2]
theorem dd_zero {r:List UInt8} (hr:r ≠ []) {b:UInt8} (hb:b.toNat=48) (v:Nat):Lib.decDigits v≠b::r:=λe=>by
 by_cases hv:v=0
 ·subst hv
  rw [ddS (by decide)]at e
  simp only [List.cons.injEq]at e
  exact hr e.2.symm
 ·exact E9 v hv b r e hb
def rf:List UInt8->List UInt8
 | []=>[]
 | b::t=>if b=45 then t else b::t
theorem trim_eq (l:List UInt8) (hl:l.length<1000000000):strings_TrimPrefix (SB l) (⟨#[45]⟩:ByteArray)=some (SB (rf l)):=by
 cases l with
 | nil=>decide +kernel
 | cons b t =>
  by_cases hb:b=45
  ·subst hb
   have hs:(SB (45::t)).size=t.length+1:=by rw [dJ];rfl
   unfold strings_TrimPrefix dn dA
   have h1:((⟨#[45]⟩:ByteArray).size:Int)=1:=rfl
   have h2:qw (SB (45::t)) 0 1=some (⟨#[45]⟩:ByteArray):=by
    unfold qw
    rw [if_pos (by rw [hs];omega)]
    congr 1
    apply ByteArray.ext
    apply Array.ext'
    rw [ByteArray.data_extract,Array.toList_extract]
    rfl
   have h3:qw (SB (45::t)) 1 ((SB (45::t)).size:Int)=some (SB t):=by
    unfold qw
    rw [if_pos (by rw [hs];omega)]
    congr 1
    apply ByteArray.ext
    apply Array.ext'
    rw [ByteArray.data_extract,Array.toList_extract,Int.toNat_natCast,hs]
    show ((45::t).take (t.length+1)).drop 1=t
    rw [List.take_of_length_le (by simp)];rfl
   rw [h1,decide_eq_true (by rw [hs];omega),cond_true,h2,ob_,show sEq (⟨#[45]⟩:ByteArray) (⟨#[45]⟩:ByteArray)=true from (dU _ _).2 rfl]
   simp only [ob_,cond_true,h3]
   rw [show rf (45::t)=t by simp [rf]]
  ·have:=GV (s:=SB (b::t)) (b:=b) (by rw [dJ];simp) (by rw [dJ];exact hl) rfl hb
   rw [this,show rf (b::t)=b::t by simp [rf,hb]]
theorem Mi (r:List UInt8) (hr:r.length<=1000):mF 0 (λt=>dL (SB r) t)=some (bif r.all pE then .go (r.length:Int)else .ret (0,false)):=by
 have hsz:(SB r).size=r.length:=dJ r
 have hit:∀(d j:Nat),j+d=r.length->∃n,iterN (λt=>dL (SB r) t) n (j:Int)=some (bif (r.drop j).all pE then .go (r.length:Int)else .ret (0,false)):=by
  intro d
  induction d with
  | zero =>
   intro j hj
   have hj':j=r.length:=by omega
   subst hj'
   refine⟨1,?_⟩
   simp only [iterN,dL]
   rw [decide_eq_false (by rw [hsz];omega),List.drop_length];rfl
  | succ d ih =>
   intro j hj
   have hjl:j<r.length:=by omega
   have hc:wR (SB r) (j:Int)=some r[j]:=by
    rw [sO (SB r) j (by rw [hsz];exact hjl)]
    have:=sV (s:=SB r) (k:=j) (by rw [hsz];exact hjl)
    have h2:(SB r).data.toList[j]? = some r[j]:=List.getElem?_eq_getElem hjl
    rw [h2]at this
    exact this.symm
   have hdr:r.drop j=r[j]::r.drop (j+1):=List.drop_eq_getElem_cons hjl
   rw [hdr,List.all_cons]
   cases hd:pE r[j]with
   | false =>
    refine⟨1,?_⟩
    simp only [iterN,dL]
    rw [decide_eq_true (by rw [hsz];omega),cond_true,hc,ob_,ob_]
    unfold pE at hd
    simp only [Bool.false_and,cond_false]
    by_cases h48:(r[j].toNat:Int)<48
    ·rw [decide_eq_true h48];rfl
    ·rw [decide_eq_false h48,cond_false,ob_]
     have h57:(r[j].toNat:Int)>57:=by
      by_cases h:r[j].toNat<=57
      ·rw [decide_eq_true (by omega),decide_eq_true h]at hd;cases hd
      ·omega
     rw [decide_eq_true h57];rfl
   | true =>
    obtain ⟨n,hn⟩:=ih (j+1) (by omega)
    refine⟨n+1,?_⟩
    unfold pE at hd
    simp only [Bool.and_eq_true,decide_eq_true_eq]at hd
    have hstep:dL (SB r) (j:Int)=some (.go ((j+1:Nat):Int)):=by
     unfold dL
     rw [decide_eq_true (by rw [hsz];omega),cond_true,hc,ob_,decide_eq_false (by omega),cond_false,ob_,decide_eq_false (by omega),ob_,cond_false,lF (by omega)]
     rfl
    rw [iterN,hstep,ob_,Bool.true_and]
    exact hn
 obtain ⟨n,hn⟩:=hit r.length 0 (by omega)
 exact tV hn
theorem Jg (r:List UInt8):sEq (SB r) (⟨#[]⟩:ByteArray)=r.isEmpty:=by
 cases r with
 | nil=>exact (dU _ _).2 rfl
 | cons b r =>
  cases h:sEq (SB (b::r)) (⟨#[]⟩:ByteArray)with
  | false=>rfl
  | true =>
   have:=congrArg ByteArray.size ((dU _ _).1 h)
   rw [dJ]at this
   change _=0 at this
   simp at this
theorem uY (c:UInt8):∀l:List UInt8,Lib.join (spl c l) [c]=l
 | []=>by simp [spl,Lib.join_one]
 | b::l=>by
  have ih:=uY c l
  unfold spl
  by_cases hb:b=c
  ·rw [if_pos hb,Lib.join_cons,List.nil_append]
   cases hs:spl c l with
   | nil=>exact absurd hs (BI c l)
   | cons x r =>
    rw [hs,Lib.join_cons]at ih
    rw [nK,List.append_assoc,ih,hb];rfl
  ·rw [if_neg hb]
   cases hs:spl c l with
   | nil=>exact absurd hs (BI c l)
   | cons x r =>
    rw [hs,Lib.join_cons]at ih
    show Lib.join ((b::x)::r) [c]=_
    rw [Lib.join_cons,List.cons_append,ih]
theorem num_kit (l:List UInt8) (hl:l.length<=100000) (M:Int) (hM:M<=15):∃(n:Int) (ok:Bool),kK (SB l) M=some (n,ok)/\Med n/\(ok=true->Lib.itoa n=l):=by
 have med0:Med 0:=by unfold Med;omega
 have hsz:∀r:List UInt8,((SB r).size:Int)=(r.length:Int):=λr=>by rw [dJ]
 unfold kK
 rw [trim_eq l (by omega),ob_,Jg,hsz]
 generalize hr:rf l=r
 cases he:r.isEmpty with
 | true=>exact⟨0,false,rfl,med0,(λh=>by cases h)⟩
 | false =>
 simp only [cond_false]
 by_cases hlen:(r.length:Int)>M
 ·rw [decide_eq_true hlen]
  exact⟨0,false,rfl,med0,(λh=>by cases h)⟩
 ·rw [decide_eq_false hlen]
  simp only [cond_false]
  have hrl:r.length<=15:=by omega
  rw [Mi r (by omega),ob_]
  match r,he,hr,hlen,hrl with
  | b::t,he,hr,hlen,hrl =>
  have hb0:wR (SB (b::t)) 0=some b:=by
   have h00:=sO (SB (b::t)) 0 (by rw [dJ];simp)
   rw [show ((0:Nat):Int)=0 from rfl]at h00
   rw [h00];rfl
  rw [hb0,ob_]
  have hsn:sNe (SB l) (⟨#[48]⟩:ByteArray)=decide (l ≠ [48]):=by
   show (!sEq (SB l) (⟨#[48]⟩:ByteArray))=_
   rw [show sEq (SB l) (⟨#[48]⟩:ByteArray)=decide (l=[48]) by
    rw [Bool.eq_iff_iff,dU]
    simp only [decide_eq_true_eq]
    exact⟨λh=>u7 (m:=[48]) h,λh=>by rw [h]⟩]
   by_cases h:l=[48] <;> simp [h]
  have h48e:((b.toNat:Int)==48)=decide (b.toNat=48):=by
   rw [Bool.eq_iff_iff];simp;omega
  rw [h48e,hsn]
  cases hall:(b::t).all pE with
  | false =>
   simp only [cond_false]
   refine⟨0,false,?_,med0,(λh=>by cases h)⟩
   cases decide (b.toNat=48)with
   | false=>rfl
   | true =>
    simp only [cond_true,ob_]
    cases decide (l ≠ [48]) <;> rfl
  | true =>
   simp only [cond_true]
   obtain ⟨v,hv⟩:=Av (b::t) 0 hall
   have hvb:v<1000000000000000:=by
    have:=Lib.decFrom_lt _ _ _ hv
    have h2:(10:Nat) ^ (b::t).length<=10 ^ 15:=Nat.pow_le_pow_right (by decide) hrl
    omega
   have hdn:Lib.decNat (b::t)=some v:=by unfold Lib.decNat;exact hv
   have hbd:pE b=true:=by simp only [List.all_cons,Bool.and_eq_true]at hall;exact hall.1
   have hb45:b≠45:=λe=>by rw [e]at hbd;exact absurd hbd (by decide)
   have hb43:b≠43:=λe=>by rw [e]at hbd;exact absurd hbd (by decide)
   obtain ⟨n,hn,hnm,hw⟩:∃n:Int,Lib.atoi l=some n/\Med n/\(Lib.itoa n=l↔¬(b.toNat=48/\l ≠ [48])):=by
    cases l with
    | nil=>simp [rf]at hr
    | cons c l' =>
     by_cases hc:c=45
     ·subst hc
      rw [show rf (45::l')=l' by simp [rf]]at hr
      subst hr
      refine⟨-(v:Int),by simp [Lib.atoi,hdn],by unfold Med;omega,?_⟩
      by_cases h48:b.toNat=48
      ·refine⟨λe => ?_,λk=>absurd ⟨h48,by simp⟩ k⟩
       exfalso
       unfold Lib.itoa at e
       by_cases hv0:v=0
       ·subst hv0
        rw [if_neg (by omega)]at e
        rw [show (-((0:Nat):Int)).toNat=0 from rfl,ddS (by decide)]at e
        simp only [List.cons.injEq]at e
        exact absurd e.2 (by simp)
       ·rw [if_pos (by omega)]at e
        simp only [List.cons.injEq,true_and]at e
        rw [show (-(v:Int)).natAbs=v by omega]at e
        exact E9 v hv0 b t e h48
      ·obtain ⟨v',e1,e2,e3⟩:=IC t.length (b::t) rfl hall (λb' l'' e=>by
        simp only [List.cons.injEq]at e
        rw [<- e.1];exact h48)
       rw [hv,so_]at e1
       subst e1
       refine⟨λ_ k=>h48 k.1,λ_ => ?_⟩
       unfold Lib.itoa
       rw [if_pos (by omega),show (-(v:Int)).natAbs=v by omega,e3]
     ·rw [show rf (c::l')=c::l' by simp [rf,hc]]at hr
      simp only [List.cons.injEq]at hr
      obtain ⟨rfl,rfl⟩:=hr
      have n1:(c==45)=false:=by rw [beq_eq_false_iff_ne];exact hb45
      have n2:(c==43)=false:=by rw [beq_eq_false_iff_ne];exact hb43
      refine⟨(v:Int),by simp [Lib.atoi,n1,n2,hdn],by unfold Med;omega,?_⟩
      have hi:Lib.itoa (v:Int)=Lib.decDigits v:=by unfold Lib.itoa;rw [if_neg (by omega)];rfl
      rw [hi]
      by_cases h48:c.toNat=48
      ·have hc48:c=48:=by
        have:=Jq c hbd
        rw [h48]at this
        exact this
       cases l' with
       | nil =>
        refine⟨λ_ k=>k.2 (by rw [hc48]),λ_ => ?_⟩
        have:v=0:=by
         simp only [Lib.decFrom,E5 hbd,so_]at hv
         omega
        rw [this,ddS (by decide),hc48];rfl
       | cons x l'' =>
        refine⟨λe=>absurd e (dd_zero (by simp) h48 v),λk=>absurd ⟨h48,by simp⟩ k⟩
      ·obtain ⟨v',e1,e2,e3⟩:=IC l'.length (c::l') rfl hall (λb' l'' e=>by
        simp only [List.cons.injEq]at e
        rw [<- e.1];exact h48)
       rw [hv,so_]at e1
       subst e1
       exact⟨λ_ k=>h48 k.1,λ_=>e3⟩
   have hll:l.length<=16:=by
    cases l with
    | nil=>simp
    | cons c l' =>
     have h2:l'.length<=(rf (c::l')).length:=by
      by_cases hc:c=45
      ·simp [rf,hc]
      ·simp [rf,hc]
     rw [hr]at h2
     simp only [List.length_cons]at hrl h2 ⊢;omega
   have ha:strconv_Atoi (SB l)=some n:=by
    show Dz (SB l)=some n
    unfold Dz
    rw [if_pos (by rw [dJ];omega)];exact hn
   by_cases hbad:b.toNat=48/\l ≠ [48]
   ·rw [decide_eq_true hbad.1,decide_eq_true hbad.2]
    exact⟨0,false,rfl,med0,(λh=>by cases h)⟩
   ·refine⟨n,true,?_,hnm,λ_=>hw.2 hbad⟩
    by_cases h48:b.toNat=48
    ·have:¬l ≠ [48]:=λh=>hbad ⟨h48,h⟩
     rw [decide_eq_true h48,decide_eq_false this]
     simp only [cond_true,ob_,cond_false,iH,ha]
    ·rw [decide_eq_false h48]
     simp only [cond_false,ob_,iH,ha]
theorem AR (ws:List (List UInt8)) (h:∀w∈ws,w.length<=100000) (hl:ws.length<=100000):∃ns ok,jH (ws.map SB)=some (ns,ok)/\(ok=true->ns.map Lib.itoa=ws/\∀n∈ns,Med n):=by
 have key:∀(xs:List (List UInt8)) (k:Nat) (out:List Int),(∀w∈xs,w.length<=100000)->out.length+xs.length<=1000000 ->
   (∃ns,forR (λk x s=>dG k x s) (xs.map SB) k out=some (.go (out++ns))/\ns.map Lib.itoa=xs/\∀n∈ns,Med n)\/forR (λk x s=>dG k x s) (xs.map SB) k out=some (.ret ([],false)):=by
  intro xs
  induction xs with
  | nil=>exact λk out _ _ => .inl ⟨[],by simp [forR],rfl,λn hn=>by cases hn⟩
  | cons x xs ih =>
   intro k out hw ho
   simp only [List.length_cons]at ho
   obtain ⟨n,ok,a1,a2,a3⟩:=num_kit x (hw x (by simp)) 9 (by decide)
   have hs:nU (SB x)=some (n,ok):=by unfold nU;rw [a1];rfl
   cases ok with
   | false =>
    right
    have hstep:dG k (SB x) out=some (.ret ([],false)):=by unfold dG;rw [hs];rfl
    rw [List.map_cons,forR,hstep];rfl
   | true =>
    have hstep:dG k (SB x) out=some (.go (out++[n])):=by
     unfold dG
     rw [hs,ob_]
     simp only [Bool.not_true,cond_false]
     rw [pY _ _ (by simp only [List.length_cons,List.length_nil];omega)];rfl
    rcases ih (k+1) (out++[n]) (λw hm=>hw w (by simp [hm])) (by simp only [List.length_append,List.length_cons,List.length_nil];omega)with⟨ns,b1,b2,b3⟩|b1
    ·left
     refine⟨n::ns,?_,by rw [List.map_cons,a3 rfl,b2],λm hm => ?_⟩
     ·rw [List.map_cons,forR,hstep,ob_]
      simp only []
      rw [b1];simp
     ·rcases List.mem_cons.1 hm with rfl|hm
      ·exact a2
      ·exact b3 m hm
    ·right
     rw [List.map_cons,forR,hstep,ob_]
     exact b1
 unfold jH
 rw [gz (by rw [List.length_map];omega)]
 rcases key ws 0 [] h (by simp only [List.length_nil];omega)with⟨ns,b1,b2,b3⟩|b1
 ·rw [b1]
  exact⟨ns,true,rfl,λ_=>⟨b2,b3⟩⟩
 ·rw [b1]
  exact⟨[],false,rfl,(λh=>by cases h)⟩
theorem rz (v:ByteArray) (l:List ByteArray) (hl:l.length<=1000000):∃b,bK l v=some b:=by
 have key:∀(xs:List ByteArray) (k:Nat),∃o:Ctl Unit Int,forR (λk x s=>bJ v k x s) xs k ()=some o/\(o = .go ()\/∃n,o = .ret n):=by
  intro xs
  induction xs with
  | nil=>exact λk=>⟨_,rfl,.inl rfl⟩
  | cons x xs ih =>
   intro k
   rw [forR]
   unfold bJ
   cases sEq v x with
   | true=>exact⟨_,rfl,.inr ⟨_,rfl⟩⟩
   | false=>exact ih (k+1)
 obtain ⟨o,ho,hc⟩:=key l 0
 unfold bK dY
 rw [gz (by omega),ho,ob_]
 rcases hc with rfl|⟨n,rfl⟩ <;> exact⟨_,rfl⟩
theorem qc (c:UInt8):∀l:List UInt8,(spl c l).length<=l.length+1/\∀w∈spl c l,w.length<=l.length
 | []=>⟨by simp [spl],λw hw=>by simp [spl]at hw;subst hw;simp⟩
 | b::l=>by
  obtain ⟨h1,h2⟩:=qc c l
  unfold spl
  split
  ·refine⟨by simp only [List.length_cons];omega,λw hw => ?_⟩
   rcases List.mem_cons.1 hw with rfl|hw
   ·simp
   ·have:=h2 w hw
    simp only [List.length_cons];omega
  ·split
   ·exact⟨by simp,λw hw=>by simp at hw;subst hw;simp⟩
   ·rename_i x r hr
    rw [hr]at h1 h2
    refine⟨by simp only [List.length_cons]at h1 ⊢;omega,λw hw => ?_⟩
    rcases List.mem_cons.1 hw with rfl|hw
    ·have:=h2 x (by simp)
     simp only [List.length_cons];omega
    ·have:=h2 w (by simp [hw])
     simp only [List.length_cons];omega
theorem Lu (x:List UInt8) (hx:x.length<=100000):∃b,nL (SB x)=some ((spl 32 x).map SB,b):=by
 have hs:=qy 32 (s:=SB x) (by rw [dJ];omega)
 obtain ⟨b,hb⟩:=rz (⟨#[]⟩:ByteArray) ((spl 32 x).map SB) (by rw [List.length_map];have:=(qc 32 x).1;omega)
 unfold nL
 rw [hs,ob_]
 rw [show (List.map (λl=>(⟨l.toArray⟩:ByteArray)) (spl 32 (SB x).data.toList))=(spl 32 x).map SB from rfl,hb,ob_]
 exact⟨_,rfl⟩
theorem Iz (l m:List UInt8):SB l++SB m=SB (l++m):=by
 apply Bu;rw [toL,toL];simp
theorem ug {x y:ByteArray} (h:x.size+y.size<=1000000000000):vH x y=some (x++y):=by
 unfold vH
 rw [if_neg]
 have:IntKind.i64.max=9223372036854775807:=by decide
 rw [this];omega
def gK (ls:List (List UInt8)):List UInt8:=if ls=[]then [45]else Lib.join ls [44]
theorem FE (x:List UInt8) (hx:x.length<=5000):∃(ls:List (List UInt8)) (ok:Bool),cB (SB x)=some (ls.map SB,ok)/\gK ls=x/\ls.length<=5001/\∀w∈ls,w.length<=5000:=by
 unfold cB
 by_cases h:x=[45]
 ·subst h
  rw [show sEq (SB [45]) (⟨#[45]⟩:ByteArray)=true from (dU _ _).2 rfl,cond_true]
  exact⟨[],true,rfl,rfl,by simp,λw hw=>by cases hw⟩
 ·have hs:sEq (SB x) (⟨#[45]⟩:ByteArray)=false:=by
   cases hq:sEq (SB x) (⟨#[45]⟩:ByteArray)with
   | false=>rfl
   | true=>exact absurd (u7 (m:=[45]) ((dU _ _).1 hq)) h
  rw [hs,cond_false]
  have hsp:=qy 44 (s:=SB x) (by rw [dJ];omega)
  obtain ⟨h1,h2⟩:=qc 44 x
  obtain ⟨b,hb⟩:=rz (⟨#[]⟩:ByteArray) ((spl 44 x).map SB) (by rw [List.length_map];omega)
  rw [hsp,ob_]
  rw [show (List.map (λl=>(⟨l.toArray⟩:ByteArray)) (spl 44 (SB x).data.toList))=(spl 44 x).map SB from rfl,hb,ob_]
  refine⟨spl 44 x,!b,rfl,?_,by omega,λw hw=>Nat.le_trans (h2 w hw) hx⟩
  unfold gK
  rw [if_neg (BI 44 x),uY]
theorem wB (ls:List (List UInt8)) (hl:ls.length<=100000) (h:∀w∈ls,w.length<=9000):gU (ls.map SB)=some (SB (gK ls)):=by
 unfold gU gK
 cases ls with
 | nil=>rfl
 | cons x r =>
  rw [if_neg (by simp),show ((((x::r).map SB).length:Int)==0)=false by rw [beq_eq_false_iff_ne];simp;omega,cond_false]
  have:=zh (x::r) [44] 9000 h (by omega) (by decide)
  rw [show (⟨#[44]⟩:ByteArray)=SB [44] from rfl,this];rfl
def bW (e:Entry):List (List UInt8) :=
 [e.Key.data.toList,e.Item.data.toList]++([e.Version,e.First,e.Last,e.Every,e.Days,e.From,e.To,e.Prio].map Lib.itoa)++[bif e.Gone then [103,111,110,101]else [111,110],gK (e.Except.map Lib.itoa),gK (e.Tags.map λt=>t.data.toList)]
theorem yl {body:Nat->Int->List ByteArray->Option (Ctl (List ByteArray) Unit)} (hb:∀k n s,body k n s=(strconv_Itoa n).bind λr=>(lN s ([r]:List ByteArray)).bind λa=>some (.go a)) :
  ∀(l:List Int) (k:Nat) (out:List ByteArray),(∀n∈l,Med n)->out.length+l.length<=1000000->forR body l k out=some (.go (out++(l.map Lib.itoa).map SB))
 | [],k,out,_,_=>by simp [forR]
 | n::l,k,out,h,ho=>by
  simp only [List.length_cons]at ho
  have hstep:body k n out=some (.go (out++[SB (Lib.itoa n)])):=by
   rw [hb,Ki (h n (by simp)),ob_,pY _ _ (by simp only [List.length_cons,List.length_nil];omega)];rfl
  rw [forR,hstep,ob_]
  simp only []
  rw [yl hb l (k+1) _ (λm hm=>h m (List.mem_cons_of_mem _ hm)) (by simp only [List.length_append,List.length_cons,List.length_nil];omega)]
  simp
theorem yB (e:Entry) (hm:∀n ∈ [e.Version,e.First,e.Last,e.Every,e.Days,e.From,e.To,e.Prio],Med n) (hx:∀n∈e.Except,Med n) (hxl:e.Except.length<=10000) (ht:∀t∈e.Tags,t.size<=5000) (htl:e.Tags.length<=10000)
  (hw:∀w∈bW e,w.length<=5000):cK e=some (SB (Lib.join (bW e) [32]++[10])):=by
 have r1:=yl (body:=λk x s=>iL k x s) (λ_ _ _=>rfl) [e.Version,e.First,e.Last,e.Every,e.Days,e.From,e.To,e.Prio] 0 [e.Key,e.Item] hm (by simp)
 have r2:=yl (body:=λk x s=>iO k x s) (λ_ _ _=>rfl) e.Except 0 [] hx (by simp only [List.length_nil];omega)
 rw [List.nil_append]at r2
 have l1:=wB (e.Except.map Lib.itoa) (by rw [List.length_map];omega) (λw hm=>by
  obtain ⟨n,hn,rfl⟩:=List.mem_map.1 hm
  have:=vF (hx n hn)
  omega)
 have etags:e.Tags=(e.Tags.map λt=>t.data.toList).map SB:=by
  rw [List.map_map]
  exact (List.map_id _).symm.trans (List.map_congr_left (λx _=>rfl))
 have l2:=wB (e.Tags.map λt=>t.data.toList) (by rw [List.length_map];omega) (λw hm=>by
  obtain ⟨t,h1,rfl⟩:=List.mem_map.1 hm
  have:=ht t h1
  rw [Go.Lib.size_eq]at this
  omega)
 rw [<- etags]at l2
 have hgone:(bif e.Gone then some (⟨#[103,111,110,101]⟩:ByteArray)else some (⟨#[111,110]⟩:ByteArray))=some (SB (bif e.Gone then [103,111,110,101]else [111,110])):=by cases e.Gone <;> rfl
 have hwords:([e.Key,e.Item]++([e.Version,e.First,e.Last,e.Every,e.Days,e.From,e.To,e.Prio].map Lib.itoa).map SB)++[SB (bif e.Gone then [103,111,110,101]else [111,110]),SB (gK (e.Except.map Lib.itoa)),SB (gK (e.Tags.map λt=>t.data.toList))]=(bW e).map SB:=by
  unfold bW
  simp only [List.map_append,List.map_cons,List.map_nil]
 have hj:=zh (bW e) [32] 5000 hw (by simp [bW]) (by decide)
 have hjl:=zb [32] 5000 (bW e) hw
 have hel:(bW e).length=13:=by simp [bW]
 unfold cK
 rw [gz (by simp),r1,ob_,iH,hgone,ob_,gz (by omega),r2,ob_,iH,l1,ob_,l2,ob_,
  pY _ _ (by simp),ob_,hwords]
 have hne:neL ((bW e).map SB)=some ():=by
  unfold bW
  rfl
 rw [hne,ob_,show (⟨#[32]⟩:ByteArray)=SB [32] from rfl,hj,ob_]
 have hcat:vH (SB (Lib.join (bW e) [32])) (⟨#[10]⟩:ByteArray)=some (SB (Lib.join (bW e) [32]++[10])):=by
  rw [ug (by rw [dJ];show _+1<=_;rw [hel]at hjl;simp only [List.length_cons,List.length_nil]at hjl;omega),show (⟨#[10]⟩:ByteArray)=SB [10] from rfl,Iz]
 rw [hcat,ob_]
theorem list13 {α:Type} {l:List α} (h:l.length=13):∃a b c d e f g i j k m n o,l=[a,b,c,d,e,f,g,i,j,k,m,n,o]:=by
 match l,h with
 | [a,b,c,d,e,f,g,i,j,k,m,n,o],_=>exact⟨a,b,c,d,e,f,g,i,j,k,m,n,o,rfl⟩
theorem list8 {α:Type} {l:List α} (h:l.length=8):∃a b c d e f g i,l=[a,b,c,d,e,f,g,i]:=by
 match l,h with
 | [a,b,c,d,e,f,g,i],_=>exact⟨a,b,c,d,e,f,g,i,rfl⟩
structure ReadE (m:Nat) (e:Entry):Prop where
 key:e.Key.size<=m
 item:e.Item.size<=m
 nums:∀n ∈ [e.Version,e.First,e.Last,e.Every,e.Days,e.From,e.To,e.Prio],Med n
 days:∀n∈e.Except,Med n
 dayl:e.Except.length<=m+1
 tags:∀t∈e.Tags,t.size<=m
 tagl:e.Tags.length<=m+1
 big:12<=m
theorem yJ (x:List UInt8) (hx:x.length<=5000):∃(ls:List (List UInt8)) (ok:Bool),cB (SB x)=some (ls.map SB,ok)/\gK ls=x/\ls.length<=x.length+1/\∀w∈ls,w.length<=x.length:=by
 by_cases h:x=[45]
 ·obtain ⟨ls,ok,a1,a2,_,_⟩:=FE x hx
  subst h
  have e:cB (SB [45])=some (([]:List (List UInt8)).map SB,true):=by
   unfold cB
   rw [show sEq (SB [45]) (⟨#[45]⟩:ByteArray)=true from (dU _ _).2 rfl,cond_true];rfl
  exact⟨[],true,e,rfl,by simp,λw hw=>by cases hw⟩
 ·obtain ⟨h1,h2⟩:=qc 44 x
  obtain ⟨b,hb⟩:=rz (⟨#[]⟩:ByteArray) ((spl 44 x).map SB) (by rw [List.length_map];omega)
  have hs:sEq (SB x) (⟨#[45]⟩:ByteArray)=false:=by
   cases hq:sEq (SB x) (⟨#[45]⟩:ByteArray)with
   | false=>rfl
   | true=>exact absurd (u7 (m:=[45]) ((dU _ _).1 hq)) h
  have hsp:=qy 44 (s:=SB x) (by rw [dJ];omega)
  refine⟨spl 44 x,!b,?_,?_,h1,h2⟩
  ·unfold cB
   rw [hs,cond_false,hsp,ob_]
   rw [show (List.map (λl=>(⟨l.toArray⟩:ByteArray)) (spl 44 (SB x).data.toList))=(spl 44 x).map SB from rfl,hb,ob_]
  ·unfold gK
   rw [if_neg (BI 44 x),uY]
theorem LB (x:List UInt8) (hx:x.length<=3000):∃(e:Entry) (ok:Bool),fu (SB x)=some (e,ok)/\(ok=true->ReadE x.length e/\bW e=spl 32 x/\cK e=some (SB (x++[10]))):=by
 obtain ⟨b,hb⟩:=Lu x (by omega)
 have hw:=(qc 32 x).2
 have hw1:=(qc 32 x).1
 have hjn:=uY 32 x
 unfold fu
 rw [hb,ob_]
 generalize hws:spl 32 x=ws at hw hw1 hjn
 simp only []
 by_cases hlen:ws.length=13
 ·have hbig:12<=x.length:=by omega
  obtain ⟨w0,w1,w2,w3,w4,w5,w6,w7,w8,w9,w10,w11,w12,rfl⟩:=list13 hlen
  have i0:idx (List.map SB [w0,w1,w2,w3,w4,w5,w6,w7,w8,w9,w10,w11,w12]) 0=some (SB w0):=rfl
  have i1:idx (List.map SB [w0,w1,w2,w3,w4,w5,w6,w7,w8,w9,w10,w11,w12]) 1=some (SB w1):=rfl
  have i10:idx (List.map SB [w0,w1,w2,w3,w4,w5,w6,w7,w8,w9,w10,w11,w12]) 10=some (SB w10):=rfl
  have i11:idx (List.map SB [w0,w1,w2,w3,w4,w5,w6,w7,w8,w9,w10,w11,w12]) 11=some (SB w11):=rfl
  have i12:idx (List.map SB [w0,w1,w2,w3,w4,w5,w6,w7,w8,w9,w10,w11,w12]) 12=some (SB w12):=rfl
  have hsub:yG (List.map SB [w0,w1,w2,w3,w4,w5,w6,w7,w8,w9,w10,w11,w12]) 2 10=some ([w2,w3,w4,w5,w6,w7,w8,w9].map SB):=rfl
  have hl13:((((List.map SB [w0,w1,w2,w3,w4,w5,w6,w7,w8,w9,w10,w11,w12]).length:Nat):Int) != 13)=false:=rfl
  have hsz:∀w ∈ [w0,w1,w2,w3,w4,w5,w6,w7,w8,w9,w10,w11,w12],w.length<=x.length:=hw
  obtain ⟨ns,o1,a1,a2⟩:=AR [w2,w3,w4,w5,w6,w7,w8,w9] (λw hm=>by
   have:=hsz w (by
    simp only [List.mem_cons,List.not_mem_nil,or_false]at hm
    rcases hm with rfl|rfl|rfl|rfl|rfl|rfl|rfl|rfl <;> simp)
   omega) (by simp)
  obtain ⟨ls,o2,b1,b2,b3,b4⟩:=yJ w11 (by have:=hsz w11 (by simp);omega)
  obtain ⟨ds,o3,c1,c2⟩:=AR ls (λw hm=>by have:=b4 w hm;have:=hsz w11 (by simp);omega) (by have:=hsz w11 (by simp);omega)
  obtain ⟨ts,o4,d1,d2,d3,d4⟩:=yJ w12 (by have:=hsz w12 (by simp);omega)
  simp only [hl13,i10,cond_false,ob_]
  obtain ⟨v,hv,hv2⟩:∃v,(bif (!b)then some true else bif sNe (SB w10) (⟨#[111,110]⟩:ByteArray)then some (sNe (SB w10) (⟨#[103,111,110,101]⟩:ByteArray))else some false)=some v/\(v=false->w10=[111,110]\/w10=[103,111,110,101]):=by
   cases b with
   | false=>exact⟨true,rfl,(λh=>by cases h)⟩
   | true =>
    simp only [Bool.not_true,cond_false]
    cases h1:sNe (SB w10) (⟨#[111,110]⟩:ByteArray)with
    | false =>
     refine⟨false,rfl,λ_ => .inl ?_⟩
     have:(!sEq (SB w10) (⟨#[111,110]⟩:ByteArray))=false:=h1
     simp only [Bool.not_eq_false']at this
     exact u7 (m:=[111,110]) ((dU _ _).1 this)
    | true =>
     refine⟨_,rfl,λh2 => .inr ?_⟩
     have:(!sEq (SB w10) (⟨#[103,111,110,101]⟩:ByteArray))=false:=h2
     simp only [Bool.not_eq_false']at this
     exact u7 (m:=[103,111,110,101]) ((dU _ _).1 this)
  rw [hv,ob_]
  cases v with
  | true=>exact⟨_,false,rfl,(λh=>by cases h)⟩
  | false =>
  simp only [cond_false,hsub,a1,i11,b1,c1,i12,d1,ob_]
  cases o1 with
  | false=>exact⟨_,false,rfl,(λh=>by cases h)⟩
  | true =>
  cases o2 with
  | false=>exact⟨_,false,rfl,(λh=>by cases h)⟩
  | true =>
  cases o3 with
  | false=>exact⟨_,false,rfl,(λh=>by cases h)⟩
  | true =>
  cases o4 with
  | false=>exact⟨_,false,rfl,(λh=>by cases h)⟩
  | true =>
  obtain ⟨e1,e2⟩:=a2 rfl
  obtain ⟨f1,f2⟩:=c2 rfl
  obtain ⟨n2,n3,n4,n5,n6,n7,n8,n9,rfl⟩:=list8 (l:=ns) (by have:=congrArg List.length e1;simpa using this)
  have j0:idx [n2,n3,n4,n5,n6,n7,n8,n9] 0=some n2:=rfl
  have j1:idx [n2,n3,n4,n5,n6,n7,n8,n9] 1=some n3:=rfl
  have j2:idx [n2,n3,n4,n5,n6,n7,n8,n9] 2=some n4:=rfl
  have j3:idx [n2,n3,n4,n5,n6,n7,n8,n9] 3=some n5:=rfl
  have j4:idx [n2,n3,n4,n5,n6,n7,n8,n9] 4=some n6:=rfl
  have j5:idx [n2,n3,n4,n5,n6,n7,n8,n9] 5=some n7:=rfl
  have j6:idx [n2,n3,n4,n5,n6,n7,n8,n9] 6=some n8:=rfl
  have j7:idx [n2,n3,n4,n5,n6,n7,n8,n9] 7=some n9:=rfl
  simp only [Bool.not_true,cond_false,ob_,i0,i1,j0,j1,j2,j3,j4,j5,j6,j7]
  generalize hE:(⟨SB w0,SB w1,n2,n3,n4,n5,n6,ds,n7,n8,n9,ts.map SB,sEq (SB w10) (⟨#[103,111,110,101]⟩:ByteArray)⟩:Entry)=e
  refine⟨e,true,rfl,λ_ => ?_⟩
  have hR:ReadE x.length e:=by
   rw [<- hE]
   have hd:ds.length=ls.length:=by have:=congrArg List.length f1;simpa using this
   refine⟨by show (SB w0).size<=_;rw [dJ];exact hsz w0 (by simp),by show (SB w1).size<=_;rw [dJ];exact hsz w1 (by simp),?_,f2,by show ds.length<=_;have:=hsz w11 (by simp);omega,λt ht => ?_,by show (ts.map SB).length<=_;rw [List.length_map];have:=hsz w12 (by simp);omega,hbig⟩
   ·exact e2
   ·obtain ⟨y,hy,rfl⟩:=List.mem_map.1 ht
    rw [dJ]
    have:=d4 y hy;have:=hsz w12 (by simp);omega
  have hgone:(bif sEq (SB w10) (⟨#[103,111,110,101]⟩:ByteArray)then [103,111,110,101]else [111,110])=w10:=by
   rcases hv2 rfl with h|h
   ·subst h
    cases hq:sEq (SB [111,110]) (⟨#[103,111,110,101]⟩:ByteArray)with
    | false=>rfl
    | true=>exact absurd (u7 (m:=[103,111,110,101]) ((dU _ _).1 hq)) (by decide)
   ·subst h
    rw [show sEq (SB [103,111,110,101]) (⟨#[103,111,110,101]⟩:ByteArray)=true from (dU _ _).2 rfl];rfl
  have hE2:bW e=[w0,w1,w2,w3,w4,w5,w6,w7,w8,w9,w10,w11,w12]:=by
   rw [<- hE]
   unfold bW
   simp only []
   rw [hgone,f1,b2,show ((ts.map SB).map λt:ByteArray=>t.data.toList)=ts by rw [List.map_map];exact List.map_id' ts,d2,e1];rfl
  refine⟨hR,hE2,?_⟩
  have:=yB e hR.nums hR.days (by have:=hR.dayl;omega) (λt ht=>by have:=hR.tags t ht;omega) (by have:=hR.tagl;omega) (λw hm=>by
   rw [hE2]at hm
   have:=hsz w hm
   omega)
  rw [this,hE2,hjn]
 ·have hl:(((ws.map SB).length:Int) != 13)=true:=by rw [List.length_map,bne_iff_ne];omega
  rw [hl]
  cases b <;> exact⟨_,false,rfl,(λh=>by cases h)⟩
def DZ:ByteArray:=⟨#[]⟩
def xx {α:Type} (key:α->ByteArray) (l:List α) (k:Nat):ByteArray:=if k=0 then DZ else match l[k-1]? with | some y=>key y | none=>DZ
def chk {α:Type} (key:α->ByteArray) (stp:ByteArray->α->Int):ByteArray->List α->Int
 | _,[]=>0
 | last,x::xs=>bif stp last x==0 then chk key stp (key x) xs else stp last x
def CE (e:Int):Ctl Unit Int:=bif e==0 then .go ()else .ret e
theorem BX {α:Type} {key:α->ByteArray} {stp:ByteArray->α->Int} {body:Nat->α->Unit->Option (Ctl Unit Int)} (l:List α):∀(xs:List α) (k:Nat),l.drop k=xs->(∀k x,l[k]? = some x->body k x ()=some (CE (stp (xx key l k) x))) ->
  forR body xs k ()=some (CE (chk key stp (xx key l k) xs))
 | [],k,h,hb=>rfl
 | x::xs,k,h,hb=>by
  have hg:=Dc h
  rw [forR,hb k x hg,ob_,chk]
  cases he:stp (xx key l k) x==0 with
  | true =>
   simp only [CE,he,cond_true]
   rw [BX l xs (k+1) (aV h) hb]
   have:xx key l (k+1)=key x:=by simp [xx,hg]
   rw [this];rfl
  | false=>simp only [CE,he,cond_false]
theorem zY (e:Int):thenC (CE e) (λ_=>some (0:Int)) (λr=>some r)=some e:=by
 unfold CE
 cases h:e==0 with
 | true=>simp only [cond_true,iH];rw [eq_of_beq h]
 | false=>rfl
def JR (last x:ByteArray):Int:=bif !yU x then 5 else bif sLe x last then 7 else 0
def JY (l:List ByteArray):Int:=bif decide (l.length>20)then 2 else chk id JR DZ l
theorem Ij {α:Type} {l:List α} {k:Nat} {x:α} (h:l[k]? = some x) (hk:0<k) (hl:l.length<=1000000000):∃y,idx l (w64 ((k:Int)-1))=some y/\l[k-1]? = some y:=by
 have hlt:k<l.length:=(List.getElem?_eq_some_iff.1 h).1
 rw [lF (by omega),show (k:Int)-1=((k-1:Nat):Int) by omega,wu]
 exact⟨l[k-1],List.getElem?_eq_getElem (by omega),List.getElem?_eq_getElem (by omega)⟩
theorem Ec {α:Type} {key:α->ByteArray} {l:List α} {k:Nat} {x:α} {s:ByteArray} (h:l[k]? = some x) (hl:l.length<=1000000000) (hs:s.size≠0) :
  (bif decide ((k:Int)>0)then (idx l (w64 ((k:Int)-1))).bind λy=>some (sLe s (key y))else some false)=some (sLe s (xx key l k)):=by
 by_cases hk:0<k
 ·obtain ⟨y,h1,h2⟩:=Ij h hk hl
  have hd:decide ((k:Int)>0)=true:=by simp;omega
  simp only [hd,cond_true,h1,ob_,xx,if_neg (show ¬k=0 by omega),h2]
 ·have hk0:k=0:=by omega
  subst hk0
  simp only [xx,if_pos,DZ,KI,decide_eq_false hs]
  rfl
theorem tagsK (l:List ByteArray) (hs:∀t∈l,yK t) (hl:l.length<=1000000000):fA l=some (JY l):=by
 unfold fA JY
 have e:decide ((l.length:Int)>20)=decide (l.length>20):=decide_eq_decide.2 (by omega)
 rw [e]
 cases decide (l.length>20)with
 | true=>rfl
 | false =>
  simp only [cond_false]
  unfold gW
  rw [gz (by omega),BX (key:=id) (stp:=JR) l l 0 rfl (λk x hx => ?_)]
  ·simp only [ob_,zY];rfl
  ·have hxs:yK x:=hs x (List.mem_of_getElem? hx)
   simp only [fZ,CV x (by unfold yK at hxs;omega),ob_,JR]
   cases hk:yU x with
   | false=>rfl
   | true =>
    simp only [Bool.not_true,cond_false]
    have:=Ec (key:=id) hx hl (Bn hk)
    simp only [id]at this
    rw [this,ob_]
    cases sLe x (xx id l k) <;> rfl
def chkG {α:Type} (stp:Option α->α->Int):Option α->List α->Int
 | _,[]=>0
 | p,x::xs=>bif stp p x==0 then chkG stp (some x) xs else stp p x
def AB {α:Type} (l:List α) (k:Nat):Option α:=if k=0 then none else l[k-1]?
theorem Eg {α:Type} {stp:Option α->α->Int} {body:Nat->α->Unit->Option (Ctl Unit Int)} (l:List α):∀(xs:List α) (k:Nat),l.drop k=xs->(∀k x,l[k]? = some x->body k x ()=some (CE (stp (AB l k) x))) ->
  forR body xs k ()=some (CE (chkG stp (AB l k) xs))
 | [],k,h,hb=>rfl
 | x::xs,k,h,hb=>by
  have hg:=Dc h
  rw [forR,hb k x hg,ob_,chkG]
  cases he:stp (AB l k) x==0 with
  | true =>
   simp only [CE,he,cond_true]
   rw [Eg l xs (k+1) (aV h) hb]
   have:AB l (k+1)=some x:=by simp [AB,hg]
   rw [this];rfl
  | false=>simp only [CE,he,cond_false]
def qp (n lo hi:Int):Bool:=decide (n<lo)||decide (n>hi)
theorem IK (n lo hi:Int):aP n lo hi=some (qp n lo hi):=by
 unfold aP qp
 cases decide (n<lo) <;> cases decide (n>hi) <;> rfl
def leP (p:Option Int) (x:Int):Bool:=match p with
 | none=>false
 | some y=>decide (x<=y)
def NT (p:Option Int) (x:Int):Int:=bif qp x 0 4000 then 1 else bif leP p x then 7 else 0
def exF (l:List Int):Int:=bif decide (l.length>100)then 2 else chkG NT none l
theorem IJ {l:List Int} {k:Nat} {x:Int} (h:l[k]? = some x) (hl:l.length<=1000000000) :
  (bif decide ((k:Int)>0)then (idx l (w64 ((k:Int)-1))).bind λy=>some (decide (x<=y))else some false)=some (leP (AB l k) x):=by
 by_cases hk:0<k
 ·obtain ⟨y,h1,h2⟩:=Ij h hk hl
  have hd:decide ((k:Int)>0)=true:=by simp;omega
  simp only [hd,cond_true,h1,ob_,AB,if_neg (show ¬k=0 by omega),h2,leP]
 ·have hk0:k=0:=by omega
  subst hk0
  rfl
theorem M6 (n:Int):sG n=some (!qp n 0 4000):=by
 unfold sG qp
 have e1:decide (n>=0) = !decide (n<0):=by rw [Bool.eq_iff_iff];simp
 have e2:decide (n<=4000) = !decide (n>4000):=by rw [Bool.eq_iff_iff];simp
 rw [e1,e2]
 cases decide (n<0) <;> cases decide (n>4000) <;> rfl
theorem exK (l:List Int) (hl:l.length<=1000000000):fC l=some (exF l):=by
 unfold fC exF
 have e:decide ((l.length:Int)>100)=decide (l.length>100):=decide_eq_decide.2 (by omega)
 rw [e]
 cases decide (l.length>100)with
 | true=>rfl
 | false =>
  simp only [cond_false]
  rw [gz (by omega),Eg (stp:=NT) l l 0 rfl (λk x hx => ?_)]
  ·simp only [ob_,zY];rfl
  ·simp only [gM,M6,ob_,NT]
   cases qp x 0 4000 with
   | true=>rfl
   | false =>
    simp only [Bool.not_false,Bool.not_true,cond_false]
    rw [IJ hx hl,ob_]
    cases leP (AB l k) x <;> rfl
def Bd (e:Entry):Int :=
 bif !yU e.Key || !yU e.Item then 5 else
 bif qp e.Version 0 1000000||(qp e.First 0 e.Last||(decide (e.Last>4000)||(qp e.Every 1 400||qp e.Days 1 127)))then 1 else
 bif exF e.Except==0 then (bif qp e.From 0 1439||(qp e.To 0 1439||qp e.Prio 0 9)then 1 else JY e.Tags)else exF e.Except
theorem entK (e:Entry) (h:G8 e):eT e=some (Bd e):=by
 obtain ⟨h1,h2,h3,h4,h5⟩:=h
 unfold yK at h1 h2
 unfold eT Bd
 simp only [CV e.Key (by omega),CV e.Item (by omega),IK,exK e.Except (by omega),tagsK e.Tags h5 (by omega),ob_]
 cases yU e.Key with
 | false=>rfl
 | true =>
 cases yU e.Item with
 | false=>rfl
 | true =>
 simp only [Bool.not_true,cond_false,ob_,Bool.or_self,Bool.false_or]
 cases qp e.Version 0 1000000 with
 | true=>rfl
 | false =>
 cases qp e.First 0 e.Last with
 | true=>rfl
 | false =>
 cases decide (e.Last>4000)with
 | true=>rfl
 | false =>
 cases qp e.Every 1 400 with
 | true=>rfl
 | false =>
 cases qp e.Days 1 127 with
 | true=>rfl
 | false =>
 simp only [cond_false,ob_,Bool.or_self]
 cases hx:exF e.Except==0 with
 | false =>
  have:(exF e.Except != 0)=true:=by simp [bne,hx]
  simp only [this,cond_true,cond_false]
 | true =>
  have:(exF e.Except != 0)=false:=by simp [bne,hx]
  simp only [this,cond_true,cond_false]
  cases qp e.From 0 1439 with
  | true=>rfl
  | false =>
  cases qp e.To 0 1439 with
  | true=>rfl
  | false =>
  cases qp e.Prio 0 9 with
  | true=>rfl
  | false=>rfl
theorem Ms {e:Entry} (h:Bd e=0):e.Key.size≠0:=by
 unfold Bd at h
 cases hk:yU e.Key with
 | false=>rw [hk]at h;cases h
 | true=>exact Bn hk
end Go.Proofs.YtigdobmllbakiaaGreatDoor.Law

