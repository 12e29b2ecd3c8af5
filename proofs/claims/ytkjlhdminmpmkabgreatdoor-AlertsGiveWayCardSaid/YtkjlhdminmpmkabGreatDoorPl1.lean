/-
  THE PLAIN LAW (part 1).
-/
import Derived.Test.YtkjlhdminmpmkabGreatDoorEng5
import Derived.Test.YtkjlhdminmpmkabGreatDoorDefs
namespace Go.Eng
set_option linter.unusedVariables false
set_option linter.unusedSimpArgs false
theorem iX {α σ ρ:Type} {body:Nat->α->σ->Option (Ctl σ ρ)} {xs:List α} {s:σ} (hl:xs.length<=1000000000000):forL xs s body=forR body xs 0 s:=by unfold forL;rw [if_pos hl]
theorem JF {α σ ρ:Type} {body:Nat->α->σ->Option (Ctl σ ρ)} (I:Nat->σ->Prop) (N:Nat):∀(xs:List α) (k:Nat) (s:σ),k+xs.length=N->(∀k x s,x∈xs->k<N->I k s->∃s',body k x s=some (.go s')/\I (k+1) s')->I k s->∃s',forR body xs k s=some (.go s')/\I N s'
 | [],k,s,hN,h,hi=>⟨s,rfl,by simp only [List.length_nil,Nat.add_zero]at hN;rw [<- hN];exact hi⟩
 | x::xs,k,s,hN,h,hi=>by
  simp only [List.length_cons]at hN
  obtain ⟨s1,h1,h2⟩:=h k x s (by simp) (by omega) hi
  obtain ⟨s2,h3,h4⟩:=JF I N xs (k+1) s1 (by omega) (λk x s hx=>h k x s (by simp [hx])) h2
  exact⟨s2,by simp only [forR,h1,ob_];exact h3,h4⟩
theorem Pq {α σ ρ:Type} {body:Nat->α->σ->Option (Ctl σ ρ)} (I:Nat->σ->Prop) {xs:List α} {s:σ} (hl:xs.length<=1000000000000) (h:∀k x s,x∈xs->k<xs.length->I k s->∃s',body k x s=some (.go s')/\I (k+1) s') (h0:I 0 s):∃s',forL xs s body=some (.go s')/\I xs.length s':=by
 obtain ⟨s',h1,h2⟩:=JF I xs.length xs 0 s (by omega) h h0
 exact⟨s',by rw [iX hl];exact h1,h2⟩
theorem lU {σ ρ τ:Type} (s:σ) (f:σ->Option τ) (g:ρ->Option τ):thenC (.go s) f g=f s:=rfl
theorem Nq {σ ρ τ:Type} (r:ρ) (f:σ->Option τ) (g:ρ->Option τ):thenC (.ret r) f g=g r:=rfl
theorem wG {α:Type} (xs:List α) (k:Nat):idx xs (k:Int)=xs[k]? := by simp [idx]
theorem jl {n:Int} (h : -9223372036854775808<=n/\n<=9223372036854775807):w64 n=n:=FI n h
theorem toL (s:ByteArray):s.toList=s.data.toList:=Go.Lib.toList_data s
theorem AY {a b:ByteArray} (h:a.toList=b.toList):a=b:=by
 rw [toL,toL]at h
 obtain ⟨⟨a⟩⟩:=a
 obtain ⟨⟨b⟩⟩:=b
 simp only at h
 rw [h]
theorem wC (a b:ByteArray):sEq a b=true↔a=b:=by
 simp only [sEq,beq_iff_eq]
 exact⟨AY,λh=>by rw [h]⟩
theorem wO (a b:ByteArray):sEq a b=decide (a=b):=by
 rw [Bool.eq_iff_iff,wC];simp
theorem xm (a b:ByteArray):sNe a b = !decide (a=b):=by
 have:=wO a b;simp only [sEq,sNe]at *;rw [this]
abbrev bl:=Op.bytesLess
theorem bl_lt:∀(x y:List UInt8),bl x y=decide (x<y)
 | _,[]=>by simp [bl,Op.bytesLess]
 | [],_::_=>by simp [bl,Op.bytesLess]
 | a::x,b::y=>by
  have:=bl_lt x y
  simp only [bl,Op.bytesLess]at this ⊢
  rw [this,Bool.eq_iff_iff]
  simp only [Bool.or_eq_true,decide_eq_true_eq,Bool.and_eq_true,beq_iff_eq,List.cons_lt_cons_iff]
def lt (a b:ByteArray):Prop:=a.toList<b.toList
theorem wD (a b:ByteArray):sLt a b=true↔lt a b:=by
 show bl a.toList b.toList=true↔_
 rw [bl_lt];simp [lt]
theorem uS (a:ByteArray):¬lt a a:=List.lt_irrefl a.toList
theorem lt_trans {a b c:ByteArray} (h:lt a b) (k:lt b c):lt a c:=List.lt_trans h k
theorem BC (a b:ByteArray):lt a b\/a=b\/lt b a:=by
 rcases Classical.em (lt a b)with h|h
 ·exact .inl h
 ·rcases Classical.em (lt b a)with h2|h2
  ·exact .inr (.inr h2)
  ·exact .inr (.inl (AY (List.le_antisymm (List.not_lt.1 h2) (List.not_lt.1 h))))
theorem sLe_iff (a b:ByteArray):sLe a b=true↔¬lt b a:=by
 have h1:=wD a b
 have h2:=wC a b
 simp only [sLe,Bool.or_eq_true]
 constructor
 ·rintro (h|h)
  ·exact λk=>uS _ (lt_trans (h1.1 h) k)
  ·rw [h2.1 h];exact uS _
 ·intro h
  rcases BC a b with k|k|k
  ·exact .inl (h1.2 k)
  ·exact .inr (h2.2 k)
  ·exact absurd k h
theorem sNe_nil (a:ByteArray):sNe a ⟨#[]⟩=decide (a.size≠0):=by
 rw [xm,Go.Lib.size_eq,Bool.eq_iff_iff]
 simp only [Bool.not_eq_true',decide_eq_false_iff_not,decide_eq_true_eq,ne_eq]
 refine not_congr ⟨λh=>by rw [h];rfl,λh => ?_⟩
 exact AY (by rw [toL,List.eq_nil_of_length_eq_zero h,toL])
end Go.Eng

open Go Go.Eng
namespace Go.Flow
set_option linter.unusedVariables false
set_option linter.unusedSimpArgs false
set_option linter.unusedSectionVars false
theorem PO {α σ ρ:Type} {body:Nat->α->σ->Option (Ctl σ ρ)} (I:Nat->σ->Prop) (xs:List α):∀(l:List α) (k:Nat) (s:σ),xs.drop k=l->k<=xs.length->(∀k x s,xs[k]? = some x->I k s->∃s',body k x s=some (.go s')/\I (k+1) s')->I k s->∃s',forR body l k s=some (.go s')/\I xs.length s'
 | [],k,s,hd,hk,h,hi=>by
  have:=List.drop_eq_nil_iff.1 hd
  obtain rfl:k=xs.length:=by omega
  exact⟨s,rfl,hi⟩
 | x::l,k,s,hd,hk,h,hi=>by
  obtain ⟨s1,h1,h2⟩:=h k x s (AO hd) hi
  obtain ⟨s2,h3,h4⟩:=PO I xs l (k+1) s1 (aR hd) (by have:=ww hd;omega) h h2
  exact⟨s2,by rw [forR,h1,ob_];exact h3,h4⟩
theorem w9 {α σ ρ:Type} {body:Nat->α->σ->Option (Ctl σ ρ)} (I:Nat->σ->Prop) {xs:List α} {s:σ} (hl:xs.length<=1000000000000) (h:∀k x s,xs[k]? = some x->I k s->∃s',body k x s=some (.go s')/\I (k+1) s') (h0:I 0 s):∃s',forL xs s body=some (.go s')/\I xs.length s':=by
 rw [iX hl]
 exact PO I xs xs 0 s rfl (Nat.zero_le _) h h0
theorem PR {σ ρ:Type} {body:Nat->Nat->σ->Option (Ctl σ ρ)} (I:Nat->σ->Prop) {n:Nat} {s:σ} (hl:n<=1000000000000) (h:∀k s,k<n->I k s->∃s',body k k s=some (.go s')/\I (k+1) s') (h0:I 0 s):∃s',forL (List.range n) s body=some (.go s')/\I n s':=by
 have:=w9 (body:=body) I (xs:=List.range n) (s:=s) (by simpa using hl) (λk x s hx hi=>by
  have hk:k<n:=by have:=(List.getElem?_eq_some_iff.1 hx).1;simpa using this
  rw [List.getElem?_range hk]at hx
  simp only [so_]at hx
  subst hx
  exact h k s hk hi) h0
 simpa using this
theorem OJ {σ ρ:Type} {body:σ->Option (Ctl σ ρ)} (I:σ->Prop) (m:σ->Nat) (P:σ->Prop)
  (h:∀s,I s->(∃s',body s=some (.go s')/\I s'/\m s'<m s)\/∃s',body s=some (.brk s')/\P s') {s:σ} (h0:I s):∃s',iJ s body=some (.go s')/\P s':=by
 have key:∀(n:Nat) (s:σ),m s<=n->I s->∃k s',iterN body (k+1) s=some (.go s')/\P s':=by
  intro n
  induction n with
  | zero =>
   intro s hm hI
   rcases h s hI with⟨s',e,hI',hl⟩|⟨s',e,hp⟩
   ·omega
   ·exact⟨0,s',by simp only [iterN,e,ob_],hp⟩
  | succ n ih =>
   intro s hm hI
   rcases h s hI with⟨s',e,hI',hl⟩|⟨s',e,hp⟩
   ·obtain ⟨k,r,er,hr⟩:=ih s' (by omega) hI'
    exact⟨k+1,r,by rw [iterN,e,ob_];exact er,hr⟩
   ·exact⟨0,s',by simp only [iterN,e,ob_],hp⟩
 obtain ⟨k,o,e,hp⟩:=key (m s) s (Nat.le_refl _) h0
 exact⟨o,oI e,hp⟩
theorem Ja {i:Nat} {n:Nat} (h:i<n):inN (i:Int) n=some ():=by
 unfold inN;rw [if_pos ⟨Int.natCast_nonneg _,by simpa using h⟩]
theorem inR_at {α:Type} {i:Nat} {xs:List α} (h:i<xs.length):inR (i:Int) xs=some ():=by
 unfold inR;rw [if_pos ⟨Int.natCast_nonneg _,by simpa using h⟩]
theorem KM {α β:Type} {xs:List α} {ys:List β} (h:xs.length=ys.length):iR xs ys=some ():=by unfold iR;rw [if_pos h]
theorem ltN_at {k n:Nat} (h:k<n):ltN k n=some ():=by unfold ltN;rw [if_pos h]
theorem leN_at {k n:Nat} (h:k<=n):leN k n=some ():=by unfold leN;rw [if_pos h]
theorem toN (i:Nat):(0+((i:Int)).toNat)=i:=by simp
end Go.Flow

open Go Go.Eng
namespace Go.Proofs.YtkjlhdminmpmkabGreatDoor.Law
set_option linter.unusedVariables false
set_option linter.unusedSimpArgs false
def o6 (n lo hi:Int):Bool:=decide (n<lo)||decide (n>hi)
theorem tC (n lo hi:Int):aQ n lo hi=some (o6 n lo hi):=by
 unfold aQ o6
 cases decide (n<lo) <;> cases decide (n>hi) <;> rfl
theorem Cs {n lo hi:Int} (h:o6 n lo hi=false):lo<=n/\n<=hi:=by
 simp only [o6,Bool.or_eq_false_iff,decide_eq_false_iff_not]at h;omega
theorem uD {n lo hi:Int} (h:lo<=n/\n<=hi):o6 n lo hi=false:=by
 simp only [o6,Bool.or_eq_false_iff,decide_eq_false_iff_not];omega
def I6 (r:Rect):Bool:=o6 r.X (-100000) 100000||o6 r.Y (-100000) 100000||o6 r.W 1 (w64 (100000-r.X))||o6 r.H 1 (w64 (100000-r.Y))
theorem A7 (r:Rect):iK r=some (bif I6 r then 1 else 0):=by
 unfold iK I6
 simp only [tC,ob_]
 cases o6 r.X (-100000) 100000 <;> cases o6 r.Y (-100000) 100000 <;> cases o6 r.W 1 (w64 (100000-r.X)) <;> cases o6 r.H 1 (w64 (100000-r.Y)) <;> rfl
end Go.Proofs.YtkjlhdminmpmkabGreatDoor.Law

open Go Go.Eng
namespace Go.Proofs.YtkjlhdminmpmkabGreatDoor.Law
set_option linter.unusedVariables false
set_option linter.unusedSimpArgs false
def Ok (s:Stream) (b:Int):Prop:=0<=s.f_at/\s.f_at<=b
theorem Ok.mono {s:Stream} {b c:Int} (h:Ok s b) (hc:b<=c):Ok s c:=⟨h.1,Int.le_trans h.2 hc⟩
theorem Fh (x n:Int) (h:1<=n) (hn:n<=4611686018427387904):∃r,sJ x n=some r/\0<=r/\r<n:=by
 have h1:x.tmod n<n:=Int.tmod_lt_of_pos x (by omega)
 have h2 : -n<x.tmod n:=Int.lt_tmod_of_pos x (by omega)
 have hb:decide (n<1)=false:=by simp;omega
 have hn0:n≠0:=by omega
 simp only [sJ,hb,cond_false,Jj,if_neg hn0,ob_]
 cases hd:decide (x.tmod n<0)with
 | true =>
  simp only [decide_eq_true_eq]at hd
  exact⟨_,rfl,by rw [jl (by omega)];omega,by rw [jl (by omega)];omega⟩
 | false =>
  simp only [decide_eq_false_iff_not]at hd
  exact⟨_,rfl,by omega,h1⟩
theorem Am (s:Stream) (n:Int) {b:Int} (hs:Ok s b) (hb:b<=1000000) (h:1<=n) (hn:n<=4611686018427387904):∃r s',iB s n=some (r,s')/\0<=r/\r<n/\Ok s' (b+1):=by
 obtain ⟨h0,h1⟩:=hs
 have e1:w64 (s.f_at+1)=s.f_at+1:=jl (by omega)
 have e2:w64 (s.f_at+1-1)=s.f_at:=by rw [jl (by omega)];omega
 simp only [iB,e1,e2]
 by_cases hl:s.L.length=0
 ·have:((s.L.length:Int)==0)=true:=by simp [hl]
  simp only [this,cond_true]
  obtain ⟨r,hr,h2,h3⟩:=Fh (w64 ((s.f_at+1)*7919)) n h hn
  exact⟨r,_,by rw [hr];rfl,h2,h3,⟨by show 0<=s.f_at+1;omega,by show s.f_at+1<=b+1;omega⟩⟩
 ·have hne:(s.L.length:Int)≠0:=by omega
  have:((s.L.length:Int)==0)=false:=by simpa using hl
  simp only [this,cond_false,Jj,Lv,if_neg hne,ob_]
  have h2:0<=s.f_at.tmod s.L.length:=Int.tmod_nonneg _ h0
  have hp:(0:Int)<(s.L.length:Int):=by have:=Nat.pos_of_ne_zero hl;omega
  have h3:s.f_at.tmod s.L.length<s.L.length:=Int.tmod_lt_of_pos _ hp
  have hi:idx s.L (s.f_at.tmod s.L.length)=some s.L[(s.f_at.tmod s.L.length).toNat]:=by
   simp only [idx,if_pos h2]
   exact List.getElem?_eq_getElem (by omega)
  obtain ⟨r1,hr1,_,_⟩:=Fh s.L[(s.f_at.tmod s.L.length).toNat] 1073741824 (by decide) (by decide)
  simp only [hi,hr1,ob_]
  generalize w64 (r1+_)=y
  obtain ⟨r,hr,h4,h5⟩:=Fh y n h hn
  exact⟨r,_,by rw [hr];rfl,h4,h5,⟨by show 0<=s.f_at+1;omega,by show s.f_at+1<=b+1;omega⟩⟩
theorem flip_ok (s:Stream) (n:Int) {b:Int} (hs:Ok s b) (hb:b<=1000000) (h:1<=n) (hn:n<=1000):∃r s',mG s n=some (r,s')/\Ok s' (b+1):=by
 obtain ⟨r,s',h1,_,_,h2⟩:=Am s n hs hb h (by omega)
 exact⟨r==0,s',by simp only [mG,h1,ob_],h2⟩
theorem M6 {α:Type} {l:List α} {r:Int} (h0:0<=r) (h1:r<l.length):∃y,idx l r=some y/\y∈l:=by
 refine⟨l[r.toNat]'(by omega),?_,List.getElem_mem _⟩
 simp only [idx,if_pos h0]
 exact List.getElem?_eq_getElem (by omega)
theorem Ie (s:Stream) (l:List Int) {b:Int} (hs:Ok s b) (hb:b<=1000000) (h:1<=l.length) (hn:l.length<=1000):∃r s',jv s l=some (r,s')/\r∈l/\Ok s' (b+1):=by
 obtain ⟨r,s',h1,h2,h3,h4⟩:=Am s l.length hs hb (by omega) (by omega)
 obtain ⟨y,hy,hm⟩:=M6 h2 h3
 exact⟨y,s',by simp only [jv,h1,hy,ob_],hm,h4⟩
theorem I4 (s:Stream) (l:List ByteArray) {b:Int} (hs:Ok s b) (hb:b<=1000000) (h:1<=l.length) (hn:l.length<=1000):∃r s',iU s l=some (r,s')/\r∈l/\Ok s' (b+1):=by
 obtain ⟨r,s',h1,h2,h3,h4⟩:=Am s l.length hs hb (by omega) (by omega)
 obtain ⟨y,hy,hm⟩:=M6 h2 h3
 exact⟨y,s',by simp only [iU,h1,hy,ob_],hm,h4⟩
theorem qP (s:Stream) (lo hi:Int) {b:Int} (hs:Ok s b) (hb:b<=1000000) (h:lo<=hi) (h1 : -1000000000000<=lo) (h2:hi<=1000000000000):∃r s',dI s lo hi=some (r,s')/\lo<=r/\r<=hi/\Ok s' (b+1):=by
 have hd:decide (hi<lo)=false:=by simp;omega
 have e1:w64 (hi-lo)=hi-lo:=jl (by omega)
 have e2:w64 (hi-lo+1)=hi-lo+1:=jl (by omega)
 obtain ⟨r,s',k1,k2,k3,k4⟩:=Am s (hi-lo+1) hs hb (by omega) (by omega)
 simp only [dI,hd,cond_false,e1,e2,k1,ob_]
 exact⟨_,s',rfl,by rw [jl (by omega)];omega,by rw [jl (by omega)];omega,k4⟩
end Go.Proofs.YtkjlhdminmpmkabGreatDoor.Law

open Go Go.Eng
namespace Go.Proofs.YtkjlhdminmpmkabGreatDoor.Law
set_option linter.unusedVariables false
set_option linter.unusedSimpArgs false
def lowB (b:UInt8):Bool:=decide (97<=b.toNat)&&decide (b.toNat<=122)
def moreB (b:UInt8):Bool:=(decide (48<=b.toNat)&&decide (b.toNat<=57))||(b.toNat==45)||(b.toNat==95)
def okB (i:Nat) (b:UInt8):Bool:=lowB b||(decide (0<i)&&moreB b)
def rD (s:ByteArray) (i:Nat):UInt8:=s.data.toList.getD i 0
def keyB (s:ByteArray):Bool:=decide (s.size≠0)&&(decide (s.size<=40)&&(List.range s.size).all λi=>okB i (rD s i))
theorem Qy (s:ByteArray) (k:Nat) (h:k<s.size):zl s (k:Int)=some (rD s k):=by
 have h1:s[k]? = some s[k]:=by simp [h]
 have h2:rD s k=s[k]:=by
  have hl:k<s.data.toList.length:=by rw [<- Go.Lib.size_eq];exact h
  simp only [rD,List.getD_eq_getElem?_getD,List.getElem?_eq_getElem hl,Option.getD_some]
  simp
  rfl
 simp only [zl,if_pos (Int.natCast_nonneg k),Int.toNat_natCast,h1,h2]
theorem Kj (s:ByteArray) (k:Nat) (hs:s.size<=1000000000):ko s (k:Int)=some (if k<s.size then (bif okB k (rD s k)then .go ((k+1:Nat):Int)else .ret false)else .brk (k:Int)):=by
 unfold ko
 by_cases h:k<s.size
 ·have hd:decide ((k:Int)<(s.size:Int))=true:=by simp;omega
  have hw:w64 ((k:Int)+1)=((k+1:Nat):Int):=by rw [jl (by omega)];omega
  simp only [hd,cond_true,Qy s k h,ob_,if_pos h,hw]
  generalize rD s k=b
  simp only [okB,lowB,moreB]
  have e1:decide ((b.toNat:Int)>=97)=decide (97<=b.toNat):=decide_eq_decide.2 (by omega)
  have e2:decide ((b.toNat:Int)<=122)=decide (b.toNat<=122):=decide_eq_decide.2 (by omega)
  have e3:decide ((k:Int)>0)=decide (0<k):=decide_eq_decide.2 (by omega)
  have e4:decide ((b.toNat:Int)>=48)=decide (48<=b.toNat):=decide_eq_decide.2 (by omega)
  have e5:decide ((b.toNat:Int)<=57)=decide (b.toNat<=57):=decide_eq_decide.2 (by omega)
  have e6:((b.toNat:Int)==45)=(b.toNat==45):=by rw [Bool.eq_iff_iff];simp;omega
  have e7:((b.toNat:Int)==95)=(b.toNat==95):=by rw [Bool.eq_iff_iff];simp;omega
  rw [e1,e2,e3,e4,e5,e6,e7]
  cases decide (97<=b.toNat) <;> cases decide (b.toNat<=122) <;> cases decide (0<k) <;> cases decide (48<=b.toNat) <;> cases decide (b.toNat<=57) <;> cases (b.toNat==45) <;> cases (b.toNat==95) <;> rfl
 ·have hd:decide ((k:Int)<(s.size:Int))=false:=by simp;omega
  simp only [hd,cond_false,if_neg h]
theorem Ef (s:ByteArray) (hs:s.size<=1000000000):∀(n k:Nat),k+n=s.size->iterN (λi=>ko s i) (n+1) (k:Int)=some (bif (List.range' k n).all (λj=>okB j (rD s j))then .go (s.size:Int)else .ret false)
 | 0,k,h=>by
  have hk:¬k<s.size:=by omega
  simp only [iterN,Kj s k hs,if_neg hk,ob_,List.range'_zero,List.all_nil,cond_true]
  rw [show (k:Int)=s.size by omega]
 | n+1,k,h=>by
  have hk:k<s.size:=by omega
  rw [iterN,Kj s k hs,if_pos hk,ob_,List.range'_succ,List.all_cons]
  cases okB k (rD s k)with
  | true=>simp only [cond_true,Bool.true_and];exact Ef s hs n (k+1) (by omega)
  | false=>rfl
theorem ve (s:ByteArray) (hs:s.size<=1000000000):kit_IsKey s=some (keyB s):=by
 have h:=oI (Ef s hs s.size 0 (by omega))
 unfold kit_IsKey
 have h':iJ (0:Int) (λs_1=>ko s s_1)=_:=h
 rw [h',ob_,<- List.range_eq_range']
 have e:decide ((s.size:Int)<=40)=decide (s.size<=40):=decide_eq_decide.2 (by omega)
 simp only [keyB]
 cases (List.range s.size).all (λi=>okB i (rD s i))with
 | true =>
  rw [cond_true,lU,sNe_nil,e,Bool.and_true]
  cases decide (s.size≠0) <;> rfl
 | false=>simp only [cond_false,Nq,Bool.and_false]
end Go.Proofs.YtkjlhdminmpmkabGreatDoor.Law

open Go Go.Eng
namespace Go.Proofs.YtkjlhdminmpmkabGreatDoor.Law
set_option linter.unusedVariables false
set_option linter.unusedSimpArgs false
def mem (x:Int) (L:List Run):Prop:=∃r∈L,r.f_from<=x/\x<r.f_to
def jb:Int->List Run->Prop
 | _,[]=>True
 | lo,r::rs=>lo<r.f_from/\r.f_from<r.f_to/\jb r.f_to rs
theorem H9 (x:Int):¬mem x []:=fun⟨r,h,_⟩=>by cases h
theorem mem_cons (x:Int) (r:Run) (L:List Run):mem x (r::L)↔(r.f_from<=x/\x<r.f_to)\/mem x L:=by
 constructor
 ·rintro ⟨q,h,k⟩
  rcases List.mem_cons.1 h with rfl|h
  ·exact .inl k
  ·exact .inr ⟨q,h,k⟩
 ·rintro (k|⟨q,h,k⟩)
  ·exact⟨r,by simp,k⟩
  ·exact⟨q,by simp [h],k⟩
theorem jb.lo:∀{L:List Run} {lo:Int},jb lo L->∀r∈L,lo<r.f_from/\r.f_from<r.f_to
 | [],_,_,r,hr=>by cases hr
 | q::L,lo,h,r,hr=>by
  obtain ⟨h1,h2,h3⟩:=h
  rcases List.mem_cons.1 hr with rfl|hr
  ·exact⟨h1,h2⟩
  ·have:=h3.lo r hr;omega
theorem jb.gt {L:List Run} {lo:Int} (h:jb lo L) {x:Int} (hx:mem x L):lo<x:=by
 obtain ⟨r,hr,k⟩:=hx
 have:=h.lo r hr;omega
theorem jb.mono {L:List Run} {lo lo':Int} (h:jb lo L) (hl:lo'<=lo):jb lo' L:=by
 cases L with
 | nil=>trivial
 | cons r L=>exact⟨by have:=h.1;omega,h.2⟩
def sub (rt:Int):Int->List Run->List Run
 | rf,[]=>bif decide (rf<rt)then [⟨rf,rt⟩]else []
 | rf,q::M=>bif decide (q.f_from<rt)then (bif decide (q.f_from>rf)then [⟨rf,q.f_from⟩]else [])++sub rt (max rf q.f_to) M else bif decide (rf<rt)then [⟨rf,rt⟩]else []
end Go.Proofs.YtkjlhdminmpmkabGreatDoor.Law

namespace Go.Eng
set_option linter.unusedVariables false
set_option linter.unusedSimpArgs false
def Hu {α:Type} (cmp:α->α->Option Int) (a_2:Int) (s_21:(List α)×Int):Option (Ctl ((List α)×Int) (Unit)) :=
 (bif (decide (s_21.2>a_2))then (inR s_21.2 s_21.1).bind λ_=>(s_21.1[(0+(s_21.2).toNat)]?).bind λe_30=>(inR (w64 (s_21.2-1)) s_21.1).bind λ_=>(s_21.1[(0+((w64 (s_21.2-1))).toNat)]?).bind λe_33=>(cmp e_30 e_33).bind λr_35=>some (decide (r_35<0))else some false).bind λv_26=>bif v_26 then (inR (w64 (s_21.2-1)) s_21.1).bind λ_=>(s_21.1[(0+((w64 (s_21.2-1))).toNat)]?).bind λe_39=>(inR s_21.2 s_21.1).bind λ_=>(s_21.1[(0+(s_21.2).toNat)]?).bind λe_42=>(inR s_21.2 s_21.1).bind λ_=>(s_21.1[(0+(s_21.2).toNat)]?).bind λe_45=>(inR (w64 (s_21.2-1)) (s_21.1.set (0+(s_21.2).toNat) e_39)).bind λ_=>((s_21.1.set (0+(s_21.2).toNat) e_39)[(0+((w64 (s_21.2-1))).toNat)]?).bind λe_48=>some (.go (((s_21.1.set (0+(s_21.2).toNat) e_39).set (0+((w64 (s_21.2-1))).toNat) e_42),(w64 (s_21.2-1))))else some (.brk (s_21.1,s_21.2))
noncomputable def DY {α:Type} (cmp:α->α->Option Int) (b_3:Int) (a_2:Int) (s_10:(List α)×Int):Option (Ctl ((List α)×Int) (Unit)) :=
 bif (decide (s_10.2<b_3))then (iJ (s_10.1,s_10.2) (λs=>Hu cmp a_2 s)).bind λo_24=>thenC o_24 (λs_21=>some (.go (s_21.1,(w64 (s_10.2+1))))) (λ_=>none)else some (.brk (s_10.1,s_10.2))
noncomputable def D6 {α:Type} (cmp:α->α->Option Int) (data_1:(List α)) (a_2:Int) (b_3:Int):Option ((List α)) :=
 (iJ (data_1,(w64 (a_2+1))) (λs=>DY cmp b_3 a_2 s)).bind λo_13=>thenC o_13 (λs_10=>some s_10.1) (λ_=>none)
noncomputable def Jl {α:Type} (cmp:α->α->Option Int) (b_3:Int) (a_2:Int) (data_1:(List α)) (limit_4:Int) (s_11:Unit):Option (Ctl (Unit) ((List α))) :=
 bif (decide ((w64 (b_3-a_2))<=12))then (D6 cmp data_1 a_2 b_3).bind λr_17=>(iR r_17 data_1).bind λ_=>some (.ret r_17)else bif (limit_4==0)then none else none
noncomputable def Cc {α:Type} (cmp:α->α->Option Int) (data_1:(List α)) (a_2:Int) (b_3:Int) (limit_4:Int):Option ((List α)) :=
 (iJ () (λs=>Jl cmp b_3 a_2 data_1 limit_4 s)).bind λo_14=>thenC o_14 (λs_11=>some data_1) (λr=>some r)
theorem Mx {α:Type} (u v:α) (C:List α):∀A:List α,((A++u::v::C).set (A.length+1) u).set A.length v=A++v::u::C
 | []=>rfl
 | a::A=>by simp only [List.cons_append,List.length_cons,List.set_cons_succ,Mx u v C A]
theorem get_0 {α:Type} (u:α) (C A:List α):(A++u::C)[A.length]? = some u:=by simp
theorem get_1 {α:Type} (u v:α) (C A:List α):(A++u::v::C)[A.length+1]? = some v:=by
 rw [List.getElem?_append_right (by omega)];simp
theorem Pt {α:Type} (u v w:α) (C:List α):∀A:List α,(A++u::v::C).set (A.length+1) w=A++u::w::C
 | []=>rfl
 | a::A=>by simp only [List.cons_append,List.length_cons,List.set_cons_succ,Pt u v w C A]
theorem inR_at {α:Type} {xs:List α} {i:Nat} (h:i<xs.length):inR (i:Int) xs=some ():=by
 unfold inR;rw [if_pos ⟨by omega,by simpa using h⟩]
section
variable {α:Type} {cmp:α->α->Option Int} {le:α->α->Prop} {p:α->Prop}
theorem insL1_s (u v:α) (A C:List α) {c:Int} (hc:cmp v u=some c) (hl:A.length<=1000000000):Hu cmp 0 (A++u::v::C,((A.length+1:Nat):Int))=some (bif decide (c<0)then .go (A++v::u::C,(A.length:Int))else .brk (A++u::v::C,((A.length+1:Nat):Int))):=by
 have hw:w64 (((A.length+1:Nat):Int)-1)=(A.length:Int):=by rw [FI _ (by omega)];omega
 have h1:inR ((A.length+1:Nat):Int) (A++u::v::C)=some ():=inR_at (by simp)
 have h2:inR (A.length:Int) (A++u::v::C)=some ():=inR_at (by simp)
 have h3:inR (A.length:Int) (A++u::u::C)=some ():=inR_at (by simp)
 have hd:decide (((A.length+1:Nat):Int)>0)=true:=by simp <;> omega
 have e1:0+((A.length+1:Nat):Int).toNat=A.length+1:=by omega
 have e2:0+((A.length:Nat):Int).toNat=A.length:=by omega
 unfold Hu
 simp only [hw,h1,h2,hd,e1,e2,get_0,get_1,ob_,hc,cond_true,Pt,h3]
 cases decide (c<0)with
 | false=>rfl
 | true =>
  simp only [cond_true]
  have:=Mx u v C A
  rw [Pt]at this
  rw [this]
theorem Gp (hc:∀a b,p a->p b->∃c,cmp a b=some c/\(c<0->le a b)/\(¬c<0->le b a)) (tr:∀a b c,le a b->le b c->le a c) (v:α) (hv:p v) (R:List α):∀(n:Nat) (A B:List α),A.length=n->n<=1000000000->(∀a∈A,p a)->(A++B).Pairwise le->(∀b∈B,le v b) ->
  ∃A' B',iterN (λs=>Hu cmp 0 s) (n+1) (A++v::(B++R),(A.length:Int))=some (.go (A'++v::(B'++R),(A'.length:Int)))/\A'++B'=A++B/\(A'++v::B').Pairwise le
 | 0,A,B,hA,hn,hpa,hp,hb=>by
  have:A=[]:=List.eq_nil_of_length_eq_zero hA
  subst this
  exact⟨[],B,by simp only [List.nil_append,List.length_nil,iterN,Option.bind];rfl,rfl,by simpa using ⟨hb,hp⟩⟩
 | n+1,A,B,hA,hn,hpa,hp,hb=>by
  rcases List.eq_nil_or_concat A with h|⟨A0,u,h⟩
  ·rw [h]at hA;cases hA
  ·subst h
   simp only [List.concat_eq_append]at hA hp hpa ⊢
   have hA0:A0.length=n:=by simpa using hA
   have hl:(A0++[u]).length=A0.length+1:=by simp
   have e:A0++[u]++v::(B++R)=A0++u::v::(B++R):=by simp
   obtain ⟨c,h1,h2,h3⟩:=hc v u hv (hpa u (by simp))
   rw [hl,e,iterN,insL1_s u v A0 (B++R) h1 (by omega),ob_]
   by_cases hcn:c<0
   ·simp only [decide_eq_true hcn,cond_true]
    have hp':(A0++(u::B)).Pairwise le:=by simpa using hp
    obtain ⟨A',B',k1,k2,k3⟩:=Gp hc tr v hv R n A0 (u::B) hA0 (by omega) (λa ha=>hpa a (by simp [ha])) hp' (λb hb'=>by
     rcases List.mem_cons.1 hb' with rfl|hb'
     ·exact h2 hcn
     ·exact hb b hb')
    refine⟨A',B',?_,by rw [k2];simp,k3⟩
    rw [<- k1];simp
   ·simp only [decide_eq_false hcn,cond_false]
    refine⟨A0++[u],B,by simp,rfl,?_⟩
    have huv:=h3 hcn
    rw [List.pairwise_append]at hp ⊢
    obtain ⟨p1,p2,p3⟩:=hp
    refine⟨p1,List.pairwise_cons.2 ⟨hb,p2⟩,λa ha b hb' => ?_⟩
    rcases List.mem_cons.1 hb' with rfl|hb'
    ·rcases List.mem_append.1 ha with ha|ha
     ·rw [List.pairwise_append]at p1
      exact tr _ _ _ (p1.2.2 a ha u (by simp)) huv
     ·rw [List.mem_singleton]at ha;subst ha;exact huv
    ·exact p3 a ha b hb'
theorem Gr (hc:∀a b,p a->p b->∃c,cmp a b=some c/\(c<0->le a b)/\(¬c<0->le b a)) (tr:∀a b c,le a b->le b c->le a c):∀(Q P:List α),P.length+Q.length<=1000000000->(∀x∈P++Q,p x)->P.Pairwise le ->
  ∃s,iterN (λs=>DY cmp ((P.length+Q.length:Nat):Int) 0 s) (Q.length+1) (P++Q,(P.length:Int))=some (.go (s,((P.length+Q.length:Nat):Int)))/\s.Perm (P++Q)/\s.Pairwise le
 | [],P,hl,hpx,hp=>by
  refine⟨P,?_,by simp,hp⟩
  have hd:decide ((P.length:Int)<((P.length+([]:List α).length:Nat):Int))=false:=by simp
  simp only [iterN,DY,hd,cond_false,ob_,List.append_nil]
  simp
 | v::Q,P,hl,hpx,hp=>by
  simp only [List.length_cons]at hl
  have hd:decide ((P.length:Int)<((P.length+(v::Q).length:Nat):Int))=true:=by simp only [decide_eq_true_eq,List.length_cons];omega
  obtain ⟨A',B',k1,k2,k3⟩:=Gp hc tr v (hpx v (by simp)) Q P.length P [] rfl (by omega) (λa ha=>hpx a (by simp [ha])) (by simpa using hp) (λb hb=>by cases hb)
  rw [List.nil_append]at k1
  have hlo:=oI k1
  rw [List.length_cons,iterN]
  have hw:w64 ((P.length:Int)+1)=((A'++v::B').length:Int):=by
   have:=congrArg List.length k2
   simp only [List.length_append,List.length_nil]at this
   rw [FI _ (by omega)];simp only [List.length_append,List.length_cons];omega
  have h1:DY cmp ((P.length+(Q.length+1):Nat):Int) 0 (P++v::Q,(P.length:Int))=some (.go (A'++v::(B'++Q),((A'++v::B').length:Int))):=by
   have hd':decide ((P.length:Int)<((P.length+(Q.length+1):Nat):Int))=true:=hd
   unfold DY
   simp only [hd',cond_true,hlo,ob_,thenC,hw]
  have hlen:(A'++v::B').length=P.length+1:=by
   have:=congrArg List.length k2
   simp only [List.length_append,List.length_nil,List.length_cons]at this ⊢
   omega
  have hk:(A'++B').Perm P:=by rw [k2];simp
  have hperm:(A'++v::B').Perm (P++[v]):=(List.perm_middle).trans ((List.Perm.cons v hk).trans (List.perm_append_comm (l₁:=[v]) (l₂:=P)))
  obtain ⟨s,m1,m2,m3⟩:=Gr hc tr Q (A'++v::B') (by omega) (λx hx=>by
   rcases List.mem_append.1 hx with hx|hx
   ·have:=hperm.mem_iff.1 hx
    exact hpx x (by rcases List.mem_append.1 this with h | h <;> simp_all)
   ·exact hpx x (by simp [hx])) k3
  rw [h1,ob_]
  have e:A'++v::(B'++Q)=(A'++v::B')++Q:=by simp
  have e2:P.length+(Q.length+1)=(A'++v::B').length+Q.length:=by omega
  simp only
  rw [e,e2]
  refine⟨s,m1,m2.trans ?_,m3⟩
  have:=List.Perm.append_right Q hperm
  simpa using this
theorem Mo (hc:∀a b,p a->p b->∃c,cmp a b=some c/\(c<0->le a b)/\(¬c<0->le b a)) (tr:∀a b c,le a b->le b c->le a c) (l:List α) (hl:l.length<=12) (hpl:∀x∈l,p x) (lim:Int):∃s,Cc cmp l 0 (l.length:Int) lim=some s/\s.Perm l/\s.Pairwise le:=by
 have key:∃s,D6 cmp l 0 (l.length:Int)=some s/\s.Perm l/\s.Pairwise le:=by
  unfold D6
  have hw:w64 (0+1)=1:=rfl
  rw [hw]
  cases l with
  | nil=>exact⟨[],by rw [oI (n:=1) (o := .go ([],1)) rfl];rfl,.nil,.nil⟩
  | cons v Q =>
   obtain ⟨s,m1,m2,m3⟩:=Gr hc tr Q [v] (by simp only [List.length_cons,List.length_nil]at hl ⊢;omega) (λx hx=>hpl x (by simpa using hx)) (List.pairwise_singleton _ _)
   have e:([v].length+Q.length:Nat)=(v::Q).length:=by simp only [List.length_cons,List.length_nil];omega
   rw [e]at m1
   have:=oI m1
   refine⟨s,?_,m2,m3⟩
   show (iJ (v::Q,1) _).bind _=_
   have e2:(([v]++Q,(([v]:List α).length:Int)):List α×Int)=(v::Q,1):=rfl
   rw [e2]at this
   rw [this];rfl
 obtain ⟨s,h1,h2,h3⟩:=key
 refine⟨s,?_,h2,h3⟩
 have hsm:iR s l=some ():=by unfold iR;rw [if_pos h2.length_eq]
 have hd:decide (w64 ((l.length:Int)-0)<=12)=true:=by
  have:(l.length:Int)-0=l.length:=by omega
  rw [this,FI _ (by omega)];simp;omega
 have:iJ () (λs=>Jl cmp (l.length:Int) 0 l lim s)=some (.ret s):=by
  refine oI (n:=1) ?_
  simp only [iterN,Jl,hd,cond_true,h1,hsm,ob_]
 unfold Cc
 rw [this];rfl
end
end Go.Eng

open Go Go.Eng
namespace Go.Proofs.YtkjlhdminmpmkabGreatDoor.Law
set_option linter.unusedVariables false
set_option linter.unusedSimpArgs false
theorem kr {α:Type} (xs ys:List α) (h:xs.length+ys.length<=1000000000):jc xs ys=some (xs++ys):=by unfold jc;rw [if_pos h]
def Fine (r:Rect):Prop:=(-100000<=r.X/\r.X<=100000)/\(-100000<=r.Y/\r.Y<=100000)/\(1<=r.W/\r.X+r.W<=100000)/\1<=r.H/\r.Y+r.H<=100000
def oh (l:List Rect) (x y:Int):Prop:=∃r∈l,(r.X<=x/\x<r.X+r.W)/\r.Y<=y/\y<r.Y+r.H
def covers (y:Int) (r:Rect):Bool:=decide (r.Y<=y)&&decide (y<r.Y+r.H)
def toRun (r:Rect):Run:=⟨r.X,r.X+r.W⟩
def rowB (l:List Rect) (y:Int):List Run:=(l.filter (covers y)).map toRun
def Okr (r:Run):Prop := -100000<=r.f_from/\r.f_from<r.f_to/\r.f_to<=100000
theorem Lg:∀n:Nat,n<=12->∃k,gJ (IntKind.u64.wrap (n:Int))=some k:=by
 have h:(List.range 13).all (λn=>(gJ (IntKind.u64.wrap (n:Int))).isSome)=true:=by kernel_rfl
 intro n hn
 have:=List.all_eq_true.1 h n (by simp;omega)
 exact Option.isSome_iff_exists.1 this
end Go.Proofs.YtkjlhdminmpmkabGreatDoor.Law

open Go Go.Eng
namespace Go.Proofs.YtkjlhdminmpmkabGreatDoor.Law
set_option linter.unusedVariables false
set_option linter.unusedSimpArgs false
end Go.Proofs.YtkjlhdminmpmkabGreatDoor.Law

open Go Go.Eng
namespace Go.Proofs.YtkjlhdminmpmkabGreatDoor.Law
set_option linter.unusedVariables false
set_option linter.unusedSimpArgs false
end Go.Proofs.YtkjlhdminmpmkabGreatDoor.Law

open Go Go.Eng
namespace Go.Proofs.YtkjlhdminmpmkabGreatDoor.Law
set_option linter.unusedVariables false
set_option linter.unusedSimpArgs false
def IP (y h:Int) (r:Run):Rect:=⟨r.f_from,y,r.f_to-r.f_from,h⟩
section
variable {is:Int->Int->Option Bool} {xs ys:List Int} {s13:(List Rect)×(List Rect)×Int} {y y2:Int} {j:Nat}
end
end Go.Proofs.YtkjlhdminmpmkabGreatDoor.Law

open Go Go.Eng
namespace Go.Proofs.YtkjlhdminmpmkabGreatDoor.Law
set_option linter.unusedVariables false
set_option linter.unusedSimpArgs false
end Go.Proofs.YtkjlhdminmpmkabGreatDoor.Law

