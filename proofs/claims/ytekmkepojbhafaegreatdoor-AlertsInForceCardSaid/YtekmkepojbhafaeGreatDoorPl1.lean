/-
  THE PLAIN LAW (part 1).
-/
import Derived.Test.YtekmkepojbhafaeGreatDoorEng5
import Derived.Test.YtekmkepojbhafaeGreatDoorDefs
namespace Go.Eng
set_option linter.unusedVariables false
set_option linter.unusedSimpArgs false
theorem iX {α σ ρ:Type} {body:Nat->α->σ->Option (Ctl σ ρ)} {xs:List α} {s:σ} (hl:xs.length<=1000000000000):forL xs s body=forR body xs 0 s:=by unfold forL;rw [if_pos hl]
theorem FH {α σ ρ:Type} {body:Nat->α->σ->Option (Ctl σ ρ)} (I:Nat->σ->Prop) (N:Nat):∀(xs:List α) (k:Nat) (s:σ),k+xs.length=N->(∀k x s,x∈xs->k<N->I k s->∃s',body k x s=some (.go s')/\I (k+1) s')->I k s->∃s',forR body xs k s=some (.go s')/\I N s'
 | [],k,s,hN,h,hi=>⟨s,rfl,by simp only [List.length_nil,Nat.add_zero]at hN;rw [<- hN];exact hi⟩
 | x::xs,k,s,hN,h,hi=>by
  simp only [List.length_cons]at hN
  obtain ⟨s1,h1,h2⟩:=h k x s (by simp) (by omega) hi
  obtain ⟨s2,h3,h4⟩:=FH I N xs (k+1) s1 (by omega) (λk x s hx=>h k x s (by simp [hx])) h2
  exact⟨s2,by simp only [forR,h1,ob_];exact h3,h4⟩
theorem EE {α σ ρ:Type} {body:Nat->α->σ->Option (Ctl σ ρ)} (I:Nat->σ->Prop) {xs:List α} {s:σ} (hl:xs.length<=1000000000000) (h:∀k x s,x∈xs->k<xs.length->I k s->∃s',body k x s=some (.go s')/\I (k+1) s') (h0:I 0 s):∃s',forL xs s body=some (.go s')/\I xs.length s':=by
 obtain ⟨s',h1,h2⟩:=FH I xs.length xs 0 s (by omega) h h0
 exact⟨s',by rw [iX hl];exact h1,h2⟩
theorem kU {σ ρ τ:Type} (s:σ) (f:σ->Option τ) (g:ρ->Option τ):thenC (.go s) f g=f s:=rfl
theorem IR {σ ρ τ:Type} (r:ρ) (f:σ->Option τ) (g:ρ->Option τ):thenC (.ret r) f g=g r:=rfl
theorem yV {α:Type} (xs:List α) (k:Nat):idx xs (k:Int)=xs[k]? := by simp [idx]
theorem gW {n:Int} (h : -9223372036854775808<=n/\n<=9223372036854775807):w64 n=n:=zZ n h
theorem toL (s:ByteArray):s.toList=s.data.toList:=Go.Lib.toList_data s
theorem yQ {a b:ByteArray} (h:a.toList=b.toList):a=b:=by
 rw [toL,toL]at h
 obtain ⟨⟨a⟩⟩:=a
 obtain ⟨⟨b⟩⟩:=b
 simp only at h
 rw [h]
theorem uy (a b:ByteArray):sEq a b=true↔a=b:=by
 simp only [sEq,beq_iff_eq]
 exact⟨yQ,λh=>by rw [h]⟩
theorem wL (a b:ByteArray):sEq a b=decide (a=b):=by
 rw [Bool.eq_iff_iff,uy];simp
theorem DJ (a b:ByteArray):sNe a b = !decide (a=b):=by
 have:=wL a b;simp only [sEq,sNe]at *;rw [this]
abbrev bl:=Op.bytesLess
theorem bl_lt:∀(x y:List UInt8),bl x y=decide (x<y)
 | _,[]=>by simp [bl,Op.bytesLess]
 | [],_::_=>by simp [bl,Op.bytesLess]
 | a::x,b::y=>by
  have:=bl_lt x y
  simp only [bl,Op.bytesLess]at this ⊢
  rw [this,Bool.eq_iff_iff]
  simp only [Bool.or_eq_true,decide_eq_true_eq,Bool.and_eq_true,beq_iff_eq,List.cons_lt_cons_iff]
def lt (a b:ByteArray):Prop:=a.toList<b.toList
theorem wy (a b:ByteArray):sLt a b=true↔lt a b:=by
 show bl a.toList b.toList=true↔_
 rw [bl_lt];simp [lt]
theorem xq (a:ByteArray):¬lt a a:=List.lt_irrefl a.toList
theorem lt_trans {a b c:ByteArray} (h:lt a b) (k:lt b c):lt a c:=List.lt_trans h k
theorem zz (a b:ByteArray):lt a b\/a=b\/lt b a:=by
 rcases Classical.em (lt a b)with h|h
 ·exact .inl h
 ·rcases Classical.em (lt b a)with h2|h2
  ·exact .inr (.inr h2)
  ·exact .inr (.inl (yQ (List.le_antisymm (List.not_lt.1 h2) (List.not_lt.1 h))))
theorem sNe_nil (a:ByteArray):sNe a ⟨#[]⟩=decide (a.size≠0):=by
 rw [DJ,Go.Lib.size_eq,Bool.eq_iff_iff]
 simp only [Bool.not_eq_true',decide_eq_false_iff_not,decide_eq_true_eq,ne_eq]
 refine not_congr ⟨λh=>by rw [h];rfl,λh => ?_⟩
 exact yQ (by rw [toL,List.eq_nil_of_length_eq_zero h,toL])
end Go.Eng

open Go Go.Eng
namespace Go.Flow
set_option linter.unusedVariables false
set_option linter.unusedSimpArgs false
set_option linter.unusedSectionVars false
theorem JY {α σ ρ:Type} {body:Nat->α->σ->Option (Ctl σ ρ)} (I:Nat->σ->Prop) (xs:List α):∀(l:List α) (k:Nat) (s:σ),xs.drop k=l->k<=xs.length->(∀k x s,xs[k]? = some x->I k s->∃s',body k x s=some (.go s')/\I (k+1) s')->I k s->∃s',forR body l k s=some (.go s')/\I xs.length s'
 | [],k,s,hd,hk,h,hi=>by
  have:=List.drop_eq_nil_iff.1 hd
  obtain rfl:k=xs.length:=by omega
  exact⟨s,rfl,hi⟩
 | x::l,k,s,hd,hk,h,hi=>by
  obtain ⟨s1,h1,h2⟩:=h k x s (sW hd) hi
  obtain ⟨s2,h3,h4⟩:=JY I xs l (k+1) s1 (aS hd) (by have:=rz hd;omega) h h2
  exact⟨s2,by rw [forR,h1,ob_];exact h3,h4⟩
theorem uh {α σ ρ:Type} {body:Nat->α->σ->Option (Ctl σ ρ)} (I:Nat->σ->Prop) {xs:List α} {s:σ} (hl:xs.length<=1000000000000) (h:∀k x s,xs[k]? = some x->I k s->∃s',body k x s=some (.go s')/\I (k+1) s') (h0:I 0 s):∃s',forL xs s body=some (.go s')/\I xs.length s':=by
 rw [iX hl]
 exact JY I xs xs 0 s rfl (Nat.zero_le _) h h0
theorem JB {σ ρ:Type} {body:Nat->Nat->σ->Option (Ctl σ ρ)} (I:Nat->σ->Prop) {n:Nat} {s:σ} (hl:n<=1000000000000) (h:∀k s,k<n->I k s->∃s',body k k s=some (.go s')/\I (k+1) s') (h0:I 0 s):∃s',forL (List.range n) s body=some (.go s')/\I n s':=by
 have:=uh (body:=body) I (xs:=List.range n) (s:=s) (by simpa using hl) (λk x s hx hi=>by
  have hk:k<n:=by have:=(List.getElem?_eq_some_iff.1 hx).1;simpa using this
  rw [List.getElem?_range hk]at hx
  simp only [so_]at hx
  subst hx
  exact h k s hk hi) h0
 simpa using this
theorem Bu {σ ρ:Type} {body:σ->Option (Ctl σ ρ)} (I:σ->Prop) (m:σ->Nat) (P:σ->Prop)
  (h:∀s,I s->(∃s',body s=some (.go s')/\I s'/\m s'<m s)\/∃s',body s=some (.brk s')/\P s') {s:σ} (h0:I s):∃s',iT s body=some (.go s')/\P s':=by
 have key:∀(n:Nat) (s:σ),m s<=n->I s->∃k s',iterN body (k+1) s=some (.go s')/\P s':=by
  intro n
  induction n with
  | zero =>
   intro s hm hI
   rcases h s hI with⟨s',e,hI',hl⟩|⟨s',e,hp⟩
   ·omega
   ·exact⟨0,s',by simp only [iterN,e,ob_],hp⟩
  | succ n ih =>
   intro s hm hI
   rcases h s hI with⟨s',e,hI',hl⟩|⟨s',e,hp⟩
   ·obtain ⟨k,r,er,hr⟩:=ih s' (by omega) hI'
    exact⟨k+1,r,by rw [iterN,e,ob_];exact er,hr⟩
   ·exact⟨0,s',by simp only [iterN,e,ob_],hp⟩
 obtain ⟨k,o,e,hp⟩:=key (m s) s (Nat.le_refl _) h0
 exact⟨o,lu e,hp⟩
theorem Di {i:Nat} {n:Nat} (h:i<n):inN (i:Int) n=some ():=by
 unfold inN;rw [if_pos ⟨Int.natCast_nonneg _,by simpa using h⟩]
theorem inR_at {α:Type} {i:Nat} {xs:List α} (h:i<xs.length):inR (i:Int) xs=some ():=by
 unfold inR;rw [if_pos ⟨Int.natCast_nonneg _,by simpa using h⟩]
theorem Ec {α β:Type} {xs:List α} {ys:List β} (h:xs.length=ys.length):kF xs ys=some ():=by unfold kF;rw [if_pos h]
theorem ltN_at {k n:Nat} (h:k<n):ltN k n=some ():=by unfold ltN;rw [if_pos h]
theorem leN_at {k n:Nat} (h:k<=n):leN k n=some ():=by unfold leN;rw [if_pos h]
theorem toN (i:Nat):(0+((i:Int)).toNat)=i:=by simp
end Go.Flow

open Go Go.Eng
namespace Go.Proofs.YtekmkepojbhafaeGreatDoor.Law
set_option linter.unusedVariables false
set_option linter.unusedSimpArgs false
def jX (n lo hi:Int):Bool:=decide (n<lo)||decide (n>hi)
theorem rH (n lo hi:Int):bZ n lo hi=some (jX n lo hi):=by
 unfold bZ jX
 cases decide (n<lo) <;> cases decide (n>hi) <;> rfl
theorem BC (n lo hi:Int):lW n lo hi=some (!jX n lo hi):=by
 unfold lW jX
 have e1:decide (lo<=n) = !decide (n<lo):=by rw [Bool.eq_iff_iff];simp
 have e2:decide (n<=hi) = !decide (n>hi):=by rw [Bool.eq_iff_iff];simp
 rw [e1,e2]
 cases decide (n<lo) <;> cases decide (n>hi) <;> rfl
theorem xS {n lo hi:Int} (h:jX n lo hi=false):lo<=n/\n<=hi:=by
 simp only [jX,Bool.or_eq_false_iff,decide_eq_false_iff_not]at h;omega
def AZ (r:Rect):Bool:=jX r.X (-100000) 100000||jX r.Y (-100000) 100000||jX r.W 1 (w64 (100000-r.X))||jX r.H 1 (w64 (100000-r.Y))
theorem Dh (r:Rect):jc r=some (bif AZ r then 1 else 0):=by
 unfold jc AZ
 simp only [rH,ob_]
 cases jX r.X (-100000) 100000 <;> cases jX r.Y (-100000) 100000 <;> cases jX r.W 1 (w64 (100000-r.X)) <;> cases jX r.H 1 (w64 (100000-r.Y)) <;> rfl
theorem CF (r:Rect):lg r=some (bif AZ r then 1 else 0):=by
 unfold lg AZ
 simp only [BC,ob_,Bool.not_not]
 cases jX r.X (-100000) 100000 <;> cases jX r.Y (-100000) 100000 <;> cases jX r.W 1 (w64 (100000-r.X)) <;> cases jX r.H 1 (w64 (100000-r.Y)) <;> rfl
end Go.Proofs.YtekmkepojbhafaeGreatDoor.Law

open Go Go.Eng
namespace Go.Proofs.YtekmkepojbhafaeGreatDoor.Law
set_option linter.unusedVariables false
set_option linter.unusedSimpArgs false
def Ok (s:Stream) (b:Int):Prop:=0<=s.f_at/\s.f_at<=b
theorem Ok.mono {s:Stream} {b c:Int} (h:Ok s b) (hc:b<=c):Ok s c:=⟨h.1,Int.le_trans h.2 hc⟩
theorem AJ (x n:Int) (h:1<=n) (hn:n<=4611686018427387904):∃r,o8 x n=some r/\0<=r/\r<n:=by
 have h1:x.tmod n<n:=Int.tmod_lt_of_pos x (by omega)
 have h2 : -n<x.tmod n:=Int.lt_tmod_of_pos x (by omega)
 have hb:decide (n<1)=false:=by simp;omega
 have hn0:n≠0:=by omega
 simp only [o8,hb,cond_false,IU,if_neg hn0,ob_]
 cases hd:decide (x.tmod n<0)with
 | true =>
  simp only [decide_eq_true_eq]at hd
  exact⟨_,rfl,by rw [gW (by omega)];omega,by rw [gW (by omega)];omega⟩
 | false =>
  simp only [decide_eq_false_iff_not]at hd
  exact⟨_,rfl,by omega,h1⟩
theorem pV (s:Stream) (n:Int) {b:Int} (hs:Ok s b) (hb:b<=1000000) (h:1<=n) (hn:n<=4611686018427387904):∃r s',dC s n=some (r,s')/\0<=r/\r<n/\Ok s' (b+1):=by
 obtain ⟨h0,h1⟩:=hs
 have e1:w64 (s.f_at+1)=s.f_at+1:=gW (by omega)
 have e2:w64 (s.f_at+1-1)=s.f_at:=by rw [gW (by omega)];omega
 simp only [dC,e1,e2]
 by_cases hl:s.L.length=0
 ·have:((s.L.length:Int)==0)=true:=by simp [hl]
  simp only [this,cond_true]
  obtain ⟨r,hr,h2,h3⟩:=AJ (w64 ((s.f_at+1)*7919)) n h hn
  exact⟨r,_,by rw [hr];rfl,h2,h3,⟨by show 0<=s.f_at+1;omega,by show s.f_at+1<=b+1;omega⟩⟩
 ·have hne:(s.L.length:Int)≠0:=by omega
  have:((s.L.length:Int)==0)=false:=by simpa using hl
  simp only [this,cond_false,IU,quoO,if_neg hne,ob_]
  have h2:0<=s.f_at.tmod s.L.length:=Int.tmod_nonneg _ h0
  have hp:(0:Int)<(s.L.length:Int):=by have:=Nat.pos_of_ne_zero hl;omega
  have h3:s.f_at.tmod s.L.length<s.L.length:=Int.tmod_lt_of_pos _ hp
  have hi:idx s.L (s.f_at.tmod s.L.length)=some s.L[(s.f_at.tmod s.L.length).toNat]:=by
   simp only [idx,if_pos h2]
   exact List.getElem?_eq_getElem (by omega)
  obtain ⟨r1,hr1,_,_⟩:=AJ s.L[(s.f_at.tmod s.L.length).toNat] 1073741824 (by decide) (by decide)
  simp only [hi,hr1,ob_]
  generalize w64 (r1+_)=y
  obtain ⟨r,hr,h4,h5⟩:=AJ y n h hn
  exact⟨r,_,by rw [hr];rfl,h4,h5,⟨by show 0<=s.f_at+1;omega,by show s.f_at+1<=b+1;omega⟩⟩
theorem uq (s:Stream) (n:Int) {b:Int} (hs:Ok s b) (hb:b<=1000000) (h:1<=n) (hn:n<=1000):∃r s',fq s n=some (r,s')/\Ok s' (b+1):=by
 obtain ⟨r,s',h1,_,_,h2⟩:=pV s n hs hb h (by omega)
 exact⟨r==0,s',by simp only [fq,h1,ob_],h2⟩
theorem Da {α:Type} {l:List α} {r:Int} (h0:0<=r) (h1:r<l.length):∃y,idx l r=some y/\y∈l:=by
 refine⟨l[r.toNat]'(by omega),?_,List.getElem_mem _⟩
 simp only [idx,if_pos h0]
 exact List.getElem?_eq_getElem (by omega)
theorem pU (s:Stream) (l:List Int) {b:Int} (hs:Ok s b) (hb:b<=1000000) (h:1<=l.length) (hn:l.length<=1000):∃r s',dL s l=some (r,s')/\r∈l/\Ok s' (b+1):=by
 obtain ⟨r,s',h1,h2,h3,h4⟩:=pV s l.length hs hb (by omega) (by omega)
 obtain ⟨y,hy,hm⟩:=Da h2 h3
 exact⟨y,s',by simp only [dL,h1,hy,ob_],hm,h4⟩
theorem rM (s:Stream) (l:List ByteArray) {b:Int} (hs:Ok s b) (hb:b<=1000000) (h:1<=l.length) (hn:l.length<=1000):∃r s',dz s l=some (r,s')/\r∈l/\Ok s' (b+1):=by
 obtain ⟨r,s',h1,h2,h3,h4⟩:=pV s l.length hs hb (by omega) (by omega)
 obtain ⟨y,hy,hm⟩:=Da h2 h3
 exact⟨y,s',by simp only [dz,h1,hy,ob_],hm,h4⟩
theorem iK (s:Stream) (lo hi:Int) {b:Int} (hs:Ok s b) (hb:b<=1000000) (h:lo<=hi) (h1 : -1000000000000<=lo) (h2:hi<=1000000000000):∃r s',bP s lo hi=some (r,s')/\lo<=r/\r<=hi/\Ok s' (b+1):=by
 have hd:decide (hi<lo)=false:=by simp;omega
 have e1:w64 (hi-lo)=hi-lo:=gW (by omega)
 have e2:w64 (hi-lo+1)=hi-lo+1:=gW (by omega)
 obtain ⟨r,s',k1,k2,k3,k4⟩:=pV s (hi-lo+1) hs hb (by omega) (by omega)
 simp only [bP,hd,cond_false,e1,e2,k1,ob_]
 exact⟨_,s',rfl,by rw [gW (by omega)];omega,by rw [gW (by omega)];omega,k4⟩
theorem Gt (s:Stream) (lo hi:Int) {b:Int} (hs:Ok s b) (hb:b<=900000) (h:lo<=hi) (h1 : -1000000000000<=lo) (h2:hi<=1000000000000):∃r s',dE s lo hi=some (r,s')/\Ok s' (b+2):=by
 obtain ⟨c,s1,k1,k2⟩:=uq s 12 hs (by omega) (by decide) (by decide)
 simp only [dE,k1,ob_]
 cases c with
 | true =>
  obtain ⟨r,s2,m1,_,m2⟩:=pU s1 [(w64 (lo-1)),(w64 (hi+1)),lo,hi,(-1099511627776),1099511627776] k2 (by omega) (by simp) (by simp)
  simp only [cond_true,m1,ob_]
  exact⟨_,_,rfl,m2.mono (by omega)⟩
 | false =>
  obtain ⟨r,s2,m1,_,_,m2⟩:=iK s1 lo hi k2 (by omega) h h1 h2
  simp only [cond_false,m1,ob_]
  exact⟨_,_,rfl,m2.mono (by omega)⟩
end Go.Proofs.YtekmkepojbhafaeGreatDoor.Law

open Go Go.Eng
namespace Go.Proofs.YtekmkepojbhafaeGreatDoor.Law
set_option linter.unusedVariables false
set_option linter.unusedSimpArgs false
def AV (b:UInt8):Bool:=decide (97<=b.toNat)&&decide (b.toNat<=122)
def FB (b:UInt8):Bool:=(decide (48<=b.toNat)&&decide (b.toNat<=57))||(b.toNat==45)||(b.toNat==95)
def okB (i:Nat) (b:UInt8):Bool:=AV b||(decide (0<i)&&FB b)
def fO (s:ByteArray) (i:Nat):UInt8:=s.data.toList.getD i 0
def lQ (s:ByteArray):Bool:=decide (s.size≠0)&&(decide (s.size<=40)&&(List.range s.size).all λi=>okB i (fO s i))
theorem Eb (s:ByteArray) (k:Nat) (h:k<s.size):tQ s (k:Int)=some (fO s k):=by
 have h1:s[k]? = some s[k]:=by simp [h]
 have h2:fO s k=s[k]:=by
  have hl:k<s.data.toList.length:=by rw [<- Go.Lib.size_eq];exact h
  simp only [fO,List.getD_eq_getElem?_getD,List.getElem?_eq_getElem hl,Option.getD_some]
  simp
  rfl
 simp only [tQ,if_pos (Int.natCast_nonneg k),Int.toNat_natCast,h1,h2]
theorem EN (s:ByteArray) (k:Nat) (hs:s.size<=1000000000):iJ s (k:Int)=some (if k<s.size then (bif okB k (fO s k)then .go ((k+1:Nat):Int)else .ret false)else .brk (k:Int)):=by
 unfold iJ
 by_cases h:k<s.size
 ·have hd:decide ((k:Int)<(s.size:Int))=true:=by simp;omega
  have hw:w64 ((k:Int)+1)=((k+1:Nat):Int):=by rw [gW (by omega)];omega
  simp only [hd,cond_true,Eb s k h,ob_,if_pos h,hw]
  generalize fO s k=b
  simp only [okB,AV,FB]
  have e1:decide ((b.toNat:Int)>=97)=decide (97<=b.toNat):=decide_eq_decide.2 (by omega)
  have e2:decide ((b.toNat:Int)<=122)=decide (b.toNat<=122):=decide_eq_decide.2 (by omega)
  have e3:decide ((k:Int)>0)=decide (0<k):=decide_eq_decide.2 (by omega)
  have e4:decide ((b.toNat:Int)>=48)=decide (48<=b.toNat):=decide_eq_decide.2 (by omega)
  have e5:decide ((b.toNat:Int)<=57)=decide (b.toNat<=57):=decide_eq_decide.2 (by omega)
  have e6:((b.toNat:Int)==45)=(b.toNat==45):=by rw [Bool.eq_iff_iff];simp;omega
  have e7:((b.toNat:Int)==95)=(b.toNat==95):=by rw [Bool.eq_iff_iff];simp;omega
  rw [e1,e2,e3,e4,e5,e6,e7]
  cases decide (97<=b.toNat) <;> cases decide (b.toNat<=122) <;> cases decide (0<k) <;> cases decide (48<=b.toNat) <;> cases decide (b.toNat<=57) <;> cases (b.toNat==45) <;> cases (b.toNat==95) <;> rfl
 ·have hd:decide ((k:Int)<(s.size:Int))=false:=by simp;omega
  simp only [hd,cond_false,if_neg h]
theorem zM (s:ByteArray) (hs:s.size<=1000000000):∀(n k:Nat),k+n=s.size->iterN (λi=>iJ s i) (n+1) (k:Int)=some (bif (List.range' k n).all (λj=>okB j (fO s j))then .go (s.size:Int)else .ret false)
 | 0,k,h=>by
  have hk:¬k<s.size:=by omega
  simp only [iterN,EN s k hs,if_neg hk,ob_,List.range'_zero,List.all_nil,cond_true]
  rw [show (k:Int)=s.size by omega]
 | n+1,k,h=>by
  have hk:k<s.size:=by omega
  rw [iterN,EN s k hs,if_pos hk,ob_,List.range'_succ,List.all_cons]
  cases okB k (fO s k)with
  | true=>simp only [cond_true,Bool.true_and];exact zM s hs n (k+1) (by omega)
  | false=>rfl
theorem zy (s:ByteArray) (hs:s.size<=1000000000):kit_IsKey s=some (lQ s):=by
 have h:=lu (zM s hs s.size 0 (by omega))
 unfold kit_IsKey
 have h':iT (0:Int) (λs_1=>iJ s s_1)=_:=h
 rw [h',ob_,<- List.range_eq_range']
 have e:decide ((s.size:Int)<=40)=decide (s.size<=40):=decide_eq_decide.2 (by omega)
 simp only [lQ]
 cases (List.range s.size).all (λi=>okB i (fO s i))with
 | true =>
  rw [cond_true,kU,sNe_nil,e,Bool.and_true]
  cases decide (s.size≠0) <;> rfl
 | false=>simp only [cond_false,IR,Bool.and_false]
def qL (t:ByteArray) (b:UInt8):Bool := !decide (ixB t (b.toNat:Int)<0)
theorem only_L1 (s t:ByteArray) (k x:Nat) (h:k<s.size):lJ s t k x ()=some (bif qL t (fO s k)then .go ()else .ret false):=by
 simp only [lJ,Eb s k h,strings_IndexByte,dR,ob_,qL]
 cases decide (ixB t ((fO s k).toNat:Int)<0) <;> rfl
theorem El (s t:ByteArray):∀(xs:List Nat) (k:Nat),k+xs.length=s.size->forR (λk x u=>lJ s t k x u) xs k ()=some (bif (List.range' k xs.length).all (λj=>qL t (fO s j))then .go ()else .ret false)
 | [],k,h=>rfl
 | x::xs,k,h=>by
  simp only [List.length_cons]at h ⊢
  have hk:k<s.size:=by omega
  rw [forR,only_L1 s t k x hk,ob_,List.range'_succ,List.all_cons]
  cases qL t (fO s k)with
  | true=>simp only [cond_true,Bool.true_and];exact El s t xs (k+1) (by omega)
  | false=>rfl
theorem GY (s t:ByteArray) (hs:s.size<=1000000000):qx s t=some ((List.range s.size).all λi=>qL t (fO s i)):=by
 unfold qx
 rw [Int.toNat_natCast,iX (by simp;omega),El s t _ 0 (by simp),ob_,List.length_range,<- List.range_eq_range']
 cases (List.range s.size).all (λi=>qL t (fO s i)) <;> rfl
def BD:ByteArray:=⟨#[97,98,99,100,101,102,103,104,105,106,107,108,109,110,111,112,113,114,115,116,117,118,119,120,121,122]⟩
def zA:ByteArray:=⟨#[97,98,99,100,101,102,103,104,105,106,107,108,109,110,111,112,113,114,115,116,117,118,119,120,121,122,48,49,50,51,52,53,54,55,56,57,45,95]⟩
theorem Bv:∀n:Fin 256,qL BD (UInt8.ofNat n.val)=AV (UInt8.ofNat n.val)/\qL zA (UInt8.ofNat n.val)=(AV (UInt8.ofNat n.val)||FB (UInt8.ofNat n.val)):=by decide +kernel
theorem Fa (b:UInt8):qL BD b=AV b:=by
 have:=(Bv ⟨b.toNat,b.toNat_lt⟩).1
 simpa using this
theorem D8 (b:UInt8):qL zA b=(AV b||FB b):=by
 have:=(Bv ⟨b.toNat,b.toNat_lt⟩).2
 simpa using this
theorem xK (s:ByteArray) (hs:s.size<=1000000000):rG s=some (lQ s):=by
 unfold rG lW
 have e1:decide ((1:Int)<=(s.size:Int))=decide (s.size≠0):=decide_eq_decide.2 (by omega)
 have e2:decide ((s.size:Int)<=40)=decide (s.size<=40):=decide_eq_decide.2 (by omega)
 rw [e1,e2]
 by_cases h1:s.size≠0
 ·by_cases h2:s.size<=40
  ·have hsub:Au s 0 1=some (s.extract 0 1):=by
    unfold Au;rw [if_pos ⟨by omega,by omega,by decide,by show 1<=s.size;omega⟩];rfl
   have hsz:(s.extract 0 1).size=1:=by simp [ByteArray.size_extract];omega
   have hb:fO (s.extract 0 1) 0=fO s 0:=by
    obtain ⟨⟨l⟩⟩:=s
    simp only [fO]
    cases l with
    | nil=>exact absurd rfl h1
    | cons b l=>simp [ByteArray.extract,ByteArray.copySlice]
   simp only [decide_eq_true h1,decide_eq_true h2,cond_true,ob_,hsub]
   have o1:=GY (s.extract 0 1) BD (by omega)
   have o2:=GY s zA hs
   unfold BD at o1
   unfold zA at o2
   rw [o1,ob_,o2]
   have e3:(List.range (s.extract 0 1).size).all (λi=>qL BD (fO (s.extract 0 1) i))=AV (fO s 0):=by
    rw [hsz]
    simp only [List.range_succ,List.range_zero,List.nil_append,List.all_cons,List.all_nil,Bool.and_true]
    rw [hb,Fa]
   have e3':=e3
   unfold BD at e3'
   rw [e3']
   have e4:∀i,qL zA (fO s i)=(AV (fO s i)||FB (fO s i)):=λi=>D8 _
   have e5:lQ s=(AV (fO s 0)&&(List.range s.size).all (λi=>qL zA (fO s i))):=by
    simp only [lQ,decide_eq_true h1,decide_eq_true h2,Bool.true_and,e4]
    rw [Bool.eq_iff_iff]
    simp only [List.all_eq_true,List.mem_range,Bool.and_eq_true,okB,Bool.or_eq_true,decide_eq_true_eq]
    constructor
    ·intro h
     refine⟨?_,λi hi=>(h i hi).imp id (λh=>h.2)⟩
     rcases h 0 (by omega)with h|h
     ·exact h
     ·exact absurd h.1 (by omega)
    ·rintro ⟨h3,h4⟩ i hi
     by_cases e:i=0
     ·rw [e];exact .inl h3
     ·exact (h4 i hi).imp id (λh=>⟨by omega,h⟩)
   unfold zA at e5
   rw [e5]
   cases AV (fO s 0) <;> rfl
  ·simp only [decide_eq_true h1,decide_eq_false h2,cond_true,cond_false,ob_,lQ,Bool.false_and,Bool.and_false]
 ·simp only [decide_eq_false h1,cond_false,ob_,lQ,Bool.false_and]
end Go.Proofs.YtekmkepojbhafaeGreatDoor.Law

open Go Go.Eng
namespace Go.Proofs.YtekmkepojbhafaeGreatDoor.Law
set_option linter.unusedVariables false
set_option linter.unusedSimpArgs false
structure Run where
 f_from:Int
 f_to:Int
structure Window where
 From:Int
 To:Int
structure Slot_ where
 Time:Window
 Entry:ByteArray
def mem (x:Int) (L:List Run):Prop:=∃r∈L,r.f_from<=x/\x<r.f_to
def gu:Int->List Run->Prop
 | _,[]=>True
 | lo,r::rs=>lo<r.f_from/\r.f_from<r.f_to/\gu r.f_to rs
theorem Cq (x:Int):¬mem x []:=fun⟨r,h,_⟩=>by cases h
theorem mem_cons (x:Int) (r:Run) (L:List Run):mem x (r::L)↔(r.f_from<=x/\x<r.f_to)\/mem x L:=by
 constructor
 ·rintro ⟨q,h,k⟩
  rcases List.mem_cons.1 h with rfl|h
  ·exact .inl k
  ·exact .inr ⟨q,h,k⟩
 ·rintro (k|⟨q,h,k⟩)
  ·exact⟨r,by simp,k⟩
  ·exact⟨q,by simp [h],k⟩
theorem gu.lo:∀{L:List Run} {lo:Int},gu lo L->∀r∈L,lo<r.f_from/\r.f_from<r.f_to
 | [],_,_,r,hr=>by cases hr
 | q::L,lo,h,r,hr=>by
  obtain ⟨h1,h2,h3⟩:=h
  rcases List.mem_cons.1 hr with rfl|hr
  ·exact⟨h1,h2⟩
  ·have:=h3.lo r hr;omega
theorem gu.gt {L:List Run} {lo:Int} (h:gu lo L) {x:Int} (hx:mem x L):lo<x:=by
 obtain ⟨r,hr,k⟩:=hx
 have:=h.lo r hr;omega
theorem gu.mono {L:List Run} {lo lo':Int} (h:gu lo L) (hl:lo'<=lo):gu lo' L:=by
 cases L with
 | nil=>trivial
 | cons r L=>exact⟨by have:=h.1;omega,h.2⟩
def sub (rt:Int):Int->List Run->List Run
 | rf,[]=>bif decide (rf<rt)then [⟨rf,rt⟩]else []
 | rf,q::M=>bif decide (q.f_from<rt)then (bif decide (q.f_from>rf)then [⟨rf,q.f_from⟩]else [])++sub rt (max rf q.f_to) M else bif decide (rf<rt)then [⟨rf,rt⟩]else []
end Go.Proofs.YtekmkepojbhafaeGreatDoor.Law

namespace Go.Eng
set_option linter.unusedVariables false
set_option linter.unusedSimpArgs false
def Cf {α:Type} (cmp:α->α->Option Int) (a_2:Int) (s_21:(List α)×Int):Option (Ctl ((List α)×Int) (Unit)) :=
 (bif (decide (s_21.2>a_2))then (inR s_21.2 s_21.1).bind λ_=>(s_21.1[(0+(s_21.2).toNat)]?).bind λe_30=>(inR (w64 (s_21.2-1)) s_21.1).bind λ_=>(s_21.1[(0+((w64 (s_21.2-1))).toNat)]?).bind λe_33=>(cmp e_30 e_33).bind λr_35=>some (decide (r_35<0))else some false).bind λv_26=>bif v_26 then (inR (w64 (s_21.2-1)) s_21.1).bind λ_=>(s_21.1[(0+((w64 (s_21.2-1))).toNat)]?).bind λe_39=>(inR s_21.2 s_21.1).bind λ_=>(s_21.1[(0+(s_21.2).toNat)]?).bind λe_42=>(inR s_21.2 s_21.1).bind λ_=>(s_21.1[(0+(s_21.2).toNat)]?).bind λe_45=>(inR (w64 (s_21.2-1)) (s_21.1.set (0+(s_21.2).toNat) e_39)).bind λ_=>((s_21.1.set (0+(s_21.2).toNat) e_39)[(0+((w64 (s_21.2-1))).toNat)]?).bind λe_48=>some (.go (((s_21.1.set (0+(s_21.2).toNat) e_39).set (0+((w64 (s_21.2-1))).toNat) e_42),(w64 (s_21.2-1))))else some (.brk (s_21.1,s_21.2))
noncomputable def zQ {α:Type} (cmp:α->α->Option Int) (b_3:Int) (a_2:Int) (s_10:(List α)×Int):Option (Ctl ((List α)×Int) (Unit)) :=
 bif (decide (s_10.2<b_3))then (iT (s_10.1,s_10.2) (λs=>Cf cmp a_2 s)).bind λo_24=>thenC o_24 (λs_21=>some (.go (s_21.1,(w64 (s_10.2+1))))) (λ_=>none)else some (.brk (s_10.1,s_10.2))
noncomputable def zX {α:Type} (cmp:α->α->Option Int) (data_1:(List α)) (a_2:Int) (b_3:Int):Option ((List α)) :=
 (iT (data_1,(w64 (a_2+1))) (λs=>zQ cmp b_3 a_2 s)).bind λo_13=>thenC o_13 (λs_10=>some s_10.1) (λ_=>none)
noncomputable def DY {α:Type} (cmp:α->α->Option Int) (b_3:Int) (a_2:Int) (data_1:(List α)) (limit_4:Int) (s_11:Unit):Option (Ctl (Unit) ((List α))) :=
 bif (decide ((w64 (b_3-a_2))<=12))then (zX cmp data_1 a_2 b_3).bind λr_17=>(kF r_17 data_1).bind λ_=>some (.ret r_17)else bif (limit_4==0)then none else none
noncomputable def AP {α:Type} (cmp:α->α->Option Int) (data_1:(List α)) (a_2:Int) (b_3:Int) (limit_4:Int):Option ((List α)) :=
 (iT () (λs=>DY cmp b_3 a_2 data_1 limit_4 s)).bind λo_14=>thenC o_14 (λs_11=>some data_1) (λr=>some r)
theorem G8 {α:Type} (u v:α) (C:List α):∀A:List α,((A++u::v::C).set (A.length+1) u).set A.length v=A++v::u::C
 | []=>rfl
 | a::A=>by simp only [List.cons_append,List.length_cons,List.set_cons_succ,G8 u v C A]
theorem get_0 {α:Type} (u:α) (C A:List α):(A++u::C)[A.length]? = some u:=by simp
theorem get_1 {α:Type} (u v:α) (C A:List α):(A++u::v::C)[A.length+1]? = some v:=by
 rw [List.getElem?_append_right (by omega)];simp
theorem Li {α:Type} (u v w:α) (C:List α):∀A:List α,(A++u::v::C).set (A.length+1) w=A++u::w::C
 | []=>rfl
 | a::A=>by simp only [List.cons_append,List.length_cons,List.set_cons_succ,Li u v w C A]
theorem inR_at {α:Type} {xs:List α} {i:Nat} (h:i<xs.length):inR (i:Int) xs=some ():=by
 unfold inR;rw [if_pos ⟨by omega,by simpa using h⟩]
section
variable {α:Type} {cmp:α->α->Option Int} {le:α->α->Prop} {p:α->Prop}
theorem insL1_s (u v:α) (A C:List α) {c:Int} (hc:cmp v u=some c) (hl:A.length<=1000000000):Cf cmp 0 (A++u::v::C,((A.length+1:Nat):Int))=some (bif decide (c<0)then .go (A++v::u::C,(A.length:Int))else .brk (A++u::v::C,((A.length+1:Nat):Int))):=by
 have hw:w64 (((A.length+1:Nat):Int)-1)=(A.length:Int):=by rw [zZ _ (by omega)];omega
 have h1:inR ((A.length+1:Nat):Int) (A++u::v::C)=some ():=inR_at (by simp)
 have h2:inR (A.length:Int) (A++u::v::C)=some ():=inR_at (by simp)
 have h3:inR (A.length:Int) (A++u::u::C)=some ():=inR_at (by simp)
 have hd:decide (((A.length+1:Nat):Int)>0)=true:=by simp <;> omega
 have e1:0+((A.length+1:Nat):Int).toNat=A.length+1:=by omega
 have e2:0+((A.length:Nat):Int).toNat=A.length:=by omega
 unfold Cf
 simp only [hw,h1,h2,hd,e1,e2,get_0,get_1,ob_,hc,cond_true,Li,h3]
 cases decide (c<0)with
 | false=>rfl
 | true =>
  simp only [cond_true]
  have:=G8 u v C A
  rw [Li]at this
  rw [this]
theorem BL (hc:∀a b,p a->p b->∃c,cmp a b=some c/\(c<0->le a b)/\(¬c<0->le b a)) (tr:∀a b c,le a b->le b c->le a c) (v:α) (hv:p v) (R:List α):∀(n:Nat) (A B:List α),A.length=n->n<=1000000000->(∀a∈A,p a)->(A++B).Pairwise le->(∀b∈B,le v b) ->
  ∃A' B',iterN (λs=>Cf cmp 0 s) (n+1) (A++v::(B++R),(A.length:Int))=some (.go (A'++v::(B'++R),(A'.length:Int)))/\A'++B'=A++B/\(A'++v::B').Pairwise le
 | 0,A,B,hA,hn,hpa,hp,hb=>by
  have:A=[]:=List.eq_nil_of_length_eq_zero hA
  subst this
  exact⟨[],B,by simp only [List.nil_append,List.length_nil,iterN,Option.bind];rfl,rfl,by simpa using ⟨hb,hp⟩⟩
 | n+1,A,B,hA,hn,hpa,hp,hb=>by
  rcases List.eq_nil_or_concat A with h|⟨A0,u,h⟩
  ·rw [h]at hA;cases hA
  ·subst h
   simp only [List.concat_eq_append]at hA hp hpa ⊢
   have hA0:A0.length=n:=by simpa using hA
   have hl:(A0++[u]).length=A0.length+1:=by simp
   have e:A0++[u]++v::(B++R)=A0++u::v::(B++R):=by simp
   obtain ⟨c,h1,h2,h3⟩:=hc v u hv (hpa u (by simp))
   rw [hl,e,iterN,insL1_s u v A0 (B++R) h1 (by omega),ob_]
   by_cases hcn:c<0
   ·simp only [decide_eq_true hcn,cond_true]
    have hp':(A0++(u::B)).Pairwise le:=by simpa using hp
    obtain ⟨A',B',k1,k2,k3⟩:=BL hc tr v hv R n A0 (u::B) hA0 (by omega) (λa ha=>hpa a (by simp [ha])) hp' (λb hb'=>by
     rcases List.mem_cons.1 hb' with rfl|hb'
     ·exact h2 hcn
     ·exact hb b hb')
    refine⟨A',B',?_,by rw [k2];simp,k3⟩
    rw [<- k1];simp
   ·simp only [decide_eq_false hcn,cond_false]
    refine⟨A0++[u],B,by simp,rfl,?_⟩
    have huv:=h3 hcn
    rw [List.pairwise_append]at hp ⊢
    obtain ⟨p1,p2,p3⟩:=hp
    refine⟨p1,List.pairwise_cons.2 ⟨hb,p2⟩,λa ha b hb' => ?_⟩
    rcases List.mem_cons.1 hb' with rfl|hb'
    ·rcases List.mem_append.1 ha with ha|ha
     ·rw [List.pairwise_append]at p1
      exact tr _ _ _ (p1.2.2 a ha u (by simp)) huv
     ·rw [List.mem_singleton]at ha;subst ha;exact huv
    ·exact p3 a ha b hb'
theorem BF (hc:∀a b,p a->p b->∃c,cmp a b=some c/\(c<0->le a b)/\(¬c<0->le b a)) (tr:∀a b c,le a b->le b c->le a c):∀(Q P:List α),P.length+Q.length<=1000000000->(∀x∈P++Q,p x)->P.Pairwise le ->
  ∃s,iterN (λs=>zQ cmp ((P.length+Q.length:Nat):Int) 0 s) (Q.length+1) (P++Q,(P.length:Int))=some (.go (s,((P.length+Q.length:Nat):Int)))/\s.Perm (P++Q)/\s.Pairwise le
 | [],P,hl,hpx,hp=>by
  refine⟨P,?_,by simp,hp⟩
  have hd:decide ((P.length:Int)<((P.length+([]:List α).length:Nat):Int))=false:=by simp
  simp only [iterN,zQ,hd,cond_false,ob_,List.append_nil]
  simp
 | v::Q,P,hl,hpx,hp=>by
  simp only [List.length_cons]at hl
  have hd:decide ((P.length:Int)<((P.length+(v::Q).length:Nat):Int))=true:=by simp only [decide_eq_true_eq,List.length_cons];omega
  obtain ⟨A',B',k1,k2,k3⟩:=BL hc tr v (hpx v (by simp)) Q P.length P [] rfl (by omega) (λa ha=>hpx a (by simp [ha])) (by simpa using hp) (λb hb=>by cases hb)
  rw [List.nil_append]at k1
  have hlo:=lu k1
  rw [List.length_cons,iterN]
  have hw:w64 ((P.length:Int)+1)=((A'++v::B').length:Int):=by
   have:=congrArg List.length k2
   simp only [List.length_append,List.length_nil]at this
   rw [zZ _ (by omega)];simp only [List.length_append,List.length_cons];omega
  have h1:zQ cmp ((P.length+(Q.length+1):Nat):Int) 0 (P++v::Q,(P.length:Int))=some (.go (A'++v::(B'++Q),((A'++v::B').length:Int))):=by
   have hd':decide ((P.length:Int)<((P.length+(Q.length+1):Nat):Int))=true:=hd
   unfold zQ
   simp only [hd',cond_true,hlo,ob_,thenC,hw]
  have hlen:(A'++v::B').length=P.length+1:=by
   have:=congrArg List.length k2
   simp only [List.length_append,List.length_nil,List.length_cons]at this ⊢
   omega
  have hk:(A'++B').Perm P:=by rw [k2];simp
  have hperm:(A'++v::B').Perm (P++[v]):=(List.perm_middle).trans ((List.Perm.cons v hk).trans (List.perm_append_comm (l₁:=[v]) (l₂:=P)))
  obtain ⟨s,m1,m2,m3⟩:=BF hc tr Q (A'++v::B') (by omega) (λx hx=>by
   rcases List.mem_append.1 hx with hx|hx
   ·have:=hperm.mem_iff.1 hx
    exact hpx x (by rcases List.mem_append.1 this with h | h <;> simp_all)
   ·exact hpx x (by simp [hx])) k3
  rw [h1,ob_]
  have e:A'++v::(B'++Q)=(A'++v::B')++Q:=by simp
  have e2:P.length+(Q.length+1)=(A'++v::B').length+Q.length:=by omega
  simp only
  rw [e,e2]
  refine⟨s,m1,m2.trans ?_,m3⟩
  have:=List.Perm.append_right Q hperm
  simpa using this
theorem JN (hc:∀a b,p a->p b->∃c,cmp a b=some c/\(c<0->le a b)/\(¬c<0->le b a)) (tr:∀a b c,le a b->le b c->le a c) (l:List α) (hl:l.length<=12) (hpl:∀x∈l,p x) (lim:Int):∃s,AP cmp l 0 (l.length:Int) lim=some s/\s.Perm l/\s.Pairwise le:=by
 have key:∃s,zX cmp l 0 (l.length:Int)=some s/\s.Perm l/\s.Pairwise le:=by
  unfold zX
  have hw:w64 (0+1)=1:=rfl
  rw [hw]
  cases l with
  | nil=>exact⟨[],by rw [lu (n:=1) (o := .go ([],1)) rfl];rfl,.nil,.nil⟩
  | cons v Q =>
   obtain ⟨s,m1,m2,m3⟩:=BF hc tr Q [v] (by simp only [List.length_cons,List.length_nil]at hl ⊢;omega) (λx hx=>hpl x (by simpa using hx)) (List.pairwise_singleton _ _)
   have e:([v].length+Q.length:Nat)=(v::Q).length:=by simp only [List.length_cons,List.length_nil];omega
   rw [e]at m1
   have:=lu m1
   refine⟨s,?_,m2,m3⟩
   show (iT (v::Q,1) _).bind _=_
   have e2:(([v]++Q,(([v]:List α).length:Int)):List α×Int)=(v::Q,1):=rfl
   rw [e2]at this
   rw [this];rfl
 obtain ⟨s,h1,h2,h3⟩:=key
 refine⟨s,?_,h2,h3⟩
 have hsm:kF s l=some ():=by unfold kF;rw [if_pos h2.length_eq]
 have hd:decide (w64 ((l.length:Int)-0)<=12)=true:=by
  have:(l.length:Int)-0=l.length:=by omega
  rw [this,zZ _ (by omega)];simp;omega
 have:iT () (λs=>DY cmp (l.length:Int) 0 l lim s)=some (.ret s):=by
  refine lu (n:=1) ?_
  simp only [iterN,DY,hd,cond_true,h1,hsm,ob_]
 unfold AP
 rw [this];rfl
end
end Go.Eng

open Go Go.Eng
namespace Go.Proofs.YtekmkepojbhafaeGreatDoor.Law
set_option linter.unusedVariables false
set_option linter.unusedSimpArgs false
theorem jM {α:Type} (xs ys:List α) (h:xs.length+ys.length<=1000000000):lc xs ys=some (xs++ys):=by unfold lc;rw [if_pos h]
def Fine (r:Rect):Prop:=(-100000<=r.X/\r.X<=100000)/\(-100000<=r.Y/\r.Y<=100000)/\(1<=r.W/\r.X+r.W<=100000)/\1<=r.H/\r.Y+r.H<=100000
def kT (l:List Rect) (x y:Int):Prop:=∃r∈l,(r.X<=x/\x<r.X+r.W)/\r.Y<=y/\y<r.Y+r.H
def covers (y:Int) (r:Rect):Bool:=decide (r.Y<=y)&&decide (y<r.Y+r.H)
def toRun (r:Rect):Run:=⟨r.X,r.X+r.W⟩
def rowB (l:List Rect) (y:Int):List Run:=(l.filter (covers y)).map toRun
def Okr (r:Run):Prop := -100000<=r.f_from/\r.f_from<r.f_to/\r.f_to<=100000
theorem Js:∀n:Nat,n<=12->∃k,iQ (IntKind.u64.wrap (n:Int))=some k:=by
 have h:(List.range 13).all (λn=>(iQ (IntKind.u64.wrap (n:Int))).isSome)=true:=by kernel_rfl
 intro n hn
 have:=List.all_eq_true.1 h n (by simp;omega)
 exact Option.isSome_iff_exists.1 this
end Go.Proofs.YtekmkepojbhafaeGreatDoor.Law

open Go Go.Eng
namespace Go.Proofs.YtekmkepojbhafaeGreatDoor.Law
set_option linter.unusedVariables false
set_option linter.unusedSimpArgs false
end Go.Proofs.YtekmkepojbhafaeGreatDoor.Law

open Go Go.Eng
namespace Go.Proofs.YtekmkepojbhafaeGreatDoor.Law
end Go.Proofs.YtekmkepojbhafaeGreatDoor.Law

open Go Go.Eng
namespace Go.Proofs.YtekmkepojbhafaeGreatDoor.Law
set_option linter.unusedVariables false
set_option linter.unusedSimpArgs false
def DF (y h:Int) (r:Run):Rect:=⟨r.f_from,y,r.f_to-r.f_from,h⟩
section
variable {is:Int->Int->Option Bool} {xs ys:List Int} {s13:(List Rect)×(List Rect)×Int} {y y2:Int} {j:Nat}
end
end Go.Proofs.YtekmkepojbhafaeGreatDoor.Law

open Go Go.Eng
namespace Go.Proofs.YtekmkepojbhafaeGreatDoor.Law
set_option linter.unusedVariables false
set_option linter.unusedSimpArgs false
end Go.Proofs.YtekmkepojbhafaeGreatDoor.Law

open Go Go.Eng
namespace Go.Proofs.YtekmkepojbhafaeGreatDoor.Law
set_option linter.unusedVariables false
set_option linter.unusedSimpArgs false
end Go.Proofs.YtekmkepojbhafaeGreatDoor.Law

