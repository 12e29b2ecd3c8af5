/-
  THE PLAIN LAW (part 1).
-/
import Derived.Test.YtnjnggakgeommaaGreatDoorEng5
import Derived.Test.YtnjnggakgeommaaGreatDoorDefs
import Derived.Lib.ItoaLen
namespace Go.Eng
set_option linter.unusedVariables false
set_option linter.unusedSimpArgs false
theorem lF {α σ ρ:Type} {body:Nat->α->σ->Option (Ctl σ ρ)} {xs:List α} {s:σ} (hl:xs.length<=1000000000000):forL xs s body=forR body xs 0 s:=by unfold forL;rw [if_pos hl]
theorem nQ {σ ρ τ:Type} (s:σ) (f:σ->Option τ) (g:ρ->Option τ):thenC (.go s) f g=f s:=rfl
theorem Jh {σ ρ τ:Type} (r:ρ) (f:σ->Option τ) (g:ρ->Option τ):thenC (.ret r) f g=g r:=rfl
theorem AJ {α:Type} (xs:List α) (k:Nat):idx xs (k:Int)=xs[k]? := by simp [idx]
theorem jL {n:Int} (h : -9223372036854775808<=n/\n<=9223372036854775807):w64 n=n:=Kj n h
theorem toL (s:ByteArray):s.toList=s.data.toList:=Go.Lib.toList_data s
theorem Ar {a b:ByteArray} (h:a.toList=b.toList):a=b:=by
 rw [toL,toL]at h
 obtain ⟨⟨a⟩⟩:=a
 obtain ⟨⟨b⟩⟩:=b
 simp only at h
 rw [h]
theorem Ip (a b:ByteArray):sEq a b=true↔a=b:=by
 simp only [sEq,beq_iff_eq]
 exact⟨Ar,λh=>by rw [h]⟩
theorem Er (a b:ByteArray):sEq a b=decide (a=b):=by
 rw [Bool.eq_iff_iff,Ip];simp
theorem E8 (a b:ByteArray):sNe a b = !decide (a=b):=by
 have:=Er a b;simp only [sEq,sNe]at *;rw [this]
abbrev bl:=Op.bytesLess
theorem bl_lt:∀(x y:List UInt8),bl x y=decide (x<y)
 | _,[]=>by simp [bl,Op.bytesLess]
 | [],_::_=>by simp [bl,Op.bytesLess]
 | a::x,b::y=>by
  have:=bl_lt x y
  simp only [bl,Op.bytesLess]at this ⊢
  rw [this,Bool.eq_iff_iff]
  simp only [Bool.or_eq_true,decide_eq_true_eq,Bool.and_eq_true,beq_iff_eq,List.cons_lt_cons_iff]
def lt (a b:ByteArray):Prop:=a.toList<b.toList
theorem EU (a b:ByteArray):sLt a b=true↔lt a b:=by
 show bl a.toList b.toList=true↔_
 rw [bl_lt];simp [lt]
theorem tX (a:ByteArray):¬lt a a:=List.lt_irrefl a.toList
theorem lt_trans {a b c:ByteArray} (h:lt a b) (k:lt b c):lt a c:=List.lt_trans h k
theorem Hd (a b:ByteArray):lt a b\/a=b\/lt b a:=by
 rcases Classical.em (lt a b)with h|h
 ·exact .inl h
 ·rcases Classical.em (lt b a)with h2|h2
  ·exact .inr (.inr h2)
  ·exact .inr (.inl (Ar (List.le_antisymm (List.not_lt.1 h2) (List.not_lt.1 h))))
theorem xX (a b:ByteArray):sLe a b=true↔¬lt b a:=by
 have h1:=EU a b
 have h2:=Ip a b
 simp only [sLe,Bool.or_eq_true]
 constructor
 ·rintro (h|h)
  ·exact λk=>tX _ (lt_trans (h1.1 h) k)
  ·rw [h2.1 h];exact tX _
 ·intro h
  rcases Hd a b with k|k|k
  ·exact .inl (h1.2 k)
  ·exact .inr (h2.2 k)
  ·exact absurd k h
theorem IJ (a:ByteArray):sLe a ⟨#[]⟩=decide (a.size=0):=by
 rw [Bool.eq_iff_iff,xX,lt,toL,toL,Go.Lib.size_eq]
 cases a.data.toList <;> simp
theorem sNe_nil (a:ByteArray):sNe a ⟨#[]⟩=decide (a.size≠0):=by
 rw [E8,Go.Lib.size_eq,Bool.eq_iff_iff]
 simp only [Bool.not_eq_true',decide_eq_false_iff_not,decide_eq_true_eq,ne_eq]
 refine not_congr ⟨λh=>by rw [h];rfl,λh => ?_⟩
 exact Ar (by rw [toL,List.eq_nil_of_length_eq_zero h,toL])
end Go.Eng

open Go Go.Eng
namespace Go.Proofs.YtnjnggakgeommaaGreatDoor.Law
set_option linter.unusedVariables false
set_option linter.unusedSimpArgs false
def Ok (s:Stream) (b:Int):Prop:=0<=s.f_at/\s.f_at<=b
theorem Ok.mono {s:Stream} {b c:Int} (h:Ok s b) (hc:b<=c):Ok s c:=⟨h.1,Int.le_trans h.2 hc⟩
theorem Cc (x n:Int) (h:1<=n) (hn:n<=4611686018427387904):∃r,qm x n=some r/\0<=r/\r<n:=by
 have h1:x.tmod n<n:=Int.tmod_lt_of_pos x (by omega)
 have h2 : -n<x.tmod n:=Int.lt_tmod_of_pos x (by omega)
 have hb:decide (n<1)=false:=by simp;omega
 have hn0:n≠0:=by omega
 simp only [qm,hb,cond_false,Gp,if_neg hn0,ob_]
 cases hd:decide (x.tmod n<0)with
 | true =>
  simp only [decide_eq_true_eq]at hd
  exact⟨_,rfl,by rw [jL (by omega)];omega,by rw [jL (by omega)];omega⟩
 | false =>
  simp only [decide_eq_false_iff_not]at hd
  exact⟨_,rfl,by omega,h1⟩
theorem Aq (s:Stream) (n:Int) {b:Int} (hs:Ok s b) (hb:b<=1000000) (h:1<=n) (hn:n<=4611686018427387904):∃r s',gy s n=some (r,s')/\0<=r/\r<n/\Ok s' (b+1):=by
 obtain ⟨h0,h1⟩:=hs
 have e1:w64 (s.f_at+1)=s.f_at+1:=jL (by omega)
 have e2:w64 (s.f_at+1-1)=s.f_at:=by rw [jL (by omega)];omega
 simp only [gy,e1,e2]
 by_cases hl:s.L.length=0
 ·have:((s.L.length:Int)==0)=true:=by simp [hl]
  simp only [this,cond_true]
  obtain ⟨r,hr,h2,h3⟩:=Cc (w64 ((s.f_at+1)*7919)) n h hn
  exact⟨r,_,by rw [hr];rfl,h2,h3,⟨by show 0<=s.f_at+1;omega,by show s.f_at+1<=b+1;omega⟩⟩
 ·have hne:(s.L.length:Int)≠0:=by omega
  have:((s.L.length:Int)==0)=false:=by simpa using hl
  simp only [this,cond_false,Gp,GY,if_neg hne,ob_]
  have h2:0<=s.f_at.tmod s.L.length:=Int.tmod_nonneg _ h0
  have hp:(0:Int)<(s.L.length:Int):=by have:=Nat.pos_of_ne_zero hl;omega
  have h3:s.f_at.tmod s.L.length<s.L.length:=Int.tmod_lt_of_pos _ hp
  have hi:idx s.L (s.f_at.tmod s.L.length)=some s.L[(s.f_at.tmod s.L.length).toNat]:=by
   simp only [idx,if_pos h2]
   exact List.getElem?_eq_getElem (by omega)
  obtain ⟨r1,hr1,_,_⟩:=Cc s.L[(s.f_at.tmod s.L.length).toNat] 1073741824 (by decide) (by decide)
  simp only [hi,hr1,ob_]
  generalize w64 (r1+_)=y
  obtain ⟨r,hr,h4,h5⟩:=Cc y n h hn
  exact⟨r,_,by rw [hr];rfl,h4,h5,⟨by show 0<=s.f_at+1;omega,by show s.f_at+1<=b+1;omega⟩⟩
theorem xG (s:Stream) (n:Int) {b:Int} (hs:Ok s b) (hb:b<=1000000) (h:1<=n) (hn:n<=1000):∃r s',dK s n=some (r,s')/\Ok s' (b+1):=by
 obtain ⟨r,s',h1,_,_,h2⟩:=Aq s n hs hb h (by omega)
 exact⟨r==0,s',by simp only [dK,h1,ob_],h2⟩
theorem Jb {α:Type} {l:List α} {r:Int} (h0:0<=r) (h1:r<l.length):∃y,idx l r=some y/\y∈l:=by
 refine⟨l[r.toNat]'(by omega),?_,List.getElem_mem _⟩
 simp only [idx,if_pos h0]
 exact List.getElem?_eq_getElem (by omega)
theorem sW (s:Stream) (l:List Int) {b:Int} (hs:Ok s b) (hb:b<=1000000) (h:1<=l.length) (hn:l.length<=1000):∃r s',dM s l=some (r,s')/\r∈l/\Ok s' (b+1):=by
 obtain ⟨r,s',h1,h2,h3,h4⟩:=Aq s l.length hs hb (by omega) (by omega)
 obtain ⟨y,hy,hm⟩:=Jb h2 h3
 exact⟨y,s',by simp only [dM,h1,hy,ob_],hm,h4⟩
theorem some_ok (s:Stream) (l:List ByteArray) {b:Int} (hs:Ok s b) (hb:b<=1000000) (h:1<=l.length) (hn:l.length<=1000):∃r s',kC s l=some (r,s')/\r∈l/\Ok s' (b+1):=by
 obtain ⟨r,s',h1,h2,h3,h4⟩:=Aq s l.length hs hb (by omega) (by omega)
 obtain ⟨y,hy,hm⟩:=Jb h2 h3
 exact⟨y,s',by simp only [kC,h1,hy,ob_],hm,h4⟩
theorem K6 (s:Stream) (lo hi:Int) {b:Int} (hs:Ok s b) (hb:b<=1000000) (h:lo<=hi) (h1 : -1000000000000<=lo) (h2:hi<=1000000000000):∃r s',jD s lo hi=some (r,s')/\lo<=r/\r<=hi/\Ok s' (b+1):=by
 have hd:decide (hi<lo)=false:=by simp;omega
 have e1:w64 (hi-lo)=hi-lo:=jL (by omega)
 have e2:w64 (hi-lo+1)=hi-lo+1:=jL (by omega)
 obtain ⟨r,s',k1,k2,k3,k4⟩:=Aq s (hi-lo+1) hs hb (by omega) (by omega)
 simp only [jD,hd,cond_false,e1,e2,k1,ob_]
 exact⟨_,s',rfl,by rw [jL (by omega)];omega,by rw [jL (by omega)];omega,k4⟩
def lowB (b:UInt8):Bool:=decide (97<=b.toNat)&&decide (b.toNat<=122)
def moreB (b:UInt8):Bool:=(decide (48<=b.toNat)&&decide (b.toNat<=57))||(b.toNat==45)||(b.toNat==95)
def okB (i:Nat) (b:UInt8):Bool:=lowB b||(decide (0<i)&&moreB b)
def pM (s:ByteArray) (i:Nat):UInt8:=s.data.toList.getD i 0
def oD (s:ByteArray):Bool:=decide (s.size≠0)&&(decide (s.size<=40)&&(List.range s.size).all λi=>okB i (pM s i))
theorem Lu (s:ByteArray) (k:Nat) (h:k<s.size):mX s (k:Int)=some (pM s k):=by
 have h1:s[k]? = some s[k]:=by simp [h]
 have h2:pM s k=s[k]:=by
  have hl:k<s.data.toList.length:=by rw [<- Go.Lib.size_eq];exact h
  simp only [pM,List.getD_eq_getElem?_getD,List.getElem?_eq_getElem hl,Option.getD_some]
  simp
  rfl
 simp only [mX,if_pos (Int.natCast_nonneg k),Int.toNat_natCast,h1,h2]
theorem Gb (s:ByteArray) (k:Nat) (hs:s.size<=1000000000):iG s (k:Int)=some (if k<s.size then (bif okB k (pM s k)then .go ((k+1:Nat):Int)else .ret false)else .brk (k:Int)):=by
 unfold iG
 by_cases h:k<s.size
 ·have hd:decide ((k:Int)<(s.size:Int))=true:=by simp;omega
  have hw:w64 ((k:Int)+1)=((k+1:Nat):Int):=by rw [jL (by omega)];omega
  simp only [hd,cond_true,Lu s k h,ob_,if_pos h,hw]
  generalize pM s k=b
  simp only [okB,lowB,moreB]
  have e1:decide ((b.toNat:Int)>=97)=decide (97<=b.toNat):=decide_eq_decide.2 (by omega)
  have e2:decide ((b.toNat:Int)<=122)=decide (b.toNat<=122):=decide_eq_decide.2 (by omega)
  have e3:decide ((k:Int)>0)=decide (0<k):=decide_eq_decide.2 (by omega)
  have e4:decide ((b.toNat:Int)>=48)=decide (48<=b.toNat):=decide_eq_decide.2 (by omega)
  have e5:decide ((b.toNat:Int)<=57)=decide (b.toNat<=57):=decide_eq_decide.2 (by omega)
  have e6:((b.toNat:Int)==45)=(b.toNat==45):=by rw [Bool.eq_iff_iff];simp;omega
  have e7:((b.toNat:Int)==95)=(b.toNat==95):=by rw [Bool.eq_iff_iff];simp;omega
  rw [e1,e2,e3,e4,e5,e6,e7]
  cases decide (97<=b.toNat) <;> cases decide (b.toNat<=122) <;> cases decide (0<k) <;> cases decide (48<=b.toNat) <;> cases decide (b.toNat<=57) <;> cases (b.toNat==45) <;> cases (b.toNat==95) <;> rfl
 ·have hd:decide ((k:Int)<(s.size:Int))=false:=by simp;omega
  simp only [hd,cond_false,if_neg h]
theorem Bc (s:ByteArray) (hs:s.size<=1000000000):∀(n k:Nat),k+n=s.size->iterN (λi=>iG s i) (n+1) (k:Int)=some (bif (List.range' k n).all (λj=>okB j (pM s j))then .go (s.size:Int)else .ret false)
 | 0,k,h=>by
  have hk:¬k<s.size:=by omega
  simp only [iterN,Gb s k hs,if_neg hk,ob_,List.range'_zero,List.all_nil,cond_true]
  rw [show (k:Int)=s.size by omega]
 | n+1,k,h=>by
  have hk:k<s.size:=by omega
  rw [iterN,Gb s k hs,if_pos hk,ob_,List.range'_succ,List.all_cons]
  cases okB k (pM s k)with
  | true=>simp only [cond_true,Bool.true_and];exact Bc s hs n (k+1) (by omega)
  | false=>rfl
theorem BK (s:ByteArray) (hs:s.size<=1000000000):fe s=some (oD s):=by
 have h:=Cr (Bc s hs s.size 0 (by omega))
 unfold fe
 have h':kT (0:Int) (λs_1=>iG s s_1)=_:=h
 rw [h',ob_,<- List.range_eq_range']
 have e:decide ((s.size:Int)<=40)=decide (s.size<=40):=decide_eq_decide.2 (by omega)
 simp only [oD]
 cases (List.range s.size).all (λi=>okB i (pM s i))with
 | true =>
  rw [cond_true,nQ,sNe_nil,e,Bool.and_true]
  cases decide (s.size≠0) <;> rfl
 | false=>simp only [cond_false,Jh,Bool.and_false]
theorem Au {s:ByteArray} (h:oD s=true):s.size≠0:=by
 simp only [oD,Bool.and_eq_true,decide_eq_true_eq]at h
 exact h.1
def rW (s:ByteArray):Prop:=s.size<=1000
def wy (x:Entry):Prop:=rW x.Key/\rW x.Item/\x.Except.length<=50/\x.Tags.length<=20/\∀t∈x.Tags,rW t
theorem yV {s:ByteArray} (h:Nat.ble s.size 1000=true):rW s:=Nat.le_of_ble_eq_true h
theorem pq {α:Type} (xs ys:List α) (h:xs.length+ys.length<=1000000000):ji xs ys=some (xs++ys):=by unfold ji;rw [if_pos h]
abbrev SB (l:List UInt8):ByteArray:=⟨l.toArray⟩
theorem sb_of (s:ByteArray):SB s.data.toList=s:=rfl
theorem sb_inj {l m:List UInt8} (h:SB l=SB m):l=m:=by
 have:=congrArg (λs:ByteArray=>s.data.toList) h
 simpa using this
theorem KQ {a b:ByteArray} (h:a.data.toList=b.data.toList):a=b:=by rw [<- sb_of a,<- sb_of b,h]
def Med (n:Int):Prop := -1000000000000000<=n/\n<=1000000000000000
theorem itoa_eq {n:Int} (h:Med n):strconv_Itoa n=some (SB (Go.Lib.itoa n)):=by
 unfold strconv_Itoa Iy
 unfold Med at h
 rw [if_pos ⟨by omega,by omega⟩]
theorem FE {n:Int} (h:Med n):(Go.Lib.itoa n).length<=21:=by
 unfold Med at h
 exact Go.Lib.itoa_length_le n (by omega) (by omega)
theorem Bt (sep y:List UInt8) (r:List (List UInt8)):Go.Lib.joinTail sep (y::r)=sep++y++Go.Lib.joinTail sep r:=by simp [Go.Lib.joinTail]
theorem FL (sep:List UInt8) (m:Nat):∀(r:List (List UInt8)),(∀x∈r,x.length<=m)->(Go.Lib.joinTail sep r).length<=r.length*(m+sep.length)
 | [],_=>by simp [Go.Lib.joinTail]
 | y::r,hy=>by
  rw [Bt,List.length_append,List.length_append,List.length_cons,Nat.add_mul]
  have:=FL sep m r (λx hx=>hy x (List.mem_cons_of_mem _ hx))
  have:=hy y (by simp)
  omega
theorem IZ (sep:List UInt8) (m:Nat):∀(ls:List (List UInt8)),(∀x∈ls,x.length<=m)->(Go.Lib.join ls sep).length<=ls.length*(m+sep.length)
 | [],h=>by simp [Go.Lib.join_nil]
 | x::r,h=>by
  rw [Go.Lib.join_cons,List.length_append,List.length_cons,Nat.add_mul]
  have:=FL sep m r (λx hx=>h x (List.mem_cons_of_mem _ hx))
  have:=h x (by simp)
  omega
theorem Gv (ls:List (List UInt8)) (sep:List UInt8) (m:Nat) (h:∀x∈ls,x.length<=m) (hl:ls.length<=1000000) (hm:m+sep.length<=10000):strings_Join (ls.map SB) (SB sep)=some (SB (Go.Lib.join ls sep)):=by
 have h1:=IZ sep m ls h
 have h2:ls.length*(m+sep.length)<=1000000*10000:=Nat.mul_le_mul hl hm
 have e:(ls.map SB).map (λx=>x.data.toList)=ls:=by rw [List.map_map];exact List.map_id' ls
 unfold strings_Join Ic
 rw [e]
 have e2:(SB sep).data.toList=sep:=rfl
 rw [e2,if_pos ⟨by simp;omega,by omega⟩]
theorem zH:∀(l:List Int) (k:Nat) (out:List ByteArray),(∀n∈l,Med n)->l.length+out.length<=1000000->forR (λk x s=>jb k x s) l k out=some (.go (out++l.map λn=>SB (Go.Lib.itoa n)))
 | [],k,out,h,hl=>by simp [forR]
 | n::l,k,out,h,hl=>by
  simp only [List.length_cons]at hl
  have ih:=zH l (k+1) (out++[SB (Go.Lib.itoa n)]) (λx hx=>h x (List.mem_cons_of_mem _ hx)) (by simp;omega)
  have hstep:jb k n out=some (.go (out++[SB (Go.Lib.itoa n)])):=by
   unfold jb
   rw [itoa_eq (h n (by simp))]
   simp only [ob_]
   rw [pq _ _ (by simp;omega)]
   rfl
  simp only [forR,hstep,ob_]
  rw [ih]
  simp
theorem G9 (l:List Int) (h:∀n∈l,Med n) (hl:l.length<=1000000):nS l=some (SB (Go.Lib.join (l.map Go.Lib.itoa) [32])):=by
 unfold nS
 rw [lF (by omega),zH l 0 [] h (by simpa using hl)]
 simp only [ob_,nQ,List.nil_append]
 have e:(l.map λn=>SB (Go.Lib.itoa n))=(l.map Go.Lib.itoa).map SB:=by rw [List.map_map];rfl
 rw [e,Gv _ [32] 21 (λx hx=>by
  obtain ⟨n,hn,rfl⟩:=List.mem_map.1 hx
  exact FE (h n hn)) (by simpa using hl) (by decide)]
 rfl
def Jt (b:UInt8):Bool:=decide (48<=b.toNat)&&decide (b.toNat<=57)
def numOf (l:List UInt8):Nat:=l.foldl (λa b=>a*10+(b.toNat-48)) 0
theorem AC {n:Nat} (h:n<10):(UInt8.ofNat (48+n)).toNat=48+n:=by
 rw [UInt8.toNat_ofNat',Nat.mod_eq_of_lt (by omega)]
theorem Cm {u:Nat} (h:u<10):Go.Lib.decDigits u=[UInt8.ofNat (48+u)]:=by rw [Go.Lib.decDigits,dif_pos h]
theorem FY {u:Nat} (h:¬u<10):Go.Lib.decDigits u=Go.Lib.decDigits (u / 10)++[UInt8.ofNat (48+u % 10)]:=by rw [Go.Lib.decDigits,dif_neg h]
theorem J9 (u:Nat):(Go.Lib.decDigits u).all Jt=true:=by
 induction u using Nat.strongRecOn with
 | ind u ih =>
  by_cases h:u<10
  ·rw [Cm h]
   have:=AC h
   simp only [List.all_cons,List.all_nil,Bool.and_true,Jt,this,Bool.and_eq_true,decide_eq_true_eq]
   omega
  ·rw [FY h,List.all_append,ih (u / 10) (by omega)]
   have:=AC (show u % 10<10 by omega)
   simp only [List.all_cons,List.all_nil,Bool.and_true,Bool.true_and,Jt,this,Bool.and_eq_true,decide_eq_true_eq]
   omega
theorem C8 (u:Nat):numOf (Go.Lib.decDigits u)=u:=by
 induction u using Nat.strongRecOn with
 | ind u ih =>
  by_cases h:u<10
  ·rw [Cm h]
   have:=AC h
   simp only [numOf,List.foldl_cons,List.foldl_nil,this]
   omega
  ·rw [FY h]
   have:=AC (show u % 10<10 by omega)
   have h2:=ih (u / 10) (by omega)
   unfold numOf at h2 ⊢
   rw [List.foldl_append,h2]
   simp only [List.foldl_cons,List.foldl_nil,this]
   omega
theorem Kq {u v:Nat} (h:Go.Lib.decDigits u=Go.Lib.decDigits v):u=v:=by rw [<- C8 u,<- C8 v,h]
theorem LF {n:Int} (h:0<=n):Go.Lib.itoa n=Go.Lib.decDigits n.toNat:=by unfold Go.Lib.itoa;rw [if_neg (by omega)]
theorem D5 {n m:Int} (hn:0<=n) (hm:0<=m) (h:Go.Lib.itoa n=Go.Lib.itoa m):n=m:=by
 rw [LF hn,LF hm]at h
 have:=Kq h
 omega
theorem dig_no {c:UInt8} (hc:Jt c=false) {l:List UInt8} (h:l.all Jt=true):c∉l:=λhm=>by
 have:=List.all_eq_true.1 h c hm
 rw [hc]at this;cases this
theorem Az {n:Int} (hn:0<=n) {c:UInt8} (hc:Jt c=false):c∉Go.Lib.itoa n:=by rw [LF hn];exact dig_no hc (J9 _)
theorem yo {c:UInt8}:∀{a b x y:List UInt8},c∉a->c∉b->a++c::x=b++c::y->a=b/\x=y
 | [],[],x,y,_,_,h=>⟨rfl,by simpa using h⟩
 | [],b::bs,x,y,_,hb,h=>by
  simp only [List.nil_append,List.cons_append,List.cons.injEq]at h
  exact absurd (List.mem_cons.2 (.inl h.1)) hb
 | a::r,[],x,y,ha,_,h=>by
  simp only [List.nil_append,List.cons_append,List.cons.injEq]at h
  exact absurd (List.mem_cons.2 (.inl h.1.symm)) ha
 | a::r,b::bs,x,y,ha,hb,h=>by
  simp only [List.cons_append,List.cons.injEq]at h
  obtain ⟨h1,h2⟩:=yo (λhm=>ha (List.mem_cons_of_mem _ hm)) (λhm=>hb (List.mem_cons_of_mem _ hm)) h.2
  exact⟨by rw [h.1,h1],h2⟩
theorem key_all {s:ByteArray} (h:oD s=true):∀b∈s.data.toList,okB 1 b=true:=λb hb=>by
 simp only [oD,Bool.and_eq_true,List.all_eq_true]at h
 obtain ⟨i,hi,rfl⟩:=List.getElem_of_mem hb
 have hs:i<s.size:=by rw [Go.Lib.size_eq];exact hi
 have:=h.2.2 i (by simpa using hs)
 have e:pM s i=s.data.toList[i]:=by
  simp only [pM,List.getD_eq_getElem?_getD,List.getElem?_eq_getElem hi,Option.getD_some]
 rw [e]at this
 simp only [okB,Bool.or_eq_true,Bool.and_eq_true]at this ⊢
 rcases this with k|k
 ·exact .inl k
 ·exact .inr ⟨by decide,k.2⟩
theorem Ef {s:ByteArray} (h:oD s=true) {c:UInt8} (hc:okB 1 c=false):c∉s.data.toList:=λhm=>by
 have:=key_all h c hm
 rw [hc]at this;cases this
def yB:ByteArray:=⟨#[]⟩
def ww {α:Type} (key:α->ByteArray) (l:List α) (k:Nat):ByteArray:=if k=0 then yB else match l[k-1]? with | some y=>key y | none=>yB
def chk {α:Type} (key:α->ByteArray) (stp:ByteArray->α->Int):ByteArray->List α->Int
 | _,[]=>0
 | last,x::xs=>bif stp last x==0 then chk key stp (key x) xs else stp last x
def A8 (e:Int):Ctl Unit Int:=bif e==0 then .go ()else .ret e
theorem Bb {α:Type} {key:α->ByteArray} {stp:ByteArray->α->Int} {body:Nat->α->Unit->Option (Ctl Unit Int)} (l:List α):∀(xs:List α) (k:Nat),l.drop k=xs->(∀k x,l[k]? = some x->body k x ()=some (A8 (stp (ww key l k) x))) ->
  forR body xs k ()=some (A8 (chk key stp (ww key l k) xs))
 | [],k,h,hb=>rfl
 | x::xs,k,h,hb=>by
  have hg:=CF h
  rw [forR,hb k x hg,ob_,chk]
  cases he:stp (ww key l k) x==0 with
  | true =>
   simp only [A8,he,cond_true]
   rw [Bb l xs (k+1) (aR h) hb]
   have:ww key l (k+1)=key x:=by simp [ww,hg]
   rw [this];rfl
  | false=>simp only [A8,he,cond_false]
theorem yP (e:Int):thenC (A8 e) (λ_=>some (0:Int)) (λr=>some r)=some e:=by
 unfold A8
 cases h:e==0 with
 | true=>simp only [cond_true,nQ];rw [eq_of_beq h]
 | false=>rfl
def Ha (last x:ByteArray):Int:=bif !oD x then 5 else bif sLe x last then 7 else 0
def Iw (l:List ByteArray):Int:=bif decide (l.length>20)then 2 else chk id Ha yB l
theorem F9 {α:Type} {l:List α} {k:Nat} {x:α} (h:l[k]? = some x) (hk:0<k) (hl:l.length<=1000000000):∃y,idx l (w64 ((k:Int)-1))=some y/\l[k-1]? = some y:=by
 have hlt:k<l.length:=(List.getElem?_eq_some_iff.1 h).1
 rw [jL (by omega),show (k:Int)-1=((k-1:Nat):Int) by omega,AJ]
 exact⟨l[k-1],List.getElem?_eq_getElem (by omega),List.getElem?_eq_getElem (by omega)⟩
theorem Da {α:Type} {key:α->ByteArray} {l:List α} {k:Nat} {x:α} {s:ByteArray} (h:l[k]? = some x) (hl:l.length<=1000000000) (hs:s.size≠0) :
  (bif decide ((k:Int)>0)then (idx l (w64 ((k:Int)-1))).bind λy=>some (sLe s (key y))else some false)=some (sLe s (ww key l k)):=by
 by_cases hk:0<k
 ·obtain ⟨y,h1,h2⟩:=F9 h hk hl
  have hd:decide ((k:Int)>0)=true:=by simp;omega
  simp only [hd,cond_true,h1,ob_,ww,if_neg (show ¬k=0 by omega),h2]
 ·have hk0:k=0:=by omega
  subst hk0
  simp only [ww,if_pos,yB,IJ,decide_eq_false hs]
  rfl
theorem tagsK (l:List ByteArray) (hs:∀t∈l,rW t) (hl:l.length<=1000000000):eY l=some (Iw l):=by
 unfold eY Iw
 have e:decide ((l.length:Int)>20)=decide (l.length>20):=decide_eq_decide.2 (by omega)
 rw [e]
 cases decide (l.length>20)with
 | true=>rfl
 | false =>
  simp only [cond_false]
  unfold gP
  rw [lF (by omega),Bb (key:=id) (stp:=Ha) l l 0 rfl (λk x hx => ?_)]
  ·simp only [ob_,yP];rfl
  ·have hxs:rW x:=hs x (List.mem_of_getElem? hx)
   simp only [fP,BK x (by unfold rW at hxs;omega),ob_,Ha]
   cases hk:oD x with
   | false=>rfl
   | true =>
    simp only [Bool.not_true,cond_false]
    have:=Da (key:=id) hx hl (Au hk)
    simp only [id]at this
    rw [this,ob_]
    cases sLe x (ww id l k) <;> rfl
def chkG {α:Type} (stp:Option α->α->Int):Option α->List α->Int
 | _,[]=>0
 | p,x::xs=>bif stp p x==0 then chkG stp (some x) xs else stp p x
def zK {α:Type} (l:List α) (k:Nat):Option α:=if k=0 then none else l[k-1]?
theorem C9 {α:Type} {stp:Option α->α->Int} {body:Nat->α->Unit->Option (Ctl Unit Int)} (l:List α):∀(xs:List α) (k:Nat),l.drop k=xs->(∀k x,l[k]? = some x->body k x ()=some (A8 (stp (zK l k) x))) ->
  forR body xs k ()=some (A8 (chkG stp (zK l k) xs))
 | [],k,h,hb=>rfl
 | x::xs,k,h,hb=>by
  have hg:=CF h
  rw [forR,hb k x hg,ob_,chkG]
  cases he:stp (zK l k) x==0 with
  | true =>
   simp only [A8,he,cond_true]
   rw [C9 l xs (k+1) (aR h) hb]
   have:zK l (k+1)=some x:=by simp [zK,hg]
   rw [this];rfl
  | false=>simp only [A8,he,cond_false]
def iy (n lo hi:Int):Bool:=decide (n<lo)||decide (n>hi)
theorem GH (n lo hi:Int):aN n lo hi=some (iy n lo hi):=by
 unfold aN iy
 cases decide (n<lo) <;> cases decide (n>hi) <;> rfl
def leP (p:Option Int) (x:Int):Bool:=match p with
 | none=>false
 | some y=>decide (x<=y)
def Kk (p:Option Int) (x:Int):Int:=bif iy x 0 4000 then 1 else bif leP p x then 7 else 0
def exF (l:List Int):Int:=bif decide (l.length>100)then 2 else chkG Kk none l
theorem Hl {l:List Int} {k:Nat} {x:Int} (h:l[k]? = some x) (hl:l.length<=1000000000) :
  (bif decide ((k:Int)>0)then (idx l (w64 ((k:Int)-1))).bind λy=>some (decide (x<=y))else some false)=some (leP (zK l k) x):=by
 by_cases hk:0<k
 ·obtain ⟨y,h1,h2⟩:=F9 h hk hl
  have hd:decide ((k:Int)>0)=true:=by simp;omega
  simp only [hd,cond_true,h1,ob_,zK,if_neg (show ¬k=0 by omega),h2,leP]
 ·have hk0:k=0:=by omega
  subst hk0
  rfl
theorem KE (n:Int):rX n=some (!iy n 0 4000):=by
 unfold rX iy
 have e1:decide (n>=0) = !decide (n<0):=by rw [Bool.eq_iff_iff];simp
 have e2:decide (n<=4000) = !decide (n>4000):=by rw [Bool.eq_iff_iff];simp
 rw [e1,e2]
 cases decide (n<0) <;> cases decide (n>4000) <;> rfl
theorem exK (l:List Int) (hl:l.length<=1000000000):fo l=some (exF l):=by
 unfold fo exF
 have e:decide ((l.length:Int)>100)=decide (l.length>100):=decide_eq_decide.2 (by omega)
 rw [e]
 cases decide (l.length>100)with
 | true=>rfl
 | false =>
  simp only [cond_false]
  rw [lF (by omega),C9 (stp:=Kk) l l 0 rfl (λk x hx => ?_)]
  ·simp only [ob_,yP];rfl
  ·simp only [gK,KE,ob_,Kk]
   cases iy x 0 4000 with
   | true=>rfl
   | false =>
    simp only [Bool.not_false,Bool.not_true,cond_false]
    rw [Hl hx hl,ob_]
    cases leP (zK l k) x <;> rfl
def sM (e:Entry):Int :=
 bif !oD e.Key || !oD e.Item then 5 else
 bif iy e.Version 0 1000000||(iy e.First 0 e.Last||(decide (e.Last>4000)||(iy e.Every 1 400||iy e.Days 1 127)))then 1 else
 bif exF e.Except==0 then (bif iy e.From 0 1439||(iy e.To 0 1439||iy e.Prio 0 9)then 1 else Iw e.Tags)else exF e.Except
theorem entK (e:Entry) (h:wy e):eu e=some (sM e):=by
 obtain ⟨h1,h2,h3,h4,h5⟩:=h
 unfold rW at h1 h2
 unfold eu sM
 simp only [BK e.Key (by omega),BK e.Item (by omega),GH,exK e.Except (by omega),tagsK e.Tags h5 (by omega),ob_]
 cases oD e.Key with
 | false=>rfl
 | true =>
 cases oD e.Item with
 | false=>rfl
 | true =>
 simp only [Bool.not_true,cond_false,ob_,Bool.or_self,Bool.false_or]
 cases iy e.Version 0 1000000 with
 | true=>rfl
 | false =>
 cases iy e.First 0 e.Last with
 | true=>rfl
 | false =>
 cases decide (e.Last>4000)with
 | true=>rfl
 | false =>
 cases iy e.Every 1 400 with
 | true=>rfl
 | false =>
 cases iy e.Days 1 127 with
 | true=>rfl
 | false =>
 simp only [cond_false,ob_,Bool.or_self]
 cases hx:exF e.Except==0 with
 | false =>
  have:(exF e.Except != 0)=true:=by simp [bne,hx]
  simp only [this,cond_true,cond_false]
 | true =>
  have:(exF e.Except != 0)=false:=by simp [bne,hx]
  simp only [this,cond_true,cond_false]
  cases iy e.From 0 1439 with
  | true=>rfl
  | false =>
  cases iy e.To 0 1439 with
  | true=>rfl
  | false =>
  cases iy e.Prio 0 9 with
  | true=>rfl
  | false=>rfl
theorem J3 {e:Entry} (h:sM e=0):e.Key.size≠0:=by
 unfold sM at h
 cases hk:oD e.Key with
 | false=>rw [hk]at h;cases h
 | true=>exact Au hk
structure Ends (l:List ByteArray) (t:ByteArray) (i j:Nat):Prop where
 le:i<=j
 len:j<=l.length
 lo:∀k (h:k<l.length),k<i->lt l[k] t
 hi:∀k (h:k<l.length),j<=k->¬lt l[k] t
namespace I
def lt (a b:Int):Prop:=a<b
theorem tX (a:Int):¬lt a a:=Int.lt_irrefl a
theorem lt_trans {a b c:Int} (h:lt a b) (k:lt b c):lt a c:=Int.lt_trans h k
def sLt (a b:Int):Bool:=decide (a<b)
theorem EU (a b:Int):sLt a b=true↔lt a b:=by simp [sLt,lt]
structure Ends (l:List Int) (t:Int) (i j:Nat):Prop where
 le:i<=j
 len:j<=l.length
 lo:∀k (h:k<l.length),k<i->lt l[k] t
 hi:∀k (h:k<l.length),j<=k->¬lt l[k] t
end I
structure Right (e:Entry):Prop where
 first:0<=e.First/\e.First<=e.Last
 last:e.Last<=4000
 every:1<=e.Every
 days:1<=e.Days/\e.Days<=127
 ex:exF e.Except=0
 from_:0<=e.From/\e.From<=1439
 to_:0<=e.To/\e.To<=1439
theorem uH {n lo hi:Int} (h:iy n lo hi=false):lo<=n/\n<=hi:=by
 simp only [iy,Bool.or_eq_false_iff,decide_eq_false_iff_not]at h;omega
theorem EY {n lo hi:Int} (h:lo<=n/\n<=hi):iy n lo hi=false:=by
 simp only [iy,Bool.or_eq_false_iff,decide_eq_false_iff_not];omega
theorem BI (l2:List Int):∀(xs:List Int) (k:Nat),xs.length=(l2.drop k).length->∃o,forR (λk x s=>dI l2 k x s) xs k ()=some o/\thenC o (λ_=>some true) (λr=>some r)=some (decide (xs=l2.drop k))
 | [],k,h=>⟨_,rfl,by
  have:l2.drop k=[]:=List.eq_nil_of_length_eq_zero h.symm
  rw [this];rfl⟩
 | x::xs,k,h=>by
  have hk:k<l2.length:=by
   rw [List.length_drop]at h
   simp only [List.length_cons]at h
   omega
  have hd:l2.drop k=l2[k]::l2.drop (k+1):=List.drop_eq_getElem_cons hk
  rw [hd]at h ⊢
  obtain ⟨o,h1,h2⟩:=BI l2 xs (k+1) (by simp only [List.length_cons]at h;omega)
  have hstep:dI l2 k x ()=some (bif x != l2[k]then .ret false else .go ()):=by
   unfold dI
   rw [AJ,List.getElem?_eq_getElem hk]
   simp only [ob_]
   cases (x != l2[k]) <;> rfl
  by_cases he:x=l2[k]
  ·have e1:(x != l2[k])=false:=by simp [he]
   refine⟨o,by simp only [forR,hstep,e1,cond_false,ob_];exact h1,?_⟩
   rw [h2]
   simp only [he,List.cons.injEq,true_and]
  ·have e1:(x != l2[k])=true:=by simp [he]
   refine⟨.ret false,by simp only [forR,hstep,e1,cond_true,ob_],?_⟩
   rw [decide_eq_false (λhh=>he (List.cons.inj hh).1)];rfl
theorem DT (l m:List Int) (hl:l.length<=1000000000):fq l m=some (decide (l=m)):=by
 unfold fq
 by_cases hn:l.length=m.length
 ·have e1:((l.length:Int) != (m.length:Int))=false:=by simp [hn]
  rw [e1,cond_false]
  obtain ⟨o,h1,h2⟩:=BI m l 0 (by simpa using hn)
  rw [lF (by omega),h1]
  simpa using h2
 ·have e1:((l.length:Int) != (m.length:Int))=true:=by simp;omega
  have e2:l≠m:=λh=>hn (by rw [h])
  rw [e1,cond_true]
  simp [e2]
theorem Cf (l2:List ByteArray):∀(xs:List ByteArray) (k:Nat),xs.length=(l2.drop k).length->∃o,forR (λk x s=>bU l2 k x s) xs k ()=some o/\thenC o (λ_=>some true) (λr=>some r)=some (decide (xs=l2.drop k))
 | [],k,h=>⟨_,rfl,by
  have:l2.drop k=[]:=List.eq_nil_of_length_eq_zero h.symm
  rw [this];rfl⟩
 | x::xs,k,h=>by
  have hk:k<l2.length:=by
   rw [List.length_drop]at h
   simp only [List.length_cons]at h
   omega
  have hd:l2.drop k=l2[k]::l2.drop (k+1):=List.drop_eq_getElem_cons hk
  rw [hd]at h ⊢
  obtain ⟨o,h1,h2⟩:=Cf l2 xs (k+1) (by simp only [List.length_cons]at h;omega)
  have hstep:bU l2 k x ()=some (bif sNe x l2[k]then .ret false else .go ()):=by
   unfold bU
   rw [AJ,List.getElem?_eq_getElem hk]
   simp only [ob_]
   cases (sNe x l2[k]) <;> rfl
  by_cases he:x=l2[k]
  ·have e1:(sNe x l2[k])=false:=by rw [E8];simp [he]
   refine⟨o,by simp only [forR,hstep,e1,cond_false,ob_];exact h1,?_⟩
   rw [h2]
   simp only [he,List.cons.injEq,true_and]
  ·have e1:(sNe x l2[k])=true:=by rw [E8];simp [he]
   refine⟨.ret false,by simp only [forR,hstep,e1,cond_true,ob_],?_⟩
   rw [decide_eq_false (λhh=>he (List.cons.inj hh).1)];rfl
theorem DU (l m:List ByteArray) (hl:l.length<=1000000000):cZ l m=some (decide (l=m)):=by
 unfold cZ
 by_cases hn:l.length=m.length
 ·have e1:((l.length:Int) != (m.length:Int))=false:=by simp [hn]
  rw [e1,cond_false]
  obtain ⟨o,h1,h2⟩:=Cf m l 0 (by simpa using hn)
  rw [lF (by omega),h1]
  simpa using h2
 ·have e1:((l.length:Int) != (m.length:Int))=true:=by simp;omega
  have e2:l≠m:=λh=>hn (by rw [h])
  rw [e1,cond_true]
  simp [e2]
deriving instance DecidableEq for Entry
theorem qB (c:Bool) {X:Option Bool} {p:Bool} (h:X=some p):(bif c then X else some false)=some (c&&p):=by cases c <;> simp [h]
theorem JV (a b:Entry) (ha:a.Except.length<=1000/\a.Tags.length<=1000):jG a b=some (decide (a=b)):=by
 unfold jG
 rw [DT _ _ (by omega),DU _ _ (by omega)]
 simp only [ob_]
 rw [qB _ (qB _ (qB _ (qB _ (qB _ (qB _ (qB _ (qB _ (qB _ (qB _ (qB _ (qB _ rfl)))))))))))]
 obtain ⟨a1,a2,a3,a4,a5,a6,a7,a8,a9,a10,a11,a12,a13⟩:=a
 obtain ⟨b1,b2,b3,b4,b5,b6,b7,b8,b9,b10,b11,b12,b13⟩:=b
 simp only [ob_,Er]
 congr 1
 rw [Bool.eq_iff_iff]
 simp only [Bool.and_eq_true,decide_eq_true_eq,beq_iff_eq,Entry.mk.injEq]
def sV (e:Entry):List Int:=[e.Version,e.First,e.Last,e.Every,e.Days,e.From,e.To,e.Prio]
def I7 (b:Bool):List UInt8:=bif b then [103,111,110,101]else [111,110]
def I5 (e:Entry):List UInt8:=Go.Lib.join [e.Key.data.toList,e.Item.data.toList,Go.Lib.join ((sV e).map Go.Lib.itoa) [32],I7 e.Gone,[45],[45]] [32]
def MedE (e:Entry):Prop:=∀n∈sV e,Med n
theorem DZ {s:ByteArray} (h:rW s):s.data.toList.length<=1000:=by rw [<- Go.Lib.size_eq];exact h
theorem Lj (e:Entry) (h:MedE e):(Go.Lib.join ((sV e).map Go.Lib.itoa) [32]).length<=200:=by
 have:=IZ [32] 21 ((sV e).map Go.Lib.itoa) (λx hx=>by
  obtain ⟨n,hn,rfl⟩:=List.mem_map.1 hx
  exact FE (h n hn))
 simp only [List.length_map,sV,List.length_cons,List.length_nil]at this
 simp only [sV]
 omega
theorem IX {k i:ByteArray} {a1 a2 a3 a4 a5 a6 a7 a8:Int} {g:Bool} (hk:rW k) (hi:rW i) (h:MedE ⟨k,i,a1,a2,a3,a4,a5,[],a6,a7,a8,[],g⟩) :
  jF ⟨k,i,a1,a2,a3,a4,a5,[],a6,a7,a8,[],g⟩=some (SB (I5 ⟨k,i,a1,a2,a3,a4,a5,[],a6,a7,a8,[],g⟩)):=by
 have hn:=Lj _ h
 unfold jF
 have e1:(bif g then some (⟨#[103,111,110,101]⟩:ByteArray)else some (⟨#[111,110]⟩:ByteArray))=some (SB (I7 g)):=by cases g <;> rfl
 have e2:pY []=some (SB [45]):=rfl
 have e3:=G9 (sV ⟨k,i,a1,a2,a3,a4,a5,[],a6,a7,a8,[],g⟩) h (by simp [sV])
 simp only [sV]at e3
 have e4:forL ([]:List Int) ([]:List ByteArray) (λk x s=>kI k x s)=some (.go []):=rfl
 simp only [e4,ob_,nQ,e1,e2,e3]
 have e5:=Gv [k.data.toList,i.data.toList,Go.Lib.join ((sV ⟨k,i,a1,a2,a3,a4,a5,[],a6,a7,a8,[],g⟩).map Go.Lib.itoa) [32],I7 g,[45],[45]] [32] 1000 (λx hx=>by
  simp only [List.mem_cons,List.not_mem_nil,or_false]at hx
  rcases hx with rfl|rfl|rfl|rfl|rfl|rfl
  ·exact DZ hk
  ·exact DZ hi
  ·omega
  ·cases g <;> decide
  ·decide
  ·decide) (by simp) (by decide)
 exact (congrArg (λo=>o.bind λr=>some r) e5).trans rfl
theorem join2 (x y:List UInt8) (r:List (List UInt8)) (sep:List UInt8):Go.Lib.join (x::y::r) sep=x++(sep++Go.Lib.join (y::r) sep):=by
 rw [Go.Lib.join_cons,Bt,Go.Lib.join_cons,List.append_assoc]
def PosE (e:Entry):Prop:=oD e.Key=true/\oD e.Item=true/\∀n∈sV e,0<=n
theorem joinI (n m:Int) (r:List Int):Go.Lib.join ((n::m::r).map Go.Lib.itoa) [32]=Go.Lib.itoa n++32::Go.Lib.join ((m::r).map Go.Lib.itoa) [32]:=by
 simp only [List.map_cons,join2];rfl
theorem FR:∀{l m:List Int} {x y:List UInt8},l.length=m.length->l ≠ []->(∀n∈l,0<=n)->(∀n∈m,0<=n)->Go.Lib.join (l.map Go.Lib.itoa) [32]++32::x=Go.Lib.join (m.map Go.Lib.itoa) [32]++32::y->l=m/\x=y
 | [],_,_,_,_,hne,_,_,_=>absurd rfl hne
 | [n],[m],x,y,_,_,hn,hm,h=>by
  simp only [List.map_cons,List.map_nil,Go.Lib.join_one]at h
  obtain ⟨h1,h2⟩:=yo (Az (hn n (by simp)) (by decide)) (Az (hm m (by simp)) (by decide)) h
  exact⟨by rw [D5 (hn n (by simp)) (hm m (by simp)) h1],h2⟩
 | n::n2::l,m::m2::r,x,y,hl,_,hn,hm,h=>by
  rw [joinI,joinI,List.append_assoc,List.append_assoc]at h
  simp only [List.cons_append]at h
  obtain ⟨h1,h2⟩:=yo (Az (hn n (by simp)) (by decide)) (Az (hm m (by simp)) (by decide)) h
  obtain ⟨h3,h4⟩:=FR (l:=n2::l) (m:=m2::r) (by simpa using hl) (by simp) (λa ha=>hn a (List.mem_cons_of_mem _ ha)) (λa ha=>hm a (List.mem_cons_of_mem _ ha)) h2
  exact⟨by rw [h3,D5 (hn n (by simp)) (hm m (by simp)) h1],h4⟩
 | [_],[],_,_,hl,_,_,_,_=>by simp at hl
 | [_],_::_::_,_,_,hl,_,_,_,_=>by simp at hl
 | _::_::_,[],_,_,hl,_,_,_,_=>by simp at hl
 | _::_::_,[_],_,_,hl,_,_,_,_=>by simp at hl
theorem Jz {a b:Entry} (ha:PosE a) (hb:PosE b) (h:I5 a=I5 b):a.Key=b.Key/\a.Item=b.Item/\sV a=sV b/\a.Gone=b.Gone:=by
 unfold I5 at h
 simp only [join2,List.cons_append,List.nil_append]at h
 obtain ⟨h1,h2⟩:=yo (Ef ha.1 (by decide)) (Ef hb.1 (by decide)) h
 obtain ⟨h3,h4⟩:=yo (Ef ha.2.1 (by decide)) (Ef hb.2.1 (by decide)) h2
 obtain ⟨h5,h6⟩:=FR (l:=sV a) (m:=sV b) rfl (by simp [sV]) ha.2.2 hb.2.2 h4
 refine⟨KQ h1,KQ h3,h5,?_⟩
 cases hg:a.Gone <;> cases hh:b.Gone <;> rw [hg,hh]at h6 <;> simp [I7]at h6 ⊢
end Go.Proofs.YtnjnggakgeommaaGreatDoor.Law

