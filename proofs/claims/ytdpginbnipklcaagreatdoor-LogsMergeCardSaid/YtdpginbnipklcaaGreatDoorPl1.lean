/-
  THE PLAIN LAW (part 1).
-/
import Derived.Test.YtdpginbnipklcaaGreatDoorEng5
import Derived.Test.YtdpginbnipklcaaGreatDoorDefs
import Derived.Lib.ItoaLen
namespace Go.Eng
set_option linter.unusedVariables false
set_option linter.unusedSimpArgs false
theorem iX {α σ ρ:Type} {body:Nat->α->σ->Option (Ctl σ ρ)} {xs:List α} {s:σ} (hl:xs.length<=1000000000000):l9 xs s body=jU body xs 0 s:=by unfold l9;rw [if_pos hl]
theorem Dp {α σ ρ:Type} {body:Nat->α->σ->Option (Ctl σ ρ)} (I:Nat->σ->Prop) (N:Nat):∀(xs:List α) (k:Nat) (s:σ),k+xs.length=N->(∀k x s,x∈xs->k<N->I k s->∃s',body k x s=some (.go s')/\I (k+1) s')->I k s->∃s',jU body xs k s=some (.go s')/\I N s'
 | [],k,s,hN,h,hi=>⟨s,rfl,by simp only [List.length_nil,Nat.add_zero]at hN;rw [<- hN];exact hi⟩
 | x::xs,k,s,hN,h,hi=>by
  simp only [List.length_cons]at hN
  obtain ⟨s1,h1,h2⟩:=h k x s (by simp) (by omega) hi
  obtain ⟨s2,h3,h4⟩:=Dp I N xs (k+1) s1 (by omega) (λk x s hx=>h k x s (by simp [hx])) h2
  exact⟨s2,by simp only [jU,h1,ob_];exact h3,h4⟩
theorem Ey {α σ ρ:Type} {body:Nat->α->σ->Option (Ctl σ ρ)} (I:Nat->σ->Prop) {xs:List α} {s:σ} (hl:xs.length<=1000000000000) (h:∀k x s,x∈xs->k<xs.length->I k s->∃s',body k x s=some (.go s')/\I (k+1) s') (h0:I 0 s):∃s',l9 xs s body=some (.go s')/\I xs.length s':=by
 obtain ⟨s',h1,h2⟩:=Dp I xs.length xs 0 s (by omega) h h0
 exact⟨s',by rw [iX hl];exact h1,h2⟩
theorem jd {σ ρ τ:Type} (s:σ) (f:σ->Option τ) (g:ρ->Option τ):aY (.go s) f g=f s:=rfl
theorem Ia {σ ρ τ:Type} (r:ρ) (f:σ->Option τ) (g:ρ->Option τ):aY (.ret r) f g=g r:=rfl
theorem nH {α:Type} (xs:List α) (k:Nat):idx xs (k:Int)=xs[k]? := by simp [idx]
theorem bG {n:Int} (h : -9223372036854775808<=n/\n<=9223372036854775807):w64 n=n:=vk n h
theorem toL (s:ByteArray):s.toList=s.data.toList:=Go.Lib.toList_data s
theorem vH {a b:ByteArray} (h:a.toList=b.toList):a=b:=by
 rw [toL,toL]at h
 obtain ⟨⟨a⟩⟩:=a
 obtain ⟨⟨b⟩⟩:=b
 simp only at h
 rw [h]
theorem FR (a b:ByteArray):sEq a b=true↔a=b:=by
 simp only [sEq,beq_iff_eq]
 exact⟨vH,λh=>by rw [h]⟩
theorem Ga (a b:ByteArray):sEq a b=decide (a=b):=by
 rw [Bool.eq_iff_iff,FR];simp
theorem vO (a b:ByteArray):sNe a b = !decide (a=b):=by
 have:=Ga a b;simp only [sEq,sNe]at *;rw [this]
def lt (a b:ByteArray):Prop:=a.toList<b.toList
theorem zZ (a:ByteArray):¬lt a a:=List.lt_irrefl a.toList
theorem lt_trans {a b c:ByteArray} (h:lt a b) (k:lt b c):lt a c:=List.lt_trans h k
theorem sNe_nil (a:ByteArray):sNe a ⟨#[]⟩=decide (a.size≠0):=by
 rw [vO,Go.Lib.size_eq,Bool.eq_iff_iff]
 simp only [Bool.not_eq_true',decide_eq_false_iff_not,decide_eq_true_eq,ne_eq]
 refine not_congr ⟨λh=>by rw [h];rfl,λh => ?_⟩
 exact vH (by rw [toL,List.eq_nil_of_length_eq_zero h,toL])
end Go.Eng

open Go Go.Eng
namespace Go.Proofs.YtdpginbnipklcaaGreatDoor.Law
set_option linter.unusedVariables false
set_option linter.unusedSimpArgs false
def Ok (s:Stream) (b:Int):Prop:=0<=s.f_at/\s.f_at<=b
theorem Ok.mono {s:Stream} {b c:Int} (h:Ok s b) (hc:b<=c):Ok s c:=⟨h.1,Int.le_trans h.2 hc⟩
theorem yM (x n:Int) (h:1<=n) (hn:n<=4611686018427387904):∃r,qf x n=some r/\0<=r/\r<n:=by
 have h1:x.tmod n<n:=Int.tmod_lt_of_pos x (by omega)
 have h2 : -n<x.tmod n:=Int.lt_tmod_of_pos x (by omega)
 have hb:decide (n<1)=false:=by simp;omega
 have hn0:n≠0:=by omega
 simp only [qf,hb,cond_false,Ho,if_neg hn0,ob_]
 cases hd:decide (x.tmod n<0)with
 | true =>
  simp only [decide_eq_true_eq]at hd
  exact⟨_,rfl,by rw [bG (by omega)];omega,by rw [bG (by omega)];omega⟩
 | false =>
  simp only [decide_eq_false_iff_not]at hd
  exact⟨_,rfl,by omega,h1⟩
theorem wB (s:Stream) (n:Int) {b:Int} (hs:Ok s b) (hb:b<=1000000) (h:1<=n) (hn:n<=4611686018427387904):∃r s',dJ s n=some (r,s')/\0<=r/\r<n/\Ok s' (b+1):=by
 obtain ⟨h0,h1⟩:=hs
 have e1:w64 (s.f_at+1)=s.f_at+1:=bG (by omega)
 have e2:w64 (s.f_at+1-1)=s.f_at:=by rw [bG (by omega)];omega
 simp only [dJ,e1,e2]
 by_cases hl:s.L.length=0
 ·have:((s.L.length:Int)==0)=true:=by simp [hl]
  simp only [this,cond_true]
  obtain ⟨r,hr,h2,h3⟩:=yM (w64 ((s.f_at+1)*7919)) n h hn
  exact⟨r,_,by rw [hr];rfl,h2,h3,⟨by show 0<=s.f_at+1;omega,by show s.f_at+1<=b+1;omega⟩⟩
 ·have hne:(s.L.length:Int)≠0:=by omega
  have:((s.L.length:Int)==0)=false:=by simpa using hl
  simp only [this,cond_false,Ho,EU,if_neg hne,ob_]
  have h2:0<=s.f_at.tmod s.L.length:=Int.tmod_nonneg _ h0
  have hp:(0:Int)<(s.L.length:Int):=by have:=Nat.pos_of_ne_zero hl;omega
  have h3:s.f_at.tmod s.L.length<s.L.length:=Int.tmod_lt_of_pos _ hp
  have hi:idx s.L (s.f_at.tmod s.L.length)=some s.L[(s.f_at.tmod s.L.length).toNat]:=by
   simp only [idx,if_pos h2]
   exact List.getElem?_eq_getElem (by omega)
  obtain ⟨r1,hr1,_,_⟩:=yM s.L[(s.f_at.tmod s.L.length).toNat] 1073741824 (by decide) (by decide)
  simp only [hi,hr1,ob_]
  generalize w64 (r1+_)=y
  obtain ⟨r,hr,h4,h5⟩:=yM y n h hn
  exact⟨r,_,by rw [hr];rfl,h4,h5,⟨by show 0<=s.f_at+1;omega,by show s.f_at+1<=b+1;omega⟩⟩
theorem flip_ok (s:Stream) (n:Int) {b:Int} (hs:Ok s b) (hb:b<=1000000) (h:1<=n) (hn:n<=1000):∃r s',gp s n=some (r,s')/\Ok s' (b+1):=by
 obtain ⟨r,s',h1,_,_,h2⟩:=wB s n hs hb h (by omega)
 exact⟨r==0,s',by simp only [gp,h1,ob_],h2⟩
theorem FU {α:Type} {l:List α} {r:Int} (h0:0<=r) (h1:r<l.length):∃y,idx l r=some y/\y∈l:=by
 refine⟨l[r.toNat]'(by omega),?_,List.getElem_mem _⟩
 simp only [idx,if_pos h0]
 exact List.getElem?_eq_getElem (by omega)
theorem pick_ok (s:Stream) (l:List Int) {b:Int} (hs:Ok s b) (hb:b<=1000000) (h:1<=l.length) (hn:l.length<=1000):∃r s',iA s l=some (r,s')/\r∈l/\Ok s' (b+1):=by
 obtain ⟨r,s',h1,h2,h3,h4⟩:=wB s l.length hs hb (by omega) (by omega)
 obtain ⟨y,hy,hm⟩:=FU h2 h3
 exact⟨y,s',by simp only [iA,h1,hy,ob_],hm,h4⟩
theorem some_ok (s:Stream) (l:List ByteArray) {b:Int} (hs:Ok s b) (hb:b<=1000000) (h:1<=l.length) (hn:l.length<=1000):∃r s',fU s l=some (r,s')/\r∈l/\Ok s' (b+1):=by
 obtain ⟨r,s',h1,h2,h3,h4⟩:=wB s l.length hs hb (by omega) (by omega)
 obtain ⟨y,hy,hm⟩:=FU h2 h3
 exact⟨y,s',by simp only [fU,h1,hy,ob_],hm,h4⟩
theorem Iy (s:Stream) (lo hi:Int) {b:Int} (hs:Ok s b) (hb:b<=1000000) (h:lo<=hi) (h1 : -1000000000000<=lo) (h2:hi<=1000000000000):∃r s',jG s lo hi=some (r,s')/\lo<=r/\r<=hi/\Ok s' (b+1):=by
 have hd:decide (hi<lo)=false:=by simp;omega
 have e1:w64 (hi-lo)=hi-lo:=bG (by omega)
 have e2:w64 (hi-lo+1)=hi-lo+1:=bG (by omega)
 obtain ⟨r,s',k1,k2,k3,k4⟩:=wB s (hi-lo+1) hs hb (by omega) (by omega)
 simp only [jG,hd,cond_false,e1,e2,k1,ob_]
 exact⟨_,s',rfl,by rw [bG (by omega)];omega,by rw [bG (by omega)];omega,k4⟩
def AU (b:UInt8):Bool:=decide (97<=b.toNat)&&decide (b.toNat<=122)
def D5 (b:UInt8):Bool:=(decide (48<=b.toNat)&&decide (b.toNat<=57))||(b.toNat==45)||(b.toNat==95)
def okB (i:Nat) (b:UInt8):Bool:=AU b||(decide (0<i)&&D5 b)
def gu (s:ByteArray) (i:Nat):UInt8:=s.data.toList.getD i 0
def sj (s:ByteArray):Bool:=decide (s.size≠0)&&(decide (s.size<=40)&&(List.range s.size).all λi=>okB i (gu s i))
theorem zC (s:ByteArray) (k:Nat) (h:k<s.size):vv s (k:Int)=some (gu s k):=by
 have h1:s[k]? = some s[k]:=by simp [h]
 have h2:gu s k=s[k]:=by
  have hl:k<s.data.toList.length:=by rw [<- Go.Lib.size_eq];exact h
  simp only [gu,List.getD_eq_getElem?_getD,List.getElem?_eq_getElem hl,Option.getD_some]
  simp
  rfl
 simp only [vv,if_pos (Int.natCast_nonneg k),Int.toNat_natCast,h1,h2]
theorem Da (s:ByteArray) (k:Nat) (hs:s.size<=1000000000):ll s (k:Int)=some (if k<s.size then (bif okB k (gu s k)then .go ((k+1:Nat):Int)else .ret false)else .brk (k:Int)):=by
 unfold ll
 by_cases h:k<s.size
 ·have hd:decide ((k:Int)<(s.size:Int))=true:=by simp;omega
  have hw:w64 ((k:Int)+1)=((k+1:Nat):Int):=by rw [bG (by omega)];omega
  simp only [hd,cond_true,zC s k h,ob_,if_pos h,hw]
  generalize gu s k=b
  simp only [okB,AU,D5]
  have e1:decide ((b.toNat:Int)>=97)=decide (97<=b.toNat):=decide_eq_decide.2 (by omega)
  have e2:decide ((b.toNat:Int)<=122)=decide (b.toNat<=122):=decide_eq_decide.2 (by omega)
  have e3:decide ((k:Int)>0)=decide (0<k):=decide_eq_decide.2 (by omega)
  have e4:decide ((b.toNat:Int)>=48)=decide (48<=b.toNat):=decide_eq_decide.2 (by omega)
  have e5:decide ((b.toNat:Int)<=57)=decide (b.toNat<=57):=decide_eq_decide.2 (by omega)
  have e6:((b.toNat:Int)==45)=(b.toNat==45):=by rw [Bool.eq_iff_iff];simp;omega
  have e7:((b.toNat:Int)==95)=(b.toNat==95):=by rw [Bool.eq_iff_iff];simp;omega
  rw [e1,e2,e3,e4,e5,e6,e7]
  cases decide (97<=b.toNat) <;> cases decide (b.toNat<=122) <;> cases decide (0<k) <;> cases decide (48<=b.toNat) <;> cases decide (b.toNat<=57) <;> cases (b.toNat==45) <;> cases (b.toNat==95) <;> rfl
 ·have hd:decide ((k:Int)<(s.size:Int))=false:=by simp;omega
  simp only [hd,cond_false,if_neg h]
theorem Ai (s:ByteArray) (hs:s.size<=1000000000):∀(n k:Nat),k+n=s.size->iZ (λi=>ll s i) (n+1) (k:Int)=some (bif (List.range' k n).all (λj=>okB j (gu s j))then .go (s.size:Int)else .ret false)
 | 0,k,h=>by
  have hk:¬k<s.size:=by omega
  simp only [iZ,Da s k hs,if_neg hk,ob_,List.range'_zero,List.all_nil,cond_true]
  rw [show (k:Int)=s.size by omega]
 | n+1,k,h=>by
  have hk:k<s.size:=by omega
  rw [iZ,Da s k hs,if_pos hk,ob_,List.range'_succ,List.all_cons]
  cases okB k (gu s k)with
  | true=>simp only [cond_true,Bool.true_and];exact Ai s hs n (k+1) (by omega)
  | false=>rfl
theorem vN (s:ByteArray) (hs:s.size<=1000000000):mQ s=some (sj s):=by
 have h:=j6 (Ai s hs s.size 0 (by omega))
 unfold mQ
 have h':bn (0:Int) (λs_1=>ll s s_1)=_:=h
 rw [h',ob_,<- List.range_eq_range']
 have e:decide ((s.size:Int)<=40)=decide (s.size<=40):=decide_eq_decide.2 (by omega)
 simp only [sj]
 cases (List.range s.size).all (λi=>okB i (gu s i))with
 | true =>
  rw [cond_true,jd,sNe_nil,e,Bool.and_true]
  cases decide (s.size≠0) <;> rfl
 | false=>simp only [cond_false,Ia,Bool.and_false]
def oU (t:ByteArray) (b:UInt8):Bool := !decide (ixB t (b.toNat:Int)<0)
theorem only_L1 (s t:ByteArray) (k x:Nat) (h:k<s.size):mU s t k x ()=some (bif oU t (gu s k)then .go ()else .ret false):=by
 simp only [mU,zC s k h,strings_IndexByte,gy,ob_,oU]
 cases decide (ixB t ((gu s k).toNat:Int)<0) <;> rfl
theorem DT (s t:ByteArray):∀(xs:List Nat) (k:Nat),k+xs.length=s.size->jU (λk x u=>mU s t k x u) xs k ()=some (bif (List.range' k xs.length).all (λj=>oU t (gu s j))then .go ()else .ret false)
 | [],k,h=>rfl
 | x::xs,k,h=>by
  simp only [List.length_cons]at h ⊢
  have hk:k<s.size:=by omega
  rw [jU,only_L1 s t k x hk,ob_,List.range'_succ,List.all_cons]
  cases oU t (gu s k)with
  | true=>simp only [cond_true,Bool.true_and];exact DT s t xs (k+1) (by omega)
  | false=>rfl
theorem CK (s t:ByteArray) (hs:s.size<=1000000000):oF s t=some ((List.range s.size).all λi=>oU t (gu s i)):=by
 unfold oF
 rw [Int.toNat_natCast,iX (by simp;omega),DT s t _ 0 (by simp),ob_,List.length_range,<- List.range_eq_range']
 cases (List.range s.size).all (λi=>oU t (gu s i)) <;> rfl
def Bf:ByteArray:=⟨#[97,98,99,100,101,102,103,104,105,106,107,108,109,110,111,112,113,114,115,116,117,118,119,120,121,122]⟩
def zX:ByteArray:=⟨#[97,98,99,100,101,102,103,104,105,106,107,108,109,110,111,112,113,114,115,116,117,118,119,120,121,122,48,49,50,51,52,53,54,55,56,57,45,95]⟩
theorem BG:∀n:Fin 256,oU Bf (UInt8.ofNat n.val)=AU (UInt8.ofNat n.val)/\oU zX (UInt8.ofNat n.val)=(AU (UInt8.ofNat n.val)||D5 (UInt8.ofNat n.val)):=by decide +kernel
theorem Dz (b:UInt8):oU Bf b=AU b:=by
 have:=(BG ⟨b.toNat,b.toNat_lt⟩).1
 simpa using this
theorem Dq (b:UInt8):oU zX b=(AU b||D5 b):=by
 have:=(BG ⟨b.toNat,b.toNat_lt⟩).2
 simpa using this
theorem Bh (s:ByteArray) (hs:s.size<=1000000000):uh s=some (sj s):=by
 unfold uh rQ
 have e1:decide ((1:Int)<=(s.size:Int))=decide (s.size≠0):=decide_eq_decide.2 (by omega)
 have e2:decide ((s.size:Int)<=40)=decide (s.size<=40):=decide_eq_decide.2 (by omega)
 rw [e1,e2]
 by_cases h1:s.size≠0
 ·by_cases h2:s.size<=40
  ·have hsub:xq s 0 1=some (s.extract 0 1):=by
    unfold xq;rw [if_pos ⟨by omega,by omega,by decide,by show 1<=s.size;omega⟩];rfl
   have hsz:(s.extract 0 1).size=1:=by simp [ByteArray.size_extract];omega
   have hb:gu (s.extract 0 1) 0=gu s 0:=by
    obtain ⟨⟨l⟩⟩:=s
    simp only [gu]
    cases l with
    | nil=>exact absurd rfl h1
    | cons b l=>simp [ByteArray.extract,ByteArray.copySlice]
   simp only [decide_eq_true h1,decide_eq_true h2,cond_true,ob_,hsub]
   have o1:=CK (s.extract 0 1) Bf (by omega)
   have o2:=CK s zX hs
   unfold Bf at o1
   unfold zX at o2
   rw [o1,ob_,o2]
   have e3:(List.range (s.extract 0 1).size).all (λi=>oU Bf (gu (s.extract 0 1) i))=AU (gu s 0):=by
    rw [hsz]
    simp only [List.range_succ,List.range_zero,List.nil_append,List.all_cons,List.all_nil,Bool.and_true]
    rw [hb,Dz]
   have e3':=e3
   unfold Bf at e3'
   rw [e3']
   have e4:∀i,oU zX (gu s i)=(AU (gu s i)||D5 (gu s i)):=λi=>Dq _
   have e5:sj s=(AU (gu s 0)&&(List.range s.size).all (λi=>oU zX (gu s i))):=by
    simp only [sj,decide_eq_true h1,decide_eq_true h2,Bool.true_and,e4]
    rw [Bool.eq_iff_iff]
    simp only [List.all_eq_true,List.mem_range,Bool.and_eq_true,okB,Bool.or_eq_true,decide_eq_true_eq]
    constructor
    ·intro h
     refine⟨?_,λi hi=>(h i hi).imp id (λh=>h.2)⟩
     rcases h 0 (by omega)with h|h
     ·exact h
     ·exact absurd h.1 (by omega)
    ·rintro ⟨h3,h4⟩ i hi
     by_cases e:i=0
     ·rw [e];exact .inl h3
     ·exact (h4 i hi).imp id (λh=>⟨by omega,h⟩)
   unfold zX at e5
   rw [e5]
   cases AU (gu s 0) <;> rfl
  ·simp only [decide_eq_true h1,decide_eq_false h2,cond_true,cond_false,ob_,sj,Bool.false_and,Bool.and_false]
 ·simp only [decide_eq_false h1,cond_false,ob_,sj,Bool.false_and]
def iR (s:ByteArray):Prop:=s.size<=1000
theorem jf {s:ByteArray} (h:Nat.ble s.size 1000=true):iR s:=Nat.le_of_ble_eq_true h
theorem oW {α:Type} (xs ys:List α) (h:xs.length+ys.length<=1000000000):nC xs ys=some (xs++ys):=by unfold nC;rw [if_pos h]
theorem o7 {α:Type} {p:α->Prop} {xs:List α} {i:Nat} {a:α} (h:∀x∈xs,p x) (ha:p a):∀x∈xs.set i a,p x:=λx hx=>by
 rcases List.mem_or_eq_of_mem_set hx with h1|h1
 ·exact h x h1
 ·rw [h1];exact ha
theorem inR_ok {α:Type} {i:Int} {xs:List α} (h0:0<=i) (h1:i<xs.length):inR i xs=some ():=by unfold inR;rw [if_pos ⟨h0,by omega⟩]
def yC (e:Int):Ctl Unit Int:=bif e==0 then .go ()else .ret e
theorem wO (e:Int):aY (yC e) (λ_=>some (0:Int)) (λr=>some r)=some e:=by
 unfold yC
 cases h:e==0 with
 | true=>simp only [cond_true,jd];rw [eq_of_beq h]
 | false=>rfl
theorem Ae {α:Type} {l:List α} {k:Nat} {x:α} (h:l[k]? = some x) (hk:0<k) (hl:l.length<=1000000000):∃y,idx l (w64 ((k:Int)-1))=some y/\l[k-1]? = some y:=by
 have hlt:k<l.length:=(List.getElem?_eq_some_iff.1 h).1
 rw [bG (by omega),show (k:Int)-1=((k-1:Nat):Int) by omega,nH]
 exact⟨l[k-1],List.getElem?_eq_getElem (by omega),List.getElem?_eq_getElem (by omega)⟩
def BM {α:Type} (stp:Option α->α->Int):Option α->List α->Int
 | _,[]=>0
 | p,x::xs=>bif stp p x==0 then BM stp (some x) xs else stp p x
def xG {α:Type} (l:List α) (k:Nat):Option α:=if k=0 then none else l[k-1]?
theorem uf {α:Type} {stp:Option α->α->Int} {body:Nat->α->Unit->Option (Ctl Unit Int)} (l:List α):∀(xs:List α) (k:Nat),l.drop k=xs->(∀k x,l[k]? = some x->body k x ()=some (yC (stp (xG l k) x))) ->
  jU body xs k ()=some (yC (BM stp (xG l k) xs))
 | [],k,h,hb=>rfl
 | x::xs,k,h,hb=>by
  have hg:=qK h
  rw [jU,hb k x hg,ob_,BM]
  cases he:stp (xG l k) x==0 with
  | true =>
   simp only [yC,he,cond_true]
   rw [uf l xs (k+1) (bR h) hb]
   have:xG l (k+1)=some x:=by simp [xG,hg]
   rw [this];rfl
  | false=>simp only [yC,he,cond_false]
theorem chkG_0 {α:Type} {stp:Option α->α->Int}:∀{l:List α} {p:Option α},BM stp p l=0->match l with
  | []=>True
  | x::xs=>stp p x=0/\BM stp (some x) xs=0
 | [],_,_=>trivial
 | x::xs,p,h=>by
  rw [BM]at h
  cases he:stp p x==0 with
  | true=>rw [he]at h;exact⟨eq_of_beq he,h⟩
  | false=>rw [he,cond_false]at h;rw [h]at he;cases he
def sP (n lo hi:Int):Bool:=decide (n<lo)||decide (n>hi)
theorem zF (n lo hi:Int):kC n lo hi=some (sP n lo hi):=by
 unfold kC sP
 cases decide (n<lo) <;> cases decide (n>hi) <;> rfl
theorem in_eq (n lo hi:Int):rQ n lo hi=some (!sP n lo hi):=by
 unfold rQ sP
 have e1:decide (lo<=n) = !decide (n<lo):=by rw [Bool.eq_iff_iff];simp
 have e2:decide (n<=hi) = !decide (n>hi):=by rw [Bool.eq_iff_iff];simp
 rw [e1,e2]
 cases decide (n<lo) <;> cases decide (n>hi) <;> rfl
theorem outB_f {n lo hi:Int} (h:sP n lo hi=false):lo<=n/\n<=hi:=by
 simp only [sP,Bool.or_eq_false_iff,decide_eq_false_iff_not]at h;omega
def oq (n:Int):Bool := !sP n 0 345686399999
theorem tN (n:Int):jr n=some (oq n):=by
 unfold jr oq sP
 have e1:decide (n>=0) = !decide (n<0):=by rw [Bool.eq_iff_iff];simp
 have e2:decide (n<345686400000) = !decide (n>345686399999):=by rw [Bool.eq_iff_iff];simp;omega
 rw [e1,e2]
 cases decide (n<0) <;> cases decide (n>345686399999) <;> rfl
theorem Cm (n:Int):pu n=some (oq n):=by
 unfold pu;rw [in_eq];rfl
theorem zz {n:Int} (h:oq n=true):0<=n/\n<=345686399999:=by
 unfold oq at h;exact outB_f (by simpa using h)
def or0 (a b:Int):Int:=bif a==0 then b else a
theorem or0_0 {a b:Int} (h:or0 a b=0):a=0/\b=0:=by
 unfold or0 at h
 cases ha:a==0 with
 | true=>rw [ha]at h;exact⟨eq_of_beq ha,h⟩
 | false=>rw [ha,cond_false]at h;rw [h]at ha;cases ha
theorem errs2 (a b:Int):rq [a,b]=some (or0 a b):=by
 unfold rq or0
 rw [iX (by simp)]
 simp only [jU,qy]
 cases ha:a==0 with
 | false =>
  have:(a != 0)=true:=by simp [bne,ha]
  simp only [this,cond_true,cond_false,ob_,aY]
 | true =>
  have:(a != 0)=false:=by simp [bne,ha]
  simp only [this,cond_true,cond_false,ob_]
  cases hb:b==0 with
  | false =>
   have:(b != 0)=true:=by simp [bne,hb]
   simp only [this,cond_true,ob_,aY]
  | true =>
   have:(b != 0)=false:=by simp [bne,hb]
   simp only [this,cond_false,ob_,aY]
   rw [eq_of_beq hb]
theorem xu (a b:ByteArray):(lt a b/\u7 a b = -1)\/(a=b/\u7 a b=0)\/(lt b a/\u7 a b=1):=by
 have key:∀(x y:List UInt8),(x<y/\Lib.compareBytes x y = -1)\/(x=y/\Lib.compareBytes x y=0)\/(y<x/\Lib.compareBytes x y=1):=by
  intro x
  induction x with
  | nil=>intro y;cases y with
   | nil=>exact .inr (.inl ⟨rfl,rfl⟩)
   | cons b y=>exact .inl ⟨by simp,rfl⟩
  | cons a x ih=>intro y;cases y with
   | nil=>exact .inr (.inr ⟨by simp,rfl⟩)
   | cons b y =>
    simp only [Lib.compareBytes,List.cons_lt_cons_iff,List.cons.injEq]
    by_cases h1:a<b
    ·exact .inl ⟨.inl h1,by rw [if_pos h1]⟩
    ·by_cases h2:b<a
     ·exact .inr (.inr ⟨.inl h2,by rw [if_neg h1,if_pos h2]⟩)
     ·have e:a=b:=UInt8.le_antisymm (UInt8.not_lt.1 h2) (UInt8.not_lt.1 h1)
      subst e
      rw [if_neg h1,if_neg h1]
      rcases ih y with⟨h,k⟩|⟨h,k⟩|⟨h,k⟩
      ·exact .inl ⟨.inr ⟨rfl,h⟩,k⟩
      ·exact .inr (.inl ⟨⟨rfl,h⟩,k⟩)
      ·exact .inr (.inr ⟨.inr ⟨rfl,h⟩,k⟩)
 unfold u7 lt
 rw [toL,toL]
 rcases key a.data.toList b.data.toList with⟨h,k⟩|⟨h,k⟩|⟨h,k⟩
 ·exact .inl ⟨h,k⟩
 ·exact .inr (.inl ⟨vH (by rw [toL,toL];exact h),k⟩)
 ·exact .inr (.inr ⟨h,k⟩)
theorem vw (a b:ByteArray):strings_Compare a b=some (u7 a b):=rfl
def HZ (a b:Int):Int:=if a<b then -1 else if a>b then 1 else 0
theorem Bc (a b:Int):cmp_Compare_int a b=some (HZ a b):=by
 have e:∀x:Int,(x != x)=false:=by simp
 unfold cmp_Compare_int cmp_isNaN_int HZ
 simp only [e,ob_,cond_false]
 by_cases h:a<b
 ·simp only [decide_eq_true h,cond_true,if_pos h]
 ·by_cases h2:a>b
  ·simp only [decide_eq_false h,decide_eq_true h2,cond_true,cond_false,if_neg h,if_pos h2]
  ·simp only [decide_eq_false h,decide_eq_false h2,cond_false,if_neg h,if_neg h2]
theorem JD (a b:Int):nV [a,b]=some (or0 a b):=by
 unfold nV or0
 rw [iX (by simp)]
 simp only [jU,oh]
 cases ha:a==0 with
 | false =>
  have:(a != 0)=true:=by simp [bne,ha]
  simp only [this,cond_true,cond_false,ob_,aY]
 | true =>
  have:(a != 0)=false:=by simp [bne,ha]
  simp only [this,cond_true,cond_false,ob_]
  cases hb:b==0 with
  | false =>
   have:(b != 0)=true:=by simp [bne,hb]
   simp only [this,cond_true,ob_,aY]
  | true =>
   have:(b != 0)=false:=by simp [bne,hb]
   simp only [this,cond_false,ob_,aY]
   rw [eq_of_beq hb]
theorem wu (n:Int):IntKind.u64.wrap n=n % 18446744073709551616:=by simp [IntKind.wrap,IntKind.bits,IntKind.signed]
theorem Jv {n:Int} (h0:0<=n) (h1:n<18446744073709551616):IntKind.u64.wrap n=n:=by rw [wu];exact Int.emod_eq_of_lt h0 h1
theorem wu_in (n:Int):0<=IntKind.u64.wrap n/\IntKind.u64.wrap n<18446744073709551616:=by rw [wu];omega
abbrev BB (l:List UInt8):ByteArray:=⟨l.toArray⟩
theorem FE (l m:List UInt8):BB l++BB m=BB (l++m):=by
  apply vH;rw [toL,toL];simp
theorem og (l:List UInt8):(BB l).size=l.length:=by show l.toArray.size=_;simp
theorem Cq {x y:ByteArray} (h:x.size+y.size<=1000000000000):pJ x y=some (x++y):=by
  unfold pJ
  rw [if_neg]
  have:IntKind.i64.max=9223372036854775807:=by decide
  rw [this];omega
def wC (h:Int) (b:UInt8):Int:=IntKind.u64.wrap ((Ao .u64 h (IntKind.u64.wrap (b.toNat:Int)))*1099511628211)
def fnv (bs:List UInt8):Int:=bs.foldl wC 14695981039346656037
theorem Gm:∀(bs:List UInt8) (h:Int),0<=h/\h<18446744073709551616->0<=bs.foldl wC h/\bs.foldl wC h<18446744073709551616
  | [],h,hh=>hh
  | b::bs,h,hh=>Gm bs _ (wu_in _)
theorem Ir (bs:List UInt8):0<=fnv bs/\fnv bs<18446744073709551616:=Gm bs _ (by decide)
theorem DJ (s:ByteArray):∀(xs:List Nat) (k:Nat) (h:Int),k+xs.length=s.size->jU (λk x u=>mg s k x u) xs k h=some (.go ((s.data.toList.drop k).foldl wC h))
  | [],k,h,hk=>by
    have:s.data.toList.drop k=[]:=List.drop_eq_nil_iff.2 (by rw [<- Go.Lib.size_eq];simp at hk;omega)
    rw [this];rfl
  | x::xs,k,h,hk=>by
    simp only [List.length_cons]at hk
    have hlt:k<s.data.toList.length:=by rw [<- Go.Lib.size_eq];omega
    have hb:gu s k=s.data.toList[k]:=by simp [gu,List.getD,List.getElem?_eq_getElem hlt]
    simp only [jU]
    unfold mg
    rw [zC s k (by omega)]
    simp only [ob_]
    have ih:=DJ s xs (k+1) (wC h (gu s k)) (by omega)
    rw [List.drop_eq_getElem_cons hlt,List.foldl_cons,<- hb]
    exact ih
theorem xL:∀(bs:List UInt8) (k:Nat) (h:Int),jU (λk x u=>qj k x u) (bs.map λb=>(b.toNat:Int)) k h=some (.go (bs.foldl wC h))
  | [],k,h=>rfl
  | b::bs,k,h=>by
    simp only [List.map_cons,jU]
    exact xL bs (k+1) (wC h b)
def nT (n:Nat):UInt8:=if n<10 then UInt8.ofNat (48+n)else UInt8.ofNat (87+n)
def q9 (u:Nat):List UInt8:=if h:u<16 then [nT u]else q9 (u / 16)++[nT (u % 16)]
termination_by u
decreasing_by omega
def vX:Nat->Nat->List UInt8
  | 0,_=>[]
  | k+1,u=>vX k (u / 16)++[nT (u % 16)]
theorem qc {u:Nat} (h:u<16):q9 u=[nT u]:=by rw [q9,dif_pos h]
theorem wI {u:Nat} (h:¬u<16):q9 u=q9 (u / 16)++[nT (u % 16)]:=by rw [q9,dif_neg h]
theorem Eh:∀(k u:Nat),(vX k u).length=k
  | 0,u=>rfl
  | k+1,u=>by simp [vX,Eh k]
theorem Bi:∀k,vX k 0=List.replicate k 48
  | 0=>rfl
  | k+1=>by
    show vX k 0++[nT 0]=_
    rw [Bi k,List.replicate_succ']
    rfl
theorem hexM_N:∀(k u:Nat),u<16 ^ (k+1)->(q9 u).length<=k+1/\vX (k+1) u=List.replicate (k+1-(q9 u).length) 48++q9 u
  | 0,u,h=>by
    have h':u<16:=by simpa using h
    rw [qc h']
    refine⟨Nat.le_refl _,?_⟩
    simp [vX,Nat.mod_eq_of_lt h']
  | k+1,u,h=>by
    by_cases hu:u<16
    · rw [qc hu]
      refine⟨by simp,?_⟩
      show vX (k+1) (u / 16)++[nT (u % 16)]=_
      rw [Nat.div_eq_of_lt hu,Nat.mod_eq_of_lt hu,Bi]
      simp
    · rw [wI hu]
      have h2:u / 16<16 ^ (k+1):=by
        rw [Nat.div_lt_iff_lt_mul (by omega)]
        rw [Nat.pow_succ]at h;exact h
      obtain ⟨h3,h4⟩:=hexM_N k (u / 16) h2
      refine⟨by simp;omega,?_⟩
      show vX (k+1) (u / 16)++[nT (u % 16)]=_
      rw [h4,List.append_assoc]
      congr 2
      simp
def uQ:ByteArray:=⟨#[48,49,50,51,52,53,54,55,56,57,97,98,99,100,101,102]⟩
def digs:ByteArray:=⟨#[48,49,50,51,52,53,54,55,56,57,97,98,99,100,101,102,103,104,105,106,107,108,109,110,111,112,113,114,115,116,117,118,119,120,121,122]⟩
theorem A7:∀n:Fin 16,xq uQ (n.val:Int) ((n.val+1:Nat):Int)=some (BB [nT n.val])/\vv digs (n.val:Int)=some (nT n.val):=by decide +kernel
theorem II {n:Nat} (h:n<16):xq uQ (n:Int) ((n+1:Nat):Int)=some (BB [nT n]):=(A7 ⟨n,h⟩).1
theorem F3 {n:Nat} (h:n<16):vv digs (n:Int)=some (nT n):=(A7 ⟨n,h⟩).2
theorem uG:∀(xs:List Nat) (k:Nat) (u:Nat) (out:List UInt8),u<18446744073709551616->xs.length+out.length<=1000->∃u',jU (λk x s=>mX k x s) xs k ((u:Int),BB out)=some (.go (u',BB (vX xs.length u++out)))
  | [],k,u,out,h,hl=>⟨_,rfl⟩
  | x::xs,k,u,out,h,hl=>by
    simp only [List.length_cons]at hl
    obtain ⟨u',hu'⟩:=uG xs (k+1) (u / 16) (nT (u % 16)::out) (by omega) (by simp;omega)
    refine⟨u',?_⟩
    simp only [jU]
    have hm:((u:Int).tmod 16)=((u % 16:Nat):Int):=rfl
    have hd:((u:Int).tdiv 16)=((u / 16:Nat):Int):=rfl
    have hlt:u % 16<16:=Nat.mod_lt _ (by omega)
    have hstep:mX k x ((u:Int),BB out)=some (.go (((u / 16:Nat):Int),BB (nT (u % 16)::out))):=by
      unfold mX
      simp only [hm,hd]
      rw [Jv (n:=((u % 16:Nat):Int)+1) (by omega) (by omega),Jv (n:=((u / 16:Nat):Int)) (by omega) (by omega)]
      have h1:xq (⟨#[48,49,50,51,52,53,54,55,56,57,97,98,99,100,101,102]⟩:ByteArray) ((u % 16:Nat):Int) (((u % 16:Nat):Int)+1)=some (BB [nT (u % 16)]):=II hlt
      rw [h1]
      simp only [ob_]
      rw [Cq (by rw [og,og];simp;omega),FE]
      rfl
    rw [hstep]
    simp only [ob_]
    rw [hu']
    simp [vX]
theorem FQ (s:ByteArray) (hs:s.size<=1000000000):qd s=some (BB (vX 16 (fnv s.data.toList).toNat)):=by
  unfold qd
  have hl:(gm s).length<=1000000000000:=by simp only [gm,List.length_map];rw [<- Go.Lib.size_eq];omega
  rw [iX hl]
  have h1:=xL s.data.toList 0 14695981039346656037
  unfold gm
  rw [h1]
  simp only [ob_,jd]
  obtain ⟨b1,b2⟩:=Ir s.data.toList
  rw [iX (by decide)]
  obtain ⟨u',hu⟩:=uG (List.range (16:Int).toNat) 0 (fnv s.data.toList).toNat [] (by omega) (by decide)
  have e:(((fnv s.data.toList).toNat:Nat):Int)=s.data.toList.foldl wC 14695981039346656037:=Int.toNat_of_nonneg b1
  rw [e]at hu
  have e2:BB []=(⟨#[]⟩:ByteArray):=rfl
  rw [e2]at hu
  rw [hu]
  simp only [ob_,jd,List.append_nil]
  rfl
theorem and15 {u:Nat} (h:u<18446744073709551616):Dv .u64 (u:Int) 15=((u % 16:Nat):Int):=by
  show IntKind.u64.wrap (((BitVec.ofInt 64 (u:Int)) &&& (BitVec.ofInt 64 15)).toNat:Int)=_
  have h1:((BitVec.ofInt 64 (u:Int)) &&& (BitVec.ofInt 64 15)).toNat=u % 16:=by
    rw [BitVec.toNat_and]
    have e1:(BitVec.ofInt 64 (u:Int)).toNat=u:=by
      rw [BitVec.ofInt_natCast,BitVec.toNat_ofNat];exact Nat.mod_eq_of_lt h
    have e2:(BitVec.ofInt 64 15).toNat=15:=by decide
    rw [e1,e2]
    exact Nat.and_two_pow_sub_one_eq_mod u 4
  rw [h1]
  exact Jv (by omega) (by omega)
theorem shr4 (u:Nat):ko .u64 (u:Int) 4=some ((u / 16:Nat):Int):=by
  unfold ko
  rw [if_neg (by decide)]
  have e:((2:Int) ^ (min (Int.toNat 4) IntKind.u64.bits))=16:=by decide
  rw [e,Int.fdiv_eq_ediv_of_nonneg _ (by decide)]
  rfl
def nums (l:List UInt8):List Int:=l.map λb=>(b.toNat:Int)
theorem FJ (l:List UInt8):Go.strOfNums (nums l)=BB l:=by
  unfold Go.strOfNums nums
  rw [List.map_map]
  have:(l.map ((λn:Int=>UInt8.ofNat n.toNat) ∘ λb:UInt8=>(b.toNat:Int)))=l:=by
    have:((λn:Int=>UInt8.ofNat n.toNat) ∘ λb:UInt8=>(b.toNat:Int))=id:=by
      funext b;simp
    rw [this,List.map_id]
  rw [this]
theorem EB {a:List Int} {i:Nat} (c:Int) (h:i<a.length):(a.set i c).drop i=c::a.drop (i+1):=by
  rw [List.drop_eq_getElem_cons (by simpa using h)]
  simp only [List.getElem_set_self]
  congr 1
  apply List.ext_getElem?
  intro j
  rw [List.getElem?_drop,List.getElem?_drop,List.getElem?_set_ne (by omega)]
theorem fb_iter:∀(u:Nat),u<18446744073709551616->∀(a:List Int) (i:Nat),a.length=65->i<=65->(q9 u).length<=i ->
    ∃n a' u' i',iZ (λs=>bK 16 4 s) n (a,(u:Int),(i:Int))=some (.go (a',((u':Nat):Int),((i':Nat):Int)))/\u'<16/\a'.length=65/\1<=i'/\i'<=65/\nums [nT u']++a'.drop i'=nums (q9 u)++a.drop i:=by
  intro u
  induction u using Nat.strongRecOn with
  | ind u ih =>
    intro hu a i ha hi hl
    have w16:IntKind.u64.wrap 16=16:=by decide
    have w15:IntKind.u64.wrap (16-1)=15:=by decide
    have w4:IntKind.u64.wrap 4=4:=by decide
    by_cases h16:u<16
    · refine⟨1,a,u,i,?_,h16,ha,?_,hi,by rw [qc h16]⟩
      · simp only [iZ]
        unfold bK
        have hd:decide ((u:Int)>=16)=false:=by simp;omega
        simp only [w16,hd,cond_false,ob_]
      · rw [qc h16]at hl;simpa using hl
    · rw [wI h16]at hl
      simp only [List.length_append,List.length_cons,List.length_nil]at hl
      have hpos:1<=(q9 (u / 16)).length:=by
        by_cases h:u / 16<16
        · rw [qc h];simp
        · rw [wI h];simp
      have hlt:u % 16<16:=Nat.mod_lt _ (by omega)
      obtain ⟨j,rfl⟩:∃j,i=j+1:=⟨i-1,by omega⟩
      obtain ⟨n,a',u',i',h1,h2,h3,h4,h5,h6⟩:=ih (u / 16) (by omega) (by omega) (a.set j ((nT (u % 16)).toNat:Int)) j (by simpa using ha) (by omega) (by omega)
      refine⟨n+1,a',u',i',?_,h2,h3,h4,h5,?_⟩
      · simp only [iZ]
        have hstep:bK 16 4 (a,(u:Int),((j+1:Nat):Int))=some (.go (a.set j ((nT (u % 16)).toNat:Int),((u / 16:Nat):Int),(j:Int))):=by
          unfold bK
          have hd:decide ((u:Int)>=16)=true:=by simp;omega
          have hw:w64 (((j+1:Nat):Int)-1)=(j:Int):=by rw [bG (by omega)];omega
          have hi1:inN (j:Int) 65=some ():=by unfold inN;rw [if_pos ⟨by omega,by omega⟩]
          have hg:a[(j:Int).toNat]? = some (a[j]'(by omega)):=by rw [Int.toNat_natCast];exact List.getElem?_eq_getElem _
          simp only [w16,w15,w4,hd,cond_true,and15 hu,hw,hi1,hg,shr4]
          have hdg:vv (⟨#[48,49,50,51,52,53,54,55,56,57,97,98,99,100,101,102,103,104,105,106,107,108,109,110,111,112,113,114,115,116,117,118,119,120,121,122]⟩:ByteArray) ((u % 16:Nat):Int)=some (nT (u % 16)):=F3 hlt
          rw [hdg]
          simp only [ob_,Int.toNat_natCast]
        rw [hstep]
        exact h1
      · rw [h6,wI h16,EB _ (by omega)]
        unfold nums
        simp
theorem pow2:iq 16=some true:=by decide +kernel
theorem tz16:kU (IntKind.u64.wrap 16)=some 4:=by decide +kernel
theorem AJ (h:Int) (h0:0<=h) (h1:h<18446744073709551616):jV h 16=some (BB (q9 h.toNat)):=by
  obtain ⟨u,rfl⟩:∃u:Nat,h=u:=⟨h.toNat,by omega⟩
  have hu:u<18446744073709551616:=by omega
  have hm:=hexM_N 15 u (by simpa using hu)
  have hfb:ed ([]:List Int) (u:Int) 16 false false=some (([]:List Int),BB (q9 u)):=by
    unfold ed
    obtain ⟨n,a',u',i',e1,e2,e3,e4,e5,e6⟩:=fb_iter u hu (List.replicate 65 (0:Int)) 65 (by simp) (by omega) (by omega)
    have hlp:bn ((List.replicate 65 (0:Int)),(u:Int),(65:Int)) (λs=>bK 16 4 s)=some (.go (a',((u':Nat):Int),((i':Nat):Int))):=j6 e1
    have hlt:i'-1<a'.length:=by omega
    have hw:w64 ((i':Int)-1)=((i'-1:Nat):Int):=by rw [bG (by omega)];omega
    have hi1:inN ((i'-1:Nat):Int) 65=some ():=by unfold inN;rw [if_pos ⟨by omega,by omega⟩]
    have hg:a'[i'-1]? = some (a'[i'-1]'hlt):=List.getElem?_eq_getElem _
    have hdg:vv (⟨#[48,49,50,51,52,53,54,55,56,57,97,98,99,100,101,102,103,104,105,106,107,108,109,110,111,112,113,114,115,116,117,118,119,120,121,122]⟩:ByteArray) (u':Int)=some (nT u'):=F3 e2
    have hset:(a'.set (i'-1) ((nT u').toNat:Int)).length=65:=by simpa using e3
    have hln:De (a'.set (i'-1) ((nT u').toNat:Int)) 65=some ():=by unfold De;rw [if_pos hset]
    have hsr:oV (a'.set (i'-1) ((nT u').toNat:Int)) ((i'-1:Nat):Int) (((a'.set (i'-1) ((nT u').toNat:Int)).length:Nat):Int)=some ():=by
      unfold oV;rw [if_pos ⟨by omega,by omega,by rw [hset];omega,by simp⟩]
    have hcut:yo (a'.set (i'-1) ((nT u').toNat:Int)) (i'-1) (65-(i'-1))=nums (q9 u):=by
      unfold yo
      rw [EB _ hlt,show i'-1+1=i' by omega]
      have:(((nT u').toNat:Int)::a'.drop i')=nums (q9 u):=by
        have:=e6
        rw [show (List.replicate 65 (0:Int)).drop 65=[] by simp,List.append_nil]at this
        exact this
      rw [this,List.take_of_length_le]
      have h9:=congrArg List.length this
      simp only [List.length_cons,List.length_drop]at h9
      omega
    have c1:decide ((16:Int)<2)=false:=by decide
    have c2:((16:Int)==10)=false:=by decide
    have c3:decide ((16:Int)>36)=false:=by decide
    simp only [c1,c2,c3,cond_false,cond_true,ob_,pow2,tz16,hlp,jd,hdg,hw,hi1,hg,Int.toNat_natCast,hln,hsr]
    have e7:(((a'.set (i'-1) ((nT u').toNat:Int)).length:Nat):Int).toNat=65:=by rw [hset];rfl
    rw [Int.toNat_natCast]at e7
    rw [e7,hcut,FJ]
  unfold jV iQ
  have c2:((16:Int)==10)=false:=by decide
  rw [c2]
  simp only [cond_false,hfb,ob_,Int.toNat_natCast]
theorem ED:∀n,Go.Lib.repeatL [48] n=List.replicate n 48
  | 0=>rfl
  | n+1=>by simp [Go.Lib.repeatL,ED n,List.replicate_succ]
theorem mark_eq (s:ByteArray) (hs:s.size<=1000000000):nM s=some (BB (vX 16 (fnv s.data.toList).toNat)):=by
  unfold nM
  have hl:(List.range ((s.size:Int)).toNat).length<=1000000000000:=by simp;omega
  rw [iX hl,DJ s _ 0 _ (by simp)]
  simp only [ob_,jd,List.drop_zero]
  obtain ⟨b1,b2⟩:=Ir s.data.toList
  have hf:=AJ (fnv s.data.toList) b1 b2
  have e:s.data.toList.foldl wC 14695981039346656037=fnv s.data.toList:=rfl
  rw [e,hf]
  simp only [ob_,og]
  obtain ⟨m1, m2⟩ := hexM_N 15 (fnv s.data.toList).toNat (by have : (16 : Nat) ^ (15 + 1) = 18446744073709551616 := by decide
                                                             omega)
  have hw:w64 (16-((q9 (fnv s.data.toList).toNat).length:Int))=((16-(q9 (fnv s.data.toList).toNat).length:Nat):Int):=by rw [bG (by omega)];omega
  rw [hw]
  have hr:strings_Repeat (⟨#[48]⟩:ByteArray) ((16-(q9 (fnv s.data.toList).toNat).length:Nat):Int)=some (BB (List.replicate (16-(q9 (fnv s.data.toList).toNat).length) 48)):=by
    unfold strings_Repeat yJ
    rw [if_pos ⟨by omega,by omega,by rw [Int.toNat_natCast,show (⟨#[48]⟩:ByteArray).size=1 from rfl];omega⟩,Int.toNat_natCast]
    rw [show (⟨#[48]⟩:ByteArray).data.toList=[48] from rfl,ED]
  rw [hr]
  simp only [ob_]
  rw [Cq (by rw [og,og];simp;omega),FE,<- m2]
  rfl
def Med (n:Int):Prop := -1000000000000000<=n/\n<=1000000000000000
theorem yI {n:Int} (h:Med n):strconv_Itoa n=some (BB (Go.Lib.itoa n)):=by
 unfold strconv_Itoa Gx
 unfold Med at h
 rw [if_pos ⟨by omega,by omega⟩]
theorem mq {n:Int} (h:Med n):(Go.Lib.itoa n).length<=21:=by
 unfold Med at h
 exact Go.Lib.itoa_length_le n (by omega) (by omega)
theorem oQ (l m:List UInt8) (h:l.length+m.length<=1000000000000):pJ (BB l) (BB m)=some (BB (l++m)):=by
 rw [Cq (by rw [og,og];exact h),FE]
theorem join_le (sep:List UInt8) (m:Nat):∀(ls:List (List UInt8)),(∀x∈ls,x.length<=m)->(Go.Lib.join ls sep).length<=ls.length*(m+sep.length)
 | [],h=>by simp [Go.Lib.join_nil]
 | x::r,h=>by
  have h1:∀(r:List (List UInt8)),(∀x∈r,x.length<=m)->(Go.Lib.joinTail sep r).length<=r.length*(m+sep.length):=by
   intro r
   induction r with
   | nil=>intro _;simp [Go.Lib.joinTail]
   | cons y r ih =>
    intro hy
    have e:(Go.Lib.joinTail sep (y::r))=sep++y++Go.Lib.joinTail sep r:=by simp [Go.Lib.joinTail]
    rw [e,List.length_append,List.length_append,List.length_cons,Nat.add_mul]
    have:=ih (λx hx=>hy x (List.mem_cons_of_mem _ hx))
    have:=hy y (by simp)
    omega
  rw [Go.Lib.join_cons,List.length_append,List.length_cons,Nat.add_mul]
  have:=h1 r (λx hx=>h x (List.mem_cons_of_mem _ hx))
  have:=h x (by simp)
  omega
theorem Jy (ls:List (List UInt8)) (sep:List UInt8) (m:Nat) (h:∀x∈ls,x.length<=m) (hl:ls.length<=1000000) (hm:m+sep.length<=10000):strings_Join (ls.map BB) (BB sep)=some (BB (Go.Lib.join ls sep)):=by
 have h1:=join_le sep m ls h
 have h2:ls.length*(m+sep.length)<=1000000*10000:=Nat.mul_le_mul hl hm
 have e:(ls.map BB).map (λx=>x.data.toList)=ls:=by rw [List.map_map];exact List.map_id' ls
 unfold strings_Join FY
 rw [e]
 have e2:(BB sep).data.toList=sep:=rfl
 rw [e2,if_pos ⟨by simp;omega,by omega⟩]
theorem xM:∀(l:List Int) (k:Nat) (out:List ByteArray),(∀n∈l,Med n)->l.length+out.length<=1000000->jU (λk x s=>kS k x s) l k out=some (.go (out++l.map λn=>BB (Go.Lib.itoa n)))
 | [],k,out,h,hl=>by simp [jU]
 | n::l,k,out,h,hl=>by
  simp only [List.length_cons]at hl
  have ih:=xM l (k+1) (out++[BB (Go.Lib.itoa n)]) (λx hx=>h x (List.mem_cons_of_mem _ hx)) (by simp;omega)
  have hstep:kS k n out=some (.go (out++[BB (Go.Lib.itoa n)])):=by
   unfold kS
   rw [yI (h n (by simp))]
   simp only [ob_]
   rw [oW _ _ (by simp;omega)]
   rfl
  simp only [jU,hstep,ob_]
  rw [ih]
  simp
theorem Fb (l:List Int) (h:∀n∈l,Med n) (hl:l.length<=1000000):om l=some (BB (Go.Lib.join (l.map Go.Lib.itoa) [32])):=by
 unfold om
 rw [iX (by omega),xM l 0 [] h (by simpa using hl)]
 simp only [ob_,jd,List.nil_append]
 have e:(l.map λn=>BB (Go.Lib.itoa n))=(l.map Go.Lib.itoa).map BB:=by rw [List.map_map];rfl
 have hj:=Jy (l.map Go.Lib.itoa) [32] 21 (λx hx=>by
  obtain ⟨n,hn,rfl⟩:=List.mem_map.1 hx
  exact mq (h n hn)) (by simpa using hl) (by decide)
 rw [e]
 have e2:(⟨#[32]⟩:ByteArray)=BB [32]:=rfl
 rw [e2,hj]
 rfl
def GoodL (x:Log_):Prop:=iR x.Player/\iR x.Item/\iR x.Sum/\Med x.No/\Med x.Clock/\Med x.Long
def xX (x:Log_):List UInt8:=x.Player.data.toList++[32]++x.Item.data.toList++[32]++Go.Lib.itoa x.No++[32]++Go.Lib.itoa x.Clock++[32]++Go.Lib.itoa x.Long
theorem mR {s:ByteArray} (h:iR s):s.data.toList.length<=1000:=by rw [<- Go.Lib.size_eq];exact h
theorem Br {x:Log_} (h:GoodL x):(xX x).length<=2100:=by
 obtain ⟨h1,h2,_,h4,h5,h6⟩:=h
 have:=mR h1;have:=mR h2;have:=mq h4;have:=mq h5;have:=mq h6
 simp only [xX,List.length_append,List.length_cons,List.length_nil]
 omega
theorem line_eq {x:Log_} (h:GoodL x):qb x=some (BB (xX x)):=by
 obtain ⟨h1,h2,_,h4,h5,h6⟩:=h
 have l1:=mR h1;have l2:=mR h2;have l4:=mq h4;have l5:=mq h5;have l6:=mq h6
 unfold qb
 rw [yI h4,yI h5,yI h6]
 rw [show x.Player=BB x.Player.data.toList from rfl,show x.Item=BB x.Item.data.toList from rfl,show (⟨#[32]⟩:ByteArray)=BB [32] from rfl]
 simp only [ob_]
 rw [oQ _ _ (by simp only [List.length_append,List.length_cons,List.length_nil];omega)];simp only [ob_]
 rw [oQ _ _ (by simp only [List.length_append,List.length_cons,List.length_nil];omega)];simp only [ob_]
 rw [oQ _ _ (by simp only [List.length_append,List.length_cons,List.length_nil];omega)];simp only [ob_]
 rw [oQ _ _ (by simp only [List.length_append,List.length_cons,List.length_nil];omega)];simp only [ob_]
 rw [oQ _ _ (by simp only [List.length_append,List.length_cons,List.length_nil];omega)];simp only [ob_]
 rw [oQ _ _ (by simp only [List.length_append,List.length_cons,List.length_nil];omega)];simp only [ob_]
 rw [oQ _ _ (by simp only [List.length_append,List.length_cons,List.length_nil];omega)];simp only [ob_]
 rw [oQ _ _ (by simp only [List.length_append,List.length_cons,List.length_nil];omega)];simp only [ob_]
 rfl
theorem ES {x:Log_} (h:GoodL x):oz x=some (BB (xX x)):=by
 obtain ⟨h1,h2,_,h4,h5,h6⟩:=h
 have l1:=mR h1;have l2:=mR h2;have l4:=mq h4;have l5:=mq h5;have l6:=mq h6
 have hn:=Fb [x.No,x.Clock,x.Long] (λn hn=>by
  simp only [List.mem_cons,List.not_mem_nil,or_false]at hn
  rcases hn with rfl|rfl|rfl
  ·exact h4
  ·exact h5
  ·exact h6) (by simp)
 have hj:Go.Lib.join ([x.No,x.Clock,x.Long].map Go.Lib.itoa) [32]=Go.Lib.itoa x.No++[32]++Go.Lib.itoa x.Clock++[32]++Go.Lib.itoa x.Long:=by
  simp [Go.Lib.join_cons,Go.Lib.joinTail]
 rw [hj]at hn
 unfold oz
 rw [hn]
 have lj:(Go.Lib.itoa x.No++[32]++Go.Lib.itoa x.Clock++[32]++Go.Lib.itoa x.Long).length<=100:=by simp only [List.length_append,List.length_cons,List.length_nil];omega
 rw [show x.Player=BB x.Player.data.toList from rfl,show x.Item=BB x.Item.data.toList from rfl,show (⟨#[32]⟩:ByteArray)=BB [32] from rfl]
 rw [oQ _ _ (by simp only [List.length_append,List.length_cons,List.length_nil];omega)];simp only [ob_]
 rw [oQ _ _ (by simp only [List.length_append,List.length_cons,List.length_nil];omega)];simp only [ob_]
 rw [oQ _ _ (by simp only [List.length_append,List.length_cons,List.length_nil];omega)];simp only [ob_]
 rw [oQ _ _ (by simp only [List.length_append,List.length_cons,List.length_nil];omega)];simp only [ob_]
 unfold xX
 simp
def mk (l:List UInt8):ByteArray:=BB (vX 16 (fnv l).toNat)
theorem mk_size (l:List UInt8):(mk l).size=16:=by unfold mk;rw [og,Eh]
theorem vY (l:List UInt8):iR (mk l):=by unfold iR;rw [mk_size];decide
theorem markP (l:List UInt8) (h:l.length<=1000000000):nM (BB l)=some (mk l):=mark_eq (BB l) (by rw [og];exact h)
theorem markR (l:List UInt8) (h:l.length<=1000000000):qd (BB l)=some (mk l):=FQ (BB l) (by rw [og];exact h)
def formF (x:Log_):Int:=bif !sj x.Player then 5 else bif !sj x.Item then 5 else bif (sP x.No 1 1000000||(sP x.Clock 0 345686399999||sP x.Long 1 86400000))then 1 else 0
theorem Ei {x:Log_} (h:GoodL x):lN x=some (formF x):=by
 obtain ⟨h1,h2,_,_,_,_⟩:=h
 unfold iR at h1 h2
 unfold lN formF
 rw [vN x.Player (by omega),vN x.Item (by omega)]
 simp only [ob_,zF]
 cases sj x.Player <;> cases sj x.Item <;> cases sP x.No 1 1000000 <;> cases sP x.Clock 0 345686399999 <;> cases sP x.Long 1 86400000 <;> rfl
theorem FL {x:Log_} (h:GoodL x):ou x=some (formF x):=by
 obtain ⟨h1,h2,_,_,_,_⟩:=h
 unfold iR at h1 h2
 unfold ou formF
 rw [Bh x.Player (by omega),Bh x.Item (by omega)]
 simp only [ob_,in_eq,Cm,oq]
 cases sj x.Player <;> cases sj x.Item <;> cases sP x.No 1 1000000 <;> cases sP x.Clock 0 345686399999 <;> cases sP x.Long 1 86400000 <;> rfl
def Hq (b:UInt8):Bool:=uQ.data.toList.contains b
theorem Jb:∀n:Fin 256,oU uQ (UInt8.ofNat n.val)=Hq (UInt8.ofNat n.val):=by decide +kernel
theorem Db (b:UInt8):oU uQ b=Hq b:=by
 have:=Jb ⟨b.toNat,b.toNat_lt⟩
 simpa using this
def markB (s:ByteArray):Bool:=(s.size==16)&&s.data.toList.all Hq
theorem Hf (s:ByteArray) (p:UInt8->Bool):((List.range s.size).all λi=>p (gu s i))=s.data.toList.all p:=by
 rw [Bool.eq_iff_iff,List.all_eq_true,List.all_eq_true]
 constructor
 ·intro h b hb
  obtain ⟨i,hi,rfl⟩:=List.getElem_of_mem hb
  have:=h i (List.mem_range.2 (by rw [Go.Lib.size_eq];exact hi))
  simpa [gu,List.getD,List.getElem?_eq_getElem hi]using this
 ·intro h i hi
  have hi':i<s.data.toList.length:=by rw [<- Go.Lib.size_eq];exact List.mem_range.1 hi
  have:=h _ (List.getElem_mem hi')
  simpa [gu,List.getD,List.getElem?_eq_getElem hi']using this
theorem Iz (s:ByteArray):((s.size:Int)==16)=(s.size==16):=by
 rw [Bool.eq_iff_iff];simp only [beq_iff_eq];omega
theorem BP {s:ByteArray} (h:iR s):pM s=some (markB s):=by
 unfold iR at h
 unfold pM markB
 rw [Iz]
 have ho:=CK s uQ (by omega)
 have e:(λi=>oU uQ (gu s i))=(λi=>Hq (gu s i)):=by funext i;exact Db _
 rw [e,Hf]at ho
 have ho':oF s (⟨#[48,49,50,51,52,53,54,55,56,57,97,98,99,100,101,102]⟩:ByteArray)=some (s.data.toList.all Hq):=ho
 rw [ho']
 cases (s.size==16) <;> rfl
theorem ug {p:UInt8->Bool}:∀(l:List UInt8),l.dropWhile p=[]↔l.all p=true
 | []=>by simp
 | x::l=>by
  rw [List.dropWhile_cons]
  cases h:p x with
  | true=>simp [h,ug l]
  | false=>simp [h]
theorem Ja (l cs:List UInt8):Go.Lib.trimS l cs=[]↔l.all (cs.contains ·)=true:=by
 unfold Go.Lib.trimS Go.Lib.trimLeftS Go.Lib.trimRightS
 rw [ug,List.all_reverse]
 constructor
 ·intro h
  have h2:(l.reverse.dropWhile (cs.contains ·))=[]:=by
   cases hd:l.reverse.dropWhile (cs.contains ·)with
   | nil=>rfl
   | cons x r =>
    rw [hd]at h
    have h3:∀(m:List UInt8),m.dropWhile (cs.contains ·)=x::r->cs.contains x=false:=by
     intro m
     induction m with
     | nil=>intro e;simp at e
     | cons y m ih =>
      intro e
      rw [List.dropWhile_cons]at e
      cases hy:cs.contains y with
      | true=>rw [hy]at e;exact ih e
      | false=>rw [hy]at e;simp only [Bool.false_eq_true,if_false,List.cons.injEq]at e;rw [<- e.1];exact hy
    have:=h3 _ hd
    simp only [List.all_cons,this,Bool.false_and,Bool.false_eq_true]at h
  rw [ug,List.all_reverse]at h2
  exact h2
 ·intro h
  have:l.reverse.dropWhile (cs.contains ·)=[]:=by rw [ug,List.all_reverse];exact h
  rw [this];rfl
theorem Hr {s:ByteArray} (h:iR s):ni s=some (markB s):=by
 unfold iR at h
 unfold ni markB
 rw [Iz]
 have ht:o5 s (⟨#[48,49,50,51,52,53,54,55,56,57,97,98,99,100,101,102]⟩:ByteArray)=some (BB (Go.Lib.trimS s.data.toList uQ.data.toList)):=by
  unfold o5 Ck
  rw [if_pos ⟨by omega,by decide,by decide⟩]
  rfl
 rw [ht]
 have e:sEq (BB (Go.Lib.trimS s.data.toList uQ.data.toList)) (⟨#[]⟩:ByteArray)=s.data.toList.all Hq:=by
  rw [Bool.eq_iff_iff,FR]
  have:=Ja s.data.toList uQ.data.toList
  constructor
  ·intro h
   apply this.1
   have:=congrArg (λx:ByteArray=>x.data.toList) h
   simpa using this
  ·intro h
   rw [this.2 h]
 simp only [ob_,e]
 cases (s.size==16) <;> rfl
def cmpL (a b:Log_):Int:=or0 (u7 a.Player b.Player) (HZ a.No b.No)
theorem p8 (a b:Log_):bv a b=some (cmpL a b):=by
 simp only [bv,vw,Bc,JD,ob_];rfl
theorem sign_eq {a b:Int} (ha:Med a) (hb:Med b):sO (w64 (a-b))=some (HZ a b):=by
 unfold Med at ha hb
 rw [bG (by omega)]
 unfold sO HZ
 by_cases h1:a<b
 ·have e1:decide (a-b<0)=true:=decide_eq_true (by omega)
  simp only [e1,cond_true,if_pos h1]
 ·have e1:decide (a-b<0)=false:=decide_eq_false (by omega)
  by_cases h2:a>b
  ·have e2:decide (a-b>0)=true:=decide_eq_true (by omega)
   simp only [e1,e2,cond_true,cond_false,if_neg h1,if_pos h2]
  ·have e2:decide (a-b>0)=false:=decide_eq_false (by omega)
   simp only [e1,e2,cond_false,if_neg h1,if_neg h2]
theorem Hw (a:ByteArray):u7 a a=0:=by
 rcases xu a a with⟨h,_⟩|⟨_,h⟩|⟨h,_⟩
 ·exact absurd h (zZ a)
 ·exact h
 ·exact absurd h (zZ a)
theorem cmpB_0 {a b:ByteArray} (h:u7 a b=0):a=b:=by
 rcases xu a b with⟨_,h'⟩|⟨h',_⟩|⟨_,h'⟩
 ·rw [h]at h';cases h'
 ·exact h'
 ·rw [h]at h';cases h'
theorem sN {a b:Log_} (ha:GoodL a) (hb:GoodL b):bU a b=some (cmpL a b):=by
 unfold bU cmpL or0
 rw [vO]
 by_cases h:a.Player=b.Player
 ·have e:(!decide (a.Player=b.Player))=false:=by simp [h]
  rw [e,h,Hw]
  simp only [cond_false,sign_eq ha.2.2.2.1 hb.2.2.2.1,ob_]
  rfl
 ·have e:(!decide (a.Player=b.Player))=true:=by simp [h]
  have e2:(u7 a.Player b.Player==0)=false:=by
   cases hc:(u7 a.Player b.Player==0)with
   | false=>rfl
   | true=>exact absurd (cmpB_0 (eq_of_beq hc)) h
  rw [e,e2]
  simp only [cond_true,vw,ob_,cond_false]
def Ie (p:Option Log_) (x:Log_):Int:=bif formF x != 0 then formF x else bif !markB x.Sum then 3 else match p with
 | none=>0
 | some o=>bif decide (cmpL o x>=0)then 7 else 0
def dR (l:List Log_):Int:=bif decide (l.length>2000)then 2 else BM Ie none l
theorem xW (l:List Log_) (hs:∀x∈l,GoodL x) (hl:l.length<=1000000):jH l=some (dR l):=by
 unfold jH dR
 have e:decide ((l.length:Int)>2000)=decide (l.length>2000):=decide_eq_decide.2 (by omega)
 rw [e]
 cases decide (l.length>2000)with
 | true=>rfl
 | false =>
  simp only [cond_false]
  rw [iX (by omega),uf (stp:=Ie) l l 0 rfl (λk x hx => ?_)]
  ·simp only [ob_,wO];rfl
  ·have hg:=hs x (List.mem_of_getElem? hx)
   simp only [lh,Ei hg,Hr hg.2.2.1,ob_,Ie]
   cases hf:(formF x != 0)with
   | true =>
    have:(formF x==0)=false:=by simpa using hf
    simp only [cond_true,yC,this,cond_false]
   | false =>
   simp only [cond_false]
   cases markB x.Sum with
   | false=>rfl
   | true =>
   simp only [Bool.not_true,cond_false]
   by_cases hk0:0<k
   ·obtain ⟨y,h1,h2⟩:=Ae hx hk0 (by omega)
    have hd:decide ((k:Int)>0)=true:=by simp;omega
    simp only [hd,cond_true,h1,ob_,xG,if_neg (show ¬k=0 by omega),h2,p8]
    cases decide (cmpL y x>=0) <;> rfl
   ·have hk0:k=0:=by omega
    subst hk0
    rfl
theorem logsR (l:List Log_) (hs:∀x∈l,GoodL x) (hl:l.length<=1000000):lI l=some (dR l):=by
 unfold lI dR
 have e:decide ((l.length:Int)>2000)=decide (l.length>2000):=decide_eq_decide.2 (by omega)
 rw [e]
 cases decide (l.length>2000)with
 | true=>rfl
 | false =>
  simp only [cond_false]
  rw [iX (by omega),uf (stp:=Ie) l l 0 rfl (λk x hx => ?_)]
  ·simp only [ob_,wO];rfl
  ·have hg:=hs x (List.mem_of_getElem? hx)
   simp only [l7,FL hg,BP hg.2.2.1,ob_,Ie]
   cases hf:(formF x != 0)with
   | true =>
    have:(formF x==0)=false:=by simpa using hf
    simp only [cond_true,yC,this,cond_false]
   | false =>
   simp only [cond_false]
   cases markB x.Sum with
   | false=>rfl
   | true =>
   simp only [Bool.not_true,cond_false]
   by_cases hk0:0<k
   ·obtain ⟨y,h1,h2⟩:=Ae hx hk0 (by omega)
    have hd:decide ((k:Int)>0)=true:=by simp;omega
    have hy:=hs y (List.mem_of_getElem? h2)
    simp only [hd,cond_true,h1,ob_,xG,if_neg (show ¬k=0 by omega),h2,sN hy hg]
    cases decide (cmpL y x>=0) <;> rfl
   ·have hk0:k=0:=by omega
    subst hk0
    rfl
theorem mb {α β:Type} {E:Option α} {f:α->Option β} {P:α->Prop} {Q:β->Prop} (h:∃a,E=some a/\P a) (k:∀a,P a->∃r,f a=some r/\Q r):∃r,E.bind f=some r/\Q r:=by
 obtain ⟨a,h1,h2⟩:=h
 obtain ⟨r,h3,h4⟩:=k a h2
 exact⟨r,by rw [h1];exact h3,h4⟩
theorem mc {β:Type} {c:Bool} {X Y:Option β} {Q:β->Prop} (h1:c=true->∃r,X=some r/\Q r) (h2:c=false->∃r,Y=some r/\Q r):∃r,(bif c then X else Y)=some r/\Q r:=by
 cases c with
 | true=>exact h1 rfl
 | false=>exact h2 rfl
theorem mr {β:Type} {a:β} {Q:β->Prop} (h:Q a):∃r,some a=some r/\Q r:=⟨a,rfl,h⟩
theorem BR (s:Stream) (n:Int) {b:Int} (hs:Ok s b) (hb:b<=1000000) (h:1<=n) (hn:n<=4611686018427387904):∃a,dJ s n=some a/\(0<=a.1/\a.1<n/\Ok a.2 (b+1)):=by
 obtain ⟨r,s',h1,h2,h3,h4⟩:=wB s n hs hb h hn
 exact⟨(r,s'),h1,h2,h3,h4⟩
theorem xg (s:Stream) (n:Int) {b:Int} (hs:Ok s b) (hb:b<=1000000) (h:1<=n) (hn:n<=1000):∃a,gp s n=some a/\Ok a.2 (b+1):=by
 obtain ⟨r,s',h1,h2⟩:=flip_ok s n hs hb h hn
 exact⟨(r,s'),h1,h2⟩
theorem yN (s:Stream) (l:List Int) {b:Int} (hs:Ok s b) (hb:b<=1000000) (h:1<=l.length) (hn:l.length<=1000):∃a,iA s l=some a/\(a.1∈l/\Ok a.2 (b+1)):=by
 obtain ⟨r,s',h1,h2,h3⟩:=pick_ok s l hs hb h hn
 exact⟨(r,s'),h1,h2,h3⟩
theorem wY (s:Stream) (l:List ByteArray) {b:Int} (hs:Ok s b) (hb:b<=1000000) (h:1<=l.length) (hn:l.length<=1000):∃a,fU s l=some a/\(a.1∈l/\Ok a.2 (b+1)):=by
 obtain ⟨r,s',h1,h2,h3⟩:=some_ok s l hs hb h hn
 exact⟨(r,s'),h1,h2,h3⟩
theorem FT (s:Stream) (lo hi:Int) {b:Int} (hs:Ok s b) (hb:b<=1000000) (h:lo<=hi) (h1 : -1000000000000<=lo) (h2:hi<=1000000000000):∃a,jG s lo hi=some a/\(lo<=a.1/\a.1<=hi/\Ok a.2 (b+1)):=by
 obtain ⟨r,s',k1,k2,k3,k4⟩:=Iy s lo hi hs hb h h1 h2
 exact⟨(r,s'),k1,k2,k3,k4⟩
theorem I1 (s:Stream) (lo hi:Int) {b:Int} (hs:Ok s b) (hb:b<=900000) (h:lo<=hi) (h1 : -1000000000000<=lo) (h2:hi<=1000000000000):∃a,kJ s lo hi=some a/\(Med a.1/\Ok a.2 (b+2)):=by
 unfold kJ
 refine mb (xg s 12 hs (by omega) (by decide) (by decide)) (λc hc=>mc (λ_ => ?_) (λ_ => ?_))
 ·refine mb (yN c.2 _ hc (by omega) (by simp) (by simp)) (λr hr=>mr ⟨?_,hr.2.mono (by omega)⟩)
  have e1:w64 (lo-1)=lo-1:=bG (by omega)
  have e2:w64 (hi+1)=hi+1:=bG (by omega)
  have hm:=hr.1
  rw [e1,e2]at hm
  simp only [List.mem_cons,List.not_mem_nil,or_false]at hm
  unfold Med
  rcases hm with h|h|h|h|h|h <;> omega
 ·refine mb (FT c.2 lo hi hc (by omega) h h1 h2) (λr hr=>mr ⟨?_,hr.2.2.mono (by omega)⟩)
  unfold Med
  have:=hr.1;have:=hr.2.1
  omega
theorem DX (last:ByteArray) {x:Log_} (hl:iR last) (h:GoodL x):lY last x=some (mk (last.data.toList++[32]++xX x)):=by
 have l1:=Br h;have l2:=mR hl
 unfold lY
 rw [ES h,show last=BB last.data.toList from rfl,show (⟨#[32]⟩:ByteArray)=BB [32] from rfl]
 simp only [ob_]
 rw [oQ _ _ (by simp only [List.length_append,List.length_cons,List.length_nil];omega)];simp only [ob_]
 rw [oQ _ _ (by simp only [List.length_append,List.length_cons,List.length_nil];omega)];simp only [ob_]
 rw [markR _ (by simp only [List.length_append,List.length_cons,List.length_nil];omega)]
 rfl
theorem qW {a:ByteArray} {l:List ByteArray} (h:a∈l) (hl:∀x∈l,iR x):iR a:=hl a h
theorem yG {a b:ByteArray} (ha:iR a) (hb:iR b):∀x ∈ [a,b],iR x:=λx hx=>by
 simp only [List.mem_cons,List.not_mem_nil,or_false]at hx
 rcases hx with rfl|rfl
 ·exact ha
 ·exact hb
theorem shorts3 {a b c:ByteArray} (ha:iR a) (hb:iR b) (hc:iR c):∀x ∈ [a,b,c],iR x:=λx hx=>by
 simp only [List.mem_cons,List.not_mem_nil,or_false]at hx
 rcases hx with rfl|rfl|rfl
 ·exact ha
 ·exact hb
 ·exact hc
theorem BN (s:Stream) (most:Int) (hm:0<=most/\most<=20) {b:Int} (hs:Ok s b) (hb:b<=700000):∃r,jK s most=some r/\(Ok r.2 (b+300)/\r.1.length<=2*most.toNat/\∀x∈r.1,GoodL x):=by
 unfold jK
 obtain ⟨s',h1,h2,h3,h4⟩:=Ey (body:=λk x s=>gD most k x s) (λk s=>Ok ⟨s.2.1,s.2.2⟩ (b+150*k)/\s.1.length<=most.toNat*k/\∀x∈s.1,GoodL x)
  (xs:=[(⟨#[112,97]⟩:ByteArray),(⟨#[112,98]⟩:ByteArray)]) (s:=(([]:List Log_),s.L,s.f_at)) (by simp) (λk x t hxm hk ⟨i1,i2,i3⟩=>by
   have hk2:k<2:=hk
   have hsh:iR x:=by
    simp only [List.mem_cons,List.not_mem_nil,or_false]at hxm
    rcases hxm with rfl|rfl <;> exact jf rfl
   obtain ⟨a,a1,a2,a3⟩:=yN _ [0,50,1000] i1 (by omega) (by simp) (by simp)
   have ha:0<=a.1/\a.1<=1000:=by
    simp only [List.mem_cons,List.not_mem_nil,or_false]at a2
    rcases a2 with h|h|h <;> omega
   obtain ⟨n,n1,n2,n3,n4⟩:=FT a.2 0 most a3 (by omega) hm.1 (by omega) (by omega)
   obtain ⟨u,m1,m2,m3,m4,m5,m6⟩:=Ey (body:=λk y s=>iV x k y s) (λj s=>Ok ⟨s.2.2.2.1,s.2.2.2.2⟩ (b+150*k+2+4*j)/\iR s.2.1/\(0<=s.2.2.1/\s.2.2.1<=1000+100*j)/\s.1.length<=most.toNat*k+j/\∀x∈s.1,GoodL x)
    (xs:=List.range n.1.toNat) (s:=(t.1,(⟨#[]⟩:ByteArray),a.1,n.2.L,n.2.f_at)) (by simp;omega) (λj y v _ hj ⟨j1,j2,j3,j4,j5⟩=>by
     have hj3:j<20:=by rw [List.length_range]at hj;omega
     have hmk:most.toNat*k<=20*2:=Nat.mul_le_mul (by omega) (by omega)
     obtain ⟨p,p1,p2,p3⟩:=wY _ [(⟨#[105,97]⟩:ByteArray),(⟨#[105,98]⟩:ByteArray)] j1 (by omega) (by simp) (by simp)
     have hp:iR p.1:=qW p2 (yG (jf rfl) (jf rfl))
     obtain ⟨q,q1,q2,q3⟩:=yN p.2 [1,10,30,100] p3 (by omega) (by simp) (by simp)
     have hq:Med q.1:=by
      unfold Med
      simp only [List.mem_cons,List.not_mem_nil,or_false]at q2
      rcases q2 with h|h|h|h <;> omega
     have hw:w64 ((j:Int)+1)=(j:Int)+1:=bG (by omega)
     have hg0:GoodL (⟨x,p.1,w64 ((j:Int)+1),v.2.2.1,q.1,(⟨#[]⟩:ByteArray)⟩:Log_):=⟨hsh,hp,jf rfl,by rw [hw];show Med ((j:Int)+1);unfold Med;omega,by show Med v.2.2.1;unfold Med;omega,hq⟩
     obtain ⟨r,r1,r2,r3⟩:=yN q.2 [0,5,10,50,100] q3 (by omega) (by simp) (by simp)
     have hr:0<=r.1/\r.1<=100:=by
      simp only [List.mem_cons,List.not_mem_nil,or_false]at r2
      rcases r2 with h|h|h|h|h <;> omega
     obtain ⟨c,c1,c2⟩:=xg r.2 6 r3 (by omega) (by decide) (by decide)
     have hsum:=DX v.2.1 j2 hg0
     have hw2:w64 (v.2.2.1+r.1)=v.2.2.1+r.1:=bG (by omega)
     have hgl:∀z∈v.1++[(⟨x,p.1,w64 ((j:Int)+1),v.2.2.1,q.1,mk (v.2.1.data.toList++[32]++xX (⟨x,p.1,w64 ((j:Int)+1),v.2.2.1,q.1,(⟨#[]⟩:ByteArray)⟩:Log_))⟩:Log_)],GoodL z:=λz hz=>by
      rcases List.mem_append.1 hz with hz|hz
      ·exact j5 z hz
      ·rw [List.mem_singleton.1 hz];exact⟨hsh,hp,vY _,hg0.2.2.2.1,hg0.2.2.2.2.1,hq⟩
     simp only [iV,p1,q1,hsum,r1,c1,ob_]
     cases c.1 with
     | true =>
      simp only [Bool.not_true,cond_false,ob_]
      exact⟨_,rfl,c2.mono (by omega),vY _,by show 0<=w64 (v.2.2.1+r.1)/\w64 (v.2.2.1+r.1)<=_;rw [hw2];omega,by show v.1.length<=_;omega,j5⟩
     | false =>
      simp only [Bool.not_false,cond_true]
      rw [oW v.1 [_] (by simp;omega)]
      simp only [ob_]
      exact⟨_,rfl,c2.mono (by omega),vY _,by show 0<=w64 (v.2.2.1+r.1)/\w64 (v.2.2.1+r.1)<=_;rw [hw2];omega,by simp;omega,hgl⟩) ⟨n4.mono (by omega),jf rfl,by simpa using ha,by simpa using i2,i3⟩
   have hstep:gD most k x t=some (.go (u.1,u.2.2.2.1,u.2.2.2.2)):=by
    unfold gD
    rw [a1];simp only [ob_]
    rw [n1];simp only [ob_]
    rw [m1];rfl
   rw [hstep]
   have hl:(List.range n.1.toNat).length<=most.toNat:=by rw [List.length_range];omega
   refine⟨_,rfl,m2.mono (by omega),?_,m6⟩
   show u.1.length<=most.toNat*(k+1)
   rw [Nat.mul_succ];omega) ⟨by simpa using hs,by simp,by simp⟩
 rw [h1]
 refine mr ⟨h2.mono (by simp),?_,h4⟩
 show s'.1.length<=_
 have:s'.1.length<=most.toNat*2:=h3
 omega
theorem tL {xs:List Log_} {k:Nat} (h:k<xs.length) (hs:∀x∈xs,GoodL x):∃a,xs[k]? = some a/\GoodL a:=⟨xs[k],List.getElem?_eq_getElem h,hs _ (List.getElem_mem _)⟩
theorem Jw {xs:List Log_} {k:Int} (h0:0<=k) (h:k<(xs.length:Int)):∃a,inR k xs=some a/\True:=⟨(),inR_ok h0 h,trivial⟩
theorem Gl (s:Stream) (most:Int) (hm:0<=most/\most<=20) {b:Int} (hs:Ok s b) (hb:b<=600000):∃r,kY s most=some r/\(Ok r.2 (b+400)/\r.1.length<=2*most.toNat/\∀x∈r.1,GoodL x):=by
 unfold kY
 refine mb (BN s most hm hs (by omega)) (λr hr => ?_)
 obtain ⟨r1,r2,r3⟩:=hr
 refine mb (P:=λv=>Ok ⟨v.2.1,v.2.2⟩ (b+301)/\(v.1=true->0<r.1.length)) (mc (λh => ?_) (λ_ => ?_)) (λv hv => ?_)
 ·refine mb (xg r.2 4 r1 (by omega) (by decide) (by decide)) (λc hc=>mr ⟨hc.mono (by omega),λ_ => ?_⟩)
  simp only [decide_eq_true_eq]at h;omega
 ·exact mr ⟨r1.mono (by omega),λh=>by cases h⟩
 refine mb (P:=λu=>Ok ⟨u.2.1,u.2.2⟩ (b+320)/\u.1.length=r.1.length/\∀x∈u.1,GoodL x) (mc (λh => ?_) (λ_ => ?_)) (λu hu => ?_)
 ·have hpos:=hv.2 h
  refine mb (BR _ _ hv.1 (by omega) (by omega) (by omega)) (λi hi => ?_)
  have hlt:0+i.1.toNat<r.1.length:=by omega
  refine mb (Jw hi.1 hi.2.1) (λ_ _ => ?_)
  refine mb (wY i.2 _ hi.2.2 (by omega) (by simp) (by simp)) (λp hp => ?_)
  have hps:iR p.1:=qW hp.1 (yG (jf rfl) (jf rfl))
  refine mb (tL hlt r3) (λe he => ?_)
  refine mb (P:=λm=>iR m) ⟨mk [120],markR [120] (by simp),vY _⟩ (λm hmk => ?_)
  refine mb (wY p.2 _ hp.2 (by omega) (by simp) (by simp)) (λq hq => ?_)
  have hqs:iR q.1:=qW hq.1 (yG he.2.2.1 hmk)
  refine mb (tL hlt r3) (λe2 he2 => ?_)
  have hs1:∀x∈r.1.set (0+i.1.toNat) (⟨e2.Player,p.1,e2.No,e2.Clock,e2.Long,e2.Sum⟩:Log_),GoodL x:=o7 r3 ⟨he2.1,hps,he2.2.2⟩
  refine mb (tL (by simpa using hlt) hs1) (λe3 he3=>mr ⟨hq.2.mono (by omega),by simp,o7 hs1 ⟨he3.1,he3.2.1,hqs,he3.2.2.2⟩⟩)
 ·exact mr ⟨hv.1.mono (by omega),rfl,r3⟩
 obtain ⟨u1,u2,u3⟩:=hu
 refine mb (P:=λv=>Ok ⟨v.2.1,v.2.2⟩ (b+321)/\(v.1=true->0<u.1.length)) (mc (λh => ?_) (λ_ => ?_)) (λv hv => ?_)
 ·refine mb (xg _ 12 u1 (by omega) (by decide) (by decide)) (λc hc=>mr ⟨hc.mono (by omega),λ_ => ?_⟩)
  simp only [decide_eq_true_eq]at h;omega
 ·exact mr ⟨u1.mono (by omega),λh=>by cases h⟩
 refine mb (P:=λz=>Ok ⟨z.2.1,z.2.2⟩ (b+390)/\z.1.length=u.1.length/\∀x∈z.1,GoodL x) (mc (λh => ?_) (λ_ => ?_)) (λz hz=>mr ⟨hz.1.mono (by omega),by rw [hz.2.1,u2];exact r2,hz.2.2⟩)
 ·have hpos:=hv.2 h
  refine mb (BR _ _ hv.1 (by omega) (by omega) (by omega)) (λi hi => ?_)
  have hlt:0+i.1.toNat<u.1.length:=by omega
  refine mb (Jw hi.1 hi.2.1) (λ_ _ => ?_)
  refine mb (BR i.2 4 hi.2.2 (by omega) (by omega) (by omega)) (λj hj => ?_)
  refine mc (λ_ => ?_) (λ_=>mc (λ_ => ?_) (λ_=>mc (λ_ => ?_) (λ_ => ?_)))
  ·refine mb (tL hlt u3) (λe he => ?_)
   refine mb (wY j.2 _ hj.2.2 (by omega) (by simp) (by simp)) (λp hp => ?_)
   refine mb (wY p.2 _ hp.2 (by omega) (by simp) (by simp)) (λq hq => ?_)
   have hps:iR p.1:=qW hp.1 (shorts3 he.1 (jf rfl) (jf rfl))
   have hqs:iR q.1:=qW hq.1 (yG (jf rfl) (jf rfl))
   refine mb (tL hlt u3) (λe2 he2 => ?_)
   have hs1:∀x∈u.1.set (0+i.1.toNat) (⟨p.1,e2.Item,e2.No,e2.Clock,e2.Long,e2.Sum⟩:Log_),GoodL x:=o7 u3 ⟨hps,he2.2⟩
   refine mb (tL (by simpa using hlt) hs1) (λe3 he3=>mr ⟨hq.2.mono (by omega),by simp,o7 hs1 ⟨he3.1,hqs,he3.2.2⟩⟩)
  ·refine mb (I1 j.2 1 1000000 hj.2.2 (by omega) (by omega) (by omega) (by omega)) (λp hp => ?_)
   refine mb (tL hlt u3) (λe he=>mr ⟨hp.2.mono (by omega),by simp,o7 u3 ⟨he.1,he.2.1,he.2.2.1,hp.1,he.2.2.2.2⟩⟩)
  ·refine mb (I1 j.2 0 1000 hj.2.2 (by omega) (by omega) (by omega) (by omega)) (λp hp => ?_)
   refine mb (I1 p.2 1 1000 hp.2 (by omega) (by omega) (by omega) (by omega)) (λq hq => ?_)
   refine mb (tL hlt u3) (λe2 he2 => ?_)
   have hs1:∀x∈u.1.set (0+i.1.toNat) (⟨e2.Player,e2.Item,e2.No,p.1,e2.Long,e2.Sum⟩:Log_),GoodL x:=o7 u3 ⟨he2.1,he2.2.1,he2.2.2.1,he2.2.2.2.1,hp.1,he2.2.2.2.2.2⟩
   refine mb (tL (by simpa using hlt) hs1) (λe3 he3=>mr ⟨hq.2.mono (by omega),by simp,o7 hs1 ⟨he3.1,he3.2.1,he3.2.2.1,he3.2.2.2.1,he3.2.2.2.2.1,hq.1⟩⟩)
  ·refine mb (wY j.2 _ hj.2.2 (by omega) (by simp) (by simp)) (λp hp => ?_)
   have hps:iR p.1:=by
    have:=hp.1
    simp only [List.mem_cons,List.not_mem_nil,or_false]at this
    rcases this with h|h|h|h <;> rw [h] <;> exact jf rfl
   refine mb (tL hlt u3) (λe he=>mr ⟨hp.2.mono (by omega),by simp,o7 u3 ⟨he.1,he.2.1,hps,he.2.2.2⟩⟩)
 ·exact mr ⟨hv.1.mono (by omega),rfl,u3⟩
def GoodB (x:Beat):Prop:=iR x.Player
end Go.Proofs.YtdpginbnipklcaaGreatDoor.Law

