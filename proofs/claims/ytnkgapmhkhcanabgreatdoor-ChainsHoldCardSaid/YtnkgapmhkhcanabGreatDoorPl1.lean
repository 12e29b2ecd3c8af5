/-
  THE PLAIN LAW (part 1).
-/
import Derived.Test.YtnkgapmhkhcanabGreatDoorEng5
import Derived.Test.YtnkgapmhkhcanabGreatDoorDefs
import Derived.Lib.ItoaLen
namespace Go.Eng
set_option linter.unusedVariables false
set_option linter.unusedSimpArgs false
theorem jm {α σ ρ:Type} {body:Nat->α->σ->Option (Ctl σ ρ)} {xs:List α} {s:σ} (hl:xs.length<=1000000000000):forL xs s body=forR body xs 0 s:=by unfold forL;rw [if_pos hl]
theorem gM {σ ρ τ:Type} (s:σ) (f:σ->Option τ) (g:ρ->Option τ):thenC (.go s) f g=f s:=rfl
theorem L9 {σ ρ τ:Type} (r:ρ) (f:σ->Option τ) (g:ρ->Option τ):thenC (.ret r) f g=g r:=rfl
theorem sK {α:Type} (xs:List α) (k:Nat):idx xs (k:Int)=xs[k]? := by simp [idx]
theorem fQ {n:Int} (h : -9223372036854775808<=n/\n<=9223372036854775807):w64 n=n:=u7 n h
theorem toL (s:ByteArray):s.toList=s.data.toList:=Go.Lib.toList_data s
theorem zH {a b:ByteArray} (h:a.toList=b.toList):a=b:=by
 rw [toL,toL]at h
 obtain ⟨⟨a⟩⟩:=a
 obtain ⟨⟨b⟩⟩:=b
 simp only at h
 rw [h]
theorem lG (a b:ByteArray):sEq a b=true↔a=b:=by
 simp only [sEq,beq_iff_eq]
 exact⟨zH,λh=>by rw [h]⟩
theorem sEq_dec (a b:ByteArray):sEq a b=decide (a=b):=by
 rw [Bool.eq_iff_iff,lG];simp
theorem sNe_dec (a b:ByteArray):sNe a b = !decide (a=b):=by
 have:=sEq_dec a b;simp only [sEq,sNe]at *;rw [this]
def lt (a b:ByteArray):Prop:=a.toList<b.toList
theorem ML (a:ByteArray):¬lt a a:=List.lt_irrefl a.toList
theorem sNe_nil (a:ByteArray):sNe a ⟨#[]⟩=decide (a.size≠0):=by
 rw [sNe_dec,Go.Lib.size_eq,Bool.eq_iff_iff]
 simp only [Bool.not_eq_true',decide_eq_false_iff_not,decide_eq_true_eq,ne_eq]
 refine not_congr ⟨λh=>by rw [h];rfl,λh => ?_⟩
 exact zH (by rw [toL,List.eq_nil_of_length_eq_zero h,toL])
end Go.Eng

open Go Go.Eng
namespace Go.Proofs.YtnkgapmhkhcanabGreatDoor.Law
set_option linter.unusedVariables false
set_option linter.unusedSimpArgs false
def Ok (s:Stream) (b:Int):Prop:=0<=s.f_at/\s.f_at<=b
theorem Ok.mono {s:Stream} {b c:Int} (h:Ok s b) (hc:b<=c):Ok s c:=⟨h.1,Int.le_trans h.2 hc⟩
theorem D6 (x n:Int) (h:1<=n) (hn:n<=4611686018427387904):∃r,rz x n=some r/\0<=r/\r<n:=by
 have h1:x.tmod n<n:=Int.tmod_lt_of_pos x (by omega)
 have h2 : -n<x.tmod n:=Int.lt_tmod_of_pos x (by omega)
 have hb:decide (n<1)=false:=by simp;omega
 have hn0:n≠0:=by omega
 simp only [rz,hb,cond_false,GM,if_neg hn0,ob_]
 cases hd:decide (x.tmod n<0)with
 | true =>
  simp only [decide_eq_true_eq]at hd
  exact⟨_,rfl,by rw [fQ (by omega)];omega,by rw [fQ (by omega)];omega⟩
 | false =>
  simp only [decide_eq_false_iff_not]at hd
  exact⟨_,rfl,by omega,h1⟩
theorem EX (s:Stream) (n:Int) {b:Int} (hs:Ok s b) (hb:b<=1000000) (h:1<=n) (hn:n<=4611686018427387904):∃r s',iB s n=some (r,s')/\0<=r/\r<n/\Ok s' (b+1):=by
 obtain ⟨h0,h1⟩:=hs
 have e1:w64 (s.f_at+1)=s.f_at+1:=fQ (by omega)
 have e2:w64 (s.f_at+1-1)=s.f_at:=by rw [fQ (by omega)];omega
 simp only [iB,e1,e2]
 by_cases hl:s.L.length=0
 ·have:((s.L.length:Int)==0)=true:=by simp [hl]
  simp only [this,cond_true]
  obtain ⟨r,hr,h2,h3⟩:=D6 (w64 ((s.f_at+1)*7919)) n h hn
  exact⟨r,_,by rw [hr];rfl,h2,h3,⟨by show 0<=s.f_at+1;omega,by show s.f_at+1<=b+1;omega⟩⟩
 ·have hne:(s.L.length:Int)≠0:=by omega
  have:((s.L.length:Int)==0)=false:=by simpa using hl
  simp only [this,cond_false,GM,Gy,if_neg hne,ob_]
  have h2:0<=s.f_at.tmod s.L.length:=Int.tmod_nonneg _ h0
  have hp:(0:Int)<(s.L.length:Int):=by have:=Nat.pos_of_ne_zero hl;omega
  have h3:s.f_at.tmod s.L.length<s.L.length:=Int.tmod_lt_of_pos _ hp
  have hi:idx s.L (s.f_at.tmod s.L.length)=some s.L[(s.f_at.tmod s.L.length).toNat]:=by
   simp only [idx,if_pos h2]
   exact List.getElem?_eq_getElem (by omega)
  obtain ⟨r1,hr1,_,_⟩:=D6 s.L[(s.f_at.tmod s.L.length).toNat] 1073741824 (by decide) (by decide)
  simp only [hi,hr1,ob_]
  generalize w64 (r1+_)=y
  obtain ⟨r,hr,h4,h5⟩:=D6 y n h hn
  exact⟨r,_,by rw [hr];rfl,h4,h5,⟨by show 0<=s.f_at+1;omega,by show s.f_at+1<=b+1;omega⟩⟩
theorem idx_mem {α:Type} {l:List α} {r:Int} (h0:0<=r) (h1:r<l.length):∃y,idx l r=some y/\y∈l:=by
 refine⟨l[r.toNat]'(by omega),?_,List.getElem_mem _⟩
 simp only [idx,if_pos h0]
 exact List.getElem?_eq_getElem (by omega)
theorem some_ok (s:Stream) (l:List ByteArray) {b:Int} (hs:Ok s b) (hb:b<=1000000) (h:1<=l.length) (hn:l.length<=1000):∃r s',kN s l=some (r,s')/\r∈l/\Ok s' (b+1):=by
 obtain ⟨r,s',h1,h2,h3,h4⟩:=EX s l.length hs hb (by omega) (by omega)
 obtain ⟨y,hy,hm⟩:=idx_mem h2 h3
 exact⟨y,s',by simp only [kN,h1,hy,ob_],hm,h4⟩
theorem Ij (s:Stream) (lo hi:Int) {b:Int} (hs:Ok s b) (hb:b<=1000000) (h:lo<=hi) (h1 : -1000000000000<=lo) (h2:hi<=1000000000000):∃r s',iT s lo hi=some (r,s')/\lo<=r/\r<=hi/\Ok s' (b+1):=by
 have hd:decide (hi<lo)=false:=by simp;omega
 have e1:w64 (hi-lo)=hi-lo:=fQ (by omega)
 have e2:w64 (hi-lo+1)=hi-lo+1:=fQ (by omega)
 obtain ⟨r,s',k1,k2,k3,k4⟩:=EX s (hi-lo+1) hs hb (by omega) (by omega)
 simp only [iT,hd,cond_false,e1,e2,k1,ob_]
 exact⟨_,s',rfl,by rw [fQ (by omega)];omega,by rw [fQ (by omega)];omega,k4⟩
def FW (b:UInt8):Bool:=decide (97<=b.toNat)&&decide (b.toNat<=122)
def moreB (b:UInt8):Bool:=(decide (48<=b.toNat)&&decide (b.toNat<=57))||(b.toNat==45)||(b.toNat==95)
def okB (i:Nat) (b:UInt8):Bool:=FW b||(decide (0<i)&&moreB b)
def jT (s:ByteArray) (i:Nat):UInt8:=s.data.toList.getD i 0
def keyB (s:ByteArray):Bool:=decide (s.size≠0)&&(decide (s.size<=40)&&(List.range s.size).all λi=>okB i (jT s i))
theorem zC (s:ByteArray) (k:Nat) (h:k<s.size):rW s (k:Int)=some (jT s k):=by
 have h1:s[k]? = some s[k]:=by simp [h]
 have h2:jT s k=s[k]:=by
  have hl:k<s.data.toList.length:=by rw [<- Go.Lib.size_eq];exact h
  simp only [jT,List.getD_eq_getElem?_getD,List.getElem?_eq_getElem hl,Option.getD_some]
  simp
  rfl
 simp only [rW,if_pos (Int.natCast_nonneg k),Int.toNat_natCast,h1,h2]
theorem Ia (s:ByteArray) (k:Nat) (hs:s.size<=1000000000):je s (k:Int)=some (if k<s.size then (bif okB k (jT s k)then .go ((k+1:Nat):Int)else .ret false)else .brk (k:Int)):=by
 unfold je
 by_cases h:k<s.size
 ·have hd:decide ((k:Int)<(s.size:Int))=true:=by simp;omega
  have hw:w64 ((k:Int)+1)=((k+1:Nat):Int):=by rw [fQ (by omega)];omega
  simp only [hd,cond_true,zC s k h,ob_,if_pos h,hw]
  generalize jT s k=b
  simp only [okB,FW,moreB]
  have e1:decide ((b.toNat:Int)>=97)=decide (97<=b.toNat):=decide_eq_decide.2 (by omega)
  have e2:decide ((b.toNat:Int)<=122)=decide (b.toNat<=122):=decide_eq_decide.2 (by omega)
  have e3:decide ((k:Int)>0)=decide (0<k):=decide_eq_decide.2 (by omega)
  have e4:decide ((b.toNat:Int)>=48)=decide (48<=b.toNat):=decide_eq_decide.2 (by omega)
  have e5:decide ((b.toNat:Int)<=57)=decide (b.toNat<=57):=decide_eq_decide.2 (by omega)
  have e6:((b.toNat:Int)==45)=(b.toNat==45):=by rw [Bool.eq_iff_iff];simp;omega
  have e7:((b.toNat:Int)==95)=(b.toNat==95):=by rw [Bool.eq_iff_iff];simp;omega
  rw [e1,e2,e3,e4,e5,e6,e7]
  cases decide (97<=b.toNat) <;> cases decide (b.toNat<=122) <;> cases decide (0<k) <;> cases decide (48<=b.toNat) <;> cases decide (b.toNat<=57) <;> cases (b.toNat==45) <;> cases (b.toNat==95) <;> rfl
 ·have hd:decide ((k:Int)<(s.size:Int))=false:=by simp;omega
  simp only [hd,cond_false,if_neg h]
theorem DR (s:ByteArray) (hs:s.size<=1000000000):∀(n k:Nat),k+n=s.size->iterN (λi=>je s i) (n+1) (k:Int)=some (bif (List.range' k n).all (λj=>okB j (jT s j))then .go (s.size:Int)else .ret false)
 | 0,k,h=>by
  have hk:¬k<s.size:=by omega
  simp only [iterN,Ia s k hs,if_neg hk,ob_,List.range'_zero,List.all_nil,cond_true]
  rw [show (k:Int)=s.size by omega]
 | n+1,k,h=>by
  have hk:k<s.size:=by omega
  rw [iterN,Ia s k hs,if_pos hk,ob_,List.range'_succ,List.all_cons]
  cases okB k (jT s k)with
  | true=>simp only [cond_true,Bool.true_and];exact DR s hs n (k+1) (by omega)
  | false=>rfl
theorem IP (s:ByteArray) (hs:s.size<=1000000000):dY s=some (keyB s):=by
 have h:=gu (DR s hs s.size 0 (by omega))
 unfold dY
 have h':fI (0:Int) (λs_1=>je s s_1)=_:=h
 rw [h',ob_,<- List.range_eq_range']
 have e:decide ((s.size:Int)<=40)=decide (s.size<=40):=decide_eq_decide.2 (by omega)
 simp only [keyB]
 cases (List.range s.size).all (λi=>okB i (jT s i))with
 | true =>
  rw [cond_true,gM,sNe_nil,e,Bool.and_true]
  cases decide (s.size≠0) <;> rfl
 | false=>simp only [cond_false,L9,Bool.and_false]
def og (s:ByteArray):Prop:=s.size<=1000
theorem uB {s:ByteArray} (h:Nat.ble s.size 1000=true):og s:=Nat.le_of_ble_eq_true h
theorem uH {α:Type} (xs ys:List α) (h:xs.length+ys.length<=1000000000):mg xs ys=some (xs++ys):=by unfold mg;rw [if_pos h]
theorem NP {α:Type} {i:Int} {xs:List α} (h0:0<=i) (h1:i<xs.length):inR i xs=some ():=by unfold inR;rw [if_pos ⟨h0,by omega⟩]
def Jb (e:Int):Ctl Unit Int:=bif e==0 then .go ()else .ret e
theorem LW (e:Int):thenC (Jb e) (λ_=>some (0:Int)) (λr=>some r)=some e:=by
 unfold Jb
 cases h:e==0 with
 | true=>simp only [cond_true,gM];rw [eq_of_beq h]
 | false=>rfl
theorem Oa {α:Type} {l:List α} {k:Nat} {x:α} (h:l[k]? = some x) (hk:0<k) (hl:l.length<=1000000000):∃y,idx l (w64 ((k:Int)-1))=some y/\l[k-1]? = some y:=by
 have hlt:k<l.length:=(List.getElem?_eq_some_iff.1 h).1
 rw [fQ (by omega),show (k:Int)-1=((k-1:Nat):Int) by omega,sK]
 exact⟨l[k-1],List.getElem?_eq_getElem (by omega),List.getElem?_eq_getElem (by omega)⟩
def Ma {α:Type} (stp:Option α->α->Int):Option α->List α->Int
 | _,[]=>0
 | p,x::xs=>bif stp p x==0 then Ma stp (some x) xs else stp p x
def Et {α:Type} (l:List α) (k:Nat):Option α:=if k=0 then none else l[k-1]?
theorem EG {α:Type} {stp:Option α->α->Int} {body:Nat->α->Unit->Option (Ctl Unit Int)} (l:List α):∀(xs:List α) (k:Nat),l.drop k=xs->(∀k x,l[k]? = some x->body k x ()=some (Jb (stp (Et l k) x))) ->
  forR body xs k ()=some (Jb (Ma stp (Et l k) xs))
 | [],k,h,hb=>rfl
 | x::xs,k,h,hb=>by
  have hg:=xg h
  rw [forR,hb k x hg,ob_,Ma]
  cases he:stp (Et l k) x==0 with
  | true =>
   simp only [Jb,he,cond_true]
   rw [EG l xs (k+1) (aR h) hb]
   have:Et l (k+1)=some x:=by simp [Et,hg]
   rw [this];rfl
  | false=>simp only [Jb,he,cond_false]
def xZ (n lo hi:Int):Bool:=decide (n<lo)||decide (n>hi)
theorem J5 (n lo hi:Int):aP n lo hi=some (xZ n lo hi):=by
 unfold aP xZ
 cases decide (n<lo) <;> cases decide (n>hi) <;> rfl
theorem Jm {n lo hi:Int} (h:xZ n lo hi=false):lo<=n/\n<=hi:=by
 simp only [xZ,Bool.or_eq_false_iff,decide_eq_false_iff_not]at h;omega
theorem xK {n lo hi:Int} (h:lo<=n/\n<=hi):xZ n lo hi=false:=by
 simp only [xZ,Bool.or_eq_false_iff,decide_eq_false_iff_not];omega
def momB (n:Int):Bool := !xZ n 0 345686399999
def or0 (a b:Int):Int:=bif a==0 then b else a
theorem ME (a b:ByteArray):(lt a b/\BG a b = -1)\/(a=b/\BG a b=0)\/(lt b a/\BG a b=1):=by
 have key:∀(x y:List UInt8),(x<y/\Lib.compareBytes x y = -1)\/(x=y/\Lib.compareBytes x y=0)\/(y<x/\Lib.compareBytes x y=1):=by
  intro x
  induction x with
  | nil=>intro y;cases y with
   | nil=>exact .inr (.inl ⟨rfl,rfl⟩)
   | cons b y=>exact .inl ⟨by simp,rfl⟩
  | cons a x ih=>intro y;cases y with
   | nil=>exact .inr (.inr ⟨by simp,rfl⟩)
   | cons b y =>
    simp only [Lib.compareBytes,List.cons_lt_cons_iff,List.cons.injEq]
    by_cases h1:a<b
    ·exact .inl ⟨.inl h1,by rw [if_pos h1]⟩
    ·by_cases h2:b<a
     ·exact .inr (.inr ⟨.inl h2,by rw [if_neg h1,if_pos h2]⟩)
     ·have e:a=b:=UInt8.le_antisymm (UInt8.not_lt.1 h2) (UInt8.not_lt.1 h1)
      subst e
      rw [if_neg h1,if_neg h1]
      rcases ih y with⟨h,k⟩|⟨h,k⟩|⟨h,k⟩
      ·exact .inl ⟨.inr ⟨rfl,h⟩,k⟩
      ·exact .inr (.inl ⟨⟨rfl,h⟩,k⟩)
      ·exact .inr (.inr ⟨.inr ⟨rfl,h⟩,k⟩)
 unfold BG lt
 rw [toL,toL]
 rcases key a.data.toList b.data.toList with⟨h,k⟩|⟨h,k⟩|⟨h,k⟩
 ·exact .inl ⟨h,k⟩
 ·exact .inr (.inl ⟨zH (by rw [toL,toL];exact h),k⟩)
 ·exact .inr (.inr ⟨h,k⟩)
theorem JZ (a b:ByteArray):strings_Compare a b=some (BG a b):=rfl
def MH (a b:Int):Int:=if a<b then -1 else if a>b then 1 else 0
theorem LC (a b:Int):cmp_Compare_int a b=some (MH a b):=by
 have e:∀x:Int,(x != x)=false:=by simp
 unfold cmp_Compare_int cmp_isNaN_int MH
 simp only [e,ob_,cond_false]
 by_cases h:a<b
 ·simp only [decide_eq_true h,cond_true,if_pos h]
 ·by_cases h2:a>b
  ·simp only [decide_eq_false h,decide_eq_true h2,cond_true,cond_false,if_neg h,if_pos h2]
  ·simp only [decide_eq_false h,decide_eq_false h2,cond_false,if_neg h,if_neg h2]
theorem or2_eq (a b:Int):mM [a,b]=some (or0 a b):=by
 unfold mM or0
 rw [jm (by simp)]
 simp only [forR,pg]
 cases ha:a==0 with
 | false =>
  have:(a != 0)=true:=by simp [bne,ha]
  simp only [this,cond_true,cond_false,ob_,thenC]
 | true =>
  have:(a != 0)=false:=by simp [bne,ha]
  simp only [this,cond_true,cond_false,ob_]
  cases hb:b==0 with
  | false =>
   have:(b != 0)=true:=by simp [bne,hb]
   simp only [this,cond_true,ob_,thenC]
  | true =>
   have:(b != 0)=false:=by simp [bne,hb]
   simp only [this,cond_false,ob_,thenC]
   rw [eq_of_beq hb]
theorem wu (n:Int):IntKind.u64.wrap n=n % 18446744073709551616:=by simp [IntKind.wrap,IntKind.bits,IntKind.signed]
theorem wu_id {n:Int} (h0:0<=n) (h1:n<18446744073709551616):IntKind.u64.wrap n=n:=by rw [wu];exact Int.emod_eq_of_lt h0 h1
theorem MX (n:Int):0<=IntKind.u64.wrap n/\IntKind.u64.wrap n<18446744073709551616:=by rw [wu];omega
abbrev BB (l:List UInt8):ByteArray:=⟨l.toArray⟩
theorem Nv (l m:List UInt8):BB l++BB m=BB (l++m):=by
  apply zH;rw [toL,toL];simp
theorem nQ (l:List UInt8):(BB l).size=l.length:=by show l.toArray.size=_;simp
theorem KZ {x y:ByteArray} (h:x.size+y.size<=1000000000000):uN x y=some (x++y):=by
  unfold uN
  rw [if_neg]
  have:IntKind.i64.max=9223372036854775807:=by decide
  rw [this];omega
def yj (h:Int) (b:UInt8):Int:=IntKind.u64.wrap ((FX .u64 h (IntKind.u64.wrap (b.toNat:Int)))*1099511628211)
def fnv (bs:List UInt8):Int:=bs.foldl yj 14695981039346656037
theorem Kq:∀(bs:List UInt8) (h:Int),0<=h/\h<18446744073709551616->0<=bs.foldl yj h/\bs.foldl yj h<18446744073709551616
  | [],h,hh=>hh
  | b::bs,h,hh=>Kq bs _ (MX _)
theorem Jp (bs:List UInt8):0<=fnv bs/\fnv bs<18446744073709551616:=Kq bs _ (by decide)
theorem Iw (s:ByteArray):∀(xs:List Nat) (k:Nat) (h:Int),k+xs.length=s.size->forR (λk x u=>l9 s k x u) xs k h=some (.go ((s.data.toList.drop k).foldl yj h))
  | [],k,h,hk=>by
    have:s.data.toList.drop k=[]:=List.drop_eq_nil_iff.2 (by rw [<- Go.Lib.size_eq];simp at hk;omega)
    rw [this];rfl
  | x::xs,k,h,hk=>by
    simp only [List.length_cons]at hk
    have hlt:k<s.data.toList.length:=by rw [<- Go.Lib.size_eq];omega
    have hb:jT s k=s.data.toList[k]:=by simp [jT,List.getD,List.getElem?_eq_getElem hlt]
    simp only [forR]
    unfold l9
    rw [zC s k (by omega)]
    simp only [ob_]
    have ih:=Iw s xs (k+1) (yj h (jT s k)) (by omega)
    rw [List.drop_eq_getElem_cons hlt,List.foldl_cons,<- hb]
    exact ih
def oh (n:Nat):UInt8:=if n<10 then UInt8.ofNat (48+n)else UInt8.ofNat (87+n)
def uo (u:Nat):List UInt8:=if h:u<16 then [oh u]else uo (u / 16)++[oh (u % 16)]
termination_by u
decreasing_by omega
def vw:Nat->Nat->List UInt8
  | 0,_=>[]
  | k+1,u=>vw k (u / 16)++[oh (u % 16)]
theorem rM {u:Nat} (h:u<16):uo u=[oh u]:=by rw [uo,dif_pos h]
theorem zP {u:Nat} (h:¬u<16):uo u=uo (u / 16)++[oh (u % 16)]:=by rw [uo,dif_neg h]
theorem IV:∀(k u:Nat),(vw k u).length=k
  | 0,u=>rfl
  | k+1,u=>by simp [vw,IV k]
theorem ER:∀k,vw k 0=List.replicate k 48
  | 0=>rfl
  | k+1=>by
    show vw k 0++[oh 0]=_
    rw [ER k,List.replicate_succ']
    rfl
theorem hexM_N:∀(k u:Nat),u<16 ^ (k+1)->(uo u).length<=k+1/\vw (k+1) u=List.replicate (k+1-(uo u).length) 48++uo u
  | 0,u,h=>by
    have h':u<16:=by simpa using h
    rw [rM h']
    refine⟨Nat.le_refl _,?_⟩
    simp [vw,Nat.mod_eq_of_lt h']
  | k+1,u,h=>by
    by_cases hu:u<16
    · rw [rM hu]
      refine⟨by simp,?_⟩
      show vw (k+1) (u / 16)++[oh (u % 16)]=_
      rw [Nat.div_eq_of_lt hu,Nat.mod_eq_of_lt hu,ER]
      simp
    · rw [zP hu]
      have h2:u / 16<16 ^ (k+1):=by
        rw [Nat.div_lt_iff_lt_mul (by omega)]
        rw [Nat.pow_succ]at h;exact h
      obtain ⟨h3,h4⟩:=hexM_N k (u / 16) h2
      refine⟨by simp;omega,?_⟩
      show vw (k+1) (u / 16)++[oh (u % 16)]=_
      rw [h4,List.append_assoc]
      congr 2
      simp
def Ip:ByteArray:=⟨#[48,49,50,51,52,53,54,55,56,57,97,98,99,100,101,102]⟩
def digs:ByteArray:=⟨#[48,49,50,51,52,53,54,55,56,57,97,98,99,100,101,102,103,104,105,106,107,108,109,110,111,112,113,114,115,116,117,118,119,120,121,122]⟩
theorem Mj:∀n:Fin 16,DC Ip (n.val:Int) ((n.val+1:Nat):Int)=some (BB [oh n.val])/\rW digs (n.val:Int)=some (oh n.val):=by decide +kernel
theorem KA {n:Nat} (h:n<16):rW digs (n:Int)=some (oh n):=(Mj ⟨n,h⟩).2
theorem and15 {u:Nat} (h:u<18446744073709551616):Aj .u64 (u:Int) 15=((u % 16:Nat):Int):=by
  show IntKind.u64.wrap (((BitVec.ofInt 64 (u:Int)) &&& (BitVec.ofInt 64 15)).toNat:Int)=_
  have h1:((BitVec.ofInt 64 (u:Int)) &&& (BitVec.ofInt 64 15)).toNat=u % 16:=by
    rw [BitVec.toNat_and]
    have e1:(BitVec.ofInt 64 (u:Int)).toNat=u:=by
      rw [BitVec.ofInt_natCast,BitVec.toNat_ofNat];exact Nat.mod_eq_of_lt h
    have e2:(BitVec.ofInt 64 15).toNat=15:=by decide
    rw [e1,e2]
    exact Nat.and_two_pow_sub_one_eq_mod u 4
  rw [h1]
  exact wu_id (by omega) (by omega)
theorem shr4 (u:Nat):Gi .u64 (u:Int) 4=some ((u / 16:Nat):Int):=by
  unfold Gi
  rw [if_neg (by decide)]
  have e:((2:Int) ^ (min (Int.toNat 4) IntKind.u64.bits))=16:=by decide
  rw [e,Int.fdiv_eq_ediv_of_nonneg _ (by decide)]
  rfl
def nums (l:List UInt8):List Int:=l.map λb=>(b.toNat:Int)
theorem DX (l:List UInt8):Go.strOfNums (nums l)=BB l:=by
  unfold Go.strOfNums nums
  rw [List.map_map]
  have:(l.map ((λn:Int=>UInt8.ofNat n.toNat) ∘ λb:UInt8=>(b.toNat:Int)))=l:=by
    have:((λn:Int=>UInt8.ofNat n.toNat) ∘ λb:UInt8=>(b.toNat:Int))=id:=by
      funext b;simp
    rw [this,List.map_id]
  rw [this]
theorem G8 {a:List Int} {i:Nat} (c:Int) (h:i<a.length):(a.set i c).drop i=c::a.drop (i+1):=by
  rw [List.drop_eq_getElem_cons (by simpa using h)]
  simp only [List.getElem_set_self]
  congr 1
  apply List.ext_getElem?
  intro j
  rw [List.getElem?_drop,List.getElem?_drop,List.getElem?_set_ne (by omega)]
theorem fb_iter:∀(u:Nat),u<18446744073709551616->∀(a:List Int) (i:Nat),a.length=65->i<=65->(uo u).length<=i ->
    ∃n a' u' i',iterN (λs=>bC 16 4 s) n (a,(u:Int),(i:Int))=some (.go (a',((u':Nat):Int),((i':Nat):Int)))/\u'<16/\a'.length=65/\1<=i'/\i'<=65/\nums [oh u']++a'.drop i'=nums (uo u)++a.drop i:=by
  intro u
  induction u using Nat.strongRecOn with
  | ind u ih =>
    intro hu a i ha hi hl
    have w16:IntKind.u64.wrap 16=16:=by decide
    have w15:IntKind.u64.wrap (16-1)=15:=by decide
    have w4:IntKind.u64.wrap 4=4:=by decide
    by_cases h16:u<16
    · refine⟨1,a,u,i,?_,h16,ha,?_,hi,by rw [rM h16]⟩
      · simp only [iterN]
        unfold bC
        have hd:decide ((u:Int)>=16)=false:=by simp;omega
        simp only [w16,hd,cond_false,ob_]
      · rw [rM h16]at hl;simpa using hl
    · rw [zP h16]at hl
      simp only [List.length_append,List.length_cons,List.length_nil]at hl
      have hpos:1<=(uo (u / 16)).length:=by
        by_cases h:u / 16<16
        · rw [rM h];simp
        · rw [zP h];simp
      have hlt:u % 16<16:=Nat.mod_lt _ (by omega)
      obtain ⟨j,rfl⟩:∃j,i=j+1:=⟨i-1,by omega⟩
      obtain ⟨n,a',u',i',h1,h2,h3,h4,h5,h6⟩:=ih (u / 16) (by omega) (by omega) (a.set j ((oh (u % 16)).toNat:Int)) j (by simpa using ha) (by omega) (by omega)
      refine⟨n+1,a',u',i',?_,h2,h3,h4,h5,?_⟩
      · simp only [iterN]
        have hstep:bC 16 4 (a,(u:Int),((j+1:Nat):Int))=some (.go (a.set j ((oh (u % 16)).toNat:Int),((u / 16:Nat):Int),(j:Int))):=by
          unfold bC
          have hd:decide ((u:Int)>=16)=true:=by simp;omega
          have hw:w64 (((j+1:Nat):Int)-1)=(j:Int):=by rw [fQ (by omega)];omega
          have hi1:inN (j:Int) 65=some ():=by unfold inN;rw [if_pos ⟨by omega,by omega⟩]
          have hg:a[(j:Int).toNat]? = some (a[j]'(by omega)):=by rw [Int.toNat_natCast];exact List.getElem?_eq_getElem _
          simp only [w16,w15,w4,hd,cond_true,and15 hu,hw,hi1,hg,shr4]
          have hdg:rW (⟨#[48,49,50,51,52,53,54,55,56,57,97,98,99,100,101,102,103,104,105,106,107,108,109,110,111,112,113,114,115,116,117,118,119,120,121,122]⟩:ByteArray) ((u % 16:Nat):Int)=some (oh (u % 16)):=KA hlt
          rw [hdg]
          simp only [ob_,Int.toNat_natCast]
        rw [hstep]
        exact h1
      · rw [h6,zP h16,G8 _ (by omega)]
        unfold nums
        simp
theorem pow2:eY 16=some true:=by decide +kernel
theorem tz16:jq (IntKind.u64.wrap 16)=some 4:=by decide +kernel
theorem Ec (h:Int) (h0:0<=h) (h1:h<18446744073709551616):iM h 16=some (BB (uo h.toNat)):=by
  obtain ⟨u,rfl⟩:∃u:Nat,h=u:=⟨h.toNat,by omega⟩
  have hu:u<18446744073709551616:=by omega
  have hm:=hexM_N 15 u (by simpa using hu)
  have hfb:dM ([]:List Int) (u:Int) 16 false false=some (([]:List Int),BB (uo u)):=by
    unfold dM
    obtain ⟨n,a',u',i',e1,e2,e3,e4,e5,e6⟩:=fb_iter u hu (List.replicate 65 (0:Int)) 65 (by simp) (by omega) (by omega)
    have hlp:fI ((List.replicate 65 (0:Int)),(u:Int),(65:Int)) (λs=>bC 16 4 s)=some (.go (a',((u':Nat):Int),((i':Nat):Int))):=gu e1
    have hlt:i'-1<a'.length:=by omega
    have hw:w64 ((i':Int)-1)=((i'-1:Nat):Int):=by rw [fQ (by omega)];omega
    have hi1:inN ((i'-1:Nat):Int) 65=some ():=by unfold inN;rw [if_pos ⟨by omega,by omega⟩]
    have hg:a'[i'-1]? = some (a'[i'-1]'hlt):=List.getElem?_eq_getElem _
    have hdg:rW (⟨#[48,49,50,51,52,53,54,55,56,57,97,98,99,100,101,102,103,104,105,106,107,108,109,110,111,112,113,114,115,116,117,118,119,120,121,122]⟩:ByteArray) (u':Int)=some (oh u'):=KA e2
    have hset:(a'.set (i'-1) ((oh u').toNat:Int)).length=65:=by simpa using e3
    have hln:G6 (a'.set (i'-1) ((oh u').toNat:Int)) 65=some ():=by unfold G6;rw [if_pos hset]
    have hsr:nu (a'.set (i'-1) ((oh u').toNat:Int)) ((i'-1:Nat):Int) (((a'.set (i'-1) ((oh u').toNat:Int)).length:Nat):Int)=some ():=by
      unfold nu;rw [if_pos ⟨by omega,by omega,by rw [hset];omega,by simp⟩]
    have hcut:yJ (a'.set (i'-1) ((oh u').toNat:Int)) (i'-1) (65-(i'-1))=nums (uo u):=by
      unfold yJ
      rw [G8 _ hlt,show i'-1+1=i' by omega]
      have:(((oh u').toNat:Int)::a'.drop i')=nums (uo u):=by
        have:=e6
        rw [show (List.replicate 65 (0:Int)).drop 65=[] by simp,List.append_nil]at this
        exact this
      rw [this,List.take_of_length_le]
      have h9:=congrArg List.length this
      simp only [List.length_cons,List.length_drop]at h9
      omega
    have c1:decide ((16:Int)<2)=false:=by decide
    have c2:((16:Int)==10)=false:=by decide
    have c3:decide ((16:Int)>36)=false:=by decide
    simp only [c1,c2,c3,cond_false,cond_true,ob_,pow2,tz16,hlp,gM,hdg,hw,hi1,hg,Int.toNat_natCast,hln,hsr]
    have e7:(((a'.set (i'-1) ((oh u').toNat:Int)).length:Nat):Int).toNat=65:=by rw [hset];rfl
    rw [Int.toNat_natCast]at e7
    rw [e7,hcut,DX]
  unfold iM fH
  have c2:((16:Int)==10)=false:=by decide
  rw [c2]
  simp only [cond_false,hfb,ob_,Int.toNat_natCast]
theorem Ig:∀n,Go.Lib.repeatL [48] n=List.replicate n 48
  | 0=>rfl
  | n+1=>by simp [Go.Lib.repeatL,Ig n,List.replicate_succ]
theorem mark_eq (s:ByteArray) (hs:s.size<=1000000000):oC s=some (BB (vw 16 (fnv s.data.toList).toNat)):=by
  unfold oC
  have hl:(List.range ((s.size:Int)).toNat).length<=1000000000000:=by simp;omega
  rw [jm hl,Iw s _ 0 _ (by simp)]
  simp only [ob_,gM,List.drop_zero]
  obtain ⟨b1,b2⟩:=Jp s.data.toList
  have hf:=Ec (fnv s.data.toList) b1 b2
  have e:s.data.toList.foldl yj 14695981039346656037=fnv s.data.toList:=rfl
  rw [e,hf]
  simp only [ob_,nQ]
  obtain ⟨m1, m2⟩ := hexM_N 15 (fnv s.data.toList).toNat (by have : (16 : Nat) ^ (15 + 1) = 18446744073709551616 := by decide
                                                             omega)
  have hw:w64 (16-((uo (fnv s.data.toList).toNat).length:Int))=((16-(uo (fnv s.data.toList).toNat).length:Nat):Int):=by rw [fQ (by omega)];omega
  rw [hw]
  have hr:strings_Repeat (⟨#[48]⟩:ByteArray) ((16-(uo (fnv s.data.toList).toNat).length:Nat):Int)=some (BB (List.replicate (16-(uo (fnv s.data.toList).toNat).length) 48)):=by
    unfold strings_Repeat Ca
    rw [if_pos ⟨by omega,by omega,by rw [Int.toNat_natCast,show (⟨#[48]⟩:ByteArray).size=1 from rfl];omega⟩,Int.toNat_natCast]
    rw [show (⟨#[48]⟩:ByteArray).data.toList=[48] from rfl,Ig]
  rw [hr]
  simp only [ob_]
  rw [KZ (by rw [nQ,nQ];simp;omega),Nv,<- m2]
  rfl
def Med (n:Int):Prop := -1000000000000000<=n/\n<=1000000000000000
theorem Fw {n:Int} (h:Med n):strconv_Itoa n=some (BB (Go.Lib.itoa n)):=by
 unfold strconv_Itoa KX
 unfold Med at h
 rw [if_pos ⟨by omega,by omega⟩]
theorem uf {n:Int} (h:Med n):(Go.Lib.itoa n).length<=21:=by
 unfold Med at h
 exact Go.Lib.itoa_length_le n (by omega) (by omega)
theorem uu (l m:List UInt8) (h:l.length+m.length<=1000000000000):uN (BB l) (BB m)=some (BB (l++m)):=by
 rw [KZ (by rw [nQ,nQ];exact h),Nv]
def GoodL (x:Log_):Prop:=og x.Player/\og x.Item/\og x.Sum/\Med x.No/\Med x.Clock/\Med x.Long
def Cz (x:Log_):List UInt8:=x.Player.data.toList++[32]++x.Item.data.toList++[32]++Go.Lib.itoa x.No++[32]++Go.Lib.itoa x.Clock++[32]++Go.Lib.itoa x.Long
theorem oo {s:ByteArray} (h:og s):s.data.toList.length<=1000:=by rw [<- Go.Lib.size_eq];exact h
theorem AA {x:Log_} (h:GoodL x):(Cz x).length<=2100:=by
 obtain ⟨h1,h2,_,h4,h5,h6⟩:=h
 have:=oo h1;have:=oo h2;have:=uf h4;have:=uf h5;have:=uf h6
 simp only [Cz,List.length_append,List.length_cons,List.length_nil]
 omega
theorem KM {x:Log_} (h:GoodL x):ow x=some (BB (Cz x)):=by
 obtain ⟨h1,h2,_,h4,h5,h6⟩:=h
 have l1:=oo h1;have l2:=oo h2;have l4:=uf h4;have l5:=uf h5;have l6:=uf h6
 unfold ow
 rw [Fw h4,Fw h5,Fw h6]
 rw [show x.Player=BB x.Player.data.toList from rfl,show x.Item=BB x.Item.data.toList from rfl,show (⟨#[32]⟩:ByteArray)=BB [32] from rfl]
 simp only [ob_]
 rw [uu _ _ (by simp only [List.length_append,List.length_cons,List.length_nil];omega)];simp only [ob_]
 rw [uu _ _ (by simp only [List.length_append,List.length_cons,List.length_nil];omega)];simp only [ob_]
 rw [uu _ _ (by simp only [List.length_append,List.length_cons,List.length_nil];omega)];simp only [ob_]
 rw [uu _ _ (by simp only [List.length_append,List.length_cons,List.length_nil];omega)];simp only [ob_]
 rw [uu _ _ (by simp only [List.length_append,List.length_cons,List.length_nil];omega)];simp only [ob_]
 rw [uu _ _ (by simp only [List.length_append,List.length_cons,List.length_nil];omega)];simp only [ob_]
 rw [uu _ _ (by simp only [List.length_append,List.length_cons,List.length_nil];omega)];simp only [ob_]
 rw [uu _ _ (by simp only [List.length_append,List.length_cons,List.length_nil];omega)];simp only [ob_]
 rfl
def mk (l:List UInt8):ByteArray:=BB (vw 16 (fnv l).toNat)
theorem Ke (l:List UInt8):(mk l).size=16:=by unfold mk;rw [nQ,IV]
theorem M3 (l:List UInt8):og (mk l):=by unfold og;rw [Ke];decide
theorem markP (l:List UInt8) (h:l.length<=1000000000):oC (BB l)=some (mk l):=mark_eq (BB l) (by rw [nQ];exact h)
def formF (x:Log_):Int:=bif !keyB x.Player then 5 else bif !keyB x.Item then 5 else bif (xZ x.No 1 1000000||(xZ x.Clock 0 345686399999||xZ x.Long 1 86400000))then 1 else 0
theorem Ba {x:Log_} (h:GoodL x):jA x=some (formF x):=by
 obtain ⟨h1,h2,_,_,_,_⟩:=h
 unfold og at h1 h2
 unfold jA formF
 rw [IP x.Player (by omega),IP x.Item (by omega)]
 simp only [ob_,J5]
 cases keyB x.Player <;> cases keyB x.Item <;> cases xZ x.No 1 1000000 <;> cases xZ x.Clock 0 345686399999 <;> cases xZ x.Long 1 86400000 <;> rfl
def JB (b:UInt8):Bool:=Ip.data.toList.contains b
def markB (s:ByteArray):Bool:=(s.size==16)&&s.data.toList.all JB
theorem size16 (s:ByteArray):((s.size:Int)==16)=(s.size==16):=by
 rw [Bool.eq_iff_iff];simp only [beq_iff_eq];omega
theorem xJ {p:UInt8->Bool}:∀(l:List UInt8),l.dropWhile p=[]↔l.all p=true
 | []=>by simp
 | x::l=>by
  rw [List.dropWhile_cons]
  cases h:p x with
  | true=>simp [h,xJ l]
  | false=>simp [h]
theorem Om (l cs:List UInt8):Go.Lib.trimS l cs=[]↔l.all (cs.contains ·)=true:=by
 unfold Go.Lib.trimS Go.Lib.trimLeftS Go.Lib.trimRightS
 rw [xJ,List.all_reverse]
 constructor
 ·intro h
  have h2:(l.reverse.dropWhile (cs.contains ·))=[]:=by
   cases hd:l.reverse.dropWhile (cs.contains ·)with
   | nil=>rfl
   | cons x r =>
    rw [hd]at h
    have h3:∀(m:List UInt8),m.dropWhile (cs.contains ·)=x::r->cs.contains x=false:=by
     intro m
     induction m with
     | nil=>intro e;simp at e
     | cons y m ih =>
      intro e
      rw [List.dropWhile_cons]at e
      cases hy:cs.contains y with
      | true=>rw [hy]at e;exact ih e
      | false=>rw [hy]at e;simp only [Bool.false_eq_true,if_false,List.cons.injEq]at e;rw [<- e.1];exact hy
    have:=h3 _ hd
    simp only [List.all_cons,this,Bool.false_and,Bool.false_eq_true]at h
  rw [xJ,List.all_reverse]at h2
  exact h2
 ·intro h
  have:l.reverse.dropWhile (cs.contains ·)=[]:=by rw [xJ,List.all_reverse];exact h
  rw [this];rfl
theorem Eo {s:ByteArray} (h:og s):lI s=some (markB s):=by
 unfold og at h
 unfold lI markB
 rw [size16]
 have ht:lq s (⟨#[48,49,50,51,52,53,54,55,56,57,97,98,99,100,101,102]⟩:ByteArray)=some (BB (Go.Lib.trimS s.data.toList Ip.data.toList)):=by
  unfold lq Fj
  rw [if_pos ⟨by omega,by decide,by decide⟩]
  rfl
 rw [ht]
 have e:sEq (BB (Go.Lib.trimS s.data.toList Ip.data.toList)) (⟨#[]⟩:ByteArray)=s.data.toList.all JB:=by
  rw [Bool.eq_iff_iff,lG]
  have:=Om s.data.toList Ip.data.toList
  constructor
  ·intro h
   apply this.1
   have:=congrArg (λx:ByteArray=>x.data.toList) h
   simpa using this
  ·intro h
   rw [this.2 h]
 simp only [ob_,e]
 cases (s.size==16) <;> rfl
theorem Ns:∀n:Fin 16,JB (oh n.val)=true:=by decide +kernel
theorem Gu:∀(k u:Nat),(vw k u).all JB=true
 | 0,u=>rfl
 | k+1,u=>by
  show (vw k (u / 16)++[oh (u % 16)]).all JB=true
  rw [List.all_append,Gu k,List.all_cons,Ns ⟨u % 16,Nat.mod_lt _ (by omega)⟩];rfl
theorem mk_mark (l:List UInt8):markB (mk l)=true:=by
 unfold markB
 rw [Ke]
 show ((16==16)&&(vw 16 (fnv l).toNat).all JB)=true
 rw [Gu];rfl
def cmpL (a b:Log_):Int:=or0 (BG a.Player b.Player) (MH a.No b.No)
theorem rV (a b:Log_):eZ a b=some (cmpL a b):=by
 simp only [eZ,JZ,LC,or2_eq,ob_];rfl
theorem Eu (a:ByteArray):BG a a=0:=by
 rcases ME a a with⟨h,_⟩|⟨_,h⟩|⟨h,_⟩
 ·exact absurd h (ML a)
 ·exact h
 ·exact absurd h (ML a)
def L6 (p:Option Log_) (x:Log_):Int:=bif formF x != 0 then formF x else bif !markB x.Sum then 3 else match p with
 | none=>0
 | some o=>bif decide (cmpL o x>=0)then 7 else 0
def Ni (l:List Log_):Int:=bif decide (l.length>2000)then 2 else Ma L6 none l
theorem logsK (l:List Log_) (hs:∀x∈l,GoodL x) (hl:l.length<=1000000):bW l=some (Ni l):=by
 unfold bW Ni
 have e:decide ((l.length:Int)>2000)=decide (l.length>2000):=decide_eq_decide.2 (by omega)
 rw [e]
 cases decide (l.length>2000)with
 | true=>rfl
 | false =>
  simp only [cond_false]
  rw [jm (by omega),EG (stp:=L6) l l 0 rfl (λk x hx => ?_)]
  ·simp only [ob_,LW];rfl
  ·have hg:=hs x (List.mem_of_getElem? hx)
   simp only [jR,Ba hg,Eo hg.2.2.1,ob_,L6]
   cases hf:(formF x != 0)with
   | true =>
    have:(formF x==0)=false:=by simpa using hf
    simp only [cond_true,Jb,this,cond_false]
   | false =>
   simp only [cond_false]
   cases markB x.Sum with
   | false=>rfl
   | true =>
   simp only [Bool.not_true,cond_false]
   by_cases hk0:0<k
   ·obtain ⟨y,h1,h2⟩:=Oa hx hk0 (by omega)
    have hd:decide ((k:Int)>0)=true:=by simp;omega
    simp only [hd,cond_true,h1,ob_,Et,if_neg (show ¬k=0 by omega),h2,rV]
    cases decide (cmpL y x>=0) <;> rfl
   ·have hk0:k=0:=by omega
    subst hk0
    rfl
end Go.Proofs.YtnkgapmhkhcanabGreatDoor.Law

