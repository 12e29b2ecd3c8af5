/-
  THE PLAIN LAW (part 1).
-/
import Derived.Test.YtadpbmfnnlkdlabGreatDoorEng5
import Derived.Test.YtadpbmfnnlkdlabGreatDoorDefs
namespace Go.Eng
set_option linter.unusedVariables false
set_option linter.unusedSimpArgs false
theorem qi {α σ ρ:Type} {body:Nat->α->σ->Option (Ctl σ ρ)} {xs:List α} {s:σ} (hl:xs.length<=1000000000000):forL xs s body=forR body xs 0 s:=by unfold forL;rw [if_pos hl]
theorem uH {σ ρ τ:Type} (s:σ) (f:σ->Option τ) (g:ρ->Option τ):thenC (.go s) f g=f s:=rfl
theorem Oq {σ ρ τ:Type} (r:ρ) (f:σ->Option τ) (g:ρ->Option τ):thenC (.ret r) f g=g r:=rfl
theorem mG {α:Type} (xs:List α) (k:Nat):idx xs (k:Int)=xs[k]? := by simp [idx]
theorem bW {n:Int} (h : -9223372036854775808<=n/\n<=9223372036854775807):w64 n=n:=O3 n h
theorem toL (s:ByteArray):s.toList=s.data.toList:=Go.Lib.toList_data s
theorem BP {a b:ByteArray} (h:a.toList=b.toList):a=b:=by
 rw [toL,toL]at h
 obtain ⟨⟨a⟩⟩:=a
 obtain ⟨⟨b⟩⟩:=b
 simp only at h
 rw [h]
theorem EM (a b:ByteArray):sEq a b=true↔a=b:=by
 simp only [sEq,beq_iff_eq]
 exact⟨BP,λh=>by rw [h]⟩
theorem JM (a b:ByteArray):sEq a b=decide (a=b):=by
 rw [Bool.eq_iff_iff,EM];simp
theorem Jp (a b:ByteArray):sNe a b = !decide (a=b):=by
 have:=JM a b;simp only [sEq,sNe]at *;rw [this]
abbrev bl:=Op.bytesLess
theorem bl_lt:∀(x y:List UInt8),bl x y=decide (x<y)
 | _,[]=>by simp [bl,Op.bytesLess]
 | [],_::_=>by simp [bl,Op.bytesLess]
 | a::x,b::y=>by
  have:=bl_lt x y
  simp only [bl,Op.bytesLess]at this ⊢
  rw [this,Bool.eq_iff_iff]
  simp only [Bool.or_eq_true,decide_eq_true_eq,Bool.and_eq_true,beq_iff_eq,List.cons_lt_cons_iff]
def lt (a b:ByteArray):Prop:=a.toList<b.toList
theorem vP (a b:ByteArray):sLt a b=true↔lt a b:=by
 show bl a.toList b.toList=true↔_
 rw [bl_lt];simp [lt]
theorem su (a:ByteArray):¬lt a a:=List.lt_irrefl a.toList
theorem lt_trans {a b c:ByteArray} (h:lt a b) (k:lt b c):lt a c:=List.lt_trans h k
theorem F6 (a b:ByteArray):lt a b\/a=b\/lt b a:=by
 rcases Classical.em (lt a b)with h|h
 ·exact .inl h
 ·rcases Classical.em (lt b a)with h2|h2
  ·exact .inr (.inr h2)
  ·exact .inr (.inl (BP (List.le_antisymm (List.not_lt.1 h2) (List.not_lt.1 h))))
theorem Ad (a b:ByteArray):sLe a b=true↔¬lt b a:=by
 have h1:=vP a b
 have h2:=EM a b
 simp only [sLe,Bool.or_eq_true]
 constructor
 ·rintro (h|h)
  ·exact λk=>su _ (lt_trans (h1.1 h) k)
  ·rw [h2.1 h];exact su _
 ·intro h
  rcases F6 a b with k|k|k
  ·exact .inl (h1.2 k)
  ·exact .inr (h2.2 k)
  ·exact absurd k h
theorem Nu (a:ByteArray):sLe a ⟨#[]⟩=decide (a.size=0):=by
 rw [Bool.eq_iff_iff,Ad,lt,toL,toL,Go.Lib.size_eq]
 cases a.data.toList <;> simp
theorem sNe_nil (a:ByteArray):sNe a ⟨#[]⟩=decide (a.size≠0):=by
 rw [Jp,Go.Lib.size_eq,Bool.eq_iff_iff]
 simp only [Bool.not_eq_true',decide_eq_false_iff_not,decide_eq_true_eq,ne_eq]
 refine not_congr ⟨λh=>by rw [h];rfl,λh => ?_⟩
 exact BP (by rw [toL,List.eq_nil_of_length_eq_zero h,toL])
end Go.Eng

open Go Go.Eng
namespace Go.Proofs.YtadpbmfnnlkdlabGreatDoor.Law
set_option linter.unusedVariables false
set_option linter.unusedSimpArgs false
def Ok (s:Stream) (b:Int):Prop:=0<=s.f_at/\s.f_at<=b
theorem Ok.mono {s:Stream} {b c:Int} (h:Ok s b) (hc:b<=c):Ok s c:=⟨h.1,Int.le_trans h.2 hc⟩
theorem Fg (x n:Int) (h:1<=n) (hn:n<=4611686018427387904):∃r,uG x n=some r/\0<=r/\r<n:=by
 have h1:x.tmod n<n:=Int.tmod_lt_of_pos x (by omega)
 have h2 : -n<x.tmod n:=Int.lt_tmod_of_pos x (by omega)
 have hb:decide (n<1)=false:=by simp;omega
 have hn0:n≠0:=by omega
 simp only [uG,hb,cond_false,Ke,if_neg hn0,ob_]
 cases hd:decide (x.tmod n<0)with
 | true =>
  simp only [decide_eq_true_eq]at hd
  exact⟨_,rfl,by rw [bW (by omega)];omega,by rw [bW (by omega)];omega⟩
 | false =>
  simp only [decide_eq_false_iff_not]at hd
  exact⟨_,rfl,by omega,h1⟩
theorem xZ (s:Stream) (n:Int) {b:Int} (hs:Ok s b) (hb:b<=1000000) (h:1<=n) (hn:n<=4611686018427387904):∃r s',ik s n=some (r,s')/\0<=r/\r<n/\Ok s' (b+1):=by
 obtain ⟨h0,h1⟩:=hs
 have e1:w64 (s.f_at+1)=s.f_at+1:=bW (by omega)
 have e2:w64 (s.f_at+1-1)=s.f_at:=by rw [bW (by omega)];omega
 simp only [ik,e1,e2]
 by_cases hl:s.L.length=0
 ·have:((s.L.length:Int)==0)=true:=by simp [hl]
  simp only [this,cond_true]
  obtain ⟨r,hr,h2,h3⟩:=Fg (w64 ((s.f_at+1)*7919)) n h hn
  exact⟨r,_,by rw [hr];rfl,h2,h3,⟨by show 0<=s.f_at+1;omega,by show s.f_at+1<=b+1;omega⟩⟩
 ·have hne:(s.L.length:Int)≠0:=by omega
  have:((s.L.length:Int)==0)=false:=by simpa using hl
  simp only [this,cond_false,Ke,L9,if_neg hne,ob_]
  have h2:0<=s.f_at.tmod s.L.length:=Int.tmod_nonneg _ h0
  have hp:(0:Int)<(s.L.length:Int):=by have:=Nat.pos_of_ne_zero hl;omega
  have h3:s.f_at.tmod s.L.length<s.L.length:=Int.tmod_lt_of_pos _ hp
  have hi:idx s.L (s.f_at.tmod s.L.length)=some s.L[(s.f_at.tmod s.L.length).toNat]:=by
   simp only [idx,if_pos h2]
   exact List.getElem?_eq_getElem (by omega)
  obtain ⟨r1,hr1,_,_⟩:=Fg s.L[(s.f_at.tmod s.L.length).toNat] 1073741824 (by decide) (by decide)
  simp only [hi,hr1,ob_]
  generalize w64 (r1+_)=y
  obtain ⟨r,hr,h4,h5⟩:=Fg y n h hn
  exact⟨r,_,by rw [hr];rfl,h4,h5,⟨by show 0<=s.f_at+1;omega,by show s.f_at+1<=b+1;omega⟩⟩
theorem J9 (s:Stream) (n:Int) {b:Int} (hs:Ok s b) (hb:b<=1000000) (h:1<=n) (hn:n<=1000):∃r s',iq s n=some (r,s')/\Ok s' (b+1):=by
 obtain ⟨r,s',h1,_,_,h2⟩:=xZ s n hs hb h (by omega)
 exact⟨r==0,s',by simp only [iq,h1,ob_],h2⟩
theorem JD {α:Type} {l:List α} {r:Int} (h0:0<=r) (h1:r<l.length):∃y,idx l r=some y/\y∈l:=by
 refine⟨l[r.toNat]'(by omega),?_,List.getElem_mem _⟩
 simp only [idx,if_pos h0]
 exact List.getElem?_eq_getElem (by omega)
theorem vF (s:Stream) (l:List Int) {b:Int} (hs:Ok s b) (hb:b<=1000000) (h:1<=l.length) (hn:l.length<=1000):∃r s',eT s l=some (r,s')/\r∈l/\Ok s' (b+1):=by
 obtain ⟨r,s',h1,h2,h3,h4⟩:=xZ s l.length hs hb (by omega) (by omega)
 obtain ⟨y,hy,hm⟩:=JD h2 h3
 exact⟨y,s',by simp only [eT,h1,hy,ob_],hm,h4⟩
theorem some_ok (s:Stream) (l:List ByteArray) {b:Int} (hs:Ok s b) (hb:b<=1000000) (h:1<=l.length) (hn:l.length<=1000):∃r s',ny s l=some (r,s')/\r∈l/\Ok s' (b+1):=by
 obtain ⟨r,s',h1,h2,h3,h4⟩:=xZ s l.length hs hb (by omega) (by omega)
 obtain ⟨y,hy,hm⟩:=JD h2 h3
 exact⟨y,s',by simp only [ny,h1,hy,ob_],hm,h4⟩
theorem Fu (s:Stream) (lo hi:Int) {b:Int} (hs:Ok s b) (hb:b<=1000000) (h:lo<=hi) (h1 : -1000000000000<=lo) (h2:hi<=1000000000000):∃r s',lM s lo hi=some (r,s')/\lo<=r/\r<=hi/\Ok s' (b+1):=by
 have hd:decide (hi<lo)=false:=by simp;omega
 have e1:w64 (hi-lo)=hi-lo:=bW (by omega)
 have e2:w64 (hi-lo+1)=hi-lo+1:=bW (by omega)
 obtain ⟨r,s',k1,k2,k3,k4⟩:=xZ s (hi-lo+1) hs hb (by omega) (by omega)
 simp only [lM,hd,cond_false,e1,e2,k1,ob_]
 exact⟨_,s',rfl,by rw [bW (by omega)];omega,by rw [bW (by omega)];omega,k4⟩
def lowB (b:UInt8):Bool:=decide (97<=b.toNat)&&decide (b.toNat<=122)
def moreB (b:UInt8):Bool:=(decide (48<=b.toNat)&&decide (b.toNat<=57))||(b.toNat==45)||(b.toNat==95)
def okB (i:Nat) (b:UInt8):Bool:=lowB b||(decide (0<i)&&moreB b)
def x8 (s:ByteArray) (i:Nat):UInt8:=s.data.toList.getD i 0
def qK (s:ByteArray):Bool:=decide (s.size≠0)&&(decide (s.size<=40)&&(List.range s.size).all λi=>okB i (x8 s i))
theorem O8 (s:ByteArray) (k:Nat) (h:k<s.size):qH s (k:Int)=some (x8 s k):=by
 have h1:s[k]? = some s[k]:=by simp [h]
 have h2:x8 s k=s[k]:=by
  have hl:k<s.data.toList.length:=by rw [<- Go.Lib.size_eq];exact h
  simp only [x8,List.getD_eq_getElem?_getD,List.getElem?_eq_getElem hl,Option.getD_some]
  simp
  rfl
 simp only [qH,if_pos (Int.natCast_nonneg k),Int.toNat_natCast,h1,h2]
theorem LK (s:ByteArray) (k:Nat) (hs:s.size<=1000000000):j6 s (k:Int)=some (if k<s.size then (bif okB k (x8 s k)then .go ((k+1:Nat):Int)else .ret false)else .brk (k:Int)):=by
 unfold j6
 by_cases h:k<s.size
 ·have hd:decide ((k:Int)<(s.size:Int))=true:=by simp;omega
  have hw:w64 ((k:Int)+1)=((k+1:Nat):Int):=by rw [bW (by omega)];omega
  simp only [hd,cond_true,O8 s k h,ob_,if_pos h,hw]
  generalize x8 s k=b
  simp only [okB,lowB,moreB]
  have e1:decide ((b.toNat:Int)>=97)=decide (97<=b.toNat):=decide_eq_decide.2 (by omega)
  have e2:decide ((b.toNat:Int)<=122)=decide (b.toNat<=122):=decide_eq_decide.2 (by omega)
  have e3:decide ((k:Int)>0)=decide (0<k):=decide_eq_decide.2 (by omega)
  have e4:decide ((b.toNat:Int)>=48)=decide (48<=b.toNat):=decide_eq_decide.2 (by omega)
  have e5:decide ((b.toNat:Int)<=57)=decide (b.toNat<=57):=decide_eq_decide.2 (by omega)
  have e6:((b.toNat:Int)==45)=(b.toNat==45):=by rw [Bool.eq_iff_iff];simp;omega
  have e7:((b.toNat:Int)==95)=(b.toNat==95):=by rw [Bool.eq_iff_iff];simp;omega
  rw [e1,e2,e3,e4,e5,e6,e7]
  cases decide (97<=b.toNat) <;> cases decide (b.toNat<=122) <;> cases decide (0<k) <;> cases decide (48<=b.toNat) <;> cases decide (b.toNat<=57) <;> cases (b.toNat==45) <;> cases (b.toNat==95) <;> rfl
 ·have hd:decide ((k:Int)<(s.size:Int))=false:=by simp;omega
  simp only [hd,cond_false,if_neg h]
theorem Hg (s:ByteArray) (hs:s.size<=1000000000):∀(n k:Nat),k+n=s.size->iterN (λi=>j6 s i) (n+1) (k:Int)=some (bif (List.range' k n).all (λj=>okB j (x8 s j))then .go (s.size:Int)else .ret false)
 | 0,k,h=>by
  have hk:¬k<s.size:=by omega
  simp only [iterN,LK s k hs,if_neg hk,ob_,List.range'_zero,List.all_nil,cond_true]
  rw [show (k:Int)=s.size by omega]
 | n+1,k,h=>by
  have hk:k<s.size:=by omega
  rw [iterN,LK s k hs,if_pos hk,ob_,List.range'_succ,List.all_cons]
  cases okB k (x8 s k)with
  | true=>simp only [cond_true,Bool.true_and];exact Hg s hs n (k+1) (by omega)
  | false=>rfl
theorem yT (s:ByteArray) (hs:s.size<=1000000000):fG s=some (qK s):=by
 have h:=kC (Hg s hs s.size 0 (by omega))
 unfold fG
 have h':iV (0:Int) (λs_1=>j6 s s_1)=_:=h
 rw [h',ob_,<- List.range_eq_range']
 have e:decide ((s.size:Int)<=40)=decide (s.size<=40):=decide_eq_decide.2 (by omega)
 simp only [qK]
 cases (List.range s.size).all (λi=>okB i (x8 s i))with
 | true =>
  rw [cond_true,uH,sNe_nil,e,Bool.and_true]
  cases decide (s.size≠0) <;> rfl
 | false=>simp only [cond_false,Oq,Bool.and_false]
theorem EP {s:ByteArray} (h:qK s=true):s.size≠0:=by
 simp only [qK,Bool.and_eq_true,decide_eq_true_eq]at h
 exact h.1
def wZ (s:ByteArray):Prop:=s.size<=1000
def CF (x:Entry):Prop:=wZ x.Key/\wZ x.Item/\x.Except.length<=50/\x.Tags.length<=20/\∀t∈x.Tags,wZ t
def Qb (x:Player):Prop:=wZ x.Key/\wZ x.Screen/\x.Tags.length<=20/\∀t∈x.Tags,wZ t
theorem xk {s:ByteArray} (h:Nat.ble s.size 1000=true):wZ s:=Nat.le_of_ble_eq_true h
theorem mh {α:Type} (xs ys:List α) (h:xs.length+ys.length<=1000000000):lm xs ys=some (xs++ys):=by unfold lm;rw [if_pos h]
theorem zl {α:Type} {i:Int} {xs:List α} (h0:0<=i) (h1:i<xs.length):inR i xs=some ():=by unfold inR;rw [if_pos ⟨h0,by omega⟩]
def BX:ByteArray:=⟨#[]⟩
def AC {α:Type} (key:α->ByteArray) (l:List α) (k:Nat):ByteArray:=if k=0 then BX else match l[k-1]? with | some y=>key y | none=>BX
def chk {α:Type} (key:α->ByteArray) (stp:ByteArray->α->Int):ByteArray->List α->Int
 | _,[]=>0
 | last,x::xs=>bif stp last x==0 then chk key stp (key x) xs else stp last x
def G8 (e:Int):Ctl Unit Int:=bif e==0 then .go ()else .ret e
theorem GQ {α:Type} {key:α->ByteArray} {stp:ByteArray->α->Int} {body:Nat->α->Unit->Option (Ctl Unit Int)} (l:List α):∀(xs:List α) (k:Nat),l.drop k=xs->(∀k x,l[k]? = some x->body k x ()=some (G8 (stp (AC key l k) x))) ->
  forR body xs k ()=some (G8 (chk key stp (AC key l k) xs))
 | [],k,h,hb=>rfl
 | x::xs,k,h,hb=>by
  have hg:=Fe h
  rw [forR,hb k x hg,ob_,chk]
  cases he:stp (AC key l k) x==0 with
  | true =>
   simp only [G8,he,cond_true]
   rw [GQ l xs (k+1) (aQ h) hb]
   have:AC key l (k+1)=key x:=by simp [AC,hg]
   rw [this];rfl
  | false=>simp only [G8,he,cond_false]
theorem Dl (e:Int):thenC (G8 e) (λ_=>some (0:Int)) (λr=>some r)=some e:=by
 unfold G8
 cases h:e==0 with
 | true=>simp only [cond_true,uH];rw [eq_of_beq h]
 | false=>rfl
def DR (last x:ByteArray):Int:=bif !qK x then 5 else bif sLe x last then 7 else 0
def tagsF (l:List ByteArray):Int:=bif decide (l.length>20)then 2 else chk id DR BX l
theorem KA {α:Type} {l:List α} {k:Nat} {x:α} (h:l[k]? = some x) (hk:0<k) (hl:l.length<=1000000000):∃y,idx l (w64 ((k:Int)-1))=some y/\l[k-1]? = some y:=by
 have hlt:k<l.length:=(List.getElem?_eq_some_iff.1 h).1
 rw [bW (by omega),show (k:Int)-1=((k-1:Nat):Int) by omega,mG]
 exact⟨l[k-1],List.getElem?_eq_getElem (by omega),List.getElem?_eq_getElem (by omega)⟩
theorem Iz {α:Type} {key:α->ByteArray} {l:List α} {k:Nat} {x:α} {s:ByteArray} (h:l[k]? = some x) (hl:l.length<=1000000000) (hs:s.size≠0) :
  (bif decide ((k:Int)>0)then (idx l (w64 ((k:Int)-1))).bind λy=>some (sLe s (key y))else some false)=some (sLe s (AC key l k)):=by
 by_cases hk:0<k
 ·obtain ⟨y,h1,h2⟩:=KA h hk hl
  have hd:decide ((k:Int)>0)=true:=by simp;omega
  simp only [hd,cond_true,h1,ob_,AC,if_neg (show ¬k=0 by omega),h2]
 ·have hk0:k=0:=by omega
  subst hk0
  simp only [AC,if_pos,BX,Nu,decide_eq_false hs]
  rfl
theorem tagsK (l:List ByteArray) (hs:∀t∈l,wZ t) (hl:l.length<=1000000000):fF l=some (tagsF l):=by
 unfold fF tagsF
 have e:decide ((l.length:Int)>20)=decide (l.length>20):=decide_eq_decide.2 (by omega)
 rw [e]
 cases decide (l.length>20)with
 | true=>rfl
 | false =>
  simp only [cond_false]
  unfold jq
  rw [qi (by omega),GQ (key:=id) (stp:=DR) l l 0 rfl (λk x hx => ?_)]
  ·simp only [ob_,Dl];rfl
  ·have hxs:wZ x:=hs x (List.mem_of_getElem? hx)
   simp only [iP,yT x (by unfold wZ at hxs;omega),ob_,DR]
   cases hk:qK x with
   | false=>rfl
   | true =>
    simp only [Bool.not_true,cond_false]
    have:=Iz (key:=id) hx hl (EP hk)
    simp only [id]at this
    rw [this,ob_]
    cases sLe x (AC id l k) <;> rfl
def Oi {α:Type} (stp:Option α->α->Int):Option α->List α->Int
 | _,[]=>0
 | p,x::xs=>bif stp p x==0 then Oi stp (some x) xs else stp p x
def Ea {α:Type} (l:List α) (k:Nat):Option α:=if k=0 then none else l[k-1]?
theorem IQ {α:Type} {stp:Option α->α->Int} {body:Nat->α->Unit->Option (Ctl Unit Int)} (l:List α):∀(xs:List α) (k:Nat),l.drop k=xs->(∀k x,l[k]? = some x->body k x ()=some (G8 (stp (Ea l k) x))) ->
  forR body xs k ()=some (G8 (Oi stp (Ea l k) xs))
 | [],k,h,hb=>rfl
 | x::xs,k,h,hb=>by
  have hg:=Fe h
  rw [forR,hb k x hg,ob_,Oi]
  cases he:stp (Ea l k) x==0 with
  | true =>
   simp only [G8,he,cond_true]
   rw [IQ l xs (k+1) (aQ h) hb]
   have:Ea l (k+1)=some x:=by simp [Ea,hg]
   rw [this];rfl
  | false=>simp only [G8,he,cond_false]
def jm (n lo hi:Int):Bool:=decide (n<lo)||decide (n>hi)
theorem yw (n lo hi:Int):aR n lo hi=some (jm n lo hi):=by
 unfold aR jm
 cases decide (n<lo) <;> cases decide (n>hi) <;> rfl
def leP (p:Option Int) (x:Int):Bool:=match p with
 | none=>false
 | some y=>decide (x<=y)
def Jc (p:Option Int) (x:Int):Int:=bif jm x 0 4000 then 1 else bif leP p x then 7 else 0
def exF (l:List Int):Int:=bif decide (l.length>100)then 2 else Oi Jc none l
theorem M3 {l:List Int} {k:Nat} {x:Int} (h:l[k]? = some x) (hl:l.length<=1000000000) :
  (bif decide ((k:Int)>0)then (idx l (w64 ((k:Int)-1))).bind λy=>some (decide (x<=y))else some false)=some (leP (Ea l k) x):=by
 by_cases hk:0<k
 ·obtain ⟨y,h1,h2⟩:=KA h hk hl
  have hd:decide ((k:Int)>0)=true:=by simp;omega
  simp only [hd,cond_true,h1,ob_,Ea,if_neg (show ¬k=0 by omega),h2,leP]
 ·have hk0:k=0:=by omega
  subst hk0
  rfl
theorem QS (n:Int):wV n=some (!jm n 0 4000):=by
 unfold wV jm
 have e1:decide (n>=0) = !decide (n<0):=by rw [Bool.eq_iff_iff];simp
 have e2:decide (n<=4000) = !decide (n>4000):=by rw [Bool.eq_iff_iff];simp
 rw [e1,e2]
 cases decide (n<0) <;> cases decide (n>4000) <;> rfl
theorem exK (l:List Int) (hl:l.length<=1000000000):gP l=some (exF l):=by
 unfold gP exF
 have e:decide ((l.length:Int)>100)=decide (l.length>100):=decide_eq_decide.2 (by omega)
 rw [e]
 cases decide (l.length>100)with
 | true=>rfl
 | false =>
  simp only [cond_false]
  rw [qi (by omega),IQ (stp:=Jc) l l 0 rfl (λk x hx => ?_)]
  ·simp only [ob_,Dl];rfl
  ·simp only [ji,QS,ob_,Jc]
   cases jm x 0 4000 with
   | true=>rfl
   | false =>
    simp only [Bool.not_false,Bool.not_true,cond_false]
    rw [M3 hx hl,ob_]
    cases leP (Ea l k) x <;> rfl
def wR (e:Entry):Int :=
 bif !qK e.Key || !qK e.Item then 5 else
 bif jm e.Version 0 1000000||(jm e.First 0 e.Last||(decide (e.Last>4000)||(jm e.Every 1 400||jm e.Days 1 127)))then 1 else
 bif exF e.Except==0 then (bif jm e.From 0 1439||(jm e.To 0 1439||jm e.Prio 0 9)then 1 else tagsF e.Tags)else exF e.Except
theorem entK (e:Entry) (h:CF e):fQ e=some (wR e):=by
 obtain ⟨h1,h2,h3,h4,h5⟩:=h
 unfold wZ at h1 h2
 unfold fQ wR
 simp only [yT e.Key (by omega),yT e.Item (by omega),yw,exK e.Except (by omega),tagsK e.Tags h5 (by omega),ob_]
 cases qK e.Key with
 | false=>rfl
 | true =>
 cases qK e.Item with
 | false=>rfl
 | true =>
 simp only [Bool.not_true,cond_false,ob_,Bool.or_self,Bool.false_or]
 cases jm e.Version 0 1000000 with
 | true=>rfl
 | false =>
 cases jm e.First 0 e.Last with
 | true=>rfl
 | false =>
 cases decide (e.Last>4000)with
 | true=>rfl
 | false =>
 cases jm e.Every 1 400 with
 | true=>rfl
 | false =>
 cases jm e.Days 1 127 with
 | true=>rfl
 | false =>
 simp only [cond_false,ob_,Bool.or_self]
 cases hx:exF e.Except==0 with
 | false =>
  have:(exF e.Except != 0)=true:=by simp [bne,hx]
  simp only [this,cond_true,cond_false]
 | true =>
  have:(exF e.Except != 0)=false:=by simp [bne,hx]
  simp only [this,cond_true,cond_false]
  cases jm e.From 0 1439 with
  | true=>rfl
  | false =>
  cases jm e.To 0 1439 with
  | true=>rfl
  | false =>
  cases jm e.Prio 0 9 with
  | true=>rfl
  | false=>rfl
theorem Ky {e:Entry} (h:wR e=0):e.Key.size≠0:=by
 unfold wR at h
 cases hk:qK e.Key with
 | false=>rw [hk]at h;cases h
 | true=>exact EP hk
def Az (p:Player):Int:=bif !qK p.Key || !qK p.Screen then 5 else bif jm p.Zone (-1440) 1440 then 1 else tagsF p.Tags
theorem playK (p:Player) (h:Qb p):gQ p=some (Az p):=by
 obtain ⟨h1,h2,h4,h5⟩:=h
 unfold wZ at h1 h2
 unfold gQ Az
 simp only [yT p.Key (by omega),yT p.Screen (by omega),yw,tagsK p.Tags h5 (by omega),ob_]
 cases qK p.Key with
 | false=>rfl
 | true =>
 cases qK p.Screen with
 | false=>rfl
 | true=>cases jm p.Zone (-1440) 1440 <;> rfl
def winF (w:Window):Int:=bif jm w.From 0 w.To||decide (w.To>345686400000)then 1 else bif decide (w64 (w.To-w.From)>34560000000)then 2 else 0
theorem winK (w:Window):fD w=some (winF w):=by
 unfold fD winF
 simp only [yw,ob_]
 cases jm w.From 0 w.To with
 | true=>rfl
 | false =>
 cases decide (w.To>345686400000)with
 | true=>rfl
 | false=>cases decide (w64 (w.To-w.From)>34560000000) <;> rfl
def or0 (a b:Int):Int:=bif a==0 then b else a
def memB (v:ByteArray) (l:List ByteArray):Bool:=l.any λx=>decide (v=x)
theorem zB {v:ByteArray} {l:List ByteArray}:memB v l=true↔v∈l:=by simp [memB]
theorem Gu {v:ByteArray} {l:List ByteArray} (h:v∉l):memB v l=false:=by
 cases hb:memB v l with
 | false=>rfl
 | true=>exact absurd (zB.1 hb) h
def Ci (l:List ByteArray):Prop:=∀i j (hi:i<l.length) (hj:j<l.length),i<j->lt l[i] l[j]
theorem wO:∀(l:List ByteArray) (last:ByteArray),chk id DR last l=0->Ci l/\∀x∈l,lt last x
 | [],last,h=>⟨λi j hi=>absurd hi (Nat.not_lt_zero i),by simp⟩
 | x::xs,last,h=>by
  rw [chk]at h
  cases he:DR last x==0 with
  | false=>rw [he]at h;simp only [cond_false]at h;rw [h]at he;cases he
  | true =>
   rw [he]at h
   simp only [cond_true,id]at h
   obtain ⟨h1,h2⟩:=wO xs x h
   have hx:lt last x:=by
    unfold DR at he
    cases hk:qK x with
    | false=>rw [hk]at he;cases he
    | true =>
     cases hl:sLe x last with
     | true=>rw [hk,hl]at he;cases he
     | false =>
      have:=mt (Ad x last).2 (by rw [hl];simp)
      exact Classical.not_not.1 this
   refine⟨λi j hi hj hij => ?_,λy hy => ?_⟩
   ·cases i with
    | zero=>cases j with
     | zero=>omega
     | succ j=>exact h2 _ (List.getElem_mem _)
    | succ i=>cases j with
     | zero=>omega
     | succ j=>exact h1 i j (by simpa using hi) (by simpa using hj) (by omega)
   ·rcases List.mem_cons.1 hy with rfl|hy
    ·exact hx
    ·exact lt_trans hx (h2 y hy)
theorem tagsF_0 {l:List ByteArray} (h:tagsF l=0):l.length<=20/\Ci l:=by
 unfold tagsF at h
 by_cases hl:l.length>20
 ·rw [decide_eq_true hl]at h;cases h
 ·rw [decide_eq_false hl]at h
  exact⟨by omega,(wO l BX h).1⟩
theorem Ka (x y:ByteArray):cmp_Less_string x y=some (sLt x y):=by
 unfold cmp_Less_string cmp_isNaN_string
 have:sNe x x=false:=by rw [Jp];simp
 rw [this];rfl
theorem half (i j:Nat) (h:i<=1000000/\j<=1000000):Dx .u64 (IntKind.u64.wrap (w64 ((i:Int)+(j:Int)))) 1=some (((i+j) / 2:Nat):Int):=by
 have e1:w64 ((i:Int)+j)=((i+j:Nat):Int):=by rw [bW (by omega)];omega
 have e2:IntKind.u64.wrap ((i+j:Nat):Int)=((i+j:Nat):Int):=IntWalk.u64_in _ (by omega)
 rw [e1,e2]
 unfold Dx
 rw [if_neg (by omega)]
 congr 1
 show Int.fdiv _ (2 ^ 1)=_
 rw [Int.fdiv_eq_ediv_of_nonneg _ (by decide)]
 omega
structure Ends (l:List ByteArray) (t:ByteArray) (i j:Nat):Prop where
 le:i<=j
 len:j<=l.length
 lo:∀k (h:k<l.length),k<i->lt l[k] t
 hi:∀k (h:k<l.length),j<=k->¬lt l[k] t
theorem Jw (l:List ByteArray) (t:ByteArray) (i j:Nat) (hij:i<j) (hm:(i+j) / 2<l.length) (hl:j<=1000) :
  bg l t ((i:Int),(j:Int))=some (bif sLt l[(i+j) / 2] t then .go ((((i+j) / 2+1:Nat):Int),(j:Int))else .go ((i:Int),(((i+j) / 2:Nat):Int))):=by
 have e1:decide ((i:Int)<(j:Int))=true:=by simp;omega
 have ew:w64 (((i+j) / 2:Nat):Int)=(((i+j) / 2:Nat):Int):=bW (by omega)
 have ew2:w64 ((((i+j) / 2:Nat):Int)+1)=(((i+j) / 2+1:Nat):Int):=by rw [bW (by omega)];omega
 simp only [bg,e1,cond_true,half i j (by omega),ob_,ew,ew2,mG,List.getElem?_eq_getElem hm,Ka]
 cases sLt l[(i+j) / 2] t <;> rfl
theorem yc (l:List ByteArray) (t:ByteArray) (hr:Ci l) (hl:l.length<=1000):∀(d i j:Nat),j-i<=d->Ends l t i j->∃m:Nat,iterN (λs=>bg l t s) (d+1) ((i:Int),(j:Int))=some (.go ((m:Int),(m:Int)))/\Ends l t m m
 | d,i,j,hd,he=>by
  have hlen:=he.len
  have hle:=he.le
  by_cases hij:i<j
  ·have hm:(i+j) / 2<l.length:=by omega
   rw [iterN,Jw l t i j hij hm (by omega),ob_]
   cases d with
   | zero=>omega
   | succ d =>
    cases hc:sLt l[(i+j) / 2] t with
    | true =>
     have hlt:=(vP _ _).1 hc
     simp only [cond_true]
     refine yc l t hr hl d ((i+j) / 2+1) j (by omega) ⟨by omega,hlen,λk hk hki => ?_,he.hi⟩
     rcases Nat.lt_or_ge k ((i+j) / 2)with h|h
     ·exact lt_trans (hr k _ hk hm h) hlt
     ·have:k=(i+j) / 2:=by omega
      subst this;exact hlt
    | false =>
     have hlt:=mt (vP _ _).2 (by rw [hc];simp)
     simp only [cond_false]
     refine yc l t hr hl d i ((i+j) / 2) (by omega) ⟨by omega,by omega,he.lo,λk hk hki => ?_⟩
     rcases Nat.lt_or_ge ((i+j) / 2) k with h|h
     ·exact λhx=>hlt (lt_trans (hr _ k hm hk h) hx)
     ·have:k=(i+j) / 2:=by omega
      subst this;exact hlt
  ·have e1:decide ((i:Int)<(j:Int))=false:=by simp;omega
   have:i=j:=by omega
   subst this
   have hst:bg l t ((i:Int),(i:Int))=some (.brk ((i:Int),(i:Int))):=by simp only [bg,e1,cond_false]
   rw [iterN,hst,ob_]
   exact⟨i,rfl,he⟩
theorem bs_eq (l:List ByteArray) (t:ByteArray) (hr:Ci l) (hl:l.length<=1000):∃i:Int,dN l t=some (i,memB t l):=by
 obtain ⟨m,h1,h2⟩:=yc l t hr hl l.length 0 l.length (by omega) ⟨by omega,Nat.le_refl _,λk _ h=>absurd h (Nat.not_lt_zero k),λk hk h=>absurd h (by omega)⟩
 have h3:=kC h1
 refine⟨m,?_⟩
 unfold dN
 have h4:iV ((0:Int),(l.length:Int)) (λs=>bg l t s)=some (Ctl.go ((m:Int),(m:Int))):=h3
 rw [h4,ob_,uH]
 have key:t∈l↔∃h:m<l.length,l[m]=t:=by
  constructor
  ·intro hm
   obtain ⟨k,hk,he⟩:=List.getElem_of_mem hm
   have hk1:¬k<m:=λh=>by have:=h2.lo k hk h;rw [he]at this;exact su _ this
   have hml:m<l.length:=by omega
   refine⟨hml,?_⟩
   rcases Nat.lt_or_ge m k with h|h
   ·have h5:=hr m k hml hk h
    rw [he]at h5
    exact absurd h5 (h2.hi m hml (Nat.le_refl _))
   ·have:k=m:=by omega
    subst this;exact he
  ·rintro ⟨h,he⟩
   rw [<- he];exact List.getElem_mem _
 by_cases hml:m<l.length
 ·have e1:decide ((m:Int)<(l.length:Int))=true:=by simp;omega
  simp only [e1,cond_true,mG,List.getElem?_eq_getElem hml,ob_,JM]
  have hn:slices_isNaN_string l[m]=some false:=by
   unfold slices_isNaN_string;rw [Jp];simp
  rw [hn]
  by_cases he:l[m]=t
  ·simp only [decide_eq_true he,cond_true,ob_,zB.2 (key.2 ⟨hml,he⟩)]
  ·simp only [decide_eq_false he,cond_false,ob_,Gu (λh=>he (key.1 h).2)]
 ·have e1:decide ((m:Int)<(l.length:Int))=false:=by simp;omega
  simp only [e1,cond_false,ob_]
  rw [Gu (λh=>hml (key.1 h).1)]
namespace I
def lt (a b:Int):Prop:=a<b
theorem su (a:Int):¬lt a a:=Int.lt_irrefl a
theorem lt_trans {a b c:Int} (h:lt a b) (k:lt b c):lt a c:=Int.lt_trans h k
def sLt (a b:Int):Bool:=decide (a<b)
theorem vP (a b:Int):sLt a b=true↔lt a b:=by simp [sLt,lt]
def memB (v:Int) (l:List Int):Bool:=l.any λx=>decide (v=x)
theorem zB {v:Int} {l:List Int}:memB v l=true↔v∈l:=by simp [memB]
theorem Gu {v:Int} {l:List Int} (h:v∉l):memB v l=false:=by
 cases hb:memB v l with
 | false=>rfl
 | true=>exact absurd (zB.1 hb) h
def Ci (l:List Int):Prop:=∀i j (hi:i<l.length) (hj:j<l.length),i<j->lt l[i] l[j]
theorem Ka (x y:Int):cmp_Less_int x y=some (sLt x y):=by
 unfold cmp_Less_int cmp_isNaN_int
 have:(x != x)=false:=by simp
 rw [this];rfl
structure Ends (l:List Int) (t:Int) (i j:Nat):Prop where
 le:i<=j
 len:j<=l.length
 lo:∀k (h:k<l.length),k<i->lt l[k] t
 hi:∀k (h:k<l.length),j<=k->¬lt l[k] t
theorem Jw (l:List Int) (t:Int) (i j:Nat) (hij:i<j) (hm:(i+j) / 2<l.length) (hl:j<=1000) :
  bB l t ((i:Int),(j:Int))=some (bif sLt l[(i+j) / 2] t then .go ((((i+j) / 2+1:Nat):Int),(j:Int))else .go ((i:Int),(((i+j) / 2:Nat):Int))):=by
 have e1:decide ((i:Int)<(j:Int))=true:=by simp;omega
 have ew:w64 (((i+j) / 2:Nat):Int)=(((i+j) / 2:Nat):Int):=bW (by omega)
 have ew2:w64 ((((i+j) / 2:Nat):Int)+1)=(((i+j) / 2+1:Nat):Int):=by rw [bW (by omega)];omega
 simp only [bB,e1,cond_true,half i j (by omega),ob_,ew,ew2,mG,List.getElem?_eq_getElem hm,Ka]
 cases sLt l[(i+j) / 2] t <;> rfl
theorem yc (l:List Int) (t:Int) (hr:Ci l) (hl:l.length<=1000):∀(d i j:Nat),j-i<=d->Ends l t i j->∃m:Nat,iterN (λs=>bB l t s) (d+1) ((i:Int),(j:Int))=some (.go ((m:Int),(m:Int)))/\Ends l t m m
 | d,i,j,hd,he=>by
  have hlen:=he.len
  have hle:=he.le
  by_cases hij:i<j
  ·have hm:(i+j) / 2<l.length:=by omega
   rw [iterN,Jw l t i j hij hm (by omega),ob_]
   cases d with
   | zero=>omega
   | succ d =>
    cases hc:sLt l[(i+j) / 2] t with
    | true =>
     have hlt:=(vP _ _).1 hc
     simp only [cond_true]
     refine yc l t hr hl d ((i+j) / 2+1) j (by omega) ⟨by omega,hlen,λk hk hki => ?_,he.hi⟩
     rcases Nat.lt_or_ge k ((i+j) / 2)with h|h
     ·exact lt_trans (hr k _ hk hm h) hlt
     ·have:k=(i+j) / 2:=by omega
      subst this;exact hlt
    | false =>
     have hlt:=mt (vP _ _).2 (by rw [hc];simp)
     simp only [cond_false]
     refine yc l t hr hl d i ((i+j) / 2) (by omega) ⟨by omega,by omega,he.lo,λk hk hki => ?_⟩
     rcases Nat.lt_or_ge ((i+j) / 2) k with h|h
     ·exact λhx=>hlt (lt_trans (hr _ k hm hk h) hx)
     ·have:k=(i+j) / 2:=by omega
      subst this;exact hlt
  ·have e1:decide ((i:Int)<(j:Int))=false:=by simp;omega
   have:i=j:=by omega
   subst this
   have hst:bB l t ((i:Int),(i:Int))=some (.brk ((i:Int),(i:Int))):=by simp only [bB,e1,cond_false]
   rw [iterN,hst,ob_]
   exact⟨i,rfl,he⟩
theorem bs_eq (l:List Int) (t:Int) (hr:Ci l) (hl:l.length<=1000):∃i:Int,dC l t=some (i,memB t l):=by
 obtain ⟨m,h1,h2⟩:=yc l t hr hl l.length 0 l.length (by omega) ⟨by omega,Nat.le_refl _,λk _ h=>absurd h (Nat.not_lt_zero k),λk hk h=>absurd h (by omega)⟩
 have h3:=kC h1
 refine⟨m,?_⟩
 unfold dC
 have h4:iV ((0:Int),(l.length:Int)) (λs=>bB l t s)=some (Ctl.go ((m:Int),(m:Int))):=h3
 rw [h4,ob_,uH]
 have key:t∈l↔∃h:m<l.length,l[m]=t:=by
  constructor
  ·intro hm
   obtain ⟨k,hk,he⟩:=List.getElem_of_mem hm
   have hk1:¬k<m:=λh=>by have:=h2.lo k hk h;rw [he]at this;exact su _ this
   have hml:m<l.length:=by omega
   refine⟨hml,?_⟩
   rcases Nat.lt_or_ge m k with h|h
   ·have h5:=hr m k hml hk h
    rw [he]at h5
    exact absurd h5 (h2.hi m hml (Nat.le_refl _))
   ·have:k=m:=by omega
    subst this;exact he
  ·rintro ⟨h,he⟩
   rw [<- he];exact List.getElem_mem _
 by_cases hml:m<l.length
 ·have e1:decide ((m:Int)<(l.length:Int))=true:=by simp;omega
  simp only [e1,cond_true,mG,List.getElem?_eq_getElem hml,ob_,Bool.beq_eq_decide_eq]
  have hn:gU l[m]=some false:=by
   unfold gU;simp
  rw [hn]
  by_cases he:l[m]=t
  ·simp only [decide_eq_true he,cond_true,ob_,zB.2 (key.2 ⟨hml,he⟩)]
  ·simp only [decide_eq_false he,cond_false,ob_,Gu (λh=>he (key.1 h).2)]
 ·have e1:decide ((m:Int)<(l.length:Int))=false:=by simp;omega
  simp only [e1,cond_false,ob_]
  rw [Gu (λh=>hml (key.1 h).1)]
theorem wO:∀(l:List Int) (p:Option Int),Oi Jc p l=0->Ci l/\∀x∈l,∀y,p=some y->lt y x
 | [],p,h=>⟨λi j hi=>absurd hi (Nat.not_lt_zero i),by simp⟩
 | x::xs,p,h=>by
  rw [Oi]at h
  cases he:Jc p x==0 with
  | false=>rw [he]at h;simp only [cond_false]at h;rw [h]at he;cases he
  | true =>
   rw [he]at h
   simp only [cond_true]at h
   obtain ⟨h1,h2⟩:=wO xs (some x) h
   have hx:∀y,p=some y->lt y x:=λy hy=>by
    subst hy
    unfold Jc at he
    cases hk:jm x 0 4000 with
    | true=>rw [hk]at he;cases he
    | false =>
     cases hl:leP (some y) x with
     | true=>rw [hk,hl]at he;cases he
     | false =>
      simp only [leP,decide_eq_false_iff_not]at hl
      show y<x
      omega
   refine⟨λi j hi hj hij => ?_,λy hy z hz => ?_⟩
   ·cases i with
    | zero=>cases j with
     | zero=>omega
     | succ j=>exact h2 _ (List.getElem_mem _) x rfl
    | succ i=>cases j with
     | zero=>omega
     | succ j=>exact h1 i j (by simpa using hi) (by simpa using hj) (by omega)
   ·rcases List.mem_cons.1 hy with rfl|hy
    ·exact hx z hz
    ·exact lt_trans (hx z hz) (h2 y hy x rfl)
theorem exF_0 {l:List Int} (h:exF l=0):l.length<=100/\Ci l:=by
 unfold exF at h
 by_cases hl:l.length>100
 ·rw [decide_eq_true hl]at h;cases h
 ·rw [decide_eq_false hl]at h
  exact⟨by omega,(wO l none h).1⟩
end I
def Bh (e:Entry) (p:Player):Bool := !(e.Tags.any λt => !memB t p.Tags)
theorem fitK (e:Entry) (p:Player) (h1:e.Tags.length<=1000) (h2:tagsF p.Tags=0):oL e p=some (Bh e p):=by
 obtain ⟨hl,hr⟩:=tagsF_0 h2
 have run:∀(xs:List ByteArray) (k:Nat),forR (λk x u=>jC p k x u) xs k ()=some (bif xs.any (λt => !memB t p.Tags)then .ret false else .go ()):=by
  intro xs
  induction xs with
  | nil=>exact λk=>rfl
  | cons x xs ih =>
   intro k
   obtain ⟨i,hi⟩:=bs_eq p.Tags x hr (by omega)
   have hst:jC p k x ()=some (bif !memB x p.Tags then .ret false else .go ()):=by
    simp only [jC,hi,ob_];cases memB x p.Tags <;> rfl
   rw [forR,hst,ob_]
   cases hm:memB x p.Tags with
   | true=>simp only [Bool.not_true,cond_false,List.any_cons,hm,Bool.false_or];exact ih (k+1)
   | false=>simp [hm]
 unfold oL Bh
 rw [qi (by omega),run e.Tags 0,ob_]
 cases e.Tags.any (λt => !memB t p.Tags) <;> rfl
def collect (p:Int->Bool) (f:Int->Window):Nat->Int->List Window
 | 0,_=>[]
 | n+1,d=>(bif p d then [f d]else [])++collect p f n (d+1)
theorem Ef (p:Int->Bool) (f:Int->Window):∀(n:Nat) (d:Int),(collect p f n d).length<=n
 | 0,_=>Nat.le_refl 0
 | n+1,d=>by
  have:=Ef p f n (d+1)
  simp only [collect,List.length_append]
  cases p d <;> simp <;> omega
theorem mK {p:Int->Bool} {f:Int->Window}:∀(n:Nat) (d:Int),(∀x,d<=x->x<d+n->p x=false)->collect p f n d=[]
 | 0,_,_=>rfl
 | n+1,d,h=>by
  simp only [collect,h d (by omega) (by omega),cond_false,List.nil_append]
  exact mK n (d+1) (λx h1 h2=>h x (by omega) (by omega))
theorem AX {p p':Int->Bool} {f f':Int->Window}:∀(n:Nat) (d:Int),(∀x,d<=x->x<d+n->p x=p' x/\f x=f' x)->collect p f n d=collect p' f' n d
 | 0,_,_=>rfl
 | n+1,d,h=>by
  obtain ⟨h1,h2⟩:=h d (by omega) (by omega)
  simp only [collect,h1,h2]
  rw [AX n (d+1) (λx h1 h2=>h x (by omega) (by omega))]
theorem wB (p:Int->Bool) (f:Int->Window):∀(n m:Nat) (d:Int),collect p f (n+m) d=collect p f n d++collect p f m (d+n)
 | 0,m,d=>by simp [collect]
 | n+1,m,d=>by
  rw [show n+1+m=(n+m)+1 by omega]
  simp only [collect,List.append_assoc]
  rw [wB p f n m (d+1),show d+1+(n:Int)=d+((n+1:Nat):Int) by omega]
theorem Ed (p:Int->Bool) (f:Int->Window) (a b lo hi:Int) (h1:a<=lo) (h2:hi<=b) (h:∀x,a<=x->x<=b->p x=true->lo<=x/\x<=hi) :
  collect p f (b+1-a).toNat a=collect p f (hi+1-lo).toNat lo:=by
 by_cases hh:lo<=hi
 ·have e:(b+1-a).toNat=(lo-a).toNat+((hi+1-lo).toNat+(b-hi).toNat):=by omega
  rw [e,wB,wB,show a+((lo-a).toNat:Int)=lo by omega,mK (lo-a).toNat a (λx x1 x2 => ?_),mK (b-hi).toNat _ (λx x1 x2 => ?_),List.nil_append,List.append_nil]
  ·cases hp:p x with
   | false=>rfl
   | true=>have:=h x (by omega) (by omega) hp;omega
  ·cases hp:p x with
   | false=>rfl
   | true=>have:=h x (by omega) (by omega) hp;omega
 ·rw [show (hi+1-lo).toNat=0 by omega,mK (b+1-a).toNat a (λx x1 x2 => ?_)]
  ·rfl
  ·cases hp:p x with
   | false=>rfl
   | true=>have:=h x (by omega) (by omega) hp;omega
theorem Ie {ρ:Type} {body:List Window×Int->Option (Ctl (List Window×Int) ρ)} {p:Int->Bool} {f:Int->Window} (lo hi:Int)
  (hb:∀(acc:List Window) d,lo<=d->d<=hi->acc.length<=1000000->body (acc,d)=some (.go (acc++(bif p d then [f d]else []),d+1))) (he:∀acc d,hi<d->body (acc,d)=some (.brk (acc,d))) :
  ∀(n:Nat) (acc:List Window) (d:Int),lo<=d->(hi+1-d).toNat=n->acc.length+n<=1000000->∃d',iterN body (n+1) (acc,d)=some (.go (acc++collect p f n d,d'))
 | 0,acc,d,hlo,hn,hl=>by
  rw [iterN,he acc d (by omega),ob_]
  exact⟨d,by simp [collect]⟩
 | n+1,acc,d,hlo,hn,hl=>by
  rw [iterN,hb acc d hlo (by omega) (by omega),ob_]
  have hle:(bif p d then [f d]else []).length<=1:=by cases p d <;> simp
  obtain ⟨d',h⟩:=Ie lo hi hb he n (acc++(bif p d then [f d]else [])) (d+1) (by omega) (by omega) (by rw [List.length_append];omega)
  refine⟨d',?_⟩
  simp only [h,collect,List.append_assoc]
theorem OU {ρ:Type} {body:List Window×Int->Option (Ctl (List Window×Int) ρ)} {p:Int->Bool} {f:Int->Window} (lo hi:Int) (hl:hi-lo<=100000)
  (hb:∀(acc:List Window) d,lo<=d->d<=hi->acc.length<=1000000->body (acc,d)=some (.go (acc++(bif p d then [f d]else []),d+1))) (he:∀acc d,hi<d->body (acc,d)=some (.brk (acc,d))) :
  ∃d',iV ([],lo) body=some (.go (collect p f (hi+1-lo).toNat lo,d')):=by
 obtain ⟨d',h⟩:=Ie lo hi hb he (hi+1-lo).toNat [] lo (Int.le_refl _) rfl (by simp;omega)
 exact⟨d',by have:=kC h;simpa using this⟩
def bitB (a r:Int):Bool:=match Dx .i64 a r with
 | some y=>rH .i64 y 1==1
 | none=>false
def PN (a r:Nat):Bool:=match BR .i64 1 (r:Int),Dx .i64 (a:Int) (r:Int)with
 | some x,some y=>(rH .i64 (a:Int) x==0) == !(rH .i64 y 1==1)
 | _,_=>false
theorem Pq:∀a:Fin 128,∀r:Fin 7,PN a.val r.val=true:=by decide +kernel
theorem bits (a r:Int) (ha:0<=a/\a<=127) (hr:0<=r/\r<7):∃x y,BR .i64 1 r=some x/\Dx .i64 a r=some y/\(rH .i64 a x==0) = !(rH .i64 y 1==1)/\bitB a r=(rH .i64 y 1==1):=by
 have h:=Pq ⟨a.toNat,by omega⟩ ⟨r.toNat,by omega⟩
 simp only [PN,show ((a.toNat:Nat):Int)=a by omega,show ((r.toNat:Nat):Int)=r by omega]at h
 unfold bitB
 cases h1:BR .i64 1 r with
 | none=>rw [h1]at h;cases h
 | some x =>
  cases h2:Dx .i64 a r with
  | none=>rw [h1,h2]at h;cases h
  | some y =>
   rw [h1,h2]at h
   exact⟨x,y,rfl,rfl,eq_of_beq h,rfl⟩
def J5 (e:Entry) (d:Int):Bool:=((d-e.First).tmod e.Every==0)&&(bitB e.Days (d.tmod 7) && !I.memB d e.Except)
structure Right (e:Entry):Prop where
 first:0<=e.First/\e.First<=e.Last
 last:e.Last<=4000
 every:1<=e.Every
 days:1<=e.Days/\e.Days<=127
 ex:exF e.Except=0
 from_:0<=e.From/\e.From<=1439
 to_:0<=e.To/\e.To<=1439
theorem qU {n lo hi:Int} (h:jm n lo hi=false):lo<=n/\n<=hi:=by
 simp only [jm,Bool.or_eq_false_iff,decide_eq_false_iff_not]at h;omega
theorem Fb {n lo hi:Int} (h:lo<=n/\n<=hi):jm n lo hi=false:=by
 simp only [jm,Bool.or_eq_false_iff,decide_eq_false_iff_not];omega
theorem entF_0 {e:Entry} (h:wR e=0):Right e:=by
 unfold wR at h
 cases hk:(!qK e.Key || !qK e.Item)with
 | true=>rw [hk]at h;cases h
 | false =>
 rw [hk,cond_false]at h
 cases hb:(jm e.Version 0 1000000||(jm e.First 0 e.Last||(decide (e.Last>4000)||(jm e.Every 1 400||jm e.Days 1 127))))with
 | true=>rw [hb]at h;cases h
 | false =>
 rw [hb,cond_false]at h
 simp only [Bool.or_eq_false_iff,decide_eq_false_iff_not]at hb
 cases hx:exF e.Except==0 with
 | false=>rw [hx,cond_false]at h;rw [h]at hx;cases hx
 | true =>
 rw [hx,cond_true]at h
 cases hc:(jm e.From 0 1439||(jm e.To 0 1439||jm e.Prio 0 9))with
 | true=>rw [hc]at h;cases h
 | false =>
 simp only [Bool.or_eq_false_iff]at hc
 exact⟨qU hb.2.1,by omega,(qU hb.2.2.2.1).1,qU hb.2.2.2.2,eq_of_beq hx,qU hc.1,qU hc.2.1⟩
theorem dayK (e:Entry) (h:Right e) (d:Int) (h1:e.First<=d) (h2:d<=e.Last):jJ e d=some (J5 e d):=by
 have hl:=h.last
 have hf:=h.first
 have hd:=h.days
 obtain ⟨x,y,b1,b2,b3,b4⟩:=bits e.Days (d.tmod 7) (by omega) ⟨Int.tmod_nonneg _ (by omega),Int.tmod_lt_of_pos _ (by decide)⟩
 obtain ⟨hx1,hx2⟩:=I.exF_0 h.ex
 obtain ⟨i,hi⟩:=I.bs_eq e.Except d hx2 (by omega)
 have he0:e.Every≠0:=by have:=h.every;omega
 unfold jJ J5
 simp only [yw,Fb ⟨h1,h2⟩,ob_,cond_false,bW (show -9223372036854775808<=d-e.First/\d-e.First<=9223372036854775807 by omega),Ke,if_neg he0,b1,b3,b4,hi]
 cases hq:(d-e.First).tmod e.Every==0 with
 | false =>
  have:((d-e.First).tmod e.Every != 0)=true:=by simp [bne,hq]
  simp only [this,cond_true,ob_,Bool.false_and]
 | true =>
  have:((d-e.First).tmod e.Every != 0)=false:=by simp [bne,hq]
  simp only [this,cond_false,ob_,Bool.true_and]
  cases (rH .i64 y 1==1) <;> simp
def tF (e:Entry) (z d:Int):Int:=(d*1440+e.From-z)*60000
def vT (e:Entry):Int:=if e.To-e.From<=0 then e.To-e.From+1440 else e.To-e.From
def tW (e:Entry) (z d:Int):Window:=⟨tF e z d,tF e z d+vT e*60000⟩
theorem timeK (e:Entry) (h:Right e) (z d:Int) (hz : -1440<=z/\z<=1440) (hd:0<=d/\d<=4000):jU e z d=some (tW e z d):=by
 have h1:=h.from_
 have h2:=h.to_
 unfold jU tW tF vT
 rw [bW (n:=e.To-e.From) (by omega)]
 by_cases hc:e.To-e.From<=0
 ·simp only [decide_eq_true hc,cond_true,ob_,if_pos hc]
  rw [bW (n:=e.To-e.From+1440) (by omega),bW (n:=d*1440) (by omega),bW (n:=d*1440+e.From) (by omega),bW (n:=d*1440+e.From-z) (by omega),bW (n:=(d*1440+e.From-z)*60000) (by omega),bW (n:=(e.To-e.From+1440)*60000) (by omega),bW (by omega)]
 ·simp only [decide_eq_false hc,cond_false,ob_,if_neg hc]
  rw [bW (n:=d*1440) (by omega),bW (n:=d*1440+e.From) (by omega),bW (n:=d*1440+e.From-z) (by omega),bW (n:=(d*1440+e.From-z)*60000) (by omega),bW (n:=(e.To-e.From)*60000) (by omega),bW (by omega)]
def cutW (w t:Window):Window:=⟨ol t.From w.From,u7 t.To w.To⟩
def pR (e:Entry) (z:Int) (w:Window) (d:Int):Bool := !e.Gone&&(J5 e d&&decide (ol (tF e z d) w.From<u7 (tF e z d+vT e*60000) w.To))
def pK (e:Entry) (z:Int) (w:Window) (d:Int):Bool:=J5 e d&&(decide (tF e z d<w.To)&&decide (tF e z d+vT e*60000>w.From))
def wants (e:Entry) (z:Int) (w:Window):List Window:=collect (pR e z w) (λd=>cutW w (tW e z d)) (e.Last+1-e.First).toNat e.First
theorem tdivB (x q:Int) (h:x.tdiv 86400000=q):(0<=x->q*86400000<=x/\x<q*86400000+86400000)/\(x<0->x<=q*86400000/\q*86400000-86400000<x):=by
 have h1:=Int.mul_tdiv_add_tmod x 86400000
 rw [h]at h1
 refine⟨λhx => ?_,λhx => ?_⟩
 ·have h2:=Int.tmod_nonneg 86400000 hx
  have h3:=Int.tmod_lt_of_pos x (show (0:Int)<86400000 by decide)
  omega
 ·have h3:=Int.lt_tmod_of_pos x (show (0:Int)<86400000 by decide)
  have h4:x.tmod 86400000<=0:=by
   have h5:=Int.tmod_nonneg 86400000 (show (0:Int) <= -x by omega)
   rw [Int.neg_tmod]at h5
   omega
  omega
def Na (w:Window):Prop:=0<=w.From/\w.From<=w.To/\w.To<=345686400000
theorem Gj (e:Entry) (h:Right e):1<=vT e/\vT e<=1440:=by
 have h1:=h.from_
 have h2:=h.to_
 unfold vT
 split <;> omega
theorem Nt {α σ ρ:Type} {body:Nat->α->σ->Option (Ctl σ ρ)} (I:Nat->σ->Prop) (xs:List α):∀(l:List α) (k:Nat) (s:σ),xs.drop k=l->k<=xs.length->(∀k x s,xs[k]? = some x->I k s->∃s',body k x s=some (.go s')/\I (k+1) s')->I k s->∃s',forR body l k s=some (.go s')/\I xs.length s'
 | [],k,s,hd,hk,h,hi=>by
  have:=List.drop_eq_nil_iff.1 hd
  obtain rfl:k=xs.length:=by omega
  exact⟨s,rfl,hi⟩
 | x::l,k,s,hd,hk,h,hi=>by
  obtain ⟨s1,h1,h2⟩:=h k x s (Fe hd) hi
  obtain ⟨s2,h3,h4⟩:=Nt I xs l (k+1) s1 (aQ hd) (by have:=E5 hd;omega) h h2
  exact⟨s2,by rw [forR,h1,ob_];exact h3,h4⟩
theorem qd {α σ ρ:Type} {body:Nat->α->σ->Option (Ctl σ ρ)} (I:Nat->σ->Prop) {xs:List α} {s:σ} (hl:xs.length<=1000000000000) (h:∀k x s,xs[k]? = some x->I k s->∃s',body k x s=some (.go s')/\I (k+1) s') (h0:I 0 s):∃s',forL xs s body=some (.go s')/\I xs.length s':=by
 rw [qi hl]
 exact Nt I xs xs 0 s rfl (Nat.zero_le _) h h0
end Go.Proofs.YtadpbmfnnlkdlabGreatDoor.Law

