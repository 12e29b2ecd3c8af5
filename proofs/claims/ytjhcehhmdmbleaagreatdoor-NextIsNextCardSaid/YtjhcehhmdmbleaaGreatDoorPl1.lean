/-
  THE PLAIN LAW (part 1).
-/
import Derived.Test.YtjhcehhmdmbleaaGreatDoorEng5
import Derived.Test.YtjhcehhmdmbleaaGreatDoorDefs
namespace Go.Eng
set_option linter.unusedVariables false
set_option linter.unusedSimpArgs false
theorem rM {α σ ρ:Type} {body:Nat→α→σ→Option (Ctl σ ρ)} {xs:List α} {s:σ} (hl:xs.length≤1000000000000):forL xs s body=forR body xs 0 s:=by unfold forL; rw [if_pos hl]
theorem qZ {σ ρ τ:Type} (s:σ) (f:σ→Option τ) (g:ρ→Option τ):thenC (.go s) f g=f s:=rfl
theorem Kh {σ ρ τ:Type} (r:ρ) (f:σ→Option τ) (g:ρ→Option τ):thenC (.ret r) f g=g r:=rfl
theorem nZ {α:Type} (xs:List α) (k:Nat):idx xs (k:Int)=xs[k]? := by simp [idx]
theorem bE {n:Int} (h : -9223372036854775808≤n∧n≤9223372036854775807):w64 n=n:=CV n h
theorem toL (s:ByteArray):s.toList=s.data.toList:=Go.Lib.toList_data s
theorem Cf {a b:ByteArray} (h:a.toList=b.toList):a=b:=by
 rw [toL,toL]at h
 obtain ⟨⟨a⟩⟩:=a
 obtain ⟨⟨b⟩⟩:=b
 simp only at h
 rw [h]
theorem BR (a b:ByteArray):sEq a b=true↔a=b:=by
 simp only [sEq,beq_iff_eq]
 exact⟨Cf,fun h=>by rw [h]⟩
theorem FU (a b:ByteArray):sEq a b=decide (a=b):=by
 rw [Bool.eq_iff_iff,BR]; simp
theorem F8 (a b:ByteArray):sNe a b = !decide (a=b):=by
 have:=FU a b; simp only [sEq,sNe]at *; rw [this]
abbrev bl:=Op.bytesLess
theorem bl_lt:∀ (x y:List UInt8),bl x y=decide (x < y)
 | _,[]=>by simp [bl,Op.bytesLess]
 | [],_::_=>by simp [bl,Op.bytesLess]
 | a::x,b::y=>by
  have:=bl_lt x y
  simp only [bl,Op.bytesLess]at this ⊢
  rw [this,Bool.eq_iff_iff]
  simp only [Bool.or_eq_true,decide_eq_true_eq,Bool.and_eq_true,beq_iff_eq,List.cons_lt_cons_iff]
def lt (a b:ByteArray):Prop:=a.toList < b.toList
theorem rP (a b:ByteArray):sLt a b=true↔lt a b:=by
 show bl a.toList b.toList=true↔_
 rw [bl_lt]; simp [lt]
theorem qc (a:ByteArray):¬ lt a a:=List.lt_irrefl a.toList
theorem lt_trans {a b c:ByteArray} (h:lt a b) (k:lt b c):lt a c:=List.lt_trans h k
theorem Dh (a b:ByteArray):lt a b∨a=b∨lt b a:=by
 rcases Classical.em (lt a b)with h | h
 ·exact .inl h
 ·rcases Classical.em (lt b a)with h2 | h2
  ·exact .inr (.inr h2)
  ·exact .inr (.inl (Cf (List.le_antisymm (List.not_lt.1 h2) (List.not_lt.1 h))))
theorem xc (a b:ByteArray):sLe a b=true ↔ ¬ lt b a:=by
 have h1:=rP a b
 have h2:=BR a b
 simp only [sLe,Bool.or_eq_true]
 constructor
 ·rintro (h | h)
  ·exact fun k=>qc _ (lt_trans (h1.1 h) k)
  ·rw [h2.1 h]; exact qc _
 ·intro h
  rcases Dh a b with k | k | k
  ·exact .inl (h1.2 k)
  ·exact .inr (h2.2 k)
  ·exact absurd k h
theorem Jy (a:ByteArray):sLe a ⟨#[]⟩=decide (a.size=0):=by
 rw [Bool.eq_iff_iff,xc,lt,toL,toL,Go.Lib.size_eq]
 cases a.data.toList <;> simp
theorem sNe_nil (a:ByteArray):sNe a ⟨#[]⟩=decide (a.size≠0):=by
 rw [F8,Go.Lib.size_eq,Bool.eq_iff_iff]
 simp only [Bool.not_eq_true',decide_eq_false_iff_not,decide_eq_true_eq,ne_eq]
 refine not_congr ⟨fun h=>by rw [h]; rfl,fun h => ?_⟩
 exact Cf (by rw [toL,List.eq_nil_of_length_eq_zero h,toL])
end Go.Eng

open Go Go.Eng
namespace Go.Proofs.YtjhcehhmdmbleaaGreatDoor.Law
set_option linter.unusedVariables false
set_option linter.unusedSimpArgs false
def Ok (s:Stream) (b:Int):Prop:=0≤s.f_at∧s.f_at≤b
theorem Ok.mono {s:Stream} {b c:Int} (h:Ok s b) (hc:b≤c):Ok s c:=⟨h.1,Int.le_trans h.2 hc⟩
theorem CO (x n:Int) (h:1≤n) (hn:n≤4611686018427387904):∃ r,rD x n=some r∧0≤r∧r < n:=by
 have h1:x.tmod n < n:=Int.tmod_lt_of_pos x (by omega)
 have h2 : -n < x.tmod n:=Int.lt_tmod_of_pos x (by omega)
 have hb:decide (n < 1)=false:=by simp; omega
 have hn0:n≠0:=by omega
 simp only [rD,hb,cond_false,F6,if_neg hn0,Option.bind_some]
 cases hd:decide (x.tmod n < 0)with
 | true =>
  simp only [decide_eq_true_eq]at hd
  exact⟨_,rfl,by rw [bE (by omega)]; omega,by rw [bE (by omega)]; omega⟩
 | false =>
  simp only [decide_eq_false_iff_not]at hd
  exact⟨_,rfl,by omega,h1⟩
theorem zK (s:Stream) (n:Int) {b:Int} (hs:Ok s b) (hb:b≤1000000) (h:1≤n) (hn:n≤4611686018427387904):∃ r s',gH s n=some (r,s')∧0≤r∧r < n∧Ok s' (b + 1):=by
 obtain ⟨h0,h1⟩:=hs
 have e1:w64 (s.f_at + 1)=s.f_at + 1:=bE (by omega)
 have e2:w64 (s.f_at + 1 - 1)=s.f_at:=by rw [bE (by omega)]; omega
 simp only [gH,e1,e2]
 by_cases hl:s.L.length=0
 ·have:((s.L.length:Int) == 0)=true:=by simp [hl]
  simp only [this,cond_true]
  obtain ⟨r,hr,h2,h3⟩:=CO (w64 ((s.f_at + 1) * 7919)) n h hn
  exact⟨r,_,by rw [hr]; rfl,h2,h3,⟨by show 0≤s.f_at + 1; omega,by show s.f_at + 1≤b + 1; omega⟩⟩
 ·have hne:(s.L.length:Int)≠0:=by omega
  have:((s.L.length:Int) == 0)=false:=by simpa using hl
  simp only [this,cond_false,F6,Jf,if_neg hne,Option.bind_some]
  have h2:0≤s.f_at.tmod s.L.length:=Int.tmod_nonneg _ h0
  have hp:(0:Int) < (s.L.length:Int):=by have:=Nat.pos_of_ne_zero hl; omega
  have h3:s.f_at.tmod s.L.length < s.L.length:=Int.tmod_lt_of_pos _ hp
  have hi:idx s.L (s.f_at.tmod s.L.length)=some s.L[(s.f_at.tmod s.L.length).toNat]:=by
   simp only [idx,if_pos h2]
   exact List.getElem?_eq_getElem (by omega)
  obtain ⟨r1,hr1,_,_⟩:=CO s.L[(s.f_at.tmod s.L.length).toNat] 1073741824 (by decide) (by decide)
  simp only [hi,hr1,Option.bind_some]
  generalize w64 (r1 + _)=y
  obtain ⟨r,hr,h4,h5⟩:=CO y n h hn
  exact⟨r,_,by rw [hr]; rfl,h4,h5,⟨by show 0≤s.f_at + 1; omega,by show s.f_at + 1≤b + 1; omega⟩⟩
theorem Fq (s:Stream) (n:Int) {b:Int} (hs:Ok s b) (hb:b≤1000000) (h:1≤n) (hn:n≤1000):∃ r s',gy s n=some (r,s')∧Ok s' (b + 1):=by
 obtain ⟨r,s',h1,_,_,h2⟩:=zK s n hs hb h (by omega)
 exact⟨r == 0,s',by simp only [gy,h1,Option.bind_some],h2⟩
theorem Gb {α:Type} {l:List α} {r:Int} (h0:0≤r) (h1:r < l.length):∃ y,idx l r=some y∧y∈l:=by
 refine⟨l[r.toNat]'(by omega),?_,List.getElem_mem _⟩
 simp only [idx,if_pos h0]
 exact List.getElem?_eq_getElem (by omega)
theorem qA (s:Stream) (l:List Int) {b:Int} (hs:Ok s b) (hb:b≤1000000) (h:1≤l.length) (hn:l.length≤1000):∃ r s',dL s l=some (r,s')∧r∈l∧Ok s' (b + 1):=by
 obtain ⟨r,s',h1,h2,h3,h4⟩:=zK s l.length hs hb (by omega) (by omega)
 obtain ⟨y,hy,hm⟩:=Gb h2 h3
 exact⟨y,s',by simp only [dL,h1,hy,Option.bind_some],hm,h4⟩
theorem some_ok (s:Stream) (l:List ByteArray) {b:Int} (hs:Ok s b) (hb:b≤1000000) (h:1≤l.length) (hn:l.length≤1000):∃ r s',lL s l=some (r,s')∧r∈l∧Ok s' (b + 1):=by
 obtain ⟨r,s',h1,h2,h3,h4⟩:=zK s l.length hs hb (by omega) (by omega)
 obtain ⟨y,hy,hm⟩:=Gb h2 h3
 exact⟨y,s',by simp only [lL,h1,hy,Option.bind_some],hm,h4⟩
theorem zI (s:Stream) (lo hi:Int) {b:Int} (hs:Ok s b) (hb:b≤1000000) (h:lo≤hi) (h1 : -1000000000000≤lo) (h2:hi≤1000000000000):∃ r s',gM s lo hi=some (r,s')∧lo≤r∧r≤hi∧Ok s' (b + 1):=by
 have hd:decide (hi < lo)=false:=by simp; omega
 have e1:w64 (hi - lo)=hi - lo:=bE (by omega)
 have e2:w64 (hi - lo + 1)=hi - lo + 1:=bE (by omega)
 obtain ⟨r,s',k1,k2,k3,k4⟩:=zK s (hi - lo + 1) hs hb (by omega) (by omega)
 simp only [gM,hd,cond_false,e1,e2,k1,Option.bind_some]
 exact⟨_,s',rfl,by rw [bE (by omega)]; omega,by rw [bE (by omega)]; omega,k4⟩
end Go.Proofs.YtjhcehhmdmbleaaGreatDoor.Law

open Go Go.Eng
namespace Go.Proofs.YtjhcehhmdmbleaaGreatDoor.Law
set_option linter.unusedVariables false
set_option linter.unusedSimpArgs false
def lowB (b:UInt8):Bool:=decide (97≤b.toNat) && decide (b.toNat≤122)
def moreB (b:UInt8):Bool:=(decide (48≤b.toNat) && decide (b.toNat≤57)) || (b.toNat == 45) || (b.toNat == 95)
def okB (i:Nat) (b:UInt8):Bool:=lowB b || (decide (0 < i) && moreB b)
def uU (s:ByteArray) (i:Nat):UInt8:=s.data.toList.getD i 0
def qa (s:ByteArray):Bool:=decide (s.size≠0) && (decide (s.size≤40) && (List.range s.size).all fun i=>okB i (uU s i))
theorem Lv (s:ByteArray) (k:Nat) (h:k < s.size):pM s (k:Int)=some (uU s k):=by
 have h1:s[k]? = some s[k]:=by simp [h]
 have h2:uU s k=s[k]:=by
  have hl:k < s.data.toList.length:=by rw [← Go.Lib.size_eq]; exact h
  simp only [uU,List.getD_eq_getElem?_getD,List.getElem?_eq_getElem hl,Option.getD_some]
  simp
  rfl
 simp only [pM,if_pos (Int.natCast_nonneg k),Int.toNat_natCast,h1,h2]
theorem H9 (s:ByteArray) (k:Nat) (hs:s.size≤1000000000):jr s (k:Int)=some (if k < s.size then (bif okB k (uU s k)then .go ((k + 1:Nat):Int)else .ret false)else .brk (k:Int)):=by
 unfold jr
 by_cases h:k < s.size
 ·have hd:decide ((k:Int) < (s.size:Int))=true:=by simp; omega
  have hw:w64 ((k:Int) + 1)=((k + 1:Nat):Int):=by rw [bE (by omega)]; omega
  simp only [hd,cond_true,Lv s k h,Option.bind_some,if_pos h,hw]
  generalize uU s k=b
  simp only [okB,lowB,moreB]
  have e1:decide ((b.toNat:Int)≥97)=decide (97≤b.toNat):=decide_eq_decide.2 (by omega)
  have e2:decide ((b.toNat:Int)≤122)=decide (b.toNat≤122):=decide_eq_decide.2 (by omega)
  have e3:decide ((k:Int) > 0)=decide (0 < k):=decide_eq_decide.2 (by omega)
  have e4:decide ((b.toNat:Int)≥48)=decide (48≤b.toNat):=decide_eq_decide.2 (by omega)
  have e5:decide ((b.toNat:Int)≤57)=decide (b.toNat≤57):=decide_eq_decide.2 (by omega)
  have e6:((b.toNat:Int) == 45)=(b.toNat == 45):=by rw [Bool.eq_iff_iff]; simp; omega
  have e7:((b.toNat:Int) == 95)=(b.toNat == 95):=by rw [Bool.eq_iff_iff]; simp; omega
  rw [e1,e2,e3,e4,e5,e6,e7]
  cases decide (97≤b.toNat) <;> cases decide (b.toNat≤122) <;> cases decide (0 < k) <;> cases decide (48≤b.toNat) <;> cases decide (b.toNat≤57) <;> cases (b.toNat == 45) <;> cases (b.toNat == 95) <;> rfl
 ·have hd:decide ((k:Int) < (s.size:Int))=false:=by simp; omega
  simp only [hd,cond_false,if_neg h]
theorem Cy (s:ByteArray) (hs:s.size≤1000000000):∀ (n k:Nat),k + n=s.size→iterN (fun i=>jr s i) (n + 1) (k:Int)=some (bif (List.range' k n).all (fun j=>okB j (uU s j))then .go (s.size:Int)else .ret false)
 | 0,k,h=>by
  have hk:¬ k < s.size:=by omega
  simp only [iterN,H9 s k hs,if_neg hk,Option.bind_some,List.range'_zero,List.all_nil,cond_true]
  rw [show (k:Int)=s.size by omega]
 | n + 1,k,h=>by
  have hk:k < s.size:=by omega
  rw [iterN,H9 s k hs,if_pos hk,Option.bind_some,List.range'_succ,List.all_cons]
  cases okB k (uU s k)with
  | true=>simp only [cond_true,Bool.true_and]; exact Cy s hs n (k + 1) (by omega)
  | false=>rfl
theorem w9 (s:ByteArray) (hs:s.size≤1000000000):fq s=some (qa s):=by
 have h:=gD (Cy s hs s.size 0 (by omega))
 unfold fq
 have h':fD (0:Int) (fun s_1=>jr s s_1)=_:=h
 rw [h',Option.bind_some,← List.range_eq_range']
 have e:decide ((s.size:Int)≤40)=decide (s.size≤40):=decide_eq_decide.2 (by omega)
 simp only [qa]
 cases (List.range s.size).all (fun i=>okB i (uU s i))with
 | true =>
  rw [cond_true,qZ,sNe_nil,e,Bool.and_true]
  cases decide (s.size≠0) <;> rfl
 | false=>simp only [cond_false,Kh,Bool.and_false]
theorem BZ {s:ByteArray} (h:qa s=true):s.size≠0:=by
 simp only [qa,Bool.and_eq_true,decide_eq_true_eq]at h
 exact h.1
end Go.Proofs.YtjhcehhmdmbleaaGreatDoor.Law

open Go Go.Eng
namespace Go.Proofs.YtjhcehhmdmbleaaGreatDoor.Law
set_option linter.unusedVariables false
set_option linter.unusedSimpArgs false
def uf (s:ByteArray):Prop:=s.size≤1000
def EF (x:Entry):Prop:=uf x.Key∧uf x.Item∧x.Except.length≤50∧x.Tags.length≤20 ∧ ∀ t∈x.Tags,uf t
def MQ (x:Player):Prop:=uf x.Key∧uf x.Screen∧x.Tags.length≤20 ∧ ∀ t∈x.Tags,uf t
theorem uj {s:ByteArray} (h:Nat.ble s.size 1000=true):uf s:=Nat.le_of_ble_eq_true h
theorem uL {α:Type} (xs ys:List α) (h:xs.length + ys.length≤1000000000):oo xs ys=some (xs++ys):=by unfold oo; rw [if_pos h]
theorem CJ {α:Type} {i:Int} {xs:List α} (h0:0≤i) (h1:i < xs.length):inR i xs=some ():=by unfold inR; rw [if_pos ⟨h0,by omega⟩]
end Go.Proofs.YtjhcehhmdmbleaaGreatDoor.Law

open Go Go.Eng
namespace Go.Proofs.YtjhcehhmdmbleaaGreatDoor.Law
set_option linter.unusedVariables false
set_option linter.unusedSimpArgs false
def BD:ByteArray:=⟨#[]⟩
def yn {α:Type} (key:α→ByteArray) (l:List α) (k:Nat):ByteArray:=if k=0 then BD else match l[k - 1]? with | some y=>key y | none=>BD
def chk {α:Type} (key:α→ByteArray) (stp:ByteArray→α→Int):ByteArray→List α→Int
 | _,[]=>0
 | last,x::xs=>bif stp last x == 0 then chk key stp (key x) xs else stp last x
def DT (e:Int):Ctl Unit Int:=bif e == 0 then .go ()else .ret e
theorem DJ {α:Type} {key:α→ByteArray} {stp:ByteArray→α→Int} {body:Nat→α→Unit→Option (Ctl Unit Int)} (l:List α):∀ (xs:List α) (k:Nat),l.drop k=xs→(∀ k x,l[k]? = some x→body k x ()=some (DT (stp (yn key l k) x))) →
  forR body xs k ()=some (DT (chk key stp (yn key l k) xs))
 | [],k,h,hb=>rfl
 | x::xs,k,h,hb=>by
  have hg:=De h
  rw [forR,hb k x hg,Option.bind_some,chk]
  cases he:stp (yn key l k) x == 0 with
  | true =>
   simp only [DT,he,cond_true]
   rw [DJ l xs (k + 1) (aW h) hb]
   have:yn key l (k + 1)=key x:=by simp [yn,hg]
   rw [this]; rfl
  | false=>simp only [DT,he,cond_false]
theorem A7 (e:Int):thenC (DT e) (fun _=>some (0:Int)) (fun r=>some r)=some e:=by
 unfold DT
 cases h:e == 0 with
 | true=>simp only [cond_true,qZ]; rw [eq_of_beq h]
 | false=>rfl
def Ap (last x:ByteArray):Int:=bif !qa x then 5 else bif sLe x last then 7 else 0
def tagsF (l:List ByteArray):Int:=bif decide (l.length > 20)then 2 else chk id Ap BD l
theorem GZ {α:Type} {l:List α} {k:Nat} {x:α} (h:l[k]? = some x) (hk:0 < k) (hl:l.length≤1000000000):∃ y,idx l (w64 ((k:Int) - 1))=some y∧l[k - 1]? = some y:=by
 have hlt:k < l.length:=(List.getElem?_eq_some_iff.1 h).1
 rw [bE (by omega),show (k:Int) - 1=((k - 1:Nat):Int) by omega,nZ]
 exact⟨l[k - 1],List.getElem?_eq_getElem (by omega),List.getElem?_eq_getElem (by omega)⟩
theorem Fa {α:Type} {key:α→ByteArray} {l:List α} {k:Nat} {x:α} {s:ByteArray} (h:l[k]? = some x) (hl:l.length≤1000000000) (hs:s.size≠0) :
  (bif decide ((k:Int) > 0)then (idx l (w64 ((k:Int) - 1))).bind fun y=>some (sLe s (key y))else some false)=some (sLe s (yn key l k)):=by
 by_cases hk:0 < k
 ·obtain ⟨y,h1,h2⟩:=GZ h hk hl
  have hd:decide ((k:Int) > 0)=true:=by simp; omega
  simp only [hd,cond_true,h1,Option.bind_some,yn,if_neg (show ¬ k=0 by omega),h2]
 ·have hk0:k=0:=by omega
  subst hk0
  simp only [yn,if_pos,BD,Jy,decide_eq_false hs]
  rfl
theorem tagsK (l:List ByteArray) (hs:∀ t∈l,uf t) (hl:l.length≤1000000000):eQ l=some (tagsF l):=by
 unfold eQ tagsF
 have e:decide ((l.length:Int) > 20)=decide (l.length > 20):=decide_eq_decide.2 (by omega)
 rw [e]
 cases decide (l.length > 20)with
 | true=>rfl
 | false =>
  simp only [cond_false]
  unfold iG
  rw [rM (by omega),DJ (key:=id) (stp:=Ap) l l 0 rfl (fun k x hx => ?_)]
  ·simp only [Option.bind_some,A7]; rfl
  ·have hxs:uf x:=hs x (List.mem_of_getElem? hx)
   simp only [gZ,w9 x (by unfold uf at hxs; omega),Option.bind_some,Ap]
   cases hk:qa x with
   | false=>rfl
   | true =>
    simp only [Bool.not_true,cond_false]
    have:=Fa (key:=id) hx hl (BZ hk)
    simp only [id]at this
    rw [this,Option.bind_some]
    cases sLe x (yn id l k) <;> rfl
def K4 {α:Type} (stp:Option α→α→Int):Option α→List α→Int
 | _,[]=>0
 | p,x::xs=>bif stp p x == 0 then K4 stp (some x) xs else stp p x
def Bc {α:Type} (l:List α) (k:Nat):Option α:=if k=0 then none else l[k - 1]?
theorem EC {α:Type} {stp:Option α→α→Int} {body:Nat→α→Unit→Option (Ctl Unit Int)} (l:List α):∀ (xs:List α) (k:Nat),l.drop k=xs→(∀ k x,l[k]? = some x→body k x ()=some (DT (stp (Bc l k) x))) →
  forR body xs k ()=some (DT (K4 stp (Bc l k) xs))
 | [],k,h,hb=>rfl
 | x::xs,k,h,hb=>by
  have hg:=De h
  rw [forR,hb k x hg,Option.bind_some,K4]
  cases he:stp (Bc l k) x == 0 with
  | true =>
   simp only [DT,he,cond_true]
   rw [EC l xs (k + 1) (aW h) hb]
   have:Bc l (k + 1)=some x:=by simp [Bc,hg]
   rw [this]; rfl
  | false=>simp only [DT,he,cond_false]
def jH (n lo hi:Int):Bool:=decide (n < lo) || decide (n > hi)
theorem yY (n lo hi:Int):aN n lo hi=some (jH n lo hi):=by
 unfold aN jH
 cases decide (n < lo) <;> cases decide (n > hi) <;> rfl
def leP (p:Option Int) (x:Int):Bool:=match p with
 | none=>false
 | some y=>decide (x≤y)
def EA (p:Option Int) (x:Int):Int:=bif jH x 0 4000 then 1 else bif leP p x then 7 else 0
def exF (l:List Int):Int:=bif decide (l.length > 100)then 2 else K4 EA none l
theorem Jk {l:List Int} {k:Nat} {x:Int} (h:l[k]? = some x) (hl:l.length≤1000000000) :
  (bif decide ((k:Int) > 0)then (idx l (w64 ((k:Int) - 1))).bind fun y=>some (decide (x≤y))else some false)=some (leP (Bc l k) x):=by
 by_cases hk:0 < k
 ·obtain ⟨y,h1,h2⟩:=GZ h hk hl
  have hd:decide ((k:Int) > 0)=true:=by simp; omega
  simp only [hd,cond_true,h1,Option.bind_some,Bc,if_neg (show ¬ k=0 by omega),h2,leP]
 ·have hk0:k=0:=by omega
  subst hk0
  rfl
theorem Na (n:Int):tO n=some (!jH n 0 4000):=by
 unfold tO jH
 have e1:decide (n≥0) = !decide (n < 0):=by rw [Bool.eq_iff_iff]; simp
 have e2:decide (n≤4000) = !decide (n > 4000):=by rw [Bool.eq_iff_iff]; simp
 rw [e1,e2]
 cases decide (n < 0) <;> cases decide (n > 4000) <;> rfl
theorem exK (l:List Int) (hl:l.length≤1000000000):fP l=some (exF l):=by
 unfold fP exF
 have e:decide ((l.length:Int) > 100)=decide (l.length > 100):=decide_eq_decide.2 (by omega)
 rw [e]
 cases decide (l.length > 100)with
 | true=>rfl
 | false =>
  simp only [cond_false]
  rw [rM (by omega),EC (stp:=EA) l l 0 rfl (fun k x hx => ?_)]
  ·simp only [Option.bind_some,A7]; rfl
  ·simp only [iA,Na,Option.bind_some,EA]
   cases jH x 0 4000 with
   | true=>rfl
   | false =>
    simp only [Bool.not_false,Bool.not_true,cond_false]
    rw [Jk hx hl,Option.bind_some]
    cases leP (Bc l k) x <;> rfl
def xW (e:Entry):Int :=
 bif !qa e.Key || !qa e.Item then 5 else
 bif jH e.Version 0 1000000 || (jH e.First 0 e.Last || (decide (e.Last > 4000) || (jH e.Every 1 400 || jH e.Days 1 127)))then 1 else
 bif exF e.Except == 0 then (bif jH e.From 0 1439 || (jH e.To 0 1439 || jH e.Prio 0 9)then 1 else tagsF e.Tags)else exF e.Except
theorem entK (e:Entry) (h:EF e):fw e=some (xW e):=by
 obtain ⟨h1,h2,h3,h4,h5⟩:=h
 unfold uf at h1 h2
 unfold fw xW
 simp only [w9 e.Key (by omega),w9 e.Item (by omega),yY,exK e.Except (by omega),tagsK e.Tags h5 (by omega),Option.bind_some]
 cases qa e.Key with
 | false=>rfl
 | true =>
 cases qa e.Item with
 | false=>rfl
 | true =>
 simp only [Bool.not_true,cond_false,Option.bind_some,Bool.or_self,Bool.false_or]
 cases jH e.Version 0 1000000 with
 | true=>rfl
 | false =>
 cases jH e.First 0 e.Last with
 | true=>rfl
 | false =>
 cases decide (e.Last > 4000)with
 | true=>rfl
 | false =>
 cases jH e.Every 1 400 with
 | true=>rfl
 | false =>
 cases jH e.Days 1 127 with
 | true=>rfl
 | false =>
 simp only [cond_false,Option.bind_some,Bool.or_self]
 cases hx:exF e.Except == 0 with
 | false =>
  have:(exF e.Except != 0)=true:=by simp [bne,hx]
  simp only [this,cond_true,cond_false]
 | true =>
  have:(exF e.Except != 0)=false:=by simp [bne,hx]
  simp only [this,cond_true,cond_false]
  cases jH e.From 0 1439 with
  | true=>rfl
  | false =>
  cases jH e.To 0 1439 with
  | true=>rfl
  | false =>
  cases jH e.Prio 0 9 with
  | true=>rfl
  | false=>rfl
theorem Ik {e:Entry} (h:xW e=0):e.Key.size≠0:=by
 unfold xW at h
 cases hk:qa e.Key with
 | false=>rw [hk]at h; cases h
 | true=>exact BZ hk
def yf (p:Player):Int:=bif !qa p.Key || !qa p.Screen then 5 else bif jH p.Zone (-1440) 1440 then 1 else tagsF p.Tags
theorem playK (p:Player) (h:MQ p):iy p=some (yf p):=by
 obtain ⟨h1,h2,h4,h5⟩:=h
 unfold uf at h1 h2
 unfold iy yf
 simp only [w9 p.Key (by omega),w9 p.Screen (by omega),yY,tagsK p.Tags h5 (by omega),Option.bind_some]
 cases qa p.Key with
 | false=>rfl
 | true =>
 cases qa p.Screen with
 | false=>rfl
 | true=>cases jH p.Zone (-1440) 1440 <;> rfl
def or0 (a b:Int):Int:=bif a == 0 then b else a
end Go.Proofs.YtjhcehhmdmbleaaGreatDoor.Law

open Go Go.Eng
namespace Go.Proofs.YtjhcehhmdmbleaaGreatDoor.Law
set_option linter.unusedVariables false
set_option linter.unusedSimpArgs false
def memB (v:ByteArray) (l:List ByteArray):Bool:=l.any fun x=>decide (v=x)
theorem wh {v:ByteArray} {l:List ByteArray}:memB v l=true↔v∈l:=by simp [memB]
theorem DZ {v:ByteArray} {l:List ByteArray} (h:v∉l):memB v l=false:=by
 cases hb:memB v l with
 | false=>rfl
 | true=>exact absurd (wh.1 hb) h
def zg (l:List ByteArray):Prop := ∀ i j (hi:i < l.length) (hj:j < l.length),i < j→lt l[i] l[j]
theorem ug:∀ (l:List ByteArray) (last:ByteArray),chk id Ap last l=0→zg l ∧ ∀ x∈l,lt last x
 | [],last,h=>⟨fun i j hi=>absurd hi (Nat.not_lt_zero i),by simp⟩
 | x::xs,last,h=>by
  rw [chk]at h
  cases he:Ap last x == 0 with
  | false=>rw [he]at h; simp only [cond_false]at h; rw [h]at he; cases he
  | true =>
   rw [he]at h
   simp only [cond_true,id]at h
   obtain ⟨h1,h2⟩:=ug xs x h
   have hx:lt last x:=by
    unfold Ap at he
    cases hk:qa x with
    | false=>rw [hk]at he; cases he
    | true =>
     cases hl:sLe x last with
     | true=>rw [hk,hl]at he; cases he
     | false =>
      have:=mt (xc x last).2 (by rw [hl]; simp)
      exact Classical.not_not.1 this
   refine⟨fun i j hi hj hij => ?_,fun y hy => ?_⟩
   ·cases i with
    | zero=>cases j with
     | zero=>omega
     | succ j=>exact h2 _ (List.getElem_mem _)
    | succ i=>cases j with
     | zero=>omega
     | succ j=>exact h1 i j (by simpa using hi) (by simpa using hj) (by omega)
   ·rcases List.mem_cons.1 hy with rfl | hy
    ·exact hx
    ·exact lt_trans hx (h2 y hy)
theorem tagsF_0 {l:List ByteArray} (h:tagsF l=0):l.length≤20∧zg l:=by
 unfold tagsF at h
 by_cases hl:l.length > 20
 ·rw [decide_eq_true hl]at h; cases h
 ·rw [decide_eq_false hl]at h
  exact⟨by omega,(ug l BD h).1⟩
theorem Fv (x y:ByteArray):cmp_Less_string x y=some (sLt x y):=by
 unfold cmp_Less_string cmp_isNaN_string
 have:sNe x x=false:=by rw [F8]; simp
 rw [this]; rfl
theorem half (i j:Nat) (h:i≤1000000∧j≤1000000):Ae .u64 (IntKind.u64.wrap (w64 ((i:Int) + (j:Int)))) 1=some (((i + j) / 2:Nat):Int):=by
 have e1:w64 ((i:Int) + j)=((i + j:Nat):Int):=by rw [bE (by omega)]; omega
 have e2:IntKind.u64.wrap ((i + j:Nat):Int)=((i + j:Nat):Int):=IntWalk.u64_in _ (by omega)
 rw [e1,e2]
 unfold Ae
 rw [if_neg (by omega)]
 congr 1
 show Int.fdiv _ (2 ^ 1)=_
 rw [Int.fdiv_eq_ediv_of_nonneg _ (by decide)]
 omega
structure Ends (l:List ByteArray) (t:ByteArray) (i j:Nat):Prop where
 le:i≤j
 len:j≤l.length
 lo:∀ k (h:k < l.length),k < i→lt l[k] t
 hi:∀ k (h:k < l.length),j≤k → ¬ lt l[k] t
theorem FV (l:List ByteArray) (t:ByteArray) (i j:Nat) (hij:i < j) (hm:(i + j) / 2 < l.length) (hl:j≤1000) :
  aS l t ((i:Int),(j:Int))=some (bif sLt l[(i + j) / 2] t then .go ((((i + j) / 2 + 1:Nat):Int),(j:Int))else .go ((i:Int),(((i + j) / 2:Nat):Int))):=by
 have e1:decide ((i:Int) < (j:Int))=true:=by simp; omega
 have ew:w64 (((i + j) / 2:Nat):Int)=(((i + j) / 2:Nat):Int):=bE (by omega)
 have ew2:w64 ((((i + j) / 2:Nat):Int) + 1)=(((i + j) / 2 + 1:Nat):Int):=by rw [bE (by omega)]; omega
 simp only [aS,e1,cond_true,half i j (by omega),Option.bind_some,ew,ew2,nZ,List.getElem?_eq_getElem hm,Fv]
 cases sLt l[(i + j) / 2] t <;> rfl
theorem uI (l:List ByteArray) (t:ByteArray) (hr:zg l) (hl:l.length≤1000):∀ (d i j:Nat),j - i≤d→Ends l t i j → ∃ m:Nat,iterN (fun s=>aS l t s) (d + 1) ((i:Int),(j:Int))=some (.go ((m:Int),(m:Int)))∧Ends l t m m
 | d,i,j,hd,he=>by
  have hlen:=he.len
  have hle:=he.le
  by_cases hij:i < j
  ·have hm:(i + j) / 2 < l.length:=by omega
   rw [iterN,FV l t i j hij hm (by omega),Option.bind_some]
   cases d with
   | zero=>omega
   | succ d =>
    cases hc:sLt l[(i + j) / 2] t with
    | true =>
     have hlt:=(rP _ _).1 hc
     simp only [cond_true]
     refine uI l t hr hl d ((i + j) / 2 + 1) j (by omega) ⟨by omega,hlen,fun k hk hki => ?_,he.hi⟩
     rcases Nat.lt_or_ge k ((i + j) / 2)with h | h
     ·exact lt_trans (hr k _ hk hm h) hlt
     ·have:k=(i + j) / 2:=by omega
      subst this; exact hlt
    | false =>
     have hlt:=mt (rP _ _).2 (by rw [hc]; simp)
     simp only [cond_false]
     refine uI l t hr hl d i ((i + j) / 2) (by omega) ⟨by omega,by omega,he.lo,fun k hk hki => ?_⟩
     rcases Nat.lt_or_ge ((i + j) / 2) k with h | h
     ·exact fun hx=>hlt (lt_trans (hr _ k hm hk h) hx)
     ·have:k=(i + j) / 2:=by omega
      subst this; exact hlt
  ·have e1:decide ((i:Int) < (j:Int))=false:=by simp; omega
   have:i=j:=by omega
   subst this
   have hst:aS l t ((i:Int),(i:Int))=some (.brk ((i:Int),(i:Int))):=by simp only [aS,e1,cond_false]
   rw [iterN,hst,Option.bind_some]
   exact⟨i,rfl,he⟩
theorem bs_eq (l:List ByteArray) (t:ByteArray) (hr:zg l) (hl:l.length≤1000):∃ i:Int,dA l t=some (i,memB t l):=by
 obtain ⟨m,h1,h2⟩:=uI l t hr hl l.length 0 l.length (by omega) ⟨by omega,Nat.le_refl _,fun k _ h=>absurd h (Nat.not_lt_zero k),fun k hk h=>absurd h (by omega)⟩
 have h3:=gD h1
 refine⟨m,?_⟩
 unfold dA
 have h4:fD ((0:Int),(l.length:Int)) (fun s=>aS l t s)=some (Ctl.go ((m:Int),(m:Int))):=h3
 rw [h4,Option.bind_some,qZ]
 have key:t∈l ↔ ∃ h:m < l.length,l[m]=t:=by
  constructor
  ·intro hm
   obtain ⟨k,hk,he⟩:=List.getElem_of_mem hm
   have hk1:¬ k < m:=fun h=>by have:=h2.lo k hk h; rw [he]at this; exact qc _ this
   have hml:m < l.length:=by omega
   refine⟨hml,?_⟩
   rcases Nat.lt_or_ge m k with h | h
   ·have h5:=hr m k hml hk h
    rw [he]at h5
    exact absurd h5 (h2.hi m hml (Nat.le_refl _))
   ·have:k=m:=by omega
    subst this; exact he
  ·rintro ⟨h,he⟩
   rw [← he]; exact List.getElem_mem _
 by_cases hml:m < l.length
 ·have e1:decide ((m:Int) < (l.length:Int))=true:=by simp; omega
  simp only [e1,cond_true,nZ,List.getElem?_eq_getElem hml,Option.bind_some,FU]
  have hn:slices_isNaN_string l[m]=some false:=by
   unfold slices_isNaN_string; rw [F8]; simp
  rw [hn]
  by_cases he:l[m]=t
  ·simp only [decide_eq_true he,cond_true,Option.bind_some,wh.2 (key.2 ⟨hml,he⟩)]
  ·simp only [decide_eq_false he,cond_false,Option.bind_some,DZ (fun h=>he (key.1 h).2)]
 ·have e1:decide ((m:Int) < (l.length:Int))=false:=by simp; omega
  simp only [e1,cond_false,Option.bind_some]
  rw [DZ (fun h=>hml (key.1 h).1)]
namespace I
def lt (a b:Int):Prop:=a < b
theorem qc (a:Int):¬ lt a a:=Int.lt_irrefl a
theorem lt_trans {a b c:Int} (h:lt a b) (k:lt b c):lt a c:=Int.lt_trans h k
def sLt (a b:Int):Bool:=decide (a < b)
theorem rP (a b:Int):sLt a b=true↔lt a b:=by simp [sLt,lt]
def memB (v:Int) (l:List Int):Bool:=l.any fun x=>decide (v=x)
theorem wh {v:Int} {l:List Int}:memB v l=true↔v∈l:=by simp [memB]
theorem DZ {v:Int} {l:List Int} (h:v∉l):memB v l=false:=by
 cases hb:memB v l with
 | false=>rfl
 | true=>exact absurd (wh.1 hb) h
def zg (l:List Int):Prop := ∀ i j (hi:i < l.length) (hj:j < l.length),i < j→lt l[i] l[j]
theorem Fv (x y:Int):cmp_Less_int x y=some (sLt x y):=by
 unfold cmp_Less_int cmp_isNaN_int
 have:(x != x)=false:=by simp
 rw [this]; rfl
structure Ends (l:List Int) (t:Int) (i j:Nat):Prop where
 le:i≤j
 len:j≤l.length
 lo:∀ k (h:k < l.length),k < i→lt l[k] t
 hi:∀ k (h:k < l.length),j≤k → ¬ lt l[k] t
theorem FV (l:List Int) (t:Int) (i j:Nat) (hij:i < j) (hm:(i + j) / 2 < l.length) (hl:j≤1000) :
  aY l t ((i:Int),(j:Int))=some (bif sLt l[(i + j) / 2] t then .go ((((i + j) / 2 + 1:Nat):Int),(j:Int))else .go ((i:Int),(((i + j) / 2:Nat):Int))):=by
 have e1:decide ((i:Int) < (j:Int))=true:=by simp; omega
 have ew:w64 (((i + j) / 2:Nat):Int)=(((i + j) / 2:Nat):Int):=bE (by omega)
 have ew2:w64 ((((i + j) / 2:Nat):Int) + 1)=(((i + j) / 2 + 1:Nat):Int):=by rw [bE (by omega)]; omega
 simp only [aY,e1,cond_true,half i j (by omega),Option.bind_some,ew,ew2,nZ,List.getElem?_eq_getElem hm,Fv]
 cases sLt l[(i + j) / 2] t <;> rfl
theorem uI (l:List Int) (t:Int) (hr:zg l) (hl:l.length≤1000):∀ (d i j:Nat),j - i≤d→Ends l t i j → ∃ m:Nat,iterN (fun s=>aY l t s) (d + 1) ((i:Int),(j:Int))=some (.go ((m:Int),(m:Int)))∧Ends l t m m
 | d,i,j,hd,he=>by
  have hlen:=he.len
  have hle:=he.le
  by_cases hij:i < j
  ·have hm:(i + j) / 2 < l.length:=by omega
   rw [iterN,FV l t i j hij hm (by omega),Option.bind_some]
   cases d with
   | zero=>omega
   | succ d =>
    cases hc:sLt l[(i + j) / 2] t with
    | true =>
     have hlt:=(rP _ _).1 hc
     simp only [cond_true]
     refine uI l t hr hl d ((i + j) / 2 + 1) j (by omega) ⟨by omega,hlen,fun k hk hki => ?_,he.hi⟩
     rcases Nat.lt_or_ge k ((i + j) / 2)with h | h
     ·exact lt_trans (hr k _ hk hm h) hlt
     ·have:k=(i + j) / 2:=by omega
      subst this; exact hlt
    | false =>
     have hlt:=mt (rP _ _).2 (by rw [hc]; simp)
     simp only [cond_false]
     refine uI l t hr hl d i ((i + j) / 2) (by omega) ⟨by omega,by omega,he.lo,fun k hk hki => ?_⟩
     rcases Nat.lt_or_ge ((i + j) / 2) k with h | h
     ·exact fun hx=>hlt (lt_trans (hr _ k hm hk h) hx)
     ·have:k=(i + j) / 2:=by omega
      subst this; exact hlt
  ·have e1:decide ((i:Int) < (j:Int))=false:=by simp; omega
   have:i=j:=by omega
   subst this
   have hst:aY l t ((i:Int),(i:Int))=some (.brk ((i:Int),(i:Int))):=by simp only [aY,e1,cond_false]
   rw [iterN,hst,Option.bind_some]
   exact⟨i,rfl,he⟩
theorem bs_eq (l:List Int) (t:Int) (hr:zg l) (hl:l.length≤1000):∃ i:Int,cZ l t=some (i,memB t l):=by
 obtain ⟨m,h1,h2⟩:=uI l t hr hl l.length 0 l.length (by omega) ⟨by omega,Nat.le_refl _,fun k _ h=>absurd h (Nat.not_lt_zero k),fun k hk h=>absurd h (by omega)⟩
 have h3:=gD h1
 refine⟨m,?_⟩
 unfold cZ
 have h4:fD ((0:Int),(l.length:Int)) (fun s=>aY l t s)=some (Ctl.go ((m:Int),(m:Int))):=h3
 rw [h4,Option.bind_some,qZ]
 have key:t∈l ↔ ∃ h:m < l.length,l[m]=t:=by
  constructor
  ·intro hm
   obtain ⟨k,hk,he⟩:=List.getElem_of_mem hm
   have hk1:¬ k < m:=fun h=>by have:=h2.lo k hk h; rw [he]at this; exact qc _ this
   have hml:m < l.length:=by omega
   refine⟨hml,?_⟩
   rcases Nat.lt_or_ge m k with h | h
   ·have h5:=hr m k hml hk h
    rw [he]at h5
    exact absurd h5 (h2.hi m hml (Nat.le_refl _))
   ·have:k=m:=by omega
    subst this; exact he
  ·rintro ⟨h,he⟩
   rw [← he]; exact List.getElem_mem _
 by_cases hml:m < l.length
 ·have e1:decide ((m:Int) < (l.length:Int))=true:=by simp; omega
  simp only [e1,cond_true,nZ,List.getElem?_eq_getElem hml,Option.bind_some,Bool.beq_eq_decide_eq]
  have hn:fQ l[m]=some false:=by
   unfold fQ; simp
  rw [hn]
  by_cases he:l[m]=t
  ·simp only [decide_eq_true he,cond_true,Option.bind_some,wh.2 (key.2 ⟨hml,he⟩)]
  ·simp only [decide_eq_false he,cond_false,Option.bind_some,DZ (fun h=>he (key.1 h).2)]
 ·have e1:decide ((m:Int) < (l.length:Int))=false:=by simp; omega
  simp only [e1,cond_false,Option.bind_some]
  rw [DZ (fun h=>hml (key.1 h).1)]
theorem ug:∀ (l:List Int) (p:Option Int),K4 EA p l=0→zg l ∧ ∀ x∈l,∀ y,p=some y→lt y x
 | [],p,h=>⟨fun i j hi=>absurd hi (Nat.not_lt_zero i),by simp⟩
 | x::xs,p,h=>by
  rw [K4]at h
  cases he:EA p x == 0 with
  | false=>rw [he]at h; simp only [cond_false]at h; rw [h]at he; cases he
  | true =>
   rw [he]at h
   simp only [cond_true]at h
   obtain ⟨h1,h2⟩:=ug xs (some x) h
   have hx:∀ y,p=some y→lt y x:=fun y hy=>by
    subst hy
    unfold EA at he
    cases hk:jH x 0 4000 with
    | true=>rw [hk]at he; cases he
    | false =>
     cases hl:leP (some y) x with
     | true=>rw [hk,hl]at he; cases he
     | false =>
      simp only [leP,decide_eq_false_iff_not]at hl
      show y < x
      omega
   refine⟨fun i j hi hj hij => ?_,fun y hy z hz => ?_⟩
   ·cases i with
    | zero=>cases j with
     | zero=>omega
     | succ j=>exact h2 _ (List.getElem_mem _) x rfl
    | succ i=>cases j with
     | zero=>omega
     | succ j=>exact h1 i j (by simpa using hi) (by simpa using hj) (by omega)
   ·rcases List.mem_cons.1 hy with rfl | hy
    ·exact hx z hz
    ·exact lt_trans (hx z hz) (h2 y hy x rfl)
theorem exF_0 {l:List Int} (h:exF l=0):l.length≤100∧zg l:=by
 unfold exF at h
 by_cases hl:l.length > 100
 ·rw [decide_eq_true hl]at h; cases h
 ·rw [decide_eq_false hl]at h
  exact⟨by omega,(ug l none h).1⟩
end I
def yA (e:Entry) (p:Player):Bool := !(e.Tags.any fun t => !memB t p.Tags)
theorem fitK (e:Entry) (p:Player) (h1:e.Tags.length≤1000) (h2:tagsF p.Tags=0):mF e p=some (yA e p):=by
 obtain ⟨hl,hr⟩:=tagsF_0 h2
 have run:∀ (xs:List ByteArray) (k:Nat),forR (fun k x u=>iR p k x u) xs k ()=some (bif xs.any (fun t => !memB t p.Tags)then .ret false else .go ()):=by
  intro xs
  induction xs with
  | nil=>exact fun k=>rfl
  | cons x xs ih =>
   intro k
   obtain ⟨i,hi⟩:=bs_eq p.Tags x hr (by omega)
   have hst:iR p k x ()=some (bif !memB x p.Tags then .ret false else .go ()):=by
    simp only [iR,hi,Option.bind_some]; cases memB x p.Tags <;> rfl
   rw [forR,hst,Option.bind_some]
   cases hm:memB x p.Tags with
   | true=>simp only [Bool.not_true,cond_false,List.any_cons,hm,Bool.false_or]; exact ih (k + 1)
   | false=>simp [hm]
 unfold mF yA
 rw [rM (by omega),run e.Tags 0,Option.bind_some]
 cases e.Tags.any (fun t => !memB t p.Tags) <;> rfl
end Go.Proofs.YtjhcehhmdmbleaaGreatDoor.Law

open Go Go.Eng
namespace Go.Proofs.YtjhcehhmdmbleaaGreatDoor.Law
set_option linter.unusedVariables false
set_option linter.unusedSimpArgs false
def collect (p:Int→Bool) (f:Int→Window):Nat→Int→List Window
 | 0,_ => []
 | n + 1,d=>(bif p d then [f d]else [])++collect p f n (d + 1)
theorem Bq (p:Int→Bool) (f:Int→Window):∀ (n:Nat) (d:Int),(collect p f n d).length≤n
 | 0,_=>Nat.le_refl 0
 | n + 1,d=>by
  have:=Bq p f n (d + 1)
  simp only [collect,List.length_append]
  cases p d <;> simp <;> omega
theorem lc {p:Int→Bool} {f:Int→Window}:∀ (n:Nat) (d:Int),(∀ x,d≤x→x < d + n→p x=false)→collect p f n d = []
 | 0,_,_=>rfl
 | n + 1,d,h=>by
  simp only [collect,h d (by omega) (by omega),cond_false,List.nil_append]
  exact lc n (d + 1) (fun x h1 h2=>h x (by omega) (by omega))
theorem yj {p p':Int→Bool} {f f':Int→Window}:∀ (n:Nat) (d:Int),(∀ x,d≤x→x < d + n→p x=p' x∧f x=f' x)→collect p f n d=collect p' f' n d
 | 0,_,_=>rfl
 | n + 1,d,h=>by
  obtain ⟨h1,h2⟩:=h d (by omega) (by omega)
  simp only [collect,h1,h2]
  rw [yj n (d + 1) (fun x h1 h2=>h x (by omega) (by omega))]
theorem rZ (p:Int→Bool) (f:Int→Window):∀ (n m:Nat) (d:Int),collect p f (n + m) d=collect p f n d++collect p f m (d + n)
 | 0,m,d=>by simp [collect]
 | n + 1,m,d=>by
  rw [show n + 1 + m=(n + m) + 1 by omega]
  simp only [collect,List.append_assoc]
  rw [rZ p f n m (d + 1),show d + 1 + (n:Int)=d + ((n + 1:Nat):Int) by omega]
theorem Bf (p:Int→Bool) (f:Int→Window) (a b lo hi:Int) (h1:a≤lo) (h2:hi≤b) (h:∀ x,a≤x→x≤b→p x=true→lo≤x∧x≤hi) :
  collect p f (b + 1 - a).toNat a=collect p f (hi + 1 - lo).toNat lo:=by
 by_cases hh:lo≤hi
 ·have e:(b + 1 - a).toNat=(lo - a).toNat + ((hi + 1 - lo).toNat + (b - hi).toNat):=by omega
  rw [e,rZ,rZ,show a + ((lo - a).toNat:Int)=lo by omega,lc (lo - a).toNat a (fun x x1 x2 => ?_),lc (b - hi).toNat _ (fun x x1 x2 => ?_),List.nil_append,List.append_nil]
  ·cases hp:p x with
   | false=>rfl
   | true=>have:=h x (by omega) (by omega) hp; omega
  ·cases hp:p x with
   | false=>rfl
   | true=>have:=h x (by omega) (by omega) hp; omega
 ·rw [show (hi + 1 - lo).toNat=0 by omega,lc (b + 1 - a).toNat a (fun x x1 x2 => ?_)]
  ·rfl
  ·cases hp:p x with
   | false=>rfl
   | true=>have:=h x (by omega) (by omega) hp; omega
theorem EQ {ρ:Type} {body:List Window×Int→Option (Ctl (List Window×Int) ρ)} {p:Int→Bool} {f:Int→Window} (lo hi:Int)
  (hb:∀ (acc:List Window) d,lo≤d→d≤hi→acc.length≤1000000→body (acc,d)=some (.go (acc++(bif p d then [f d]else []),d + 1))) (he:∀ acc d,hi < d→body (acc,d)=some (.brk (acc,d))) :
  ∀ (n:Nat) (acc:List Window) (d:Int),lo≤d→(hi + 1 - d).toNat=n→acc.length + n≤1000000 → ∃ d',iterN body (n + 1) (acc,d)=some (.go (acc++collect p f n d,d'))
 | 0,acc,d,hlo,hn,hl=>by
  rw [iterN,he acc d (by omega),Option.bind_some]
  exact⟨d,by simp [collect]⟩
 | n + 1,acc,d,hlo,hn,hl=>by
  rw [iterN,hb acc d hlo (by omega) (by omega),Option.bind_some]
  have hle:(bif p d then [f d]else []).length≤1:=by cases p d <;> simp
  obtain ⟨d',h⟩:=EQ lo hi hb he n (acc++(bif p d then [f d]else [])) (d + 1) (by omega) (by omega) (by rw [List.length_append]; omega)
  refine⟨d',?_⟩
  simp only [h,collect,List.append_assoc]
theorem KY {ρ:Type} {body:List Window×Int→Option (Ctl (List Window×Int) ρ)} {p:Int→Bool} {f:Int→Window} (lo hi:Int) (hl:hi - lo≤100000)
  (hb:∀ (acc:List Window) d,lo≤d→d≤hi→acc.length≤1000000→body (acc,d)=some (.go (acc++(bif p d then [f d]else []),d + 1))) (he:∀ acc d,hi < d→body (acc,d)=some (.brk (acc,d))) :
  ∃ d',fD ([],lo) body=some (.go (collect p f (hi + 1 - lo).toNat lo,d')):=by
 obtain ⟨d',h⟩:=EQ lo hi hb he (hi + 1 - lo).toNat [] lo (Int.le_refl _) rfl (by simp; omega)
 exact⟨d',by have:=gD h; simpa using this⟩
def bitB (a r:Int):Bool:=match Ae .i64 a r with
 | some y=>pq .i64 y 1 == 1
 | none=>false
def Nb (a r:Nat):Bool:=match zU .i64 1 (r:Int),Ae .i64 (a:Int) (r:Int)with
 | some x,some y=>(pq .i64 (a:Int) x == 0) == !(pq .i64 y 1 == 1)
 | _,_=>false
theorem LC:∀ a:Fin 128,∀ r:Fin 7,Nb a.val r.val=true:=by decide +kernel
theorem bits (a r:Int) (ha:0≤a∧a≤127) (hr:0≤r∧r < 7):∃ x y,zU .i64 1 r=some x∧Ae .i64 a r=some y∧(pq .i64 a x == 0) = !(pq .i64 y 1 == 1)∧bitB a r=(pq .i64 y 1 == 1):=by
 have h:=LC ⟨a.toNat,by omega⟩ ⟨r.toNat,by omega⟩
 simp only [Nb,show ((a.toNat:Nat):Int)=a by omega,show ((r.toNat:Nat):Int)=r by omega]at h
 unfold bitB
 cases h1:zU .i64 1 r with
 | none=>rw [h1]at h; cases h
 | some x =>
  cases h2:Ae .i64 a r with
  | none=>rw [h1,h2]at h; cases h
  | some y =>
   rw [h1,h2]at h
   exact⟨x,y,rfl,rfl,eq_of_beq h,rfl⟩
def FK (e:Entry) (d:Int):Bool:=((d - e.First).tmod e.Every == 0) && (bitB e.Days (d.tmod 7) && !I.memB d e.Except)
structure Right (e:Entry):Prop where
 first:0≤e.First∧e.First≤e.Last
 last:e.Last≤4000
 every:1≤e.Every
 days:1≤e.Days∧e.Days≤127
 ex:exF e.Except=0
 from_:0≤e.From∧e.From≤1439
 to_:0≤e.To∧e.To≤1439
theorem AX {n lo hi:Int} (h:jH n lo hi=false):lo≤n∧n≤hi:=by
 simp only [jH,Bool.or_eq_false_iff,decide_eq_false_iff_not]at h; omega
theorem FZ {n lo hi:Int} (h:lo≤n∧n≤hi):jH n lo hi=false:=by
 simp only [jH,Bool.or_eq_false_iff,decide_eq_false_iff_not]; omega
theorem entF_0 {e:Entry} (h:xW e=0):Right e:=by
 unfold xW at h
 cases hk:(!qa e.Key || !qa e.Item)with
 | true=>rw [hk]at h; cases h
 | false =>
 rw [hk,cond_false]at h
 cases hb:(jH e.Version 0 1000000 || (jH e.First 0 e.Last || (decide (e.Last > 4000) || (jH e.Every 1 400 || jH e.Days 1 127))))with
 | true=>rw [hb]at h; cases h
 | false =>
 rw [hb,cond_false]at h
 simp only [Bool.or_eq_false_iff,decide_eq_false_iff_not]at hb
 cases hx:exF e.Except == 0 with
 | false=>rw [hx,cond_false]at h; rw [h]at hx; cases hx
 | true =>
 rw [hx,cond_true]at h
 cases hc:(jH e.From 0 1439 || (jH e.To 0 1439 || jH e.Prio 0 9))with
 | true=>rw [hc]at h; cases h
 | false =>
 simp only [Bool.or_eq_false_iff]at hc
 exact⟨AX hb.2.1,by omega,(AX hb.2.2.2.1).1,AX hb.2.2.2.2,eq_of_beq hx,AX hc.1,AX hc.2.1⟩
theorem dayK (e:Entry) (h:Right e) (d:Int) (h1:e.First≤d) (h2:d≤e.Last):ja e d=some (FK e d):=by
 have hl:=h.last
 have hf:=h.first
 have hd:=h.days
 obtain ⟨x,y,b1,b2,b3,b4⟩:=bits e.Days (d.tmod 7) (by omega) ⟨Int.tmod_nonneg _ (by omega),Int.tmod_lt_of_pos _ (by decide)⟩
 obtain ⟨hx1,hx2⟩:=I.exF_0 h.ex
 obtain ⟨i,hi⟩:=I.bs_eq e.Except d hx2 (by omega)
 have he0:e.Every≠0:=by have:=h.every; omega
 unfold ja FK
 simp only [yY,FZ ⟨h1,h2⟩,Option.bind_some,cond_false,bE (show -9223372036854775808≤d - e.First∧d - e.First≤9223372036854775807 by omega),F6,if_neg he0,b1,b3,b4,hi]
 cases hq:(d - e.First).tmod e.Every == 0 with
 | false =>
  have:((d - e.First).tmod e.Every != 0)=true:=by simp [bne,hq]
  simp only [this,cond_true,Option.bind_some,Bool.false_and]
 | true =>
  have:((d - e.First).tmod e.Every != 0)=false:=by simp [bne,hq]
  simp only [this,cond_false,Option.bind_some,Bool.true_and]
  cases (pq .i64 y 1 == 1) <;> simp
end Go.Proofs.YtjhcehhmdmbleaaGreatDoor.Law

open Go Go.Eng
namespace Go.Proofs.YtjhcehhmdmbleaaGreatDoor.Law
set_option linter.unusedVariables false
set_option linter.unusedSimpArgs false
def tF (e:Entry) (z d:Int):Int:=(d * 1440 + e.From - z) * 60000
def sj (e:Entry):Int:=if e.To - e.From≤0 then e.To - e.From + 1440 else e.To - e.From
def tW (e:Entry) (z d:Int):Window:=⟨tF e z d,tF e z d + sj e * 60000⟩
theorem timeK (e:Entry) (h:Right e) (z d:Int) (hz : -1440≤z∧z≤1440) (hd:0≤d∧d≤4000):jk e z d=some (tW e z d):=by
 have h1:=h.from_
 have h2:=h.to_
 unfold jk tW tF sj
 rw [bE (n:=e.To - e.From) (by omega)]
 by_cases hc:e.To - e.From≤0
 ·simp only [decide_eq_true hc,cond_true,Option.bind_some,if_pos hc]
  rw [bE (n:=e.To - e.From + 1440) (by omega),bE (n:=d * 1440) (by omega),bE (n:=d * 1440 + e.From) (by omega),bE (n:=d * 1440 + e.From - z) (by omega),bE (n:=(d * 1440 + e.From - z) * 60000) (by omega),bE (n:=(e.To - e.From + 1440) * 60000) (by omega),bE (by omega)]
 ·simp only [decide_eq_false hc,cond_false,Option.bind_some,if_neg hc]
  rw [bE (n:=d * 1440) (by omega),bE (n:=d * 1440 + e.From) (by omega),bE (n:=d * 1440 + e.From - z) (by omega),bE (n:=(d * 1440 + e.From - z) * 60000) (by omega),bE (n:=(e.To - e.From) * 60000) (by omega),bE (by omega)]
def cutW (w t:Window):Window:=⟨ma t.From w.From,p9 t.To w.To⟩
def pR (e:Entry) (z:Int) (w:Window) (d:Int):Bool := !e.Gone && (FK e d && decide (ma (tF e z d) w.From < p9 (tF e z d + sj e * 60000) w.To))
def pK (e:Entry) (z:Int) (w:Window) (d:Int):Bool:=FK e d && (decide (tF e z d < w.To) && decide (tF e z d + sj e * 60000 > w.From))
def wants (e:Entry) (z:Int) (w:Window):List Window:=collect (pR e z w) (fun d=>cutW w (tW e z d)) (e.Last + 1 - e.First).toNat e.First
theorem tdivB (x q:Int) (h:x.tdiv 86400000=q):(0≤x→q * 86400000≤x∧x < q * 86400000 + 86400000)∧(x < 0→x≤q * 86400000∧q * 86400000 - 86400000 < x):=by
 have h1:=Int.mul_tdiv_add_tmod x 86400000
 rw [h]at h1
 refine⟨fun hx => ?_,fun hx => ?_⟩
 ·have h2:=Int.tmod_nonneg 86400000 hx
  have h3:=Int.tmod_lt_of_pos x (show (0:Int) < 86400000 by decide)
  omega
 ·have h3:=Int.lt_tmod_of_pos x (show (0:Int) < 86400000 by decide)
  have h4:x.tmod 86400000≤0:=by
   have h5:=Int.tmod_nonneg 86400000 (show (0:Int) ≤ -x by omega)
   rw [Int.neg_tmod]at h5
   omega
  omega
def Ke (w:Window):Prop:=0≤w.From∧w.From≤w.To∧w.To≤345686400000
theorem Dp (e:Entry) (h:Right e):1≤sj e∧sj e≤1440:=by
 have h1:=h.from_
 have h2:=h.to_
 unfold sj
 split <;> omega
end Go.Proofs.YtjhcehhmdmbleaaGreatDoor.Law

open Go Go.Eng
namespace Go.Proofs.YtjhcehhmdmbleaaGreatDoor.Law
set_option linter.unusedVariables false
set_option linter.unusedSimpArgs false
theorem Jv {α σ ρ:Type} {body:Nat→α→σ→Option (Ctl σ ρ)} (I:Nat→σ→Prop) (xs:List α):∀ (l:List α) (k:Nat) (s:σ),xs.drop k=l→k≤xs.length→(∀ k x s,xs[k]? = some x→I k s → ∃ s',body k x s=some (.go s')∧I (k + 1) s')→I k s → ∃ s',forR body l k s=some (.go s')∧I xs.length s'
 | [],k,s,hd,hk,h,hi=>by
  have:=List.drop_eq_nil_iff.1 hd
  obtain rfl:k=xs.length:=by omega
  exact⟨s,rfl,hi⟩
 | x::l,k,s,hd,hk,h,hi=>by
  obtain ⟨s1,h1,h2⟩:=h k x s (De hd) hi
  obtain ⟨s2,h3,h4⟩:=Jv I xs l (k + 1) s1 (aW hd) (by have:=Ce hd; omega) h h2
  exact⟨s2,by rw [forR,h1,Option.bind_some]; exact h3,h4⟩
theorem uM {α σ ρ:Type} {body:Nat→α→σ→Option (Ctl σ ρ)} (I:Nat→σ→Prop) {xs:List α} {s:σ} (hl:xs.length≤1000000000000) (h:∀ k x s,xs[k]? = some x→I k s → ∃ s',body k x s=some (.go s')∧I (k + 1) s') (h0:I 0 s):∃ s',forL xs s body=some (.go s')∧I xs.length s':=by
 rw [rM hl]
 exact Jv I xs xs 0 s rfl (Nat.zero_le _) h h0
end Go.Proofs.YtjhcehhmdmbleaaGreatDoor.Law

