/-
  THE PLAIN LAW (part 2).
-/
import Derived.Test.YtnfojnnfidnikaeGreatDoorPl1
import Derived.Test.YtnfojnnfidnikaeGreatDoorEng5
open Go Go.Eng
namespace Go.Proofs.YtnfojnnfidnikaeGreatDoor.Law
set_option linter.unusedVariables false
set_option linter.unusedSimpArgs false
def ny (o b:Beat):Prop:=lt o.Player b.Player\/o.Player=b.Player/\o.At<b.At
instance (o b:Beat):Decidable (ny o b):=by unfold ny lt;infer_instance
def MW (p:Option Beat) (b:Beat):Int :=
 bif !xn b.Player then 5 else bif !momB b.At || !momB b.Clock then 1 else match p with
  | none=>0
  | some o=>if ny o b then (if b.Player=o.Player/\b.Clock<=o.Clock then 16 else 0)else 7
def EB (l:List Beat):Int:=bif decide (l.length>500)then 2 else xy MW none l
theorem FQ (a b:Beat):∃n,jD a b=some n/\(n>=0↔¬ny a b):=by
 refine⟨_,by simp only [jD,uB,sU,Lu,ob_];rfl,?_⟩
 unfold zS ny uC
 rcases jK a.Player b.Player with⟨h,k⟩|⟨h,k⟩|⟨h,k⟩
 ·rw [k];simp [h]
 ·rw [k,h]
  have:=eZ b.Player
  by_cases h1:a.At<b.At
  ·simp [h1]
  ·by_cases h2:a.At>b.At
   ·simp [h1,h2,this]
   ·simp [h1,h2,this]
 ·rw [k]
  have h1:¬lt a.Player b.Player:=λh2=>eZ _ (lt_trans h h2)
  have h2:a.Player≠b.Player:=λe=>eZ _ (e ▸ h)
  simp [h1,h2]
theorem beatsK (l:List Beat) (hs:∀x∈l,GoodB x) (hl:l.length<=1000000):gy l=some (EB l):=by
 unfold gy EB
 have e:decide ((l.length:Int)>500)=decide (l.length>500):=decide_eq_decide.2 (by omega)
 rw [e]
 cases decide (l.length>500)with
 | true=>rfl
 | false =>
  simp only [cond_false]
  rw [jX (by omega),yV (stp:=MW) l l 0 rfl (λk x A => ?_)]
  ·simp only [ob_,CS];rfl
  ·have o:ShortK x.Player:=hs x (List.mem_of_getElem? A)
   have I:aS x.Clock 0 345686399999=some (!momB x.Clock):=by rw [nk];simp [momB]
   simp only [jq,wN x.Player (by unfold ShortK at o;omega),uy,I,ob_,MW]
   cases hk:xn x.Player with
   | false=>rfl
   | true =>
   simp only [Bool.not_true,cond_false]
   cases momB x.At with
   | false=>rfl
   | true =>
   simp only [Bool.not_true,cond_false,Bool.false_or,ob_]
   cases momB x.Clock with
   | false=>rfl
   | true =>
   simp only [Bool.not_true,cond_false]
   by_cases f:0<k
   ·obtain ⟨y,h1,h2⟩:=BA A f (by omega)
    have B:decide ((k:Int)>0)=true:=by simp;omega
    obtain ⟨n,F,j⟩:=FQ y x
    simp only [B,cond_true,h1,ob_,vQ,if_neg (show ¬k=0 by omega),h2,F]
    by_cases hb:ny y x
    ·have:decide (n>=0)=false:=by simp only [decide_eq_false_iff_not];exact λh=>(j.1 h) hb
     simp only [this,cond_false,if_pos hb,Gi]
     by_cases he:x.Player=y.Player
     ·by_cases hc:x.Clock<=y.Clock
      ·simp [he,hc,Ap]
      ·simp [he,hc,Ap]
     ·simp [he,Ap]
    ·have:decide (n>=0)=true:=decide_eq_true (j.2 hb)
     simp only [this,cond_true,if_neg hb,Ap];rfl
   ·have f:k=0:=by omega
    subst f
    rfl
theorem before_trans {a b c:Beat} (h:ny a b) (k:ny b c):ny a c:=by
 rcases h with h|⟨h1,h2⟩
 ·rcases k with k|⟨f,_⟩
  ·exact .inl (lt_trans h k)
  ·exact .inl (f ▸ h)
 ·rcases k with k|⟨f,j⟩
  ·exact .inl (h1 ▸ k)
  ·exact .inr ⟨h1.trans f,by omega⟩
theorem bStp_0 {p:Option Beat} {b:Beat} (h:MW p b=0):momB b.At=true/\momB b.Clock=true/\∀o,p=some o->ny o b:=by
 unfold MW at h
 cases hk:xn b.Player with
 | false=>rw [hk]at h;cases h
 | true =>
 rw [hk]at h
 simp only [Bool.not_true,cond_false]at h
 cases ha:momB b.At with
 | false=>rw [ha]at h;cases h
 | true =>
 cases hc:momB b.Clock with
 | false=>rw [ha,hc]at h;cases h
 | true =>
 rw [ha,hc]at h
 simp only [Bool.not_true,Bool.or_self,cond_false]at h
 refine⟨rfl,rfl,λo ho => ?_⟩
 subst ho
 simp only at h
 by_cases hb:ny o b
 ·exact hb
 ·rw [if_neg hb]at h;cases h
def LC:List Beat->Prop
 | []=>True
 | x::xs=>(∀y∈xs,ny x y)/\LC xs
theorem Fg:∀{l:List Beat} {p:Option Beat},xy MW p l=0->(∀o,p=some o->∀y∈l,ny o y)/\LC l/\∀x∈l,momB x.At=true/\momB x.Clock=true
 | [],_,_=>⟨λ_ _ y f=>(by cases f),trivial,λx B=>(by cases B)⟩
 | x::xs,p,h=>by
  obtain ⟨h1,h2⟩:=Uq h
  obtain ⟨j,i2,i3⟩:=Fg h2
  obtain ⟨I,F,A⟩:=bStp_0 h1
  refine⟨λo ho y f => ?_,⟨j x rfl,i2⟩,λy f => ?_⟩
  ·rcases List.mem_cons.1 f with rfl|f
   ·exact A o ho
   ·exact before_trans (A o ho) (j x rfl y f)
  ·rcases List.mem_cons.1 f with rfl|f
   ·exact⟨I,F⟩
   ·exact i3 y f
theorem Sl {l:List Beat} (h:EB l=0):LC l/\∀x∈l,momB x.At=true/\momB x.Clock=true:=by
 unfold EB at h
 cases hl:decide (l.length>500)with
 | true=>rw [hl]at h;cases h
 | false=>rw [hl,cond_false]at h;exact (Fg h).2
end Go.Proofs.YtnfojnnfidnikaeGreatDoor.Law

namespace Go.Eng
set_option linter.unusedVariables false
set_option linter.unusedSimpArgs false
end Go.Eng

open Go Go.Eng
namespace Go.Proofs.YtnfojnnfidnikaeGreatDoor.Law
set_option linter.unusedVariables false
set_option linter.unusedSimpArgs false
structure Cut (m:List Beat_) (n:Int) (k:Nat):Prop where
 le:k<=m.length
 lo:∀i (h:i<m.length),i<k->m[i].f_from<=n
 hi:∀(h:k<m.length),n<m[k].f_from
theorem cut_ex (m:List Beat_) (n:Int):∃k,Cut m n k:=by
 induction m with
 | nil=>exact⟨0,⟨Nat.le_refl _,λi h=>absurd h (Nat.not_lt_zero i),λh=>absurd h (Nat.lt_irrefl 0)⟩⟩
 | cons x m o =>
  by_cases hx:x.f_from<=n
  ·obtain ⟨k,h1,h2,j⟩:=o
   refine⟨k+1,⟨by simp;omega,λi h f => ?_,λh => ?_⟩⟩
   ·cases i with
    | zero=>exact hx
    | succ i=>exact h2 i (by simpa using h) (by omega)
   ·exact j (by simpa using h)
  ·exact⟨0,⟨Nat.zero_le _,λi h f=>absurd f (Nat.not_lt_zero i),λh=>by simpa using hx⟩⟩
def oq (x:Int):Int×Int:=bif momB x then (x,0)else (0,11)
def SY (p q:Beat_):Bool:=decide (w64 (q.f_from-p.f_from)>2592000000)||decide (w64 (q.f_to-p.f_to)>2592000000)
def between (p q:Beat_) (n:Int):Int:=w64 (p.f_to+w64 ((w64 ((w64 (n-p.f_from))*(w64 (q.f_to-p.f_to)))).tdiv (w64 (q.f_from-p.f_from))))
def z2:Beat_:=⟨0,0⟩
def ME (m:List Beat_) (n:Int) (k:Nat):Int×Int :=
 if m.length=0 then (0,8)else if k=0 then oq ((m.getD 0 z2).f_to+n-(m.getD 0 z2).f_from)else
 if k=m.length then oq (w64 (w64 ((m.getD (k-1) z2).f_to+n)-(m.getD (k-1) z2).f_from))else
 bif SY (m.getD (k-1) z2) (m.getD k z2)then (0,2)else oq (between (m.getD (k-1) z2) (m.getD k z2) n)
def inM (x:Int):Prop:=0<=x/\x<=345686399999
def BndM (m:List Beat_):Prop:=∀x∈m,inM x.f_from/\inM x.f_to
theorem getD_at {α:Type} {m:List α} {i:Nat} {z:α} (h:i<m.length):m.getD i z=m[i]:=by
 rw [List.getD_eq_getElem?_getD,List.getElem?_eq_getElem h];rfl
theorem K6 (x:Int):((cK x).bind λr=>bif (!r)then some (0,11)else some (x,0))=some (oq x):=by
 rw [uy,ob_];unfold oq
 cases momB x <;> rfl
theorem EP {m:List Beat_} {n:Int} {k:Nat} (hc:Cut m n k) (hl:m.length<=1000000):∀(d j:Nat),j+d=k->iterN (λs=>iG m n s) (d+1) (j:Int)=some (.go (k:Int))
 | 0,j,h=>by
  have hj:j=k:=by omega
  subst hj
  have o:iG m n (j:Int)=some (.brk (j:Int)):=by
   unfold iG
   by_cases f:j<m.length
   ·have h1:decide ((j:Int)<(m.length:Int))=true:=by simp;omega
    have h2:decide ((m[j]).f_from<=n)=false:=by have:=hc.hi f;simp;omega
    simp only [h1,cond_true,l8,List.getElem?_eq_getElem f,ob_,h2,cond_false]
   ·have h1:decide ((j:Int)<(m.length:Int))=false:=by simp;omega
    simp only [h1,cond_false,ob_]
  rw [iterN,o];rfl
 | d+1,j,h=>by
  have A:j<k:=by omega
  have f:j<m.length:=by have:=hc.le;omega
  have o:iG m n (j:Int)=some (.go ((j+1:Nat):Int)):=by
   unfold iG
   have h1:decide ((j:Int)<(m.length:Int))=true:=by simp;omega
   have h2:decide ((m[j]).f_from<=n)=true:=decide_eq_true (hc.lo j f A)
   simp only [h1,cond_true,l8,List.getElem?_eq_getElem f,ob_,h2]
   rw [dh (by omega)];congr 2
  rw [iterN,o,ob_]
  exact EP hc hl d (j+1) (by omega)
theorem QW {m:List Beat_} {n:Int} {k:Nat} (hc:Cut m n k) (hb:BndM m) (W:inM n) (hl:m.length<=1000000):jO m n=some (ME m n k):=by
 unfold jO ME
 by_cases h0:m.length=0
 ·have:((m.length:Int)==0)=true:=by simp [h0]
  simp only [this,cond_true,if_pos h0]
 ·have:((m.length:Int)==0)=false:=by simpa using h0
  have h:=dB (EP hc hl k 0 (by omega))
  rw [show ((0:Nat):Int)=0 from rfl]at h
  simp only [this,cond_false,if_neg h0,h,ob_,jf]
  by_cases hk0:k=0
  ·subst hk0
   have h1:(((0:Nat):Int)==0)=true:=rfl
   have h2:idx m 0=some (m.getD 0 z2):=by
    have:=l8 m 0
    rw [show ((0:Nat):Int)=0 from rfl]at this
    rw [this,getD_at (by omega)];exact List.getElem?_eq_getElem _
   have F:m.getD 0 z2∈m:=by rw [getD_at (by omega)];exact List.getElem_mem _
   obtain ⟨⟨N,O⟩,Z,b4⟩:=hb _ F
   obtain ⟨n1,n2⟩:=W
   simp only [h1,cond_true,h2,ob_,if_true]
   rw [dh (n:=(m.getD 0 z2).f_from-n) (by omega),dh (by omega),show (m.getD 0 z2).f_to-((m.getD 0 z2).f_from-n)=(m.getD 0 z2).f_to+n-(m.getD 0 z2).f_from by omega]
   exact K6 _
  ·have h1:((k:Int)==0)=false:=by simpa using hk0
   have M:=hc.le
   have T:w64 ((k:Int)-1)=((k-1:Nat):Int):=by rw [dh (by omega)];omega
   have L:idx m (w64 ((k:Int)-1))=some (m.getD (k-1) z2):=by rw [T,l8,getD_at (by omega)];exact List.getElem?_eq_getElem _
   have R:(m.getD (k-1) z2).f_from<=n:=by rw [getD_at (by omega)];exact hc.lo _ _ (by omega)
   simp only [h1,cond_false,if_neg hk0,L,ob_]
   by_cases hkl:k=m.length
   ·have h2:((k:Int)==(m.length:Int))=true:=by simp [hkl]
    simp only [h2,cond_true,if_pos hkl]
    exact K6 _
   ·have f:k<m.length:=by omega
    have h2:((k:Int)==(m.length:Int))=false:=by simp;omega
    have J:idx m (k:Int)=some (m.getD k z2):=by rw [l8,getD_at f];exact List.getElem?_eq_getElem _
    have I:n<(m.getD k z2).f_from:=by rw [getD_at f];exact hc.hi f
    have B:=hb (m.getD (k-1) z2) (by rw [getD_at (by omega)];exact List.getElem_mem _)
    have A:=hb (m.getD k z2) (by rw [getD_at f];exact List.getElem_mem _)
    obtain ⟨⟨N,O⟩,_⟩:=B
    obtain ⟨⟨b5,Y⟩,_⟩:=A
    have j:w64 ((m.getD k z2).f_from-(m.getD (k-1) z2).f_from)≠0:=by rw [dh (by omega)];omega
    simp only [h2,cond_false,if_neg hkl,J,ob_]
    have o:(bif (decide ((w64 ((m.getD k z2).f_from-(m.getD (k-1) z2).f_from))>2592000000))then some true else some (decide ((w64 ((m.getD k z2).f_to-(m.getD (k-1) z2).f_to))>2592000000)))=some (SY (m.getD (k-1) z2) (m.getD k z2)):=by
     unfold SY
     cases decide ((w64 ((m.getD k z2).f_from-(m.getD (k-1) z2).f_from))>2592000000) <;> rfl
    rw [o,ob_]
    cases SY (m.getD (k-1) z2) (m.getD k z2)with
    | true=>rfl
    | false =>
     simp only [cond_false,Lv,if_neg j,ob_]
     exact K6 _
def gB (b:Beat):Beat_:=⟨b.Clock,b.At⟩
end Go.Proofs.YtnfojnnfidnikaeGreatDoor.Law

open Go Go.Eng
namespace Go.Proofs.YtnfojnnfidnikaeGreatDoor.Law
set_option linter.unusedVariables false
set_option linter.unusedSimpArgs false
def ofB (p:ByteArray) (b:Beat):Bool:=decide (b.Player=p)
def gK (b:Beat):Beat_:=⟨b.At,b.Clock⟩
theorem Ob (l:List Beat) (p:ByteArray) (h:Bool) (hl:l.length<=1000000):lY l p h=some ((l.filter (ofB p)).map (bif h then gK else gB)):=by
 have run:∀(xs:List Beat) (k:Nat) (f:List Beat_),f.length+xs.length<=1000000->forR (λk x s=>kK p h k x s) xs k f=some (.go (f++(xs.filter (ofB p)).map (bif h then gK else gB))):=by
  intro xs
  induction xs with
  | nil=>intro k f _;simp [forR]
  | cons x xs B =>
   intro k f j
   simp only [List.length_cons]at j
   have o:kK p h k x f=some (.go (f++(bif ofB p x then [(bif h then gK else gB) x]else []))):=by
    have A:sNe x.Player p = !ofB p x:=PU _ _
    unfold kK
    rw [A]
    cases ofB p x with
    | false=>simp
    | true =>
     simp only [Bool.not_true,cond_false,cond_true]
     cases h with
     | true=>simp only [cond_true,gN f [_] (show f.length+1<=_ by omega),ob_];rfl
     | false=>simp only [cond_false,gN f [_] (show f.length+1<=_ by omega),ob_];rfl
   rw [forR,o,ob_]
   simp only
   rw [B _ _ (by cases ofB p x <;> simp <;> omega),List.filter_cons]
   cases ofB p x <;> simp
 unfold lY
 rw [jX (by omega),run l 0 [] (by simpa using hl),ob_,jf,List.nil_append]
theorem bnd_of {l:List Beat} {p:ByteArray} (h:∀x∈l,momB x.At=true/\momB x.Clock=true) (f:Bool):BndM ((l.filter (ofB p)).map (bif f then gK else gB)):=by
 intro y o
 obtain ⟨x,j,rfl⟩:=List.mem_map.1 o
 obtain ⟨h1,h2⟩:=h x (List.mem_filter.1 j).1
 cases f with
 | true=>exact⟨Eg h1,Eg h2⟩
 | false=>exact⟨Eg h2,Eg h1⟩
end Go.Proofs.YtnfojnnfidnikaeGreatDoor.Law

open Go Go.Eng
namespace Go.Proofs.YtnfojnnfidnikaeGreatDoor.Law
set_option linter.unusedVariables false
set_option linter.unusedSimpArgs false
section
variable {α β:Type}
theorem G8 (c:α->α->Int) (v:α) (f:List α) (h:∀a∈f,¬c v a<0):∀R,iA c v (R++f)=iA c v R++f
 | []=>by
  cases f with
  | nil=>rfl
  | cons u j =>
   show (bif decide (c v u<0)then u::iA c v j else v::u::j)=v::u::j
   rw [decide_eq_false (h u (by simp))];rfl
 | u::R=>by
  show (bif decide (c v u<0)then u::iA c v (R++f)else v::u::(R++f))=(bif decide (c v u<0)then u::iA c v R else v::u::R)++f
  rw [G8 c v f h R]
  cases decide (c v u<0) <;> rfl
theorem NK (c:α->α->Int) (f:List α):∀(Q R:List α),(∀v∈Q,∀a∈f,¬c v a<0)->wZ c (R++f) Q=wZ c R Q++f
 | [],R,h=>rfl
 | v::Q,R,h=>by
  show wZ c (iA c v (R++f)) Q=wZ c (iA c v R) Q++f
  rw [G8 c v f (h v (by simp)) R]
  exact NK c f Q _ (λw j=>h w (List.mem_cons_of_mem _ j))
theorem M0 (c:α->α->Int) (h:List α):∀(f R:List α),wZ c R (f++h)=wZ c (wZ c R f) h
 | [],R=>rfl
 | v::f,R=>M0 c h f (iA c v R)
theorem SH (c:α->α->Int) (f j:List α) (h:∀v∈j,∀a∈f,¬c v a<0):nz c (f++j)=nz c f++nz c j:=by
 unfold nz
 rw [M0]
 have:=NK c (wZ c [] f) j [] (λv A a o=>h v A a (by have:=(EL c f []).mem_iff.1 o;simpa using this))
 rw [List.nil_append]at this
 rw [this,List.reverse_append]
theorem I1 (f:α->β) {c:α->α->Int} {j:β->β->Int} (h:∀a b,j (f a) (f b)=c a b) (v:α):∀R:List α,iA j (f v) (R.map f)=(iA c v R).map f
 | []=>rfl
 | u::R=>by
  show (bif decide (j (f v) (f u)<0)then f u::iA j (f v) (R.map f)else f v::f u::R.map f)=(bif decide (c v u<0)then u::iA c v R else v::u::R).map f
  rw [h,I1 f h v R]
  cases decide (c v u<0) <;> rfl
theorem Ny (f:α->β) {c:α->α->Int} {j:β->β->Int} (h:∀a b,j (f a) (f b)=c a b):∀Q R:List α,wZ j (R.map f) (Q.map f)=(wZ c R Q).map f
 | [],R=>rfl
 | v::Q,R=>by
  show wZ j (iA j (f v) (R.map f)) (Q.map f)=(wZ c (iA c v R) Q).map f
  rw [I1 f h,Ny f h Q]
theorem RV (f:α->β) {c:α->α->Int} {j:β->β->Int} (h:∀a b,j (f a) (f b)=c a b) (l:List α):nz j (l.map f)=(nz c l).map f:=by
 unfold nz
 have:=Ny f h l []
 rw [List.map_nil]at this
 rw [this,List.map_reverse]
theorem GZ (c:α->α->Int) (l:List α) (x:α):x∈nz c l↔x∈l:=(Jz c l).mem_iff
end
structure Dated where
 f_at:Int
 f_i:Int
def MB (B:List Beat) (p:ByteArray):List Beat_:=(B.filter (ofB p)).map gB
noncomputable def plF (B:List Beat) (x:Log_):Int×Int:=(jO (MB B x.Player) x.Clock).getD (0,0)
theorem Ol (x:Int):(oq x).2=0/\momB (oq x).1=true\/(oq x).2=11:=by
 unfold oq
 cases h:momB x with
 | true=>exact .inl ⟨rfl,h⟩
 | false=>exact .inr rfl
theorem OY (m:List Beat_) (n:Int) (k:Nat):(ME m n k).2=0/\momB (ME m n k).1=true\/(ME m n k).2=8\/(ME m n k).2=2\/(ME m n k).2=11:=by
 have f:∀x,(oq x).2=0/\momB (oq x).1=true\/(oq x).2=8\/(oq x).2=2\/(oq x).2=11:=λx=>by
  rcases Ol x with h|h
  ·exact .inl h
  ·exact .inr (.inr (.inr h))
 unfold ME
 split
 ·exact .inr (.inl rfl)
 ·split
  ·exact f _
  ·split
   ·exact f _
   ·cases SY (m.getD (k-1) z2) (m.getD k z2)with
    | true=>exact .inr (.inr (.inl rfl))
    | false=>exact f _
structure BOk (B:List Beat):Prop where
 mom:∀x∈B,momB x.At=true/\momB x.Clock=true
 few:B.length<=1000000
theorem TH {B:List Beat} (f:BOk B) (x:Log_) (h:inM x.Clock):jO (MB B x.Player) x.Clock=some (plF B x) /\
  ((plF B x).2=0/\momB (plF B x).1=true\/(plF B x).2=8\/(plF B x).2=2\/(plF B x).2=11):=by
 obtain ⟨k,j⟩:=cut_ex (MB B x.Player) x.Clock
 have hb:BndM (MB B x.Player):=bnd_of f.mom false
 have o:(B.filter (ofB x.Player)).length<=1000000:=Nat.le_trans (List.length_filter_le _ _) f.few
 have h1:=QW j hb h (by unfold MB;simpa using o)
 unfold plF
 rw [h1]
 exact⟨rfl,OY _ _ _⟩
noncomputable def atF (B:List Beat) (x:Log_):Option Int:=bif (plF B x).2==0 then some (plF B x).1 else bif (plF B x).2==8 then some x.Clock else none
theorem atF_in {B:List Beat} (o:BOk B) {x:Log_} (j:inM x.Clock) {a:Int} (h:atF B x=some a):inM a:=by
 unfold atF at h
 rcases (TH o x j).2 with⟨f,h1⟩|f|f|f
 ·rw [f]at h;cases h;exact Eg h1
 ·rw [f]at h;cases h;exact j
 ·rw [f]at h;cases h
 ·rw [f]at h;cases h
noncomputable def dts (B:List Beat):Nat->List Log_->List Dated
 | _,[]=>[]
 | k,x::xs=>(match atF B x with | some a=>[⟨a,(k:Int)⟩] | none=>[])++dts B (k+1) xs
noncomputable def lfs (B:List Beat):Nat->List Log_->List Int
 | _,[]=>[]
 | k,x::xs=>(match atF B x with | some _=>[] | none=>[(k:Int)])++lfs B (k+1) xs
theorem Pm (B:List Beat) (ys:List Log_):∀(xs:List Log_) (k:Nat),dts B k (xs++ys)=dts B k xs++dts B (k+xs.length) ys
 | [],k=>rfl
 | x::xs,k=>by
  rw [List.cons_append,dts,dts,Pm B ys xs (k+1),List.append_assoc,List.length_cons,show k+1+xs.length=k+(xs.length+1) by omega]
theorem PD (B:List Beat) (ys:List Log_):∀(xs:List Log_) (k:Nat),lfs B k (xs++ys)=lfs B k xs++lfs B (k+xs.length) ys
 | [],k=>rfl
 | x::xs,k=>by
  rw [List.cons_append,lfs,lfs,PD B ys xs (k+1),List.append_assoc,List.length_cons,show k+1+xs.length=k+(xs.length+1) by omega]
theorem PR (B:List Beat):∀(xs:List Log_) (k:Nat) (d:Dated),d∈dts B k xs->∃i x,xs[i]? = some x/\d.f_i=((k+i:Nat):Int)/\atF B x=some d.f_at
 | [],k,d,h=>by cases h
 | x::xs,k,d,h=>by
  rw [dts]at h
  rcases List.mem_append.1 h with h|h
  ·cases ha:atF B x with
   | none=>rw [ha]at h;cases h
   | some a=>rw [ha]at h;rw [List.mem_singleton.1 h];exact⟨0,x,rfl,rfl,ha⟩
  ·obtain ⟨i,y,h1,h2,f⟩:=PR B xs (k+1) d h
   exact⟨i+1,y,by simpa using h1,by rw [h2];congr 1;omega,f⟩
theorem KI (B:List Beat):∀(xs:List Log_) (k:Nat),(dts B k xs).length+(lfs B k xs).length=xs.length
 | [],k=>rfl
 | x::xs,k=>by
  have:=KI B xs (k+1)
  rw [dts,lfs]
  cases atF B x <;> simp <;> omega
def zL:Log_:=⟨⟨#[]⟩,⟨#[]⟩,0,0,0,⟨#[]⟩⟩
def yL (L:List Log_) (d:Dated):Log_:=L.getD d.f_i.toNat zL
def vE (L:List Log_) (pl:List Play) (d:Dated):Int×Int :=
 match pl.getLast? with
 | some q=>bif decide (q.Player=(yL L d).Player)&&decide (q.At+q.Long>d.f_at)then (q.At+q.Long,d.f_at+(yL L d).Long-(q.At+q.Long))else (d.f_at,(yL L d).Long)
 | none=>(d.f_at,(yL L d).Long)
def stp (L:List Log_) (pl:List Play) (d:Dated):Option Play:=bif decide ((vE L pl d).2<=0) || !momB (vE L pl d).1 then none else some ⟨(yL L d).Player,(yL L d).Item,(vE L pl d).1,(vE L pl d).2⟩
def sZ (L:List Log_):List Play->List Dated->List Play×List Int
 | pl,[]=>(pl,[])
 | pl,d::ds=>match stp L pl d with
  | some q=>sZ L (pl++[q]) ds
  | none=>((sZ L pl ds).1,d.f_i::(sZ L pl ds).2)
theorem Hw (L:List Log_) (es:List Dated):∀(ds:List Dated) (pl:List Play),sZ L pl (ds++es)=((sZ L (sZ L pl ds).1 es).1,(sZ L pl ds).2++(sZ L (sZ L pl ds).1 es).2)
 | [],pl=>rfl
 | d::ds,pl=>by
  rw [List.cons_append,sZ,sZ]
  cases stp L pl d with
  | some q=>exact Hw L es ds _
  | none=>simp only [Hw L es ds pl];rfl
def Ed (q:Play):Prop:=0<=q.At/\q.At<=345686399999/\0<q.Long/\q.Long<=86400000
structure VD (L:List Log_) (d:Dated):Prop where
 i0:0<=d.f_i
 il:d.f_i<L.length
 a0:0<=d.f_at
 al:d.f_at<=345686399999
 l0:1<=(yL L d).Long
 ll:(yL L d).Long<=86400000
theorem VD.at {L:List Log_} {d:Dated} (h:VD L d):idx L d.f_i=some (yL L d):=by
 have f:=h.i0
 have h1:=h.il
 unfold idx yL
 rw [if_pos f,getD_at (by omega)]
 exact List.getElem?_eq_getElem _
theorem NF {L:List Log_} {pl:List Play} {d:Dated} {q:Play} (o:VD L d) (I:∀q∈pl,Ed q) (h:stp L pl d=some q):Ed q/\q.Player=(yL L d).Player:=by
 obtain ⟨h1,h2,A,F,J,f⟩:=o
 unfold stp at h
 cases hc:(decide ((vE L pl d).2<=0) || !momB (vE L pl d).1)with
 | true=>rw [hc]at h;cases h
 | false =>
  rw [hc,cond_false]at h
  cases h
  rw [Bool.or_eq_false_iff]at hc
  obtain ⟨j,c2⟩:=hc
  have j:=of_decide_eq_false j
  have c2:=Eg (by simpa using c2:momB (vE L pl d).1=true)
  refine⟨⟨c2.1,c2.2,by show 0<(vE L pl d).2;omega,?_⟩,rfl⟩
  show (vE L pl d).2<=86400000
  unfold vE
  split
  ·rename_i q B
   cases hb:(decide (q.Player=(yL L d).Player)&&decide (q.At+q.Long>d.f_at))with
   | true =>
    rw [Bool.and_eq_true]at hb
    have:=of_decide_eq_true hb.2
    simp only [cond_true];omega
   | false=>exact f
  ·exact f
theorem EC {L:List Log_}:∀(ds:List Dated) (pl:List Play),(∀d∈ds,VD L d)->(∀q∈pl,Ed q)->(∀q∈(sZ L pl ds).1,Ed q)/\(∀q∈(sZ L pl ds).1,q∈pl\/∃d∈ds,q.Player=(yL L d).Player)
 | [],pl,A,o=>⟨o,λq I => .inl I⟩
 | d::ds,pl,A,o=>by
  rw [sZ]
  cases hs:stp L pl d with
  | some q =>
   obtain ⟨g1,F⟩:=NF (A d (by simp)) o hs
   obtain ⟨B,i2⟩:=EC ds (pl++[q]) (λd j=>A d (List.mem_cons_of_mem _ j)) (λz f=>by
    rcases List.mem_append.1 f with f|f
    ·exact o z f
    ·rw [List.mem_singleton.1 f];exact g1)
   refine⟨B,λz f => ?_⟩
   rcases i2 z f with h|⟨e,he,h⟩
   ·rcases List.mem_append.1 h with h|h
    ·exact .inl h
    ·rw [List.mem_singleton.1 h];exact .inr ⟨d,by simp,F⟩
   ·exact .inr ⟨e,List.mem_cons_of_mem _ he,h⟩
  | none =>
   obtain ⟨B,i2⟩:=EC ds pl (λd j=>A d (List.mem_cons_of_mem _ j)) o
   refine⟨B,λz f => ?_⟩
   rcases i2 z f with h|⟨e,he,h⟩
   ·exact .inl h
   ·exact .inr ⟨e,List.mem_cons_of_mem _ he,h⟩
theorem Da {L:List Log_}:∀(ds:List Dated) (pl:List Play),(sZ L pl ds).1.length+(sZ L pl ds).2.length=pl.length+ds.length
 | [],pl=>rfl
 | d::ds,pl=>by
  rw [sZ]
  cases stp L pl d with
  | some q=>have:=Da ds (pl++[q]) (L:=L);simp only [List.length_append,List.length_cons,List.length_nil]at *;omega
  | none=>have:=Da ds pl (L:=L);simp only [List.length_cons]at *;omega
end Go.Proofs.YtnfojnnfidnikaeGreatDoor.Law

open Go Go.Eng
namespace Go.Proofs.YtnfojnnfidnikaeGreatDoor.Law
set_option linter.unusedVariables false
set_option linter.unusedSimpArgs false
def Ce (x:Log_):ByteArray:=mk ([108,101,97,102,32]++IW x++[32]++x.Sum.data.toList)
def JH (a b:ByteArray):ByteArray:=mk ([110,111,100,101,32]++a.data.toList++[32]++b.data.toList)
theorem leafP {x:Log_} (h:wM x):sV x=some (Ce x):=by
 have f:=Kb h;have j:=nR h.2.2.1
 unfold sV
 rw [line_eq h,show x.Sum=BB x.Sum.data.toList from rfl,show (⟨#[108,101,97,102,32]⟩:ByteArray)=BB [108,101,97,102,32] from rfl,show (⟨#[32]⟩:ByteArray)=BB [32] from rfl]
 simp only [ob_]
 rw [qZ _ _ (by simp only [List.length_append,List.length_cons,List.length_nil];omega)];simp only [ob_]
 rw [qZ _ _ (by simp only [List.length_append,List.length_cons,List.length_nil];omega)];simp only [ob_]
 rw [qZ _ _ (by simp only [List.length_append,List.length_cons,List.length_nil];omega)];simp only [ob_]
 rw [Sg _ (by simp only [List.length_append,List.length_cons,List.length_nil];omega)]
 rfl
theorem RZ {a b:ByteArray} (f:ShortK a) (hb:ShortK b):nE a b=some (JH a b):=by
 have h:=nR f;have j:=nR hb
 unfold nE
 rw [show a=BB a.data.toList from rfl,show b=BB b.data.toList from rfl,show (⟨#[110,111,100,101,32]⟩:ByteArray)=BB [110,111,100,101,32] from rfl,show (⟨#[32]⟩:ByteArray)=BB [32] from rfl]
 rw [qZ _ _ (by simp only [List.length_append,List.length_cons,List.length_nil];omega)];simp only [ob_]
 rw [qZ _ _ (by simp only [List.length_append,List.length_cons,List.length_nil];omega)];simp only [ob_]
 rw [qZ _ _ (by simp only [List.length_append,List.length_cons,List.length_nil];omega)];simp only [ob_]
 rw [Sg _ (by simp only [List.length_append,List.length_cons,List.length_nil];omega)]
 rfl
theorem Ac (a b:ByteArray):ShortK (JH a b):=wy _
theorem Aw (x:Log_):ShortK (Ce x):=wy _
theorem Py {α β:Type} {body:Nat->α->List β->Option (Ctl (List β) Unit)} (f:α->β):∀(xs:List α) (k:Nat) (j:List β),(∀k x (j:List β),x∈xs->j.length<=1000000->body k x j=some (.go (j++[f x])))->xs.length+j.length<=1000000 ->
  forR body xs k j=some (.go (j++xs.map f))
 | [],k,j,h,hl=>by simp [forR]
 | x::xs,k,j,h,hl=>by
  simp only [List.length_cons]at hl
  have B:=Py f xs (k+1) (j++[f x]) (λk y o A=>h k y o (List.mem_cons_of_mem _ A)) (by simp;omega)
  simp only [forR,h k x j (by simp) (by omega),ob_]
  rw [B];simp
theorem Px (l:List Log_) (h:∀x∈l,wM x) (hl:l.length<=1000000):o9 l=some (l.map Ce):=by
 unfold o9
 rw [jX (by omega),Py Ce l 0 [] (λk x f j ho=>by
  show nI k x f=_
  unfold nI
  rw [leafP (h x j)]
  simp only [ob_]
  rw [gN _ _ (by simp;omega)];rfl) (by simpa using hl)]
 rfl
def l9:List ByteArray->List ByteArray
 | a::b::r=>JH a b::l9 r
 | [a]=>[a]
 | []=>[]
theorem Ad:∀(l:List ByteArray),(l9 l).length=(l.length+1) / 2
 | a::b::r=>by simp only [l9,List.length_cons,Ad r];omega
 | [a]=>by simp [l9]
 | []=>by simp [l9]
theorem xO:∀(l:List ByteArray),(∀x∈l,ShortK x)->∀x∈l9 l,ShortK x
 | a::b::r,h,x,f=>by
  simp only [l9,List.mem_cons]at f
  rcases f with rfl|f
  ·exact Ac a b
  ·exact xO r (λy j=>h y (List.mem_cons_of_mem _ (List.mem_cons_of_mem _ j))) x f
 | [a],h,x,f=>h x f
 | [],h,x,f=>h x f
theorem LF {α:Type} {l:List α} {k:Nat} (h:k<l.length):idx l (k:Int)=some l[k]:=by rw [l8,List.getElem?_eq_getElem h]
theorem Ai {N:ByteArray->ByteArray->Option ByteArray} {body:List ByteArray×Int->Option (Ctl (List ByteArray×Int) Unit)} (l:List ByteArray) (hl:l.length<=1000000) (hs:∀x∈l,ShortK x)
  (T:∀a b,ShortK a->ShortK b->N a b=some (JH a b))
  (hb:∀s,body s=(bif (decide (s.2<(l.length:Int)))then (bif (decide ((w64 (s.2+1))<(l.length:Int)))then (idx l s.2).bind λI=>(idx l (w64 (s.2+1))).bind λA=>(N I A).bind λF=>(kv s.1 ([F]:List ByteArray)).bind λB=>some B else (idx l s.2).bind λJ=>(kv s.1 ([J]:List ByteArray)).bind λM=>some M).bind λL=>some (.go (L,(w64 (s.2+2))))else some (.brk (s.1,s.2)))) :
  ∀(n k:Nat) (f:List ByteArray),l.length<=k+n->k<=l.length+1->f.length<=k->∃e,iterN body (n+1) (f,(k:Int))=some (.go (f++l9 (l.drop k),e))
 | n,k,f,h,hk,ho=>by
  by_cases hlt:k<l.length
  ·have O:decide ((k:Int)<(l.length:Int))=true:=decide_eq_true (by omega)
   have W:w64 ((k:Int)+1)=((k+1:Nat):Int):=by rw [dh (by omega)];omega
   have Y:w64 ((k:Int)+2)=((k+2:Nat):Int):=by rw [dh (by omega)];omega
   obtain ⟨n,rfl⟩:∃m,n=m+1:=⟨n-1,by omega⟩
   by_cases hlt2:k+1<l.length
   ·have o:decide (((k+1:Nat):Int)<(l.length:Int))=true:=decide_eq_true (by omega)
    obtain ⟨e,he⟩:=Ai l hl hs T hb n (k+2) (f++[JH l[k] l[k+1]]) (by omega) (by omega) (by simp;omega)
    refine⟨e,?_⟩
    have j:body (f,(k:Int))=some (.go (f++[JH l[k] l[k+1]],((k+2:Nat):Int))):=by
     rw [hb]
     simp only [O,cond_true,W,Y,o]
     rw [LF hlt,LF hlt2]
     simp only [ob_]
     rw [T _ _ (hs _ (List.getElem_mem _)) (hs _ (List.getElem_mem _))]
     simp only [ob_]
     rw [gN _ _ (by simp;omega)]
     rfl
    rw [iterN,j]
    simp only [ob_]
    rw [he]
    rw [List.drop_eq_getElem_cons hlt,List.drop_eq_getElem_cons hlt2]
    simp [l9]
   ·have o:decide (((k+1:Nat):Int)<(l.length:Int))=false:=decide_eq_false (by omega)
    obtain ⟨e,he⟩:=Ai l hl hs T hb n (k+2) (f++[l[k]]) (by omega) (by omega) (by simp;omega)
    refine⟨e,?_⟩
    have j:body (f,(k:Int))=some (.go (f++[l[k]],((k+2:Nat):Int))):=by
     rw [hb]
     simp only [O,cond_true,W,Y,o,cond_false]
     rw [LF hlt]
     simp only [ob_]
     rw [gN _ _ (by simp;omega)]
     rfl
    rw [iterN,j]
    simp only [ob_]
    rw [he]
    have Z:l.drop k=[l[k]]:=by
     rw [List.drop_eq_getElem_cons hlt,List.drop_eq_nil_iff.2 (by omega)]
    have R:l.drop (k+2)=[]:=List.drop_eq_nil_iff.2 (by omega)
    rw [Z,R]
    simp [l9]
  ·have O:decide ((k:Int)<(l.length:Int))=false:=decide_eq_false (by omega)
   refine⟨(k:Int),?_⟩
   rw [iterN,hb]
   simp only [O,cond_false,ob_]
   have R:l.drop k=[]:=List.drop_eq_nil_iff.2 (by omega)
   rw [R]
   simp [l9]
theorem Pb (l:List ByteArray) (hl:l.length<=1000000) (hs:∀x∈l,ShortK x):pu l=some (l9 l):=by
 unfold pu
 obtain ⟨e,he⟩:=Ai (body:=λs=>qG l s) l hl hs (λa b f hb=>RZ f hb) (λs=>rfl) l.length 0 [] (by omega) (by omega) (by simp)
 have:=dB he
 rw [show ((([]:List ByteArray),(0:Int)):List ByteArray×Int)=([],((0:Nat):Int)) from rfl,this]
 rfl
theorem xor1 {i:Nat} (h:i<1000000000):∃j:Nat,vM .i64 (i:Int) 1=(j:Int)/\j<=i+1:=by
 have h1:vM .i64 (i:Int) 1=((i ^^^ 1:Nat):Int):=by
  show IntKind.i64.wrap (((BitVec.ofInt 64 (i:Int)) ^^^ (BitVec.ofInt 64 1)).toNat:Int)=_
  have h1:((BitVec.ofInt 64 (i:Int)) ^^^ (BitVec.ofInt 64 1)).toNat=i ^^^ 1:=by
   rw [BitVec.toNat_xor]
   have o:(BitVec.ofInt 64 (i:Int)).toNat=i:=by
    rw [BitVec.ofInt_natCast,BitVec.toNat_ofNat];exact Nat.mod_eq_of_lt (by omega)
   have f:(BitVec.ofInt 64 1).toNat=1:=by decide
   rw [o,f]
  rw [h1]
  have h2:i ^^^ 1<2 ^ 30:=Nat.xor_lt_two_pow (by omega) (by omega)
  exact dh (by omega)
 refine⟨i ^^^ 1,h1,?_⟩
 have h2:(i ^^^ 1) >>> 1=i >>> 1:=by rw [Nat.shiftRight_xor_distrib];simp
 rw [Nat.shiftRight_eq_div_pow,Nat.shiftRight_eq_div_pow]at h2
 omega
end Go.Proofs.YtnfojnnfidnikaeGreatDoor.Law

open Go Go.Eng
namespace Go.Proofs.YtnfojnnfidnikaeGreatDoor.Law
set_option linter.unusedVariables false
set_option linter.unusedSimpArgs false
theorem mb {α β:Type} {E:Option α} {f:α->Option β} {P:α->Prop} {Q:β->Prop} (h:∃a,E=some a/\P a) (k:∀a,P a->∃r,f a=some r/\Q r):∃r,E.bind f=some r/\Q r:=by
 obtain ⟨a,h1,h2⟩:=h
 obtain ⟨r,j,o⟩:=k a h2
 exact⟨r,by rw [h1];exact j,o⟩
theorem mr {β:Type} {a:β} {Q:β->Prop} (h:Q a):∃r,some a=some r/\Q r:=⟨a,rfl,h⟩
theorem flip_w (s:Stream) (n:Int) {b:Int} (hs:Ok s b) (hb:b<=1000000) (h:1<=n) (f:n<=1000):∃a,mJ s n=some a/\Ok a.2 (b+1):=by
 obtain ⟨r,j,h1,h2⟩:=flip_ok s n hs hb h f
 exact⟨(r,j),h1,h2⟩
theorem O6 (s:Stream) (l:List Int) {b:Int} (hs:Ok s b) (hb:b<=1000000) (h:1<=l.length) (j:l.length<=1000):∃a,dZ s l=some a/\(a.1∈l/\Ok a.2 (b+1)):=by
 obtain ⟨r,o,h1,h2,f⟩:=Bg s l hs hb h j
 exact⟨(r,o),h1,h2,f⟩
theorem some_w (s:Stream) (l:List ByteArray) {b:Int} (hs:Ok s b) (hb:b<=1000000) (h:1<=l.length) (j:l.length<=1000):∃a,kR s l=some a/\(a.1∈l/\Ok a.2 (b+1)):=by
 obtain ⟨r,o,h1,h2,f⟩:=Qo s l hs hb h j
 exact⟨(r,o),h1,h2,f⟩
theorem range_w (s:Stream) (lo hi:Int) {b:Int} (hs:Ok s b) (hb:b<=1000000) (h:lo<=hi) (h1 : -1000000000000<=lo) (h2:hi<=1000000000000):∃a,fZ s lo hi=some a/\(lo<=a.1/\a.1<=hi/\Ok a.2 (b+1)):=by
 obtain ⟨r,B,A,o,j,f⟩:=vK s lo hi hs hb h h1 h2
 exact⟨(r,B),A,o,j,f⟩
theorem SC (f:ByteArray) {x:Log_} (hl:ShortK f) (h:wM x):yB f x=some (mk (f.data.toList++[32]++IW x)):=by
 have o:=Kb h;have j:=nR hl
 unfold yB
 rw [OJ h,show f=BB f.data.toList from rfl,show (⟨#[32]⟩:ByteArray)=BB [32] from rfl]
 simp only [ob_]
 rw [qZ _ _ (by simp only [List.length_append,List.length_cons,List.length_nil];omega)];simp only [ob_]
 rw [qZ _ _ (by simp only [List.length_append,List.length_cons,List.length_nil];omega)];simp only [ob_]
 rw [markR _ (by simp only [List.length_append,List.length_cons,List.length_nil];omega)]
 rfl
end Go.Proofs.YtnfojnnfidnikaeGreatDoor.Law

