/-
  THE PLAIN LAW (part 1).
-/
import Derived.Test.YtnkgapmhkhcanaaGreatDoorEng5
import Derived.Test.YtnkgapmhkhcanaaGreatDoorDefs
namespace Go.Eng
set_option linter.unusedVariables false
set_option linter.unusedSimpArgs false
theorem dz {α σ ρ:Type} {body:Nat->α->σ->Option (Ctl σ ρ)} {xs:List α} {s:σ} (hl:xs.length<=1000000000000):forL xs s body=forR body xs 0 s:=by unfold forL;rw [if_pos hl]
theorem Kc {α σ ρ:Type} {body:Nat->α->σ->Option (Ctl σ ρ)} (I:Nat->σ->Prop) (N:Nat):∀(xs:List α) (k:Nat) (s:σ),k+xs.length=N->(∀k x s,x∈xs->k<N->I k s->∃s',body k x s=some (.go s')/\I (k+1) s')->I k s->∃s',forR body xs k s=some (.go s')/\I N s'
 | [],k,s,hN,h,hi=>⟨s,rfl,by simp only [List.length_nil,Nat.add_zero]at hN;rw [<- hN];exact hi⟩
 | x::xs,k,s,hN,h,hi=>by
  simp only [List.length_cons]at hN
  obtain ⟨s1,h1,h2⟩:=h k x s (by simp) (by omega) hi
  obtain ⟨s2,h3,h4⟩:=Kc I N xs (k+1) s1 (by omega) (λk x s hx=>h k x s (by simp [hx])) h2
  exact⟨s2,by simp only [forR,h1,ob_];exact h3,h4⟩
theorem Pe {α σ ρ:Type} {body:Nat->α->σ->Option (Ctl σ ρ)} (I:Nat->σ->Prop) {xs:List α} {s:σ} (hl:xs.length<=1000000000000) (h:∀k x s,x∈xs->k<xs.length->I k s->∃s',body k x s=some (.go s')/\I (k+1) s') (h0:I 0 s):∃s',forL xs s body=some (.go s')/\I xs.length s':=by
 obtain ⟨s',h1,h2⟩:=Kc I xs.length xs 0 s (by omega) h h0
 exact⟨s',by rw [dz hl];exact h1,h2⟩
theorem J9 {σ ρ τ:Type} (s:σ) (f:σ->Option τ) (g:ρ->Option τ):thenC (.go s) f g=f s:=rfl
theorem MR {σ ρ τ:Type} (r:ρ) (f:σ->Option τ) (g:ρ->Option τ):thenC (.ret r) f g=g r:=rfl
theorem tT {α:Type} (xs:List α) (k:Nat):idx xs (k:Int)=xs[k]? := by simp [idx]
theorem bK {n:Int} (h : -9223372036854775808<=n/\n<=9223372036854775807):w64 n=n:=Fw n h
theorem toL (s:ByteArray):s.toList=s.data.toList:=Go.Lib.toList_data s
theorem IU {a b:ByteArray} (h:a.toList=b.toList):a=b:=by
 rw [toL,toL]at h
 obtain ⟨⟨a⟩⟩:=a
 obtain ⟨⟨b⟩⟩:=b
 simp only at h
 rw [h]
theorem Me (a b:ByteArray):sEq a b=true↔a=b:=by
 simp only [sEq,beq_iff_eq]
 exact⟨IU,λh=>by rw [h]⟩
theorem sEq_dec (a b:ByteArray):sEq a b=decide (a=b):=by
 rw [Bool.eq_iff_iff,Me];simp
theorem sNe_dec (a b:ByteArray):sNe a b = !decide (a=b):=by
 have:=sEq_dec a b;simp only [sEq,sNe]at *;rw [this]
abbrev bl:=Op.bytesLess
theorem bl_lt:∀(x y:List UInt8),bl x y=decide (x<y)
 | _,[]=>by simp [bl,Op.bytesLess]
 | [],_::_=>by simp [bl,Op.bytesLess]
 | a::x,b::y=>by
  have:=bl_lt x y
  simp only [bl,Op.bytesLess]at this ⊢
  rw [this,Bool.eq_iff_iff]
  simp only [Bool.or_eq_true,decide_eq_true_eq,Bool.and_eq_true,beq_iff_eq,List.cons_lt_cons_iff]
def lt (a b:ByteArray):Prop:=a.toList<b.toList
theorem MF (a b:ByteArray):sLt a b=true↔lt a b:=by
 show bl a.toList b.toList=true↔_
 rw [bl_lt];simp [lt]
theorem Oe (a:ByteArray):¬lt a a:=List.lt_irrefl a.toList
theorem lt_trans {a b c:ByteArray} (h:lt a b) (k:lt b c):lt a c:=List.lt_trans h k
theorem lt_tri (a b:ByteArray):lt a b\/a=b\/lt b a:=by
 rcases Classical.em (lt a b)with h|h
 ·exact .inl h
 ·rcases Classical.em (lt b a)with h2|h2
  ·exact .inr (.inr h2)
  ·exact .inr (.inl (IU (List.le_antisymm (List.not_lt.1 h2) (List.not_lt.1 h))))
theorem De (a b:ByteArray):sLe a b=true↔¬lt b a:=by
 have h1:=MF a b
 have h2:=Me a b
 simp only [sLe,Bool.or_eq_true]
 constructor
 ·rintro (h|h)
  ·exact λk=>Oe _ (lt_trans (h1.1 h) k)
  ·rw [h2.1 h];exact Oe _
 ·intro h
  rcases lt_tri a b with k|k|k
  ·exact .inl (h1.2 k)
  ·exact .inr (h2.2 k)
  ·exact absurd k h
theorem sLe_nil (a:ByteArray):sLe a ⟨#[]⟩=decide (a.size=0):=by
 rw [Bool.eq_iff_iff,De,lt,toL,toL,Go.Lib.size_eq]
 cases a.data.toList <;> simp
theorem sNe_nil (a:ByteArray):sNe a ⟨#[]⟩=decide (a.size≠0):=by
 rw [sNe_dec,Go.Lib.size_eq,Bool.eq_iff_iff]
 simp only [Bool.not_eq_true',decide_eq_false_iff_not,decide_eq_true_eq,ne_eq]
 refine not_congr ⟨λh=>by rw [h];rfl,λh => ?_⟩
 exact IU (by rw [toL,List.eq_nil_of_length_eq_zero h,toL])
end Go.Eng

open Go Go.Eng
namespace Go.Proofs.YtnkgapmhkhcanaaGreatDoor.Law
set_option linter.unusedVariables false
set_option linter.unusedSimpArgs false
def mem (x:Int) (L:List Run):Prop:=∃r∈L,r.f_from<=x/\x<r.f_to
def bg:Int->List Run->Prop
 | _,[]=>True
 | lo,r::rs=>lo<r.f_from/\r.f_from<r.f_to/\bg r.f_to rs
def uH:Int->List Run->Int
 | lo,[]=>lo
 | _,r::rs=>uH r.f_to rs
theorem iJ (x:Int):¬mem x []:=fun⟨r,h,_⟩=>by cases h
theorem mem_cons (x:Int) (r:Run) (L:List Run):mem x (r::L)↔(r.f_from<=x/\x<r.f_to)\/mem x L:=by
 constructor
 ·rintro ⟨q,h,k⟩
  rcases List.mem_cons.1 h with rfl|h
  ·exact .inl k
  ·exact .inr ⟨q,h,k⟩
 ·rintro (k|⟨q,h,k⟩)
  ·exact⟨r,by simp,k⟩
  ·exact⟨q,by simp [h],k⟩
theorem zT (x:Int) (L M:List Run):mem x (L++M)↔mem x L\/mem x M:=by
 unfold mem
 constructor
 ·rintro ⟨q,h,k⟩
  rcases List.mem_append.1 h with h|h
  ·exact .inl ⟨q,h,k⟩
  ·exact .inr ⟨q,h,k⟩
 ·rintro (⟨q,h,k⟩|⟨q,h,k⟩)
  ·exact⟨q,by simp [h],k⟩
  ·exact⟨q,by simp [h],k⟩
theorem bg.lo:∀{L:List Run} {lo:Int},bg lo L->∀r∈L,lo<r.f_from/\r.f_from<r.f_to
 | [],_,_,r,hr=>by cases hr
 | q::L,lo,h,r,hr=>by
  obtain ⟨h1,h2,h3⟩:=h
  rcases List.mem_cons.1 hr with rfl|hr
  ·exact⟨h1,h2⟩
  ·have:=h3.lo r hr;omega
theorem bg.gt {L:List Run} {lo:Int} (h:bg lo L) {x:Int} (hx:mem x L):lo<x:=by
 obtain ⟨r,hr,k⟩:=hx
 have:=h.lo r hr;omega
theorem bg.mono {L:List Run} {lo lo':Int} (h:bg lo L) (hl:lo'<=lo):bg lo' L:=by
 cases L with
 | nil=>trivial
 | cons r L=>exact⟨by have:=h.1;omega,h.2⟩
theorem rV:∀{L:List Run} {lo:Int} {M:List Run},bg lo (L++M)↔bg lo L/\bg (uH lo L) M
 | [],_,_=>by simp [bg,uH]
 | r::L,lo,M=>by
  simp only [List.cons_append,bg,uH,rV (L:=L),and_assoc]
theorem IL:∀{L:List Run} {lo:Int} {M:List Run},uH lo (L++M)=uH (uH lo L) M
 | [],_,_=>rfl
 | r::L,lo,M=>by simp only [List.cons_append,uH,IL (L:=L)]
theorem EE:∀{L M:List Run} {lo lo':Int},bg lo L->bg lo' M->(∀x,mem x L↔mem x M)->L=M
 | [],[],_,_,_,_,_=>rfl
 | [],q::M,_,_,_,hM,h=>absurd ((h q.f_from).2 ((mem_cons _ _ _).2 (.inl ⟨Int.le_refl _,hM.2.1⟩))) (iJ _)
 | r::L,[],_,_,hL,_,h=>absurd ((h r.f_from).1 ((mem_cons _ _ _).2 (.inl ⟨Int.le_refl _,hL.2.1⟩))) (iJ _)
 | r::L,q::M,lo,lo',⟨a1,a2,a3⟩,⟨b1,b2,b3⟩,h=>by
  have lowL:∀x,mem x (r::L)->r.f_from<=x:=λx hx=>by
   rcases (mem_cons _ _ _).1 hx with k|k
   ·exact k.1
   ·have:=a3.gt k;omega
  have lowM:∀x,mem x (q::M)->q.f_from<=x:=λx hx=>by
   rcases (mem_cons _ _ _).1 hx with k|k
   ·exact k.1
   ·have:=b3.gt k;omega
  have e1:r.f_from=q.f_from:=by
   have k1:=lowM _ ((h r.f_from).1 ((mem_cons _ _ _).2 (.inl ⟨Int.le_refl _,a2⟩)))
   have k2:=lowL _ ((h q.f_from).2 ((mem_cons _ _ _).2 (.inl ⟨Int.le_refl _,b2⟩)))
   omega
  have e2:r.f_to=q.f_to:=by
   rcases Int.lt_trichotomy r.f_to q.f_to with k|k|k
   ·exfalso
    have:mem r.f_to (r::L):=(h r.f_to).2 ((mem_cons _ _ _).2 (.inl ⟨by omega,k⟩))
    rcases (mem_cons _ _ _).1 this with m|m
    ·omega
    ·have:=a3.gt m;omega
   ·exact k
   ·exfalso
    have:mem q.f_to (q::M):=(h q.f_to).1 ((mem_cons _ _ _).2 (.inl ⟨by omega,k⟩))
    rcases (mem_cons _ _ _).1 this with m|m
    ·omega
    ·have:=b3.gt m;omega
  have e3:L=M:=EE a3 b3 (λx=>by
   have hx:=h x
   rw [mem_cons,mem_cons,e1,e2]at hx
   constructor
   ·intro k
    have:=a3.gt k
    rcases hx.1 (.inr k)with m|m
    ·omega
    ·exact m
   ·intro k
    have:=b3.gt k
    rcases hx.2 (.inr k)with m|m
    ·omega
    ·exact m)
  subst e3
  obtain ⟨f1,t1⟩:=r
  obtain ⟨f2,t2⟩:=q
  simp only at e1 e2
  rw [e1,e2]
def sub (rt:Int):Int->List Run->List Run
 | rf,[]=>bif decide (rf<rt)then [⟨rf,rt⟩]else []
 | rf,q::M=>bif decide (q.f_from<rt)then (bif decide (q.f_from>rf)then [⟨rf,q.f_from⟩]else [])++sub rt (max rf q.f_to) M else bif decide (rf<rt)then [⟨rf,rt⟩]else []
theorem Mj (rt x:Int):∀(M:List Run) (rf c:Int),bg c M->(mem x (sub rt rf M)↔(rf<=x/\x<rt)/\¬mem x M)
 | [],rf,c,_=>by
  simp only [sub]
  by_cases h:rf<rt
  ·rw [decide_eq_true h,cond_true,mem_cons];simp [iJ]
  ·rw [decide_eq_false h,cond_false];simp only [iJ,false_iff,not_false_eq_true,and_true];omega
 | q::M,rf,c,⟨h1,h2,h3⟩=>by
  simp only [sub]
  by_cases h:q.f_from<rt
  ·rw [decide_eq_true h,cond_true,zT,Mj rt x M _ _ h3,mem_cons]
   have hgt:∀{x},mem x M->q.f_to<x:=λk=>h3.gt k
   by_cases k:q.f_from>rf
   ·rw [decide_eq_true k,cond_true,mem_cons]
    simp only [iJ,or_false]
    constructor
    ·rintro (m|⟨m1,m2⟩)
     ·refine⟨by omega,?_⟩
      rintro (n|n)
      ·omega
      ·have:=hgt n;omega
     ·refine⟨by omega,?_⟩
      rintro (n|n)
      ·omega
      ·exact m2 n
    ·rintro ⟨m1,m2⟩
     by_cases n:x<q.f_from
     ·exact .inl ⟨m1.1,n⟩
     ·right
      have n2:¬(q.f_from<=x/\x<q.f_to):=λn2=>m2 (.inl n2)
      exact⟨by omega,λn3=>m2 (.inr n3)⟩
   ·rw [decide_eq_false k,cond_false]
    simp only [iJ,false_or]
    constructor
    ·rintro ⟨m1,m2⟩
     refine⟨by omega,?_⟩
     rintro (n|n)
     ·omega
     ·exact m2 n
    ·rintro ⟨m1,m2⟩
     have n2:¬(q.f_from<=x/\x<q.f_to):=λn2=>m2 (.inl n2)
     exact⟨by omega,λn3=>m2 (.inr n3)⟩
  ·rw [decide_eq_false h,cond_false,mem_cons]
   have hgt:mem x M->q.f_to<x:=λk=>h3.gt k
   by_cases k:rf<rt
   ·rw [decide_eq_true k,cond_true,mem_cons]
    simp only [iJ,or_false]
    constructor
    ·intro m
     refine⟨m,?_⟩
     rintro (n|n)
     ·omega
     ·have:=hgt n;omega
    ·exact λm=>m.1
   ·rw [decide_eq_false k,cond_false];simp only [iJ,false_iff];omega
theorem AX (rt:Int):∀(M:List Run) (rf c lo:Int),bg c M->lo<rf->bg lo (sub rt rf M)/\(sub rt rf M).length<=M.length+1/\∀r∈sub rt rf M,rf<=r.f_from/\r.f_to<=rt
 | [],rf,c,lo,_,hl=>by
  simp only [sub]
  by_cases h:rf<rt
  ·rw [decide_eq_true h,cond_true];exact⟨⟨hl,h,trivial⟩,by simp,λr hr=>by rw [List.mem_singleton]at hr;subst hr;exact⟨Int.le_refl _,Int.le_refl _⟩⟩
  ·rw [decide_eq_false h,cond_false];exact⟨trivial,by simp,λr hr=>by cases hr⟩
 | q::M,rf,c,lo,⟨h1,h2,h3⟩,hl=>by
  simp only [sub]
  by_cases h:q.f_from<rt
  ·rw [decide_eq_true h,cond_true]
   by_cases k:q.f_from>rf
   ·rw [decide_eq_true k,cond_true]
    obtain ⟨i1,i2,i3⟩:=AX rt M (max rf q.f_to) _ q.f_from h3 (by omega)
    refine⟨⟨hl,k,i1⟩,by simp only [List.cons_append,List.nil_append,List.length_cons];omega,λr hr => ?_⟩
    rcases List.mem_append.1 hr with hr|hr
    ·rw [List.mem_singleton]at hr;subst hr;exact⟨Int.le_refl _,by show q.f_from<=rt;omega⟩
    ·have:=i3 r hr;omega
   ·rw [decide_eq_false k,cond_false]
    obtain ⟨i1,i2,i3⟩:=AX rt M (max rf q.f_to) _ lo h3 (by omega)
    exact⟨i1,by simp only [List.nil_append,List.length_cons];omega,λr hr=>by have:=i3 r hr;omega⟩
  ·rw [decide_eq_false h,cond_false]
   by_cases k:rf<rt
   ·rw [decide_eq_true k,cond_true];exact⟨⟨hl,k,trivial⟩,by simp,λr hr=>by rw [List.mem_singleton]at hr;subst hr;exact⟨Int.le_refl _,Int.le_refl _⟩⟩
   ·rw [decide_eq_false k,cond_false];exact⟨trivial,by simp,λr hr=>by cases hr⟩
end Go.Proofs.YtnkgapmhkhcanaaGreatDoor.Law

namespace Go.Eng
set_option linter.unusedVariables false
set_option linter.unusedSimpArgs false
def Mm {α:Type} (cmp:α->α->Option Int) (a_2:Int) (s_21:(List α)×Int):Option (Ctl ((List α)×Int) (Unit)) :=
 (bif (decide (s_21.2>a_2))then (inR s_21.2 s_21.1).bind λ_=>(s_21.1[(0+(s_21.2).toNat)]?).bind λe_30=>(inR (w64 (s_21.2-1)) s_21.1).bind λ_=>(s_21.1[(0+((w64 (s_21.2-1))).toNat)]?).bind λe_33=>(cmp e_30 e_33).bind λr_35=>some (decide (r_35<0))else some false).bind λv_26=>bif v_26 then (inR (w64 (s_21.2-1)) s_21.1).bind λ_=>(s_21.1[(0+((w64 (s_21.2-1))).toNat)]?).bind λe_39=>(inR s_21.2 s_21.1).bind λ_=>(s_21.1[(0+(s_21.2).toNat)]?).bind λe_42=>(inR s_21.2 s_21.1).bind λ_=>(s_21.1[(0+(s_21.2).toNat)]?).bind λe_45=>(inR (w64 (s_21.2-1)) (s_21.1.set (0+(s_21.2).toNat) e_39)).bind λ_=>((s_21.1.set (0+(s_21.2).toNat) e_39)[(0+((w64 (s_21.2-1))).toNat)]?).bind λe_48=>some (.go (((s_21.1.set (0+(s_21.2).toNat) e_39).set (0+((w64 (s_21.2-1))).toNat) e_42),(w64 (s_21.2-1))))else some (.brk (s_21.1,s_21.2))
noncomputable def JG {α:Type} (cmp:α->α->Option Int) (b_3:Int) (a_2:Int) (s_10:(List α)×Int):Option (Ctl ((List α)×Int) (Unit)) :=
 bif (decide (s_10.2<b_3))then (jK (s_10.1,s_10.2) (λs=>Mm cmp a_2 s)).bind λo_24=>thenC o_24 (λs_21=>some (.go (s_21.1,(w64 (s_10.2+1))))) (λ_=>none)else some (.brk (s_10.1,s_10.2))
noncomputable def Ko {α:Type} (cmp:α->α->Option Int) (data_1:(List α)) (a_2:Int) (b_3:Int):Option ((List α)) :=
 (jK (data_1,(w64 (a_2+1))) (λs=>JG cmp b_3 a_2 s)).bind λo_13=>thenC o_13 (λs_10=>some s_10.1) (λ_=>none)
noncomputable def Oc {α:Type} (cmp:α->α->Option Int) (b_3:Int) (a_2:Int) (data_1:(List α)) (limit_4:Int) (s_11:Unit):Option (Ctl (Unit) ((List α))) :=
 bif (decide ((w64 (b_3-a_2))<=12))then (Ko cmp data_1 a_2 b_3).bind λr_17=>(gQ r_17 data_1).bind λ_=>some (.ret r_17)else bif (limit_4==0)then none else none
noncomputable def K3 {α:Type} (cmp:α->α->Option Int) (data_1:(List α)) (a_2:Int) (b_3:Int) (limit_4:Int):Option ((List α)) :=
 (jK () (λs=>Oc cmp b_3 a_2 data_1 limit_4 s)).bind λo_14=>thenC o_14 (λs_11=>some data_1) (λr=>some r)
theorem MH {α:Type} (u v:α) (C:List α):∀A:List α,((A++u::v::C).set (A.length+1) u).set A.length v=A++v::u::C
 | []=>rfl
 | a::A=>by simp only [List.cons_append,List.length_cons,List.set_cons_succ,MH u v C A]
theorem get_0 {α:Type} (u:α) (C A:List α):(A++u::C)[A.length]? = some u:=by simp
theorem get_1 {α:Type} (u v:α) (C A:List α):(A++u::v::C)[A.length+1]? = some v:=by
 rw [List.getElem?_append_right (by omega)];simp
theorem OY {α:Type} (u v w:α) (C:List α):∀A:List α,(A++u::v::C).set (A.length+1) w=A++u::w::C
 | []=>rfl
 | a::A=>by simp only [List.cons_append,List.length_cons,List.set_cons_succ,OY u v w C A]
theorem Im {α:Type} {xs:List α} {i:Nat} (h:i<xs.length):inR (i:Int) xs=some ():=by
 unfold inR;rw [if_pos ⟨by omega,by simpa using h⟩]
section
variable {α:Type} {cmp:α->α->Option Int} {le:α->α->Prop} {p:α->Prop}
theorem insL1_s (u v:α) (A C:List α) {c:Int} (hc:cmp v u=some c) (hl:A.length<=1000000000):Mm cmp 0 (A++u::v::C,((A.length+1:Nat):Int))=some (bif decide (c<0)then .go (A++v::u::C,(A.length:Int))else .brk (A++u::v::C,((A.length+1:Nat):Int))):=by
 have hw:w64 (((A.length+1:Nat):Int)-1)=(A.length:Int):=by rw [Fw _ (by omega)];omega
 have h1:inR ((A.length+1:Nat):Int) (A++u::v::C)=some ():=Im (by simp)
 have h2:inR (A.length:Int) (A++u::v::C)=some ():=Im (by simp)
 have h3:inR (A.length:Int) (A++u::u::C)=some ():=Im (by simp)
 have hd:decide (((A.length+1:Nat):Int)>0)=true:=by simp <;> omega
 have e1:0+((A.length+1:Nat):Int).toNat=A.length+1:=by omega
 have e2:0+((A.length:Nat):Int).toNat=A.length:=by omega
 unfold Mm
 simp only [hw,h1,h2,hd,e1,e2,get_0,get_1,ob_,hc,cond_true,OY,h3]
 cases decide (c<0)with
 | false=>rfl
 | true =>
  simp only [cond_true]
  have:=MH u v C A
  rw [OY]at this
  rw [this]
theorem Gx (hc:∀a b,p a->p b->∃c,cmp a b=some c/\(c<0->le a b)/\(¬c<0->le b a)) (tr:∀a b c,le a b->le b c->le a c) (v:α) (hv:p v) (R:List α):∀(n:Nat) (A B:List α),A.length=n->n<=1000000000->(∀a∈A,p a)->(A++B).Pairwise le->(∀b∈B,le v b) ->
  ∃A' B',iterN (λs=>Mm cmp 0 s) (n+1) (A++v::(B++R),(A.length:Int))=some (.go (A'++v::(B'++R),(A'.length:Int)))/\A'++B'=A++B/\(A'++v::B').Pairwise le
 | 0,A,B,hA,hn,hpa,hp,hb=>by
  have:A=[]:=List.eq_nil_of_length_eq_zero hA
  subst this
  exact⟨[],B,by simp only [List.nil_append,List.length_nil,iterN,Option.bind];rfl,rfl,by simpa using ⟨hb,hp⟩⟩
 | n+1,A,B,hA,hn,hpa,hp,hb=>by
  rcases List.eq_nil_or_concat A with h|⟨A0,u,h⟩
  ·rw [h]at hA;cases hA
  ·subst h
   simp only [List.concat_eq_append]at hA hp hpa ⊢
   have hA0:A0.length=n:=by simpa using hA
   have hl:(A0++[u]).length=A0.length+1:=by simp
   have e:A0++[u]++v::(B++R)=A0++u::v::(B++R):=by simp
   obtain ⟨c,h1,h2,h3⟩:=hc v u hv (hpa u (by simp))
   rw [hl,e,iterN,insL1_s u v A0 (B++R) h1 (by omega),ob_]
   by_cases hcn:c<0
   ·simp only [decide_eq_true hcn,cond_true]
    have hp':(A0++(u::B)).Pairwise le:=by simpa using hp
    obtain ⟨A',B',k1,k2,k3⟩:=Gx hc tr v hv R n A0 (u::B) hA0 (by omega) (λa ha=>hpa a (by simp [ha])) hp' (λb hb'=>by
     rcases List.mem_cons.1 hb' with rfl|hb'
     ·exact h2 hcn
     ·exact hb b hb')
    refine⟨A',B',?_,by rw [k2];simp,k3⟩
    rw [<- k1];simp
   ·simp only [decide_eq_false hcn,cond_false]
    refine⟨A0++[u],B,by simp,rfl,?_⟩
    have huv:=h3 hcn
    rw [List.pairwise_append]at hp ⊢
    obtain ⟨p1,p2,p3⟩:=hp
    refine⟨p1,List.pairwise_cons.2 ⟨hb,p2⟩,λa ha b hb' => ?_⟩
    rcases List.mem_cons.1 hb' with rfl|hb'
    ·rcases List.mem_append.1 ha with ha|ha
     ·rw [List.pairwise_append]at p1
      exact tr _ _ _ (p1.2.2 a ha u (by simp)) huv
     ·rw [List.mem_singleton]at ha;subst ha;exact huv
    ·exact p3 a ha b hb'
theorem Gr (hc:∀a b,p a->p b->∃c,cmp a b=some c/\(c<0->le a b)/\(¬c<0->le b a)) (tr:∀a b c,le a b->le b c->le a c):∀(Q P:List α),P.length+Q.length<=1000000000->(∀x∈P++Q,p x)->P.Pairwise le ->
  ∃s,iterN (λs=>JG cmp ((P.length+Q.length:Nat):Int) 0 s) (Q.length+1) (P++Q,(P.length:Int))=some (.go (s,((P.length+Q.length:Nat):Int)))/\s.Perm (P++Q)/\s.Pairwise le
 | [],P,hl,hpx,hp=>by
  refine⟨P,?_,by simp,hp⟩
  have hd:decide ((P.length:Int)<((P.length+([]:List α).length:Nat):Int))=false:=by simp
  simp only [iterN,JG,hd,cond_false,ob_,List.append_nil]
  simp
 | v::Q,P,hl,hpx,hp=>by
  simp only [List.length_cons]at hl
  have hd:decide ((P.length:Int)<((P.length+(v::Q).length:Nat):Int))=true:=by simp only [decide_eq_true_eq,List.length_cons];omega
  obtain ⟨A',B',k1,k2,k3⟩:=Gx hc tr v (hpx v (by simp)) Q P.length P [] rfl (by omega) (λa ha=>hpx a (by simp [ha])) (by simpa using hp) (λb hb=>by cases hb)
  rw [List.nil_append]at k1
  have hlo:=jb k1
  rw [List.length_cons,iterN]
  have hw:w64 ((P.length:Int)+1)=((A'++v::B').length:Int):=by
   have:=congrArg List.length k2
   simp only [List.length_append,List.length_nil]at this
   rw [Fw _ (by omega)];simp only [List.length_append,List.length_cons];omega
  have h1:JG cmp ((P.length+(Q.length+1):Nat):Int) 0 (P++v::Q,(P.length:Int))=some (.go (A'++v::(B'++Q),((A'++v::B').length:Int))):=by
   have hd':decide ((P.length:Int)<((P.length+(Q.length+1):Nat):Int))=true:=hd
   unfold JG
   simp only [hd',cond_true,hlo,ob_,thenC,hw]
  have hlen:(A'++v::B').length=P.length+1:=by
   have:=congrArg List.length k2
   simp only [List.length_append,List.length_nil,List.length_cons]at this ⊢
   omega
  have hk:(A'++B').Perm P:=by rw [k2];simp
  have hperm:(A'++v::B').Perm (P++[v]):=(List.perm_middle).trans ((List.Perm.cons v hk).trans (List.perm_append_comm (l₁:=[v]) (l₂:=P)))
  obtain ⟨s,m1,m2,m3⟩:=Gr hc tr Q (A'++v::B') (by omega) (λx hx=>by
   rcases List.mem_append.1 hx with hx|hx
   ·have:=hperm.mem_iff.1 hx
    exact hpx x (by rcases List.mem_append.1 this with h | h <;> simp_all)
   ·exact hpx x (by simp [hx])) k3
  rw [h1,ob_]
  have e:A'++v::(B'++Q)=(A'++v::B')++Q:=by simp
  have e2:P.length+(Q.length+1)=(A'++v::B').length+Q.length:=by omega
  simp only
  rw [e,e2]
  refine⟨s,m1,m2.trans ?_,m3⟩
  have:=List.Perm.append_right Q hperm
  simpa using this
theorem pdq_ok (hc:∀a b,p a->p b->∃c,cmp a b=some c/\(c<0->le a b)/\(¬c<0->le b a)) (tr:∀a b c,le a b->le b c->le a c) (l:List α) (hl:l.length<=12) (hpl:∀x∈l,p x) (lim:Int):∃s,K3 cmp l 0 (l.length:Int) lim=some s/\s.Perm l/\s.Pairwise le:=by
 have key:∃s,Ko cmp l 0 (l.length:Int)=some s/\s.Perm l/\s.Pairwise le:=by
  unfold Ko
  have hw:w64 (0+1)=1:=rfl
  rw [hw]
  cases l with
  | nil=>exact⟨[],by rw [jb (n:=1) (o := .go ([],1)) rfl];rfl,.nil,.nil⟩
  | cons v Q =>
   obtain ⟨s,m1,m2,m3⟩:=Gr hc tr Q [v] (by simp only [List.length_cons,List.length_nil]at hl ⊢;omega) (λx hx=>hpl x (by simpa using hx)) (List.pairwise_singleton _ _)
   have e:([v].length+Q.length:Nat)=(v::Q).length:=by simp only [List.length_cons,List.length_nil];omega
   rw [e]at m1
   have:=jb m1
   refine⟨s,?_,m2,m3⟩
   show (jK (v::Q,1) _).bind _=_
   have e2:(([v]++Q,(([v]:List α).length:Int)):List α×Int)=(v::Q,1):=rfl
   rw [e2]at this
   rw [this];rfl
 obtain ⟨s,h1,h2,h3⟩:=key
 refine⟨s,?_,h2,h3⟩
 have hsm:gQ s l=some ():=by unfold gQ;rw [if_pos h2.length_eq]
 have hd:decide (w64 ((l.length:Int)-0)<=12)=true:=by
  have:(l.length:Int)-0=l.length:=by omega
  rw [this,Fw _ (by omega)];simp;omega
 have:jK () (λs=>Oc cmp (l.length:Int) 0 l lim s)=some (.ret s):=by
  refine jb (n:=1) ?_
  simp only [iterN,Oc,hd,cond_true,h1,hsm,ob_]
 unfold K3
 rw [this];rfl
end
end Go.Eng

open Go Go.Eng
namespace Go.Proofs.YtnkgapmhkhcanaaGreatDoor.Law
set_option linter.unusedVariables false
set_option linter.unusedSimpArgs false
theorem Dk (a b:Int):bW a b=max a b:=by unfold bW;split <;> omega
theorem jO {α:Type} (xs ys:List α) (h:xs.length+ys.length<=1000000000):nE xs ys=some (xs++ys):=by unfold nE;rw [if_pos h]
def gM (r:Rect):Prop:=(-100000<=r.X/\r.X<=100000)/\(-100000<=r.Y/\r.Y<=100000)/\(1<=r.W/\r.X+r.W<=100000)/\1<=r.H/\r.Y+r.H<=100000
def iA (l:List Rect) (x y:Int):Prop:=∃r∈l,(r.X<=x/\x<r.X+r.W)/\r.Y<=y/\y<r.Y+r.H
def covers (y:Int) (r:Rect):Bool:=decide (r.Y<=y)&&decide (y<r.Y+r.H)
def MO (r:Rect):Run:=⟨r.X,r.X+r.W⟩
def vo (l:List Rect) (y:Int):List Run:=(l.filter (covers y)).map MO
theorem runs_L1 (y:Int) (k:Nat) (r:Rect) (s:List Run) (h:gM r) (hs:s.length<=1000000):jm y k r s=some (.go (s++(bif covers y r then [MO r]else []))):=by
 obtain ⟨h1,h2,h3,h4⟩:=h
 unfold jm covers MO
 rw [bK (n:=r.Y+r.H) (by omega),bK (n:=r.X+r.W) (by omega)]
 rw [jO s _ (by simp;omega)]
 cases decide (r.Y<=y) <;> cases decide (y<r.Y+r.H) <;> simp
theorem BU (y:Int):∀(l:List Rect) (k:Nat) (s:List Run),(∀r∈l,gM r)->s.length+l.length<=1000000->forR (λk x s=>jm y k x s) l k s=some (.go (s++vo l y))
 | [],k,s,_,_=>by simp [forR,vo]
 | r::l,k,s,h,hl=>by
  simp only [List.length_cons]at hl
  rw [forR,runs_L1 y k r s (h r (by simp)) (by omega),ob_]
  simp only
  rw [BU y l (k+1) _ (λr hr=>h r (by simp [hr])) (by cases covers y r <;> simp <;> omega)]
  unfold vo
  rw [List.filter_cons]
  cases covers y r <;> simp
theorem JV (l:List Rect) (x y:Int):mem x (vo l y)↔iA l x y:=by
 unfold mem iA vo
 constructor
 ·rintro ⟨q,hq,k⟩
  obtain ⟨r,hr,rfl⟩:=List.mem_map.1 hq
  obtain ⟨h1,h2⟩:=List.mem_filter.1 hr
  simp only [covers,Bool.and_eq_true,decide_eq_true_eq]at h2
  exact⟨r,h1,k,h2⟩
 ·rintro ⟨r,h1,k,h2⟩
  exact⟨MO r,List.mem_map.2 ⟨r,List.mem_filter.2 ⟨h1,by simp only [covers,Bool.and_eq_true,decide_eq_true_eq];exact h2⟩,rfl⟩,k⟩
def Okr (r:Run):Prop := -100000<=r.f_from/\r.f_from<r.f_to/\r.f_to<=100000
theorem L8 {l:List Rect} (y:Int) (h:∀r∈l,gM r):∀q∈vo l y,Okr q:=by
 intro q hq
 obtain ⟨r,hr,rfl⟩:=List.mem_map.1 hq
 obtain ⟨h1,_⟩:=List.mem_filter.1 hr
 obtain ⟨k1,k2,k3,k4⟩:=h r h1
 exact⟨k1.1,by show r.X<r.X+r.W;omega,k3.2⟩
theorem len_ok:∀n:Nat,n<=12->∃k,lI (IntKind.u64.wrap (n:Int))=some k:=by
 have h:(List.range 13).all (λn=>(lI (IntKind.u64.wrap (n:Int))).isSome)=true:=by kernel_rfl
 intro n hn
 have:=List.all_eq_true.1 h n (by simp;omega)
 exact Option.isSome_iff_exists.1 this
theorem pdq_eq (l:List Run) (b lim:Int):bU l 0 b lim=K3 nN l 0 b lim:=rfl
theorem I4 (l:List Run) (hl:l.length<=12) (h:∀q∈l,Okr q):∃s,bB l=some s/\s.Perm l/\s.Pairwise (λa b=>a.f_from<=b.f_from):=by
 obtain ⟨k,hk⟩:=len_ok l.length hl
 obtain ⟨s,h1,h2,h3⟩:=pdq_ok (cmp:=nN) (le:=λa b=>a.f_from<=b.f_from) (p:=Okr) (λa b ha hb=>by
  obtain ⟨a1,a2,a3⟩:=ha
  obtain ⟨b1,b2,b3⟩:=hb
  refine⟨w64 (a.f_from-b.f_from),rfl,?_,?_⟩ <;> (rw [bK (by omega)];intro;omega)) (λa b c h1 h2=>Int.le_trans h1 h2) l hl h k
 refine⟨s,?_,h2,h3⟩
 have hsm:gQ s l=some ():=by unfold gQ;rw [if_pos h2.length_eq]
 unfold bB
 rw [hk,ob_,pdq_eq,h1,ob_,hsm,ob_]
theorem Nb (k:Nat) (r:Run):gD k r []=some (.go [r]):=by
 unfold gD
 have:decide (w64 (((([]:List Run).length:Nat):Int)-1)>=0)=false:=rfl
 rw [this,cond_false,ob_,cond_false,jO _ _ (by simp)];rfl
theorem Nl (k:Nat) (r q:Run) (L:List Run) (hL:L.length<=1000000):gD k r (L++[q])=some (.go (bif decide (r.f_from<=q.f_to)then L++[⟨q.f_from,max q.f_to r.f_to⟩]else L++[q]++[r])):=by
 have hw:w64 (((L++[q]).length:Int)-1)=(L.length:Int):=by rw [bK (by simp;omega)];simp
 have hd:decide ((L.length:Int)>=0)=true:=by simp
 have hr:inR (L.length:Int) (L++[q])=some ():=Im (by simp)
 have hg:(L++[q])[0+((L.length:Nat):Int).toNat]? = some q:=by rw [show 0+((L.length:Nat):Int).toNat=L.length by omega];simp
 have hs:∀x,(L++[q]).set (0+((L.length:Nat):Int).toNat) x=L++[x]:=λx=>by
  rw [show 0+((L.length:Nat):Int).toNat=L.length by omega,List.set_append_right _ _ (Nat.le_refl _)];simp
 unfold gD
 simp only [hw,hd,cond_true,hr,hg,hs,ob_,Dk]
 rw [jO _ _ (by simp;omega)]
 cases decide (r.f_from<=q.f_to) <;> rfl
theorem u6:∀(rest:List Run) (k:Nat) (out:List Run),(∀r∈rest,Okr r)->(∀o∈out,∀r∈rest,o.f_from<=r.f_from)->rest.Pairwise (λa b=>a.f_from<=b.f_from)->out.length+rest.length<=1000000->bg (-200000) out->(∀o∈out,Okr o) ->
  ∃out',forR (λk x s=>gD k x s) rest k out=some (.go out')/\bg (-200000) out'/\(∀x,mem x out'↔mem x out\/mem x rest)/\out'.length<=out.length+rest.length/\∀o∈out',Okr o
 | [],k,out,_,_,_,_,hc,ho=>⟨out,rfl,hc,λx=>by simp [iJ],Nat.le_refl _,ho⟩
 | r::rest,k,out,hr,hso,hsr,hl,hc,ho=>by
  simp only [List.length_cons]at hl
  obtain ⟨r1,r2,r3⟩:=hr r (by simp)
  obtain ⟨p1,p2⟩:=List.pairwise_cons.1 hsr
  rw [forR]
  rcases List.eq_nil_or_concat out with h|⟨L,q,h⟩
  ·subst h
   rw [Nb,ob_]
   obtain ⟨out',k1,k2,k3,k4,k5⟩:=u6 rest (k+1) [r] (λq hq=>hr q (by simp [hq])) (λo ho q hq=>by rw [List.mem_singleton]at ho;subst ho;exact p1 q hq) p2 (by simp;omega) ⟨by omega,r2,trivial⟩ (λo ho=>by rw [List.mem_singleton]at ho;subst ho;exact⟨r1,r2,r3⟩)
   refine⟨out',k1,k2,λx => ?_,by simp at k4 ⊢;omega,k5⟩
   rw [k3,mem_cons,mem_cons];simp [iJ]
  ·subst h
   simp only [List.concat_eq_append]at hso hl hc ho ⊢
   simp only [List.length_append,List.length_cons,List.length_nil]at hl
   rw [Nl k r q L (by omega),ob_]
   obtain ⟨c1,c2⟩:=rV.1 hc
   obtain ⟨c3,c4,_⟩:=c2
   have hqr:q.f_from<=r.f_from:=hso q (by simp) r (by simp)
   obtain ⟨q1,q2,q3⟩:=ho q (by simp)
   by_cases hd:r.f_from<=q.f_to
   ·simp only [decide_eq_true hd,cond_true]
    obtain ⟨out',k1,k2,k3,k4,k5⟩:=u6 rest (k+1) (L++[⟨q.f_from,max q.f_to r.f_to⟩]) (λq hq=>hr q (by simp [hq])) (λo ho z hz=>by
     rcases List.mem_append.1 ho with ho|ho
     ·exact hso o (by simp [ho]) z (by simp [hz])
     ·rw [List.mem_singleton]at ho;subst ho;exact hso q (by simp) z (by simp [hz])) p2 (by simp;omega) (rV.2 ⟨c1,c3,by show q.f_from<max q.f_to r.f_to;omega,trivial⟩) (λo ho'=>by
     rcases List.mem_append.1 ho' with ho'|ho'
     ·exact ho o (by simp [ho'])
     ·rw [List.mem_singleton]at ho';subst ho';exact⟨q1,by show q.f_from<max q.f_to r.f_to;omega,by show max q.f_to r.f_to<=100000;omega⟩)
    refine⟨out',k1,k2,λx => ?_,by simp at k4 ⊢;omega,k5⟩
    rw [k3,zT,zT,mem_cons,mem_cons,mem_cons]
    simp only [iJ,or_false]
    constructor
    ·rintro ((h|h) | h)
     ·exact .inl (.inl h)
     ·by_cases hx:x<q.f_to
      ·exact .inl (.inr ⟨h.1,hx⟩)
      ·exact .inr (.inl ⟨by omega,by omega⟩)
     ·exact .inr (.inr h)
    ·rintro ((h|h) | (h|h))
     ·exact .inl (.inl h)
     ·exact .inl (.inr ⟨h.1,by omega⟩)
     ·exact .inl (.inr ⟨by omega,by omega⟩)
     ·exact .inr h
   ·simp only [decide_eq_false hd,cond_false]
    have hend:uH (-200000) (L++[q])=q.f_to:=by rw [IL];rfl
    obtain ⟨out',k1,k2,k3,k4,k5⟩:=u6 rest (k+1) (L++[q]++[r]) (λq hq=>hr q (by simp [hq])) (λo ho z hz=>by
     rcases List.mem_append.1 ho with ho|ho
     ·exact hso o ho z (by simp [hz])
     ·rw [List.mem_singleton]at ho;subst ho;exact p1 z hz) p2 (by simp;omega) (rV.2 ⟨hc,by rw [hend];omega,r2,trivial⟩) (λo ho'=>by
     rcases List.mem_append.1 ho' with ho'|ho'
     ·exact ho o ho'
     ·rw [List.mem_singleton]at ho';subst ho';exact⟨r1,r2,r3⟩)
    refine⟨out',k1,k2,λx => ?_,by simp at k4 ⊢;omega,k5⟩
    rw [k3,zT,mem_cons,mem_cons]
    simp only [iJ,or_false,or_assoc]
theorem runs_ok (l:List Rect) (y:Int) (h:∀r∈l,gM r) (hl:l.length<=12):∃R,fH l y=some R/\bg (-200000) R/\(∀x,mem x R↔iA l x y)/\R.length<=l.length/\∀r∈R,Okr r:=by
 have hb:=L8 y h
 have hbl:(vo l y).length<=l.length:=by unfold vo;rw [List.length_map];exact List.length_filter_le _ _
 obtain ⟨s,h1,h2,h3⟩:=I4 (vo l y) (by omega) hb
 obtain ⟨R,k1,k2,k3,k4,k5⟩:=u6 s 0 [] (λr hr=>hb r (h2.mem_iff.1 hr)) (λo ho=>by cases ho) h3 (by rw [h2.length_eq];simp;omega) trivial (λo ho=>by cases ho)
 have hsm:gQ s (vo l y)=some ():=by unfold gQ;rw [if_pos h2.length_eq]
 refine⟨R,?_,k2,λx => ?_,by rw [h2.length_eq]at k4;simp at k4;omega,k5⟩
 ·unfold fH
  rw [dz (by omega),BU y l 0 [] h (by simp;omega),ob_]
  simp only [List.nil_append,thenC]
  rw [h1,ob_,hsm,ob_,dz (by rw [h2.length_eq];omega),k1];rfl
 ·rw [k3,<- JV]
  simp only [iJ,false_or]
  unfold mem
  exact⟨fun⟨r,hr,k⟩=>⟨r,h2.mem_iff.1 hr,k⟩,fun⟨r,hr,k⟩=>⟨r,h2.mem_iff.2 hr,k⟩⟩
end Go.Proofs.YtnkgapmhkhcanaaGreatDoor.Law

open Go Go.Eng
namespace Go.Proofs.YtnkgapmhkhcanaaGreatDoor.Law
set_option linter.unusedVariables false
set_option linter.unusedSimpArgs false
theorem GZ (m:List Run) (r:Run) (hm:m.length<=1000000):∀(n k:Nat),k+n=m.length->(∀i (h:i<m.length),i<k->m[i].f_to<=r.f_from) ->
  ∃k',k<=k'/\k'<=m.length/\iterN (λs=>fM m r s) (n+1) (k:Int)=some (.go (k':Int))/\(∀i (h:i<m.length),i<k'->m[i].f_to<=r.f_from)
 | 0,k,hk,hb=>by
  refine⟨k,Nat.le_refl _,by omega,?_,hb⟩
  have hc:decide ((k:Int)<(m.length:Int))=false:=by simp;omega
  simp only [iterN,fM,hc,cond_false,ob_]
 | n+1,k,hk,hb=>by
  have hlt:k<m.length:=by omega
  have hc:decide ((k:Int)<(m.length:Int))=true:=by simp;omega
  have hi:idx m (k:Int)=some m[k]:=by rw [tT,List.getElem?_eq_getElem hlt]
  rw [iterN]
  by_cases h:m[k].f_to<=r.f_from
  ·obtain ⟨k',h1,h2,h3,h4⟩:=GZ m r hm n (k+1) (by omega) (λi hi hik=>by
    by_cases e:i=k
    ·subst e;exact h
    ·exact hb i hi (by omega))
   refine⟨k',by omega,h2,?_,h4⟩
   have:fM m r (k:Int)=some (.go ((k+1:Nat):Int)):=by
    unfold fM
    rw [hc,cond_true,hi,ob_,decide_eq_true h,ob_,cond_true,bK (by omega)];rfl
   rw [this];exact h3
  ·refine⟨k,Nat.le_refl _,by omega,?_,hb⟩
   have:fM m r (k:Int)=some (.brk (k:Int)):=by
    unfold fM
    rw [hc,cond_true,hi,ob_,decide_eq_false h,ob_,cond_false]
   rw [this];rfl
theorem DI (m:List Run) (r:Run) (hm:m.length<=1000000):∀(n i:Nat) (out:List Run) (rf:Int),i+n=m.length->out.length+n<=10000000 ->
  ∃(out':List Run) (i' rf':Int),iterN (λs=>eD m r s) (n+1) (out,(i:Int),rf)=some (.go (out',i',rf'))/\out'++(bif decide (rf'<r.f_to)then [⟨rf',r.f_to⟩]else [])=out++sub r.f_to rf (m.drop i)/\out'.length<=out.length+n
 | 0,i,out,rf,hi,ho=>by
  refine⟨out,i,rf,?_,?_,by omega⟩
  ·have hc:decide ((i:Int)<(m.length:Int))=false:=by simp;omega
   simp only [iterN,eD,hc,cond_false,ob_]
  ·rw [show m.drop i=[] from List.drop_eq_nil_of_le (by omega)];rfl
 | n+1,i,out,rf,hi,ho=>by
  have hlt:i<m.length:=by omega
  have hc:decide ((i:Int)<(m.length:Int))=true:=by simp;omega
  have hx:idx m (i:Int)=some m[i]:=by rw [tT,List.getElem?_eq_getElem hlt]
  have hdr:m.drop i=m[i]::m.drop (i+1):=List.drop_eq_getElem_cons hlt
  have hw:w64 ((i:Int)+1)=((i+1:Nat):Int):=by rw [bK (by omega)];rfl
  rw [iterN,hdr]
  simp only [sub]
  by_cases h:m[i].f_from<r.f_to
  ·simp only [decide_eq_true h,cond_true]
   by_cases k:m[i].f_from>rf
   ·obtain ⟨out',i',rf',h1,h2,h3⟩:=DI m r hm n (i+1) (out++[⟨rf,m[i].f_from⟩]) (max rf m[i].f_to) (by omega) (by simp;omega)
    refine⟨out',i',rf',?_,?_,by simp at h3;omega⟩
    ·have:eD m r (out,(i:Int),rf)=some (.go (out++[⟨rf,m[i].f_from⟩],((i+1:Nat):Int),max rf m[i].f_to)):=by
      unfold eD
      simp only [hc,cond_true,hx,ob_,decide_eq_true h,decide_eq_true k,hw,Dk]
      rw [jO _ _ (by simp;omega)];rfl
     rw [this];exact h1
    ·rw [h2];simp only [decide_eq_true k,cond_true,List.append_assoc]
   ·obtain ⟨out',i',rf',h1,h2,h3⟩:=DI m r hm n (i+1) out (max rf m[i].f_to) (by omega) (by omega)
    refine⟨out',i',rf',?_,?_,by omega⟩
    ·have:eD m r (out,(i:Int),rf)=some (.go (out,((i+1:Nat):Int),max rf m[i].f_to)):=by
      unfold eD
      simp only [hc,cond_true,hx,ob_,decide_eq_true h,decide_eq_false k,hw,Dk,cond_false]
     rw [this];exact h1
    ·rw [h2];simp only [decide_eq_false k,cond_false,List.nil_append]
  ·refine⟨out,i,rf,?_,?_,by omega⟩
   ·have:eD m r (out,(i:Int),rf)=some (.brk (out,(i:Int),rf)):=by
     unfold eD
     simp only [hc,cond_true,hx,ob_,decide_eq_false h,cond_false]
    rw [this];rfl
   ·simp only [decide_eq_false h,cond_false]
theorem K9 (m:List Run) (r:Run) (hm:m.length<=1000) (q k:Nat) (out:List Run) (hk:k<=m.length) (ho:out.length<=1000000) (hb:∀i (h:i<m.length),i<k->m[i].f_to<=r.f_from) :
  ∃k',k'<=m.length/\(∀i (h:i<m.length),i<k'->m[i].f_to<=r.f_from)/\iw m q r (out,(k:Int))=some (.go (out++sub r.f_to r.f_from (m.drop k'),(k':Int))):=by
 obtain ⟨k',h1,h2,h3,h4⟩:=GZ m r (by omega) (m.length-k) k (by omega) hb
 obtain ⟨out',i',rf',g1,g2,g3⟩:=DI m r (by omega) (m.length-k') k' out r.f_from (by omega) (by omega)
 refine⟨k',h2,h4,?_⟩
 unfold iw
 simp only [jb h3,jb g1,ob_,thenC]
 rw [<- g2,jO _ _ (by simp;omega)]
 cases decide (rf'<r.f_to) <;> simp
theorem G6 (m:List Run) (c:Int) (hm:m.length<=1000) (hcm:bg c m):∀(l:List Run) (q k:Nat) (out:List Run) (lo:Int),bg lo l->uH (-200000) out<=lo->bg (-200000) out -> -200000<=lo->k<=m.length->(∀i (h:i<m.length),i<k->m[i].f_to<=lo) ->
  out.length+l.length*(m.length+1)<=1000000 ->
  ∃(out':List Run) (k':Int),forR (λk x s=>iw m k x s) l q (out,(k:Int))=some (.go (out',k'))/\bg (-200000) out'/\(∀x,mem x out'↔mem x out\/(mem x l/\¬mem x m))/\out'.length<=out.length+l.length*(m.length+1)/\(∀r∈out',r∈out\/∃z∈l,z.f_from<=r.f_from/\r.f_to<=z.f_to)
 | [],q,k,out,lo,_,_,hco,_,hk,hb,_=>⟨out,k,rfl,hco,λx=>by simp [iJ],by omega,λr hr => .inl hr⟩
 | r::l,q,k,out,lo,⟨c1,c2,c3⟩,he,hco,hlo,hk,hb,hlen=>by
  simp only [List.length_cons,Nat.succ_mul]at hlen
  obtain ⟨k',h1,h2,h3⟩:=K9 m r hm q k out hk (by omega) (λi hi hik=>by have:=hb i hi hik;omega)
  have hdc:∃c',bg c' (m.drop k'):=by
   have hsp:=hcm
   rw [<- List.take_append_drop k' m]at hsp
   exact⟨_,(rV.1 hsp).2⟩
  obtain ⟨c',hdc⟩:=hdc
  have hmem:∀x,r.f_from<=x->(mem x m↔mem x (m.drop k')):=λx hx=>by
   constructor
   ·rintro ⟨z,hz,j1,j2⟩
    obtain ⟨i,hi,rfl⟩:=List.getElem_of_mem hz
    by_cases hik:i<k'
    ·have:=h2 i hi hik;omega
    ·exact⟨m[i],List.mem_iff_getElem.2 ⟨i-k',by rw [List.length_drop];omega,by rw [List.getElem_drop];congr 1;omega⟩,j1,j2⟩
   ·rintro ⟨z,hz,j⟩
    exact⟨z,List.mem_of_mem_drop hz,j⟩
  obtain ⟨s1,s2,s3⟩:=AX r.f_to (m.drop k') r.f_from c' (uH (-200000) out) hdc (by omega)
  have hsm:=λx=>Mj r.f_to x (m.drop k') r.f_from c' hdc
  have hcn:bg (-200000) (out++sub r.f_to r.f_from (m.drop k')):=rV.2 ⟨hco,s1⟩
  have hdl:(m.drop k').length<=m.length:=by rw [List.length_drop];omega
  have hend:uH (-200000) (out++sub r.f_to r.f_from (m.drop k'))<=r.f_to:=by
   rw [IL]
   have key:∀(L:List Run) (a:Int),(∀z∈L,z.f_to<=r.f_to)->a<=r.f_to->uH a L<=r.f_to:=by
    intro L
    induction L with
    | nil=>exact λa _ h=>h
    | cons z L ih=>exact λa h _=>ih z.f_to (λw hw=>h w (by simp [hw])) (h z (by simp))
   exact key _ _ (λz hz=>(s3 z hz).2) (by omega)
  obtain ⟨out',kk,g1,g2,g3,g4,g5⟩:=G6 m c hm hcm l (q+1) k' (out++sub r.f_to r.f_from (m.drop k')) r.f_to c3 hend hcn (by omega) h1 (λi hi hik=>by have:=h2 i hi hik;omega) (by simp only [List.length_append];omega)
  refine⟨out',kk,by rw [forR,h3,ob_];exact g1,g2,λx => ?_,by simp only [List.length_append]at g4;simp only [List.length_cons,Nat.succ_mul];omega,λz hz => ?_⟩
  ·rw [g3,zT,hsm,mem_cons,or_assoc]
   refine or_congr Iff.rfl ?_
   constructor
   ·rintro (⟨j1,j2⟩|⟨j1,j2⟩)
    ·exact⟨.inl j1,λj=>j2 ((hmem x j1.1).1 j)⟩
    ·exact⟨.inr j1,j2⟩
   ·rintro ⟨j1|j1,j2⟩
    ·exact .inl ⟨j1,λj=>j2 ((hmem x j1.1).2 j)⟩
    ·exact .inr ⟨j1,j2⟩
  ·rcases g5 z hz with hz|⟨w,hw,j⟩
   ·rcases List.mem_append.1 hz with hz|hz
    ·exact .inl hz
    ·exact .inr ⟨r,by simp,s3 z hz⟩
   ·exact .inr ⟨w,by simp [hw],j⟩
theorem less_ok (l m:List Run) (hl:bg (-200000) l) (hm:bg (-200000) m) (hol:∀r∈l,Okr r) (h1:l.length<=12) (h2:m.length<=12):∃R,jP l m=some R/\bg (-200000) R/\(∀x,mem x R↔mem x l/\¬mem x m)/\R.length<=l.length*(m.length+1)/\∀r∈R,Okr r:=by
 have hb:l.length*(m.length+1)<=12*13:=Nat.mul_le_mul h1 (by omega)
 obtain ⟨R,k,g1,g2,g3,g4,g5⟩:=G6 m _ (by omega) hm l 0 0 [] (-200000) hl (Int.le_refl _) trivial (Int.le_refl _) (Nat.zero_le _) (λi hi h=>absurd h (Nat.not_lt_zero i)) (by simp;omega)
 refine⟨R,?_,g2,λx=>by rw [g3];simp [iJ],by simpa using g4,λr hr => ?_⟩
 ·unfold jP
  rw [dz (by omega)]
  rw [show ((0:Nat):Int)=0 from rfl]at g1
  rw [g1];rfl
 ·rcases g5 r hr with h|⟨z,hz,j1,j2⟩
  ·cases h
  ·obtain ⟨o1,o2,o3⟩:=hol z hz
   have:=g2.lo r hr
   exact⟨by omega,this.2,by omega⟩
end Go.Proofs.YtnkgapmhkhcanaaGreatDoor.Law

open Go Go.Eng
namespace Go.Proofs.YtnkgapmhkhcanaaGreatDoor.Law
set_option linter.unusedVariables false
set_option linter.unusedSimpArgs false
def dd:List Int->List Int
 | []=>[]
 | [x]=>[x]
 | x::y::l=>bif x==y then dd (y::l)else x::dd (y::l)
theorem LP (x:Int):∀(l:List Int) (b:Int),l.getLast? = some b->dd (l++[x])=bif b==x then dd l else dd l++[x]
 | [],b,h=>by cases h
 | [a],b,h=>by
  simp only [List.getLast?_singleton,so_]at h
  subst h
  simp only [List.cons_append,List.nil_append,dd]
  cases hx:a==x with
  | true=>rw [eq_of_beq hx]
  | false=>rfl
 | a::c::l,b,h=>by
  have ih:=LP x (c::l) b (by rw [<- h];simp [List.getLast?_cons_cons])
  simp only [List.cons_append]at ih ⊢
  rw [dd,ih,dd]
  cases a==c <;> cases b==x <;> rfl
theorem Md (s:List Int) (p:Nat) (a b:Int) (hp:1<=p) (ha:s[p]? = some a) (hb:s[p-1]? = some b):dd (s.take (p+1))=bif b==a then dd (s.take p)else dd (s.take p)++[a]:=by
 have hlt:=(List.getElem?_eq_some_iff.1 ha).1
 have e:s.take (p+1)=s.take p++[a]:=by rw [List.take_add_one,ha];rfl
 rw [e]
 refine LP a _ b ?_
 rw [List.getLast?_eq_getElem?,List.length_take,List.getElem?_take,if_pos (by omega),<- hb]
 congr 1;omega
theorem IV (x:Int):∀l:List Int,x∈dd l↔x∈l
 | []=>Iff.rfl
 | [a]=>Iff.rfl
 | a::b::l=>by
  rw [dd]
  cases h:a==b with
  | true =>
   rw [cond_true,IV x (b::l),eq_of_beq h];simp
  | false=>rw [cond_false,List.mem_cons,IV x (b::l),List.mem_cons (a:=x) (b:=a)]
theorem Ic:∀l:List Int,l.Pairwise (· <= ·)->(dd l).Pairwise (· < ·)
 | [],_ => .nil
 | [a],_=>List.pairwise_singleton _ _
 | a::b::l,h=>by
  rw [dd]
  obtain ⟨h1,h2⟩:=List.pairwise_cons.1 h
  cases hx:a==b with
  | true=>exact Ic (b::l) h2
  | false =>
   refine List.pairwise_cons.2 ⟨λc hc => ?_,Ic (b::l) h2⟩
   have hc:=(IV c (b::l)).1 hc
   have hab:a<b:=by
    have:=h1 b (by simp)
    have hne:a≠b:=by simpa using hx
    omega
   rcases List.mem_cons.1 hc with rfl|hc
   ·exact hab
   ·have:=(List.pairwise_cons.1 h2).1 c hc;omega
theorem OH:∀l:List Int,(dd l).length<=l.length
 | []=>Nat.le_refl _
 | [a]=>Nat.le_refl _
 | a::b::l=>by
  have:=OH (b::l)
  rw [dd]
  cases a==b with
  | true=>rw [cond_true];simp only [List.length_cons]at *;omega
  | false=>rw [cond_false];simp only [List.length_cons]at *;omega
theorem O0 {i:Int} {n:Nat} (h0:0<=i) (h1:i<n):inN i n=some ():=by unfold inN;rw [if_pos ⟨h0,by omega⟩]
theorem H9 {α:Type} {xs:List α} {i:Nat} (h:i<xs.length):inR (i:Int) xs=some ():=by
 unfold inR;rw [if_pos ⟨by omega,by simpa using h⟩]
theorem comp_L1 (s data:List Int) (k0 i2 k:Nat) (a b:Int) (hn:s.length<=1000000000) (hd:data.length=s.length) (h1:1<=i2) (hp:k0+i2<s.length) (hk:k<s.length) (ha:data[k0+i2]? = some a) (hb:data[k0+i2-1]? = some b) :
  bS s (k0:Int) (data,(k:Int),(i2:Int))=some (.go (bif b==a then (data,(k:Int),((i2+1:Nat):Int))else (data.set k a,((k+1:Nat):Int),((i2+1:Nat):Int)))):=by
 unfold bS
 have e0:((s.length:Int).toNat-(k0:Int).toNat)=s.length-k0:=by omega
 have hc:decide ((i2:Int)<((s.length-k0:Nat):Int))=true:=by simp;omega
 have hw:w64 ((i2:Int)-1)=((i2-1:Nat):Int):=by rw [bK (by omega)];omega
 have hw2:w64 ((i2:Int)+1)=((i2+1:Nat):Int):=by rw [bK (by omega)];omega
 have hw3:w64 ((k:Int)+1)=((k+1:Nat):Int):=by rw [bK (by omega)];omega
 have i1:inN (i2:Int) (s.length-k0)=some ():=O0 (by omega) (by omega)
 have i3:inN ((i2-1:Nat):Int) (s.length-k0)=some ():=O0 (by omega) (by omega)
 have i4:inR (k:Int) data=some ():=H9 (by omega)
 have g1:(k0:Int).toNat+(i2:Int).toNat=k0+i2:=by omega
 have g2:(k0:Int).toNat+((i2-1:Nat):Int).toNat=k0+i2-1:=by omega
 have g3:0+(k:Int).toNat=k:=by omega
 have hkd:data[k]? = some data[k]:=List.getElem?_eq_getElem (by omega)
 simp only [e0,hc,cond_true,hw,hw2,hw3,i1,i3,i4,g1,g2,g3,ob_,ha,hb,hkd]
 have hne:(a != b) = !(b==a):=by rw [bne_comm];rfl
 rw [hne]
 cases b==a <;> rfl
theorem zx (s:List Int) (k0:Nat) (hn:s.length<=1000000000):∀(m i2 k:Nat) (data:List Int),k0+i2+m=s.length->1<=i2->data.length=s.length->k<=k0+i2-1->data.take k=dd (s.take (k0+i2))->data.drop (k0+i2-1)=s.drop (k0+i2-1) ->
  ∃(data':List Int) (k':Nat),iterN (λt=>bS s (k0:Int) t) (m+1) (data,(k:Int),(i2:Int))=some (.go (data',(k':Int),((s.length-k0:Nat):Int)))/\data'.length=s.length/\k'<=s.length/\data'.take k'=dd s
 | 0,i2,k,data,hm,h1,hd,hk,ht,hr=>by
  refine⟨data,k,?_,hd,by omega,?_⟩
  ·have e0:((s.length:Int).toNat-(k0:Int).toNat)=s.length-k0:=by omega
   have hc:decide ((i2:Int)<((s.length-k0:Nat):Int))=false:=by simp;omega
   simp only [iterN,bS,e0,hc,cond_false,ob_]
   rw [show s.length-k0=i2 by omega]
  ·rw [ht,show k0+i2=s.length by omega,List.take_length]
 | m+1,i2,k,data,hm,h1,hd,hk,ht,hr=>by
  have hp:k0+i2<s.length:=by omega
  have hga:data[k0+i2]? = some s[k0+i2]:=by
   have:=congrArg (λl=>l[1]?) hr
   simp only [List.getElem?_drop]at this
   rw [show k0+i2-1+1=k0+i2 by omega]at this
   rw [this,List.getElem?_eq_getElem hp]
  have hgb:data[k0+i2-1]? = some (s[k0+i2-1]'(by omega)):=by
   have:=congrArg (λl=>l[0]?) hr
   simp only [List.getElem?_drop,Nat.add_zero]at this
   rw [this,List.getElem?_eq_getElem (by omega)]
  have hdt:=Md s (k0+i2) s[k0+i2] (s[k0+i2-1]'(by omega)) (by omega) (List.getElem?_eq_getElem hp) (List.getElem?_eq_getElem (by omega))
  rw [iterN,comp_L1 s data k0 i2 k _ _ hn hd h1 hp (by omega) hga hgb,ob_]
  cases hx:s[k0+i2-1]'(by omega)==s[k0+i2]with
  | true =>
   rw [hx,cond_true]at hdt
   simp only [cond_true]
   refine zx s k0 hn m (i2+1) k data (by omega) (by omega) hd (by omega) (by rw [ht,<- hdt];rfl) ?_
   have:=congrArg (List.drop 1) hr
   simp only [List.drop_drop]at this
   rw [show k0+i2-1+1=k0+(i2+1)-1 by omega]at this
   exact this
  | false =>
   rw [hx,cond_false]at hdt
   simp only [cond_false]
   have hkl:k<data.length:=by omega
   refine zx s k0 hn m (i2+1) (k+1) (data.set k s[k0+i2]) (by omega) (by omega) (by simpa using hd) (by omega) ?_ ?_
   ·rw [List.take_add_one,List.getElem?_set_self hkl,List.take_set_of_le (Nat.le_refl _),ht]
    show _=dd (s.take (k0+i2+1))
    rw [hdt];rfl
   ·rw [List.drop_set_of_lt (by omega)]
    have:=congrArg (List.drop 1) hr
    simp only [List.drop_drop]at this
    rw [show k0+i2-1+1=k0+(i2+1)-1 by omega]at this
    exact this
theorem Ea (s:List Int) (hn:s.length<=1000000000):∀(m i:Nat),i+m=s.length->1<=i->dd (s.take i)=s.take i ->
  (iterN (λt=>aX s t) (m+1) (i:Int)=some (.go (s.length:Int))/\dd s=s)\/iterN (λt=>aX s t) (m+1) (i:Int)=some (.ret (dd s))
 | 0,i,hm,h1,hd=>by
  refine .inl ⟨?_,?_⟩
  ·have hc:decide ((i:Int)<(s.length:Int))=false:=by simp;omega
   simp only [iterN,aX,hc,cond_false,ob_]
   rw [show i=s.length by omega]
  ·rw [show i=s.length by omega,List.take_length]at hd;exact hd
 | m+1,i,hm,h1,hd=>by
  have hi:i<s.length:=by omega
  have hc:decide ((i:Int)<(s.length:Int))=true:=by simp;omega
  have hw:w64 ((i:Int)-1)=((i-1:Nat):Int):=by rw [bK (by omega)];omega
  have hw2:w64 ((i:Int)+1)=((i+1:Nat):Int):=by rw [bK (by omega)];omega
  have e1:0+(i:Int).toNat=i:=by omega
  have e2:0+((i-1:Nat):Int).toNat=i-1:=by omega
  have hga:s[i]? = some s[i]:=List.getElem?_eq_getElem hi
  have hgb:s[i-1]? = some (s[i-1]'(by omega)):=List.getElem?_eq_getElem (by omega)
  have hdt:=Md s i s[i] (s[i-1]'(by omega)) h1 hga hgb
  have i1:inR (i:Int) s=some ():=H9 hi
  have i2:inR ((i-1:Nat):Int) s=some ():=H9 (by omega)
  rw [iterN]
  have hswap:(s[i]==s[i-1]'(by omega))=(s[i-1]'(by omega)==s[i]):=by rw [BEq.comm]
  cases hx:s[i-1]'(by omega)==s[i]with
  | false =>
   have:aX s (i:Int)=some (.go ((i+1:Nat):Int)):=by
    unfold aX
    simp only [hc,cond_true,hw,hw2,e1,e2,i1,i2,hga,hgb,ob_,hswap,hx,cond_false]
   rw [this,ob_]
   rw [hx,cond_false,hd]at hdt
   refine Ea s hn m (i+1) (by omega) (by omega) ?_
   rw [hdt,List.take_add_one,hga];rfl
  | true =>
   right
   rw [hx,cond_true,hd]at hdt
   obtain ⟨data',k',q1,q2,q3,q4⟩:=zx s i hn (s.length-(i+1)) 1 i s (by omega) (by omega) rfl (by omega) hdt.symm rfl
   have hlo:=jb q1
   have hne:neL s=some ():=by
    cases s with
    | nil=>simp at hi
    | cons a l=>rfl
   have hsr:wV s (i:Int) (s.length:Int)=some ():=by unfold wV;rw [if_pos ⟨by omega,by omega,by omega,by omega⟩]
   have hsr2:wV data' (k':Int) (data'.length:Int)=some ():=by unfold wV;rw [if_pos ⟨by omega,by omega,by omega,by omega⟩]
   have hlen:(data'.take k'++List.replicate (data'.length-k') (0:Int)++data'.drop (k'+(data'.length-k'))).length=data'.length:=by simp;omega
   have hsr3:wV (data'.take k'++List.replicate (data'.length-k') (0:Int)++data'.drop (k'+(data'.length-k'))) 0 (k':Int)=some ():=by unfold wV;rw [if_pos ⟨by omega,by omega,by omega,by rw [hlen];omega⟩]
   have n1:((data'.length:Int)).toNat=data'.length:=by omega
   have n2:(k':Int).toNat=k':=by omega
   have:aX s (i:Int)=some (.ret (dd s)):=by
    unfold aX
    have one:((1:Nat):Int)=1:=rfl
    rw [one]at hlo
    simp only [hc,cond_true,hw,e1,e2,i1,i2,hga,hgb,ob_,hswap,hx,hne,hsr,hlo,thenC,hsr2,n1,n2,hsr3]
    congr 2
    show List.take k' (List.drop 0 _)=dd s
    rw [List.drop_zero,List.append_assoc,List.take_append_of_le_length (by rw [List.length_take];omega),List.take_take,Nat.min_self,q4]
   rw [this];rfl
theorem Lc (s:List Int) (hn:s.length<=1000000000):bX s=some (dd s):=by
 unfold bX
 by_cases h:(s.length:Int)<2
 ·rw [decide_eq_true h,cond_true]
  match s,h with
  | [],_=>rfl
  | [a],_=>rfl
  | a::b::l,h=>simp at h;omega
 ·rw [decide_eq_false h,cond_false]
  have h1:dd (s.take 1)=s.take 1:=by
   match s with
   | []=>rfl
   | a::l=>rfl
  rcases Ea s hn (s.length-1) 1 (by omega) (Nat.le_refl _) h1 with⟨h2,h3⟩|h2
  ·have:=jb h2
   show (jK 1 _).bind _=_
   rw [show ((1:Nat):Int)=1 from rfl]at this
   rw [this,h3];rfl
  ·have:=jb h2
   show (jK 1 _).bind _=_
   rw [show ((1:Nat):Int)=1 from rfl]at this
   rw [this];rfl
theorem sortC (e:List Int) (hn:e.length<=1000000000):∃s c,dK e=some s/\s.length=e.length/\bX s=some c/\c.Pairwise (· < ·)/\(∀x,x∈c↔x∈e)/\c.length<=e.length:=by
 have hs:dK e=some (e.mergeSort λx y=>decide (x<=y)):=by
  unfold dK JW;rw [if_pos (by omega)]
 have hl:(e.mergeSort λx y=>decide (x<=y)).length=e.length:=List.length_mergeSort e
 refine⟨_,_,hs,hl,Lc _ (by rw [hl];exact hn),Ic _ ?_,λx => ?_,by rw [<- hl];exact OH _⟩
 ·have:=List.pairwise_mergeSort (le:=λ(x y:Int)=>decide (x<=y)) (λa b c=>by simp;omega) (λa b=>by simp;omega) e
  exact this.imp (by simp)
 ·rw [IV];exact List.mem_mergeSort
end Go.Proofs.YtnkgapmhkhcanaaGreatDoor.Law

open Go Go.Eng
namespace Go.Proofs.YtnkgapmhkhcanaaGreatDoor.Law
set_option linter.unusedVariables false
set_option linter.unusedSimpArgs false
def y9 (y h:Int) (r:Run):Rect:=⟨r.f_from,y,r.f_to-r.f_from,h⟩
def Bd (x:Int):Prop := -100000<=x/\x<=100000
section
variable {is:Int->Int->Option Bool} {xs ys:List Int} {s13:(List Rect)×(List Rect)×Int} {y y2:Int} {j:Nat}
end
end Go.Proofs.YtnkgapmhkhcanaaGreatDoor.Law

open Go Go.Eng
namespace Go.Proofs.YtnkgapmhkhcanaaGreatDoor.Law
set_option linter.unusedVariables false
set_option linter.unusedSimpArgs false
theorem Run.eq {a b:Run} (h1:a.f_from=b.f_from) (h2:a.f_to=b.f_to):a=b:=by
 obtain ⟨x,y⟩:=a
 obtain ⟨z,w⟩:=b
 simp only at h1 h2
 rw [h1,h2]
theorem I8 (b:List Run):∀(a:List Run) (k:Nat),b.length=k+a.length ->
  (forR (λk x s=>bG b k x s) a k ()=some (.go ())/\a=b.drop k)\/(forR (λk x s=>bG b k x s) a k ()=some (.ret false)/\a≠b.drop k)
 | [],k,h => .inl ⟨rfl,by simp at h;rw [List.drop_eq_nil_of_le (by omega)]⟩
 | x::a,k,h=>by
  simp only [List.length_cons]at h
  have hlt:k<b.length:=by omega
  have hg:idx b (k:Int)=some b[k]:=by rw [tT,List.getElem?_eq_getElem hlt]
  have hd:b.drop k=b[k]::b.drop (k+1):=List.drop_eq_getElem_cons hlt
  rw [forR,hd]
  have hb:bG b k x ()=some (bif (x.f_from==b[k].f_from)&&(x.f_to==b[k].f_to)then .go ()else .ret false):=by
   unfold bG
   rw [hg,ob_]
   cases x.f_from==b[k].f_from <;> cases x.f_to==b[k].f_to <;> rfl
  rw [hb,ob_]
  cases he:(x.f_from==b[k].f_from)&&(x.f_to==b[k].f_to)with
  | true =>
   simp only [Bool.and_eq_true]at he
   have hx:x=b[k]:=Run.eq (eq_of_beq he.1) (eq_of_beq he.2)
   simp only [cond_true]
   rcases I8 b a (k+1) (by omega)with⟨h1,h2⟩|⟨h1,h2⟩
   ·exact .inl ⟨h1,by rw [hx,<- h2]⟩
   ·exact .inr ⟨h1,λe=>h2 (List.cons.inj e).2⟩
  | false =>
   simp only [cond_false]
   refine .inr ⟨trivial,λe => ?_⟩
   have hx:=(List.cons.inj e).1
   rw [hx]at he;simp at he
theorem eqR (a b:List Run) (h:a.length<=1000000):(bn a b=some true/\a=b)\/(bn a b=some false/\a≠b):=by
 unfold bn
 by_cases hl:a.length=b.length
 ·have:((a.length:Int) != (b.length:Int))=false:=by rw [hl];simp
  rw [this,cond_false,dz (by omega)]
  rcases I8 b a 0 (by omega)with⟨h1,h2⟩|⟨h1,h2⟩
  ·exact .inl ⟨by rw [h1];rfl,by simpa using h2⟩
  ·exact .inr ⟨by rw [h1];rfl,by simpa using h2⟩
 ·have:((a.length:Int) != (b.length:Int))=true:=by simp;omega
  rw [this,cond_true]
  exact .inr ⟨rfl,λe=>hl (by rw [e])⟩
theorem BM (s:List Rect×List Run×Int) (y:Int) (hy:Bd y) (hf:Bd s.2.2):∀(b:List Run) (k:Nat) (out:List Rect),(∀r∈b,Okr r)->out.length+b.length<=10000000->forR (λk x t=>dU s y k x t) b k out=some (.go (out++b.map (y9 s.2.2 (y-s.2.2))))
 | [],k,out,_,_=>by simp [forR]
 | r::b,k,out,hb,hl=>by
  simp only [List.length_cons]at hl
  obtain ⟨r1,r2,r3⟩:=hb r (by simp)
  have hB:dU s y k r out=some (.go (out++[y9 s.2.2 (y-s.2.2) r])):=by
   unfold dU
   unfold Bd at *
   rw [bK (n:=r.f_to-r.f_from) (by omega),bK (n:=y-s.2.2) (by omega),jO _ _ (by simp;omega)];rfl
  rw [forR,hB,ob_]
  simp only
  rw [BM s y hy hf b (k+1) _ (λr hr=>hb r (by simp [hr])) (by simp;omega)]
  simp
end Go.Proofs.YtnkgapmhkhcanaaGreatDoor.Law

open Go Go.Eng
namespace Go.Proofs.YtnkgapmhkhcanaaGreatDoor.Law
set_option linter.unusedVariables false
set_option linter.unusedSimpArgs false
structure Band where
 a:Int
 b:Int
 row:List Run
def O6 (e:Int) (row:List Run):List Band->Prop
 | []=>True
 | q::_=>q.a=e->q.row≠row
def lX:Int->List Band->Prop
 | _,[]=>True
 | lo,p::l=>lo<=p.a/\p.a<p.b/\p.row ≠ []/\O6 p.b p.row l/\lX p.b l
def rowAt:List Band->Int->List Run
 | [],_=>[]
 | p::l,y=>bif decide (p.a<=y)&&decide (y<p.b)then p.row else rowAt l y
theorem xZ:∀{l:List Band} {lo y:Int},lX lo l->y<lo->rowAt l y=[]
 | [],_,_,_,_=>rfl
 | p::l,lo,y,⟨h1,h2,h3,h4,h5⟩,h=>by
  have e1:decide (p.a<=y)=false:=by simp;omega
  rw [rowAt,e1,Bool.false_and,cond_false]
  exact xZ h5 (by omega)
theorem z8 {p:Band} {l:List Band} {y:Int} (h1:p.a<=y) (h2:y<p.b):rowAt (p::l) y=p.row:=by
 rw [rowAt,decide_eq_true h1,decide_eq_true h2];rfl
theorem rQ {p:Band} {l:List Band} {y:Int} (h:y<p.a\/p.b<=y):rowAt (p::l) y=rowAt l y:=by
 rw [rowAt]
 have:(decide (p.a<=y)&&decide (y<p.b))=false:=by
  rw [Bool.and_eq_false_iff]
  rcases h with h|h
  ·left;simp;omega
  ·right;simp;omega
 rw [this];rfl
end Go.Proofs.YtnkgapmhkhcanaaGreatDoor.Law

open Go Go.Eng
namespace Go.Proofs.YtnkgapmhkhcanaaGreatDoor.Law
set_option linter.unusedVariables false
set_option linter.unusedSimpArgs false
open Classical in
noncomputable def gz:List (Int×List Run)->List Run->Int->List Band
 | [],_,_=>[]
 | (y,R)::l,band,fr=>if band=R then gz l band fr else if band=[]then gz l R y else⟨fr,y,band⟩::gz l R y
def yN:List (Int×List Run)->List Run->Int->List Run
 | [],_,_=>[]
 | (y0,R)::l,band,y=>bif decide (y<y0)then band else yN l R y
def NG:Int->List (Int×List Run)->Prop
 | _,[]=>True
 | fr,(y,R)::l=>fr<y/\(l=[]->R=[])/\NG y l
theorem zl:∀{l:List (Int×List Run)} {band:List Run} {fr:Int},NG fr l->∀{q:Band} {t:List Band},gz l band fr=q::t->fr<=q.a/\(q.a=fr->q.row=band/\band ≠ [])
 | [],_,_,_,q,t,h=>by cases h
 | (y,R)::l,band,fr,⟨h1,h2,h3⟩,q,t,h=>by
  rw [gz]at h
  by_cases e:band=R
  ·rw [if_pos e]at h
   have h3':NG fr l:=by
    cases l with
    | nil=>trivial
    | cons z l=>exact⟨by have:=h3.1;omega,h3.2⟩
   exact zl h3' h
  ·rw [if_neg e]at h
   by_cases e2:band=[]
   ·rw [if_pos e2]at h
    have:=zl h3 h
    exact⟨by omega,λk=>by omega⟩
   ·rw [if_neg e2]at h
    have:=(List.cons.inj h).1
    subst this
    exact⟨Int.le_refl _,λ_=>⟨rfl,e2⟩⟩
theorem Eh:∀{l:List (Int×List Run)} {band:List Run} {fr lo:Int},NG fr l->lo<=fr->(l=[]->band=[])->lX lo (gz l band fr)/\∀y,rowAt (gz l band fr) y=bif decide (y<fr)then []else yN l band y
 | [],band,fr,lo,_,_,hb=>⟨trivial,λy=>by simp only [gz,rowAt,yN];cases decide (y<fr) <;> rfl⟩
 | (y0,R)::l,band,fr,lo,⟨h1,h2,h3⟩,hlo,_=>by
  rw [gz]
  by_cases e:band=R
  ·rw [if_pos e]
   have h3':NG fr l:=by
    cases l with
    | nil=>trivial
    | cons z l=>exact⟨by have:=h3.1;omega,h3.2⟩
   obtain ⟨c1,c2⟩:=Eh (band:=band) h3' hlo (λh=>by rw [e];exact h2 h)
   refine⟨c1,λy => ?_⟩
   rw [c2,yN,e]
   by_cases k:y<fr
   ·rw [decide_eq_true k];rfl
   ·rw [decide_eq_false k,cond_false,cond_false]
    by_cases k2:y<y0
    ·rw [decide_eq_true k2,cond_true]
     cases l with
     | nil=>rw [h2 rfl];rfl
     | cons z l =>
      have hz:=h3.1
      rw [yN,decide_eq_true (show y<z.1 by omega)];rfl
    ·rw [decide_eq_false k2,cond_false]
  ·rw [if_neg e]
   obtain ⟨c1,c2⟩:=Eh (band:=R) (lo:=y0) h3 (Int.le_refl _) h2
   by_cases e2:band=[]
   ·rw [if_pos e2]
    have c1':lX lo (gz l R y0):=by
     cases hb:gz l R y0 with
     | nil=>trivial
     | cons q t =>
      rw [hb]at c1
      exact⟨by have:=c1.1;omega,c1.2⟩
    refine⟨c1',λy => ?_⟩
    rw [c2,yN,e2]
    by_cases k:y<fr
    ·rw [decide_eq_true k,decide_eq_true (show y<y0 by omega)];rfl
    ·rw [decide_eq_false k,cond_false]
   ·rw [if_neg e2]
    refine⟨⟨hlo,h1,e2,?_,c1⟩,λy => ?_⟩
    ·cases hb:gz l R y0 with
     | nil=>trivial
     | cons q t =>
      intro hq
      have:=(zl h3 hb).2 hq
      rw [this.1]
      exact λk=>e k.symm
    ·rw [yN]
     by_cases k:y<fr
     ·rw [decide_eq_true k,cond_true,rQ (.inl k),c2,decide_eq_true (show y<y0 by omega)];rfl
     ·rw [decide_eq_false k,cond_false]
      by_cases k2:y<y0
      ·rw [decide_eq_true k2,cond_true,z8 (by show fr<=y;omega) k2]
      ·rw [decide_eq_false k2,cond_false,rQ (.inr (by show y0<=y;omega)),c2,decide_eq_false k2];rfl
end Go.Proofs.YtnkgapmhkhcanaaGreatDoor.Law

open Go Go.Eng
namespace Go.Proofs.YtnkgapmhkhcanaaGreatDoor.Law
set_option linter.unusedVariables false
set_option linter.unusedSimpArgs false
def kY (Rf:Int->List Run):List Int->List (Int×List Run)
 | []=>[]
 | [y]=>[(y,[])]
 | y::z::l=>(y,Rf y)::kY Rf (z::l)
def jZ (l:List Band):List Rect:=l.flatMap λb=>b.row.map (y9 b.a (b.b-b.a))
theorem simP (ys:List Int) (l m:List Rect) (B:Nat) (hB:B<=1000) (hys:ys.length<=1000) (hby:∀y∈ys,Bd y) (Rf:Int->List Run)
  (hrow:∀(j:Nat) (y:Int),ys[j]? = some y->j+1<ys.length->((fH l y).bind λr_45=>(fH m y).bind λr_47=>(jP r_45 r_47).bind λr_49=>some r_49)=some (Rf y)/\(∀r∈Rf y,Okr r)/\(Rf y).length<=B) :
  ∀(n j:Nat) (y:Int) (out:List Rect) (band:List Run) (fr:Int),j+1+n=ys.length->ys[j]? = some y->Bd fr->(∀r∈band,Okr r)->band.length<=B->out.length+(n+2)*B<=1000000 ->
  ∃(b2:List Run) (f2:Int),forR (λk x s=>dC ys l m k x s) (ys.drop j) j (out,band,fr)=some (.go (out++jZ (gz (kY Rf (ys.drop j)) band fr),b2,f2))/\(jZ (gz (kY Rf (ys.drop j)) band fr)).length<=(n+2)*B
 | 0,j,y,out,band,fr,hn,hy,hf,hb,hbl,ho=>by
  have hjl:j<ys.length:=by omega
  have hd:ys.drop j=[y]:=by
   rw [List.drop_eq_getElem_cons hjl,List.drop_eq_nil_of_le (by omega)]
   rw [List.getElem?_eq_getElem hjl]at hy
   simp only [so_]at hy;rw [hy]
  have hBy:=hby y (List.mem_of_getElem? hy)
  have hw:w64 ((j:Int)+1)=((j+1:Nat):Int):=by rw [bK (by omega)];rfl
  have hc:decide (((j+1:Nat):Int)<(ys.length:Int))=false:=by simp;omega
  rw [hd,forR]
  have h0:dC ys l m j y (out,band,fr)=(bn band []).bind λr_51=>bif r_51 then some (.go (out,band,fr))else (forL band out (λk x s=>dU (out,band,fr) y k x s)).bind λo_64=>thenC o_64 (λs_59=>some (.go (s_59,[],y))) (λ_=>none):=by
   unfold dC
   simp only [hw,hc,cond_false,ob_]
  rw [h0]
  simp only [kY,gz]
  rcases eqR band [] (by omega)with⟨h1,h2⟩|⟨h1,h2⟩
  ·subst h2
   rw [if_pos rfl]
   exact⟨[],fr,by rw [h1];simp [jZ,forR],by simp [jZ]⟩
  ·rw [if_neg h2,if_neg h2]
   refine⟨[],y,?_,by simp [jZ];omega⟩
   rw [h1,ob_,cond_false,dz (by omega),BM (out,band,fr) y hBy hf band 0 out hb (by omega)]
   simp [jZ,forR,thenC]
 | n+1,j,y,out,band,fr,hn,hy,hf,hb,hbl,ho=>by
  have hjl:j<ys.length:=by omega
  have hj2:j+1<ys.length:=by omega
  have hd:ys.drop j=y::ys.drop (j+1):=by
   rw [List.drop_eq_getElem_cons hjl]
   rw [List.getElem?_eq_getElem hjl]at hy
   simp only [so_]at hy;rw [hy]
  have hy2:ys[j+1]? = some ys[j+1]:=List.getElem?_eq_getElem hj2
  have hd2:ys.drop (j+1)=ys[j+1]::ys.drop (j+1+1):=List.drop_eq_getElem_cons hj2
  have hp:kY Rf (ys.drop j)=(y,Rf y)::kY Rf (ys.drop (j+1)):=by rw [hd,hd2];rfl
  generalize ys[j+1]=y2 at hy2
  have hBy:=hby y (List.mem_of_getElem? hy)
  have hw:w64 ((j:Int)+1)=((j+1:Nat):Int):=by rw [bK (by omega)];rfl
  have hc:decide (((j+1:Nat):Int)<(ys.length:Int))=true:=by simp;omega
  have hmul:(n+1+2)*B=(n+2)*B+B:=by rw [show n+1+2=(n+2)+1 by omega,Nat.succ_mul]
  rw [hmul]at ho ⊢
  obtain ⟨k1,k3,k4⟩:=hrow j y hy hj2
  have h0:dC ys l m j y (out,band,fr)=(bn band (Rf y)).bind λr_51=>bif r_51 then some (.go (out,band,fr))else (forL band out (λk x s=>dU (out,band,fr) y k x s)).bind λo_64=>thenC o_64 (λs_59=>some (.go (s_59,Rf y,y))) (λ_=>none):=by
   unfold dC
   simp only [hw,hc,cond_true]
   rw [k1,ob_]
  rw [hp]
  rw [hd,forR,h0]
  simp only [gz]
  rcases eqR band (Rf y) (by omega)with⟨e1,e2⟩|⟨e1,e2⟩
  ·obtain ⟨b2,f2,q1,q2⟩:=simP ys l m B hB hys hby Rf hrow n (j+1) y2 out band fr (by omega) hy2 hf hb hbl (by omega)
   rw [if_pos e2]
   exact⟨b2,f2,by rw [e1];exact q1,by omega⟩
  ·obtain ⟨b2,f2,q1,q2⟩:=simP ys l m B hB hys hby Rf hrow n (j+1) y2 (out++band.map (y9 fr (y-fr))) (Rf y) y (by omega) hy2 hBy k3 k4 (by simp;omega)
   rw [if_neg e2]
   rw [e1,ob_,cond_false,dz (by omega),BM (out,band,fr) y hBy hf band 0 out hb (by omega)]
   by_cases e3:band=[]
   ·rw [if_pos e3]
    refine⟨b2,f2,?_,by omega⟩
    have:=q1
    rw [e3]at this ⊢
    simp only [List.map_nil,List.append_nil]at this ⊢
    exact this
   ·rw [if_neg e3]
    refine⟨b2,f2,?_,?_⟩
    ·have:=q1
     simp only [jZ,List.flatMap_cons,List.append_assoc]at this ⊢
     exact this
    ·simp only [jZ,List.flatMap_cons,List.length_append,List.length_map]at q2 ⊢
     omega
end Go.Proofs.YtnkgapmhkhcanaaGreatDoor.Law

open Go Go.Eng
namespace Go.Proofs.YtnkgapmhkhcanaaGreatDoor.Law
set_option linter.unusedVariables false
set_option linter.unusedSimpArgs false
end Go.Proofs.YtnkgapmhkhcanaaGreatDoor.Law

open Go Go.Eng
namespace Go.Proofs.YtnkgapmhkhcanaaGreatDoor.Law
set_option linter.unusedVariables false
set_option linter.unusedSimpArgs false
end Go.Proofs.YtnkgapmhkhcanaaGreatDoor.Law

