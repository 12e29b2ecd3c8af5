import Derived.Test.YtnjnggakgeommaaGreatDoorEng5
/-
  PLAIN LEMMAS: loops as they stand in the printed functions; strings and their order.
-/
namespace Go.Eng
set_option linter.unusedVariables false
set_option linter.unusedSimpArgs false
theorem fq {α σ ρ:Type} {body:Nat->α->σ->Option (Ctl σ ρ)} {xs:List α} {s:σ} (hl:xs.length<=1000000000000):gN xs s body=dR body xs 0 s:=by unfold gN;rw [if_pos hl]
theorem BF {α σ ρ:Type} {body:Nat->α->σ->Option (Ctl σ ρ)} (I:Nat->σ->Prop) (N:Nat):∀(xs:List α) (k:Nat) (s:σ),k+xs.length=N->(∀k x s,x∈xs->k<N->I k s->∃s',body k x s=some (.go s')/\I (k+1) s')->I k s->∃s',dR body xs k s=some (.go s')/\I N s'
 | [],k,s,hN,h,hi=>⟨s,rfl,by simp only [List.length_nil,Nat.add_zero]at hN;rw [<- hN];exact hi⟩
 | x::xs,k,s,hN,h,hi=>by
  simp only [List.length_cons]at hN
  obtain ⟨s1,h1,h2⟩:=h k x s (by simp) (by omega) hi
  obtain ⟨s2,h3,h4⟩:=BF I N xs (k+1) s1 (by omega) (λk x s hx=>h k x s (by simp [hx])) h2
  exact⟨s2,by simp only [dR,h1,ob_];exact h3,h4⟩
theorem xS {α σ ρ:Type} {body:Nat->α->σ->Option (Ctl σ ρ)} (I:Nat->σ->Prop) {xs:List α} {s:σ} (hl:xs.length<=1000000000000) (h:∀k x s,x∈xs->k<xs.length->I k s->∃s',body k x s=some (.go s')/\I (k+1) s') (h0:I 0 s):∃s',gN xs s body=some (.go s')/\I xs.length s':=by
 obtain ⟨s',h1,h2⟩:=BF I xs.length xs 0 s (by omega) h h0
 exact⟨s',by rw [fq hl];exact h1,h2⟩
theorem fZ {σ ρ τ:Type} (s:σ) (f:σ->Option τ) (g:ρ->Option τ):dz (.go s) f g=f s:=rfl
theorem yX {σ ρ τ:Type} (r:ρ) (f:σ->Option τ) (g:ρ->Option τ):dz (.ret r) f g=g r:=rfl
theorem mM {α:Type} (xs:List α) (k:Nat):idx xs (k:Int)=xs[k]? := by simp [idx]
theorem bN {n:Int} (h : -9223372036854775808<=n/\n<=9223372036854775807):w64 n=n:=wF n h
theorem toL (s:ByteArray):s.toList=s.data.toList:=Go.Lib.toList_data s
theorem sP {a b:ByteArray} (h:a.toList=b.toList):a=b:=by
 rw [toL,toL]at h
 obtain ⟨⟨a⟩⟩:=a
 obtain ⟨⟨b⟩⟩:=b
 simp only at h
 rw [h]
theorem zV (a b:ByteArray):sEq a b=true↔a=b:=by
 simp only [sEq,beq_iff_eq]
 exact⟨sP,λh=>by rw [h]⟩
theorem sS (a b:ByteArray):sEq a b=decide (a=b):=by
 rw [Bool.eq_iff_iff,zV];simp
theorem tL (a b:ByteArray):sNe a b = !decide (a=b):=by
 have:=sS a b;simp only [sEq,sNe]at *;rw [this]
abbrev bl:=Op.bytesLess
theorem bl_lt:∀(x y:List UInt8),bl x y=decide (x<y)
 | _,[]=>by simp [bl,Op.bytesLess]
 | [],_::_=>by simp [bl,Op.bytesLess]
 | a::x,b::y=>by
  have:=bl_lt x y
  simp only [bl,Op.bytesLess]at this ⊢
  rw [this,Bool.eq_iff_iff]
  simp only [Bool.or_eq_true,decide_eq_true_eq,Bool.and_eq_true,beq_iff_eq,List.cons_lt_cons_iff]
def lt (a b:ByteArray):Prop:=a.toList<b.toList
theorem qG (a b:ByteArray):sLt a b=true↔lt a b:=by
 show bl a.toList b.toList=true↔_
 rw [bl_lt];simp [lt]
theorem lw (a:ByteArray):¬lt a a:=List.lt_irrefl a.toList
theorem lt_trans {a b c:ByteArray} (h:lt a b) (k:lt b c):lt a c:=List.lt_trans h k
theorem Ae (a b:ByteArray):lt a b\/a=b\/lt b a:=by
 rcases Classical.em (lt a b)with h|h
 ·exact .inl h
 ·rcases Classical.em (lt b a)with h2|h2
  ·exact .inr (.inr h2)
  ·exact .inr (.inl (sP (List.le_antisymm (List.not_lt.1 h2) (List.not_lt.1 h))))
theorem vX (a b:ByteArray):sLe a b=true↔¬lt b a:=by
 have h1:=qG a b
 have h2:=zV a b
 simp only [sLe,Bool.or_eq_true]
 constructor
 ·rintro (h|h)
  ·exact λk=>lw _ (lt_trans (h1.1 h) k)
  ·rw [h2.1 h];exact lw _
 ·intro h
  rcases Ae a b with k|k|k
  ·exact .inl (h1.2 k)
  ·exact .inr (h2.2 k)
  ·exact absurd k h
theorem sLe_nil (a:ByteArray):sLe a ⟨#[]⟩=decide (a.size=0):=by
 rw [Bool.eq_iff_iff,vX,lt,toL,toL,Go.Lib.size_eq]
 cases a.data.toList <;> simp
theorem sNe_nil (a:ByteArray):sNe a ⟨#[]⟩=decide (a.size≠0):=by
 rw [tL,Go.Lib.size_eq,Bool.eq_iff_iff]
 simp only [Bool.not_eq_true',decide_eq_false_iff_not,decide_eq_true_eq,ne_eq]
 refine not_congr ⟨λh=>by rw [h];rfl,λh => ?_⟩
 exact sP (by rw [toL,List.eq_nil_of_length_eq_zero h,toL])
end Go.Eng

