import Derived.Test.YtdenjndllgahgaaGreatDoorEng5
/-
  PLAIN LEMMAS: loops as they stand in the printed functions; strings and their order.
-/
namespace Go.Eng
set_option linter.unusedVariables false
set_option linter.unusedSimpArgs false
theorem fo {α σ ρ:Type} {body:Nat->α->σ->Option (Ctl σ ρ)} {xs:List α} {s:σ} (hl:xs.length<=1000000000000):jC xs s body=dF body xs 0 s:=by unfold jC;rw [if_pos hl]
theorem zh {α σ ρ:Type} {body:Nat->α->σ->Option (Ctl σ ρ)} (I:Nat->σ->Prop) (N:Nat):∀(xs:List α) (k:Nat) (s:σ),k+xs.length=N->(∀k x s,x∈xs->k<N->I k s->∃s',body k x s=some (.go s')/\I (k+1) s')->I k s->∃s',dF body xs k s=some (.go s')/\I N s'
 | [],k,s,hN,h,hi=>⟨s,rfl,by simp only [List.length_nil,Nat.add_zero]at hN;rw [<- hN];exact hi⟩
 | x::xs,k,s,hN,h,hi=>by
  simp only [List.length_cons]at hN
  obtain ⟨s1,h1,h2⟩:=h k x s (by simp) (by omega) hi
  obtain ⟨s2,h3,h4⟩:=zh I N xs (k+1) s1 (by omega) (λk x s hx=>h k x s (by simp [hx])) h2
  exact⟨s2,by simp only [dF,h1,ob_];exact h3,h4⟩
theorem qK {α σ ρ:Type} {body:Nat->α->σ->Option (Ctl σ ρ)} (I:Nat->σ->Prop) {xs:List α} {s:σ} (hl:xs.length<=1000000000000) (h:∀k x s,x∈xs->k<xs.length->I k s->∃s',body k x s=some (.go s')/\I (k+1) s') (h0:I 0 s):∃s',jC xs s body=some (.go s')/\I xs.length s':=by
 obtain ⟨s',h1,h2⟩:=zh I xs.length xs 0 s (by omega) h h0
 exact⟨s',by rw [fo hl];exact h1,h2⟩
theorem gL {σ ρ τ:Type} (s:σ) (f:σ->Option τ) (g:ρ->Option τ):dE (.go s) f g=f s:=rfl
theorem xu {σ ρ τ:Type} (r:ρ) (f:σ->Option τ) (g:ρ->Option τ):dE (.ret r) f g=g r:=rfl
theorem mK {α:Type} (xs:List α) (k:Nat):idx xs (k:Int)=xs[k]? := by simp [idx]
theorem dI {n:Int} (h : -9223372036854775808<=n/\n<=9223372036854775807):w64 n=n:=DF n h
theorem toL (s:ByteArray):s.toList=s.data.toList:=Go.Lib.toList_data s
theorem tL {a b:ByteArray} (h:a.toList=b.toList):a=b:=by
 rw [toL,toL]at h
 obtain ⟨⟨a⟩⟩:=a
 obtain ⟨⟨b⟩⟩:=b
 simp only at h
 rw [h]
theorem Bv (a b:ByteArray):sEq a b=true↔a=b:=by
 simp only [sEq,beq_iff_eq]
 exact⟨tL,λh=>by rw [h]⟩
theorem BS (a b:ByteArray):sEq a b=decide (a=b):=by
 rw [Bool.eq_iff_iff,Bv];simp
theorem oI (a b:ByteArray):sNe a b = !decide (a=b):=by
 have:=BS a b;simp only [sEq,sNe]at *;rw [this]
def lt (a b:ByteArray):Prop:=a.toList<b.toList
theorem uN (a:ByteArray):¬lt a a:=List.lt_irrefl a.toList
theorem lt_trans {a b c:ByteArray} (h:lt a b) (k:lt b c):lt a c:=List.lt_trans h k
theorem sNe_nil (a:ByteArray):sNe a ⟨#[]⟩=decide (a.size≠0):=by
 rw [oI,Go.Lib.size_eq,Bool.eq_iff_iff]
 simp only [Bool.not_eq_true',decide_eq_false_iff_not,decide_eq_true_eq,ne_eq]
 refine not_congr ⟨λh=>by rw [h];rfl,λh => ?_⟩
 exact tL (by rw [toL,List.eq_nil_of_length_eq_zero h,toL])
end Go.Eng

