import Derived.Test.YtnjnggakgeommaaGreatDoorEnList
/-
  PLAIN LEMMAS: the keys of a map, sorted.
-/
open Go Go.Eng Go.Proofs
namespace Go.Proofs.YtnjnggakgeommaaGreatDoor.Law
set_option linter.unusedVariables false
set_option linter.unusedSimpArgs false
section
variable {K T:Type} {eq:K->K->Bool}
theorem zf (e:K×T) (es:List (K×T)) (k:K):bL eq (e::es) k=if eq k e.1=true then some e.2 else bL eq es k:=by
 unfold bL
 rw [uJ]
 by_cases h:eq k e.1=true
 ·rw [if_pos h,if_pos h];rfl
 ·rw [if_neg h,if_neg h]
  cases uJ eq k es with
  | none=>rfl
  | some j=>rfl
theorem Eh (e:K×T) (es:List (K×T)) (k:K) (v:T):AX eq (e::es) k v=if eq k e.1=true then (k,v)::es else e::AX eq es k v:=by
 unfold AX
 rw [uJ]
 by_cases h:eq k e.1=true
 ·rw [if_pos h,if_pos h];rfl
 ·rw [if_neg h,if_neg h]
  cases uJ eq k es with
  | none=>rfl
  | some j=>rfl
end
theorem leB_tr (a b c:List UInt8) (h:leB a b=true) (k:leB b c=true):leB a c=true:=by
 simp only [leB,decide_eq_true_eq]at *;exact List.le_trans h k
theorem leB_to (a b:List UInt8):(leB a b||leB b a)=true:=by
 simp only [leB,Bool.or_eq_true,decide_eq_true_eq];exact List.le_total a b
theorem EQ {β:Type} {es:List (ByteArray×β)} (hl:es.length<=1000000) (hs:∀e∈es,e.1.size<=1000000) (hn:es.Pairwise (λa b=>a.1≠b.1)) :
  ∃ks,yP es=some ks/\ks.Perm (es.map (·.1))/\ks.Pairwise lt:=by
 have h1:es.length<=1000000000/\es.all (λe=>decide (e.1.size<=1000000000))=true:=⟨by omega,List.all_eq_true.2 λe he=>decide_eq_true (by have:=hs e he;omega)⟩
 have hp:=List.mergeSort_perm (es.map λe=>e.1.data.toList) leB
 have hso:=List.pairwise_mergeSort (le:=leB) leB_tr leB_to (es.map λe=>e.1.data.toList)
 have hnd:(es.map λe=>e.1.data.toList).Pairwise (· ≠ ·):=List.pairwise_map.2 (hn.imp λ{a b} h k=>h (sP (by rw [toL,toL];exact k)))
 have hnd2:((es.map λe=>e.1.data.toList).mergeSort leB).Pairwise (· ≠ ·):=(hp.pairwise_iff (λh k=>h k.symm)).2 hnd
 refine⟨_,by unfold yP;rw [if_pos h1],?_,?_⟩
 ·refine (hp.map λl=>(⟨l.toArray⟩:ByteArray)).trans (List.Perm.of_eq ?_)
  rw [List.map_map];rfl
 ·refine List.pairwise_map.2 (List.Pairwise.imp₂ (λa b h k => ?_) hso hnd2)
  unfold lt
  rw [toL,toL]
  simp only [leB,decide_eq_true_eq]at h
  rcases List.le_iff_lt_or_eq.1 h with q|q
  ·exact q
  ·exact absurd q k
theorem eqS_eq {a b:ByteArray} (h:(a==b)=true):a=b:=by
 have h':(a.data==b.data)=true:=h
 have:=eq_of_beq h'
 cases a;cases b;simp at this;rw [this]
theorem qE (a b:ByteArray):eqS a b=true↔a=b:=⟨eqS_eq,λh=>by
 rw [h]
 show (b.data==b.data)=true
 simp⟩
theorem yY {α:Type} {L:Nat->ByteArray->List α->Option (Ctl (List α) Unit)} {g:ByteArray->α}:∀(ks:List ByteArray) (k:Nat) (out:List α),out.length+ks.length<=1000000->(∀k x out,x∈ks->out.length<=1000000->L k x out=(kI out [g x]).bind λa=>some (.go a)) ->
  dR (λk x s=>L k x s) ks k out=some (.go (out++ks.map g))
 | [],k,out,_,_=>by simp [dR]
 | x::ks,k,out,hl,h=>by
  simp only [List.length_cons]at hl
  have hs:L k x out=(some (.go (out++[g x])):Option (Ctl (List α) Unit)):=by
   rw [h k x out (by simp) (by omega),kI,if_pos (by simp;omega)];rfl
  simp only [dR,hs,ob_]
  rw [yY ks (k+1) _ (by simp;omega) (λk y o hy ho=>h k y o (List.mem_cons_of_mem _ hy) ho)]
  simp
theorem get_mem {β:Type} {es:List (ByteArray×β)} (hn:es.Pairwise (λa b=>a.1≠b.1)) {e:ByteArray×β} (he:e∈es):bL eqS es e.1=some e.2:=by
 induction es with
 | nil=>cases he
 | cons x es ih =>
  obtain ⟨p1,p2⟩:=List.pairwise_cons.1 hn
  rw [zf]
  rcases List.mem_cons.1 he with rfl|he
  ·have:eqS e.1 e.1=true:=(qE _ _).2 rfl
   rw [if_pos this]
  ·have:¬eqS e.1 x.1=true:=λh=>p1 e he ((qE _ _).1 h).symm
   rw [if_neg this]
   exact ih p2 he
end Go.Proofs.YtnjnggakgeommaaGreatDoor.Law

