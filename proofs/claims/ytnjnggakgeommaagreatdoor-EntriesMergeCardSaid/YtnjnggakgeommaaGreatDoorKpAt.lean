import Derived.Test.YtnjnggakgeommaaGreatDoorEpLib
/-
  PLAIN LEMMAS: loops whose rounds know their place.
-/
open Go Go.Eng
namespace Go.Proofs.YtnjnggakgeommaaGreatDoor.Law
set_option linter.unusedVariables false
set_option linter.unusedSimpArgs false
theorem Dt {α σ ρ:Type} {body:Nat->α->σ->Option (Ctl σ ρ)} (I:Nat->σ->Prop) (xs:List α):∀(l:List α) (k:Nat) (s:σ),xs.drop k=l->k<=xs.length->(∀k x s,xs[k]? = some x->I k s->∃s',body k x s=some (.go s')/\I (k+1) s')->I k s->∃s',dR body l k s=some (.go s')/\I xs.length s'
 | [],k,s,hd,hk,h,hi=>by
  have:=List.drop_eq_nil_iff.1 hd
  obtain rfl:k=xs.length:=by omega
  exact⟨s,rfl,hi⟩
 | x::l,k,s,hd,hk,h,hi=>by
  obtain ⟨s1,h1,h2⟩:=h k x s (tY hd) hi
  obtain ⟨s2,h3,h4⟩:=Dt I xs l (k+1) s1 (bg hd) (by have:=wy hd;omega) h h2
  exact⟨s2,by rw [dR,h1,ob_];exact h3,h4⟩
theorem Du {α σ ρ:Type} {body:Nat->α->σ->Option (Ctl σ ρ)} (I:Nat->σ->Prop) {xs:List α} {s:σ} (hl:xs.length<=1000000000000) (h:∀k x s,xs[k]? = some x->I k s->∃s',body k x s=some (.go s')/\I (k+1) s') (h0:I 0 s):∃s',gN xs s body=some (.go s')/\I xs.length s':=by
 rw [fq hl]
 exact Dt I xs xs 0 s rfl (Nat.zero_le _) h h0
end Go.Proofs.YtnjnggakgeommaaGreatDoor.Law

