/-
  The engine: what the machine does to data, shown once for all programs (part 6).
-/
import Derived.Test.YtljhfffghjclfabGreatDoorEng5
import Derived.Below
import Derived.OpenShut
/-
  THE ENGINE: from a law's contract over data to what the rows ask of the machine.
-/
namespace Go.Eng
set_option linter.unusedSectionVars false
variable [DM]
open Go.RowKit (Below)
theorem QE {P:Program} {f:FuncId} (h:∀l:List Int,l.length<=9223372036854775807->(∀n∈l,-9223372036854775808<=n/\n<=9223372036854775807)->FnM P f [vL eI l] [] (vB true) [])
  (a:Option Addr) (len cap:Nat) (zs:List Int) (w:World)
  (hr:(a=none/\len=0/\cap=0/\zs=[])\/∃x,a=some x/\len<=cap/\cap<=maxLen/\zs.length=cap/\(∀i,i<zs.length->w.cell? (x.add i)=some (.int .i64 (zs.getD i 0)))/\∀n∈zs,(Lit.int .i64 n).wf=true) (X:wQ w) :
  Calls P f #[.slice a len cap] w λe w'=>e = .returned (.bool true)/\Below w.heap.size w w':=by
 let G:Gh:=⟨λb _=>b<w.heap.size,λ_=>none⟩
 have N:Inv ⟨G,w,yN G []⟩ G w (cB []) 1 (λ_=>False):=by
  refine⟨Ext.refl _ _,λ_ _ h => .inl h,λ_ _ _ _=>rfl,Nat.le_refl _,rfl,rfl,rfl,?_,?_,?_,?_,λ_ _ h=>h,⟨w,X,λb o hb=>⟨hb,rfl⟩⟩,λ_=>Nat.le_refl _⟩
  ·intro n bx A
   simp only [cB]at A
   split at A
   ·simp at A
   ·cases A
  ·intro n m bx by' b o sz o' Y A
   simp only [cB]at A
   split at A
   ·simp at A
   ·cases A
  ·intro n x A;cases A
  ·intro n b o sz A;cases A
 have Z:∀b,¬yN G [] b:=by
  rintro b ⟨i,bx,o,sz,h1,_⟩
  simp at h1
 obtain ⟨l,M,L,J⟩:∃l:List Int,l.length<=9223372036854775807/\(∀n∈l,-9223372036854775808<=n/\n<=9223372036854775807)/\RepV G w (.slice a len cap) (vL eI l):=by
  rcases hr with⟨rfl,rfl,rfl,rfl⟩|⟨x,rfl,hlc,W,hzl,B,R⟩
  ·exact⟨[],by simp,by simp,.d (.sl0 none 0)⟩
  ·cases len with
   | zero=>exact⟨[],by simp,by simp,.d (.sl0 (some x) cap)⟩
   | succ len =>
    obtain ⟨b,off,rfl,hc⟩:=ints_at B (by omega)
    have hl:(zs.take (len+1)).length=len+1:=by rw [List.length_take];omega
    refine⟨zs.take (len+1),by rw [hl];unfold maxLen at W;omega,λn hn => ?_,.d ?_⟩
    ·have:=R n (List.mem_of_mem_take hn)
     simp [Lit.wf]at this
     exact this
    ·have:=RepD.sl (I:=G.imm) (w:=w) b off cap 1 ((zs.take (len+1)).map eI) (λi _ => .int .i64 (zs.getD i 0)) (by rw [List.length_map,hl];omega) (λi h=>by simp [eI])
      (λi j hi hj=>by
       rw [List.length_map,hl]at hi
       have h1:=hc i (by omega)
       show b<w.heap.size
       rcases Nat.lt_or_ge b w.heap.size with h|h
       ·exact h
       ·have e:w.heap[b]? = none:=Array.getElem?_eq_none h
        simp only [World.cell?,e]at h1
        cases h1)
      (λi j hi hj=>by
       rw [List.length_map,hl]at hi
       obtain rfl:j=0:=by omega
       rw [Nat.mul_one,Nat.add_zero]
       exact hc i (by omega))
      (λi j hi hj=>rfl)
      (λi j hi hj=>by
       simp only [List.getElem_map,eI,List.length_cons,List.length_nil]at hj ⊢
       obtain rfl:j=0:=by omega
       simp only [List.getElem_cons_zero,List.getElem_take]
       have O:i<zs.length:=by rw [List.length_map,hl]at hi;omega
       rw [List.getD_eq_getElem?_getD,List.getElem?_eq_getElem O]
       exact .int .i64 _)
     rw [List.length_map,hl]at this
     exact this
 have F:pG G w [.slice a len cap] [vL eI l]:=⟨rfl,λi h1 h2=>by
  have:i=0:=by simp at h1;omega
  subst this;exact J⟩
 refine (h l M L G w [.slice a len cap] N F).mono ?_
 rintro e w' ⟨v,G',S',tk',U',ν,rfl,i,rv,_,_,_,_⟩
 refine⟨?_,⟨i.os,i.tape,i.output,i.size,λk X=>i.frame k X (Z k) (fun⟨⟨_,h1⟩,_,_,h2⟩=>h2 h1)⟩⟩
 have:v = .bool true:=by
  have h1:RepV G' w' v (vB true):=rv
  exact h1.d_inv.bool_inv
 rw [this]
end Go.Eng

