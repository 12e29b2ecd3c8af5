import Derived.Test.YtnjnggakgeommaaGreatDoorEpCheck
import Derived.Test.YtnjnggakgeommaaGreatDoorEpTime
import Derived.Test.YtnjnggakgeommaaGreatDoorPlSort
/-
  PLAIN LEMMAS: lists of entries that are checked; keys compared; sorts of at most twelve.
-/
open Go Go.Eng Go.Proofs
namespace Go.Proofs.YtnjnggakgeommaaGreatDoor.Law
set_option linter.unusedVariables false
set_option linter.unusedSimpArgs false
def pF (last:ByteArray) (x:Entry):Int:=bif jI x==0 then (bif sLe x.Key last then 7 else 0)else jI x
def fE (l:List Entry):Int:=chk (λe:Entry=>e.Key) pF BL l
theorem Fy {l:List Entry} (h:∀e∈l,jD e) (hl:l.length<=100):bC l=some (fE l):=by
 unfold bC fE
 rw [decide_eq_false (by omega),cond_false,fq (by omega),sQ (key:=λe:Entry=>e.Key) (stp:=pF) l l 0 rfl (λk x hx => ?_)]
 ·simp only [ob_,qA];rfl
 ·unfold dM pF
  rw [entK x (h x (List.mem_of_getElem? hx)),ob_]
  cases he:jI x==0 with
  | false =>
   have:(jI x != 0)=true:=by simp [bne,he]
   rw [this,cond_true,cond_false]
   unfold uG;rw [he];rfl
  | true =>
   have:(jI x != 0)=false:=by simp [bne,he]
   have hk:=F7 (eq_of_beq he)
   rw [this,cond_false,cond_true]
   have h2:=uF (key:=λe:Entry=>e.Key) hx (by omega) hk
   rw [h2,ob_]
   cases sLe x.Key (p8 (λe:Entry=>e.Key) l k) <;> rfl
theorem entsR {l:List Entry} (h:∀e∈l,jD e) (hl:l.length<=100):fU l=some (fE l):=by
 unfold fU fE
 rw [decide_eq_false (by omega),cond_false,fq (by omega)]
 obtain ⟨o,o1,o2⟩:=BC (key:=λe:Entry=>e.Key) (stp:=pF) (body:=λk x s=>eH k x s) l 0 BL (λk x last hx=>by
  unfold eH pF
  rw [entR x (h x hx),ob_]
  cases he:jI x==0 with
  | false =>
   have:(jI x != 0)=true:=by simp [bne,he]
   rw [this,cond_true,cond_false,he];rfl
  | true =>
   have:(jI x != 0)=false:=by simp [bne,he]
   rw [this,cond_false,cond_true]
   cases sLe x.Key last <;> rfl)
 have o1':dR (λk x s=>eH k x s) l 0 (⟨#[]⟩:ByteArray)=some o:=o1
 rw [o1',ob_,o2]
theorem uU:∀(l:List Entry) (last:ByteArray),chk (λe:Entry=>e.Key) pF last l=0->(∀e∈l,jI e=0/\lt last e.Key)/\l.Pairwise (λa b=>lt a.Key b.Key)
 | [],last,_=>⟨λe he=>(by cases he),.nil⟩
 | x::xs,last,h=>by
  unfold chk at h
  cases h0:pF last x==0 with
  | false=>rw [h0,cond_false]at h;rw [h]at h0;cases h0
  | true =>
   rw [h0,cond_true]at h
   obtain ⟨i1,i2⟩:=uU xs x.Key h
   have h0:=eq_of_beq h0
   unfold pF at h0
   cases he:jI x==0 with
   | false=>rw [he,cond_false]at h0;rw [h0]at he;cases he
   | true =>
    rw [he,cond_true]at h0
    have hlt:lt last x.Key:=by
     cases hs:sLe x.Key last with
     | true=>rw [hs]at h0;cases h0
     | false =>
      rcases Ae last x.Key with q|q|q
      ·exact q
      ·have:=(vX x.Key last).2 (by rw [q];exact lw _)
       rw [hs]at this;cases this
      ·have:=(vX x.Key last).2 (λk=>lw _ (lt_trans q k))
       rw [hs]at this;cases this
    refine⟨λe hm => ?_,List.pairwise_cons.2 ⟨λe hm=>(i1 e hm).2,i2⟩⟩
    rcases List.mem_cons.1 hm with rfl|hm
    ·exact⟨eq_of_beq he,hlt⟩
    ·exact⟨(i1 e hm).1,lt_trans hlt (i1 e hm).2⟩
theorem Es (a b:ByteArray):(lt a b/\xq a b = -1)\/(a=b/\xq a b=0)\/(lt b a/\xq a b=1):=by
 have key:∀(x y:List UInt8),(x<y/\Lib.compareBytes x y = -1)\/(x=y/\Lib.compareBytes x y=0)\/(y<x/\Lib.compareBytes x y=1):=by
  intro x
  induction x with
  | nil=>intro y;cases y with
   | nil=>exact .inr (.inl ⟨rfl,rfl⟩)
   | cons b y=>exact .inl ⟨by simp,rfl⟩
  | cons a x ih=>intro y;cases y with
   | nil=>exact .inr (.inr ⟨by simp,rfl⟩)
   | cons b y =>
    simp only [Lib.compareBytes,List.cons_lt_cons_iff,List.cons.injEq]
    by_cases h1:a<b
    ·exact .inl ⟨.inl h1,by rw [if_pos h1]⟩
    ·by_cases h2:b<a
     ·exact .inr (.inr ⟨.inl h2,by rw [if_neg h1,if_pos h2]⟩)
     ·have e:a=b:=UInt8.le_antisymm (UInt8.not_lt.1 h2) (UInt8.not_lt.1 h1)
      subst e
      rw [if_neg h1,if_neg h1]
      rcases ih y with⟨h,k⟩|⟨h,k⟩|⟨h,k⟩
      ·exact .inl ⟨.inr ⟨rfl,h⟩,k⟩
      ·exact .inr (.inl ⟨⟨rfl,h⟩,k⟩)
      ·exact .inr (.inr ⟨.inr ⟨rfl,h⟩,k⟩)
 unfold xq lt
 rw [toL,toL]
 rcases key a.data.toList b.data.toList with⟨h,k⟩|⟨h,k⟩|⟨h,k⟩
 ·exact .inl ⟨h,k⟩
 ·exact .inr (.inl ⟨sP (by rw [toL,toL];exact h),k⟩)
 ·exact .inr (.inr ⟨h,k⟩)
theorem wV {a b:ByteArray}:xq a b<0↔lt a b:=by
 rcases Es a b with⟨h,e⟩|⟨h,e⟩|⟨h,e⟩
 ·rw [e];exact⟨λ_=>h,λ_=>by decide⟩
 ·rw [e,h];exact⟨λk=>absurd k (by decide),λk=>absurd k (lw _)⟩
 ·rw [e];exact⟨λk=>absurd k (by decide),λk=>absurd (lt_trans k h) (lw _)⟩
theorem len_ok:∀n:Nat,n<=12->∃k,iL (IntKind.u64.wrap (n:Int))=some k:=by
 have h:(List.range 13).all (λn=>(iL (IntKind.u64.wrap (n:Int))).isSome)=true:=by kernel_rfl
 intro n hn
 have:=List.all_eq_true.1 h n (by simp;omega)
 exact Option.isSome_iff_exists.1 this
theorem sort12 {α:Type} {cmp:α->α->Option Int} (c:α->α->Int) {S:List α->Option (List α)} (hS:∀x,S x=(iL (IntKind.u64.wrap (x.length:Int))).bind λr_3=>(BX cmp x 0 (x.length:Int) r_3).bind λr_5=>(nV r_5 x).bind λ_=>some r_5)
  {xs:List α} (hl:xs.length<=12) (hF:∀a∈xs,∀b∈xs,cmp a b=some (c a b)) (has:∀a b,c a b<0->¬c b a<0) (hn:∀a b d,¬c a b<0->¬c b d<0->¬c a d<0) :
  ∃r,S xs=some r/\r.Perm xs/\r.Pairwise (λa b=>¬c b a<0):=by
 obtain ⟨k,hk⟩:=len_ok xs.length hl
 obtain ⟨s,h1,h2,h3⟩:=pdq_ok (cmp:=cmp) (le:=λa b=>¬c b a<0) (p:=(· ∈ xs)) (λa b ha hb=>⟨c a b,hF a ha b hb,λh=>has a b h,λh=>h⟩) (λa b d h k=>hn d b a k h) xs hl (λx hx=>hx) k
 refine⟨s,?_,h2,h3⟩
 have hsm:nV s xs=some ():=by unfold nV;rw [if_pos h2.length_eq]
 rw [hS,hk,ob_,h1,ob_,hsm];rfl
theorem Ep {α:Type} {R:α->α->Prop} (has:∀a b,R a b->¬R b a) {a b:List α} (h:a.Perm b) (ha:a.Pairwise R) (hb:b.Pairwise R):a=b :=
 List.Perm.eq_of_pairwise (λx y _ _ h1 h2=>absurd h2 (has x y h1)) ha hb h
end Go.Proofs.YtnjnggakgeommaaGreatDoor.Law

