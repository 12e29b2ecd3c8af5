import Derived.Test.YtdenjndllgahgaaGreatDoorCkGen
/-
  PLAIN LEMMAS: the check of beats; those of a player, in order.
-/
open Go Go.Eng
namespace Go.Proofs.YtdenjndllgahgaaGreatDoor.Law
set_option linter.unusedVariables false
set_option linter.unusedSimpArgs false
def iA (o b:Beat):Prop:=lt o.Player b.Player\/o.Player=b.Player/\o.At<b.At
instance (o b:Beat):Decidable (iA o b):=by unfold iA lt;infer_instance
def Dp (p:Option Beat) (b:Beat):Int :=
 bif !ow b.Player then 5 else bif !kL b.At || !kL b.Clock then 1 else match p with
  | none=>0
  | some o=>if iA o b then (if b.Player=o.Player/\b.Clock<=o.Clock then 16 else 0)else 7
def jd (l:List Beat):Int:=bif decide (l.length>500)then 2 else yX Dp none l
theorem uw (a b:Beat):∃n,eH a b=some n/\(n>=0↔¬iA a b):=by
 refine⟨_,by simp only [eH,qQ,xQ,EL,ob_];rfl,?_⟩
 unfold or0 iA Dm
 rcases sD a.Player b.Player with⟨h,k⟩|⟨h,k⟩|⟨h,k⟩
 ·rw [k];simp [h]
 ·rw [k,h]
  have:=wO b.Player
  by_cases h1:a.At<b.At
  ·simp [h1]
  ·by_cases h2:a.At>b.At
   ·simp [h1,h2,this]
   ·simp [h1,h2,this]
 ·rw [k]
  have h1:¬lt a.Player b.Player:=λh2=>wO _ (lt_trans h h2)
  have h2:a.Player≠b.Player:=λe=>wO _ (e ▸ h)
  simp [h1,h2]
theorem beatsK (l:List Beat) (hs:∀x∈l,GoodB x) (hl:l.length<=1000000):fP l=some (jd l):=by
 unfold fP jd
 have e:decide ((l.length:Int)>500)=decide (l.length>500):=decide_eq_decide.2 (by omega)
 rw [e]
 cases decide (l.length>500)with
 | true=>rfl
 | false =>
  simp only [cond_false]
  rw [fo (by omega),p9 (stp:=Dp) l l 0 rfl (λk x hx => ?_)]
  ·simp only [ob_,pV];rfl
  ·have hxs:aV x.Player:=hs x (List.mem_of_getElem? hx)
   have eo:dK x.Clock 0 345686399999=some (!kL x.Clock):=by rw [nK];simp [kL]
   simp only [fJ,rE x.Player (by unfold aV at hxs;omega),oO,eo,ob_,Dp]
   cases hk:ow x.Player with
   | false=>rfl
   | true =>
   simp only [Bool.not_true,cond_false]
   cases kL x.At with
   | false=>rfl
   | true =>
   simp only [Bool.not_true,cond_false,Bool.false_or,ob_]
   cases kL x.Clock with
   | false=>rfl
   | true =>
   simp only [Bool.not_true,cond_false]
   by_cases hk0:0<k
   ·obtain ⟨y,h1,h2⟩:=vg hx hk0 (by omega)
    have hd:decide ((k:Int)>0)=true:=by simp;omega
    obtain ⟨n,hn,hn2⟩:=uw y x
    simp only [hd,cond_true,h1,ob_,tN,if_neg (show ¬k=0 by omega),h2,hn]
    by_cases hb:iA y x
    ·have:decide (n>=0)=false:=by simp only [decide_eq_false_iff_not];exact λh=>(hn2.1 h) hb
     simp only [this,cond_false,if_pos hb,Cg]
     by_cases he:x.Player=y.Player
     ·by_cases hc:x.Clock<=y.Clock
      ·simp [he,hc,qh]
      ·simp [he,hc,qh]
     ·simp [he,qh]
    ·have:decide (n>=0)=true:=decide_eq_true (hn2.2 hb)
     simp only [this,cond_true,if_neg hb,qh];rfl
   ·have hk0:k=0:=by omega
    subst hk0
    rfl
theorem before_trans {a b c:Beat} (h:iA a b) (k:iA b c):iA a c:=by
 rcases h with h|⟨h1,h2⟩
 ·rcases k with k|⟨k1,_⟩
  ·exact .inl (lt_trans h k)
  ·exact .inl (k1 ▸ h)
 ·rcases k with k|⟨k1,k2⟩
  ·exact .inl (h1 ▸ k)
  ·exact .inr ⟨h1.trans k1,by omega⟩
theorem bStp_0 {p:Option Beat} {b:Beat} (h:Dp p b=0):kL b.At=true/\kL b.Clock=true/\∀o,p=some o->iA o b:=by
 unfold Dp at h
 cases hk:ow b.Player with
 | false=>rw [hk]at h;cases h
 | true =>
 rw [hk]at h
 simp only [Bool.not_true,cond_false]at h
 cases ha:kL b.At with
 | false=>rw [ha]at h;cases h
 | true =>
 cases hc:kL b.Clock with
 | false=>rw [ha,hc]at h;cases h
 | true =>
 rw [ha,hc]at h
 simp only [Bool.not_true,Bool.or_self,cond_false]at h
 refine⟨rfl,rfl,λo ho => ?_⟩
 subst ho
 simp only at h
 by_cases hb:iA o b
 ·exact hb
 ·rw [if_neg hb]at h;cases h
def yl:List Beat->Prop
 | []=>True
 | x::xs=>(∀y∈xs,iA x y)/\yl xs
theorem tY:∀{l:List Beat} {p:Option Beat},yX Dp p l=0->(∀o,p=some o->∀y∈l,iA o y)/\yl l/\∀x∈l,kL x.At=true/\kL x.Clock=true
 | [],_,_=>⟨λ_ _ y hy=>(by cases hy),trivial,λx hx=>(by cases hx)⟩
 | x::xs,p,h=>by
  obtain ⟨h1,h2⟩:=chkG_0 h
  obtain ⟨i1,i2,i3⟩:=tY h2
  obtain ⟨j1,j2,j3⟩:=bStp_0 h1
  refine⟨λo ho y hy => ?_,⟨i1 x rfl,i2⟩,λy hy => ?_⟩
  ·rcases List.mem_cons.1 hy with rfl|hy
   ·exact j3 o ho
   ·exact before_trans (j3 o ho) (i1 x rfl y hy)
  ·rcases List.mem_cons.1 hy with rfl|hy
   ·exact⟨j1,j2⟩
   ·exact i3 y hy
theorem EA {l:List Beat} (h:jd l=0):yl l/\∀x∈l,kL x.At=true/\kL x.Clock=true:=by
 unfold jd at h
 cases hl:decide (l.length>500)with
 | true=>rw [hl]at h;cases h
 | false=>rw [hl,cond_false]at h;exact (tY h).2
end Go.Proofs.YtdenjndllgahgaaGreatDoor.Law

