import Derived.Test.YtdenjndllgahgaaGreatDoorCkGen
/-
  PLAIN LEMMAS: the check of beats; those of a player, in order.
-/
open Go Go.Eng
namespace Go.Proofs.YtdenjndllgahgaaGreatDoor.Law
set_option linter.unusedVariables false
set_option linter.unusedSimpArgs false
def gU (o b:Beat):Prop:=lt o.Player b.Player\/o.Player=b.Player/\o.At<b.At
instance (o b:Beat):Decidable (gU o b):=by unfold gU lt;infer_instance
def Cz (p:Option Beat) (b:Beat):Int :=
 bif !nG b.Player then 5 else bif !jM b.At || !jM b.Clock then 1 else match p with
  | none=>0
  | some o=>if gU o b then (if b.Player=o.Player/\b.Clock<=o.Clock then 16 else 0)else 7
def iE (l:List Beat):Int:=bif decide (l.length>500)then 2 else yD Cz none l
theorem sV (a b:Beat):∃n,dY a b=some n/\(n>=0↔¬gU a b):=by
 refine⟨_,by simp only [dY,pO,wW,Ew,ob_];rfl,?_⟩
 unfold or0 gU CB
 rcases ru a.Player b.Player with⟨h,k⟩|⟨h,k⟩|⟨h,k⟩
 ·rw [k];simp [h]
 ·rw [k,h]
  have:=uN b.Player
  by_cases h1:a.At<b.At
  ·simp [h1]
  ·by_cases h2:a.At>b.At
   ·simp [h1,h2,this]
   ·simp [h1,h2,this]
 ·rw [k]
  have h1:¬lt a.Player b.Player:=λh2=>uN _ (lt_trans h h2)
  have h2:a.Player≠b.Player:=λe=>uN _ (e ▸ h)
  simp [h1,h2]
theorem beatsK (l:List Beat) (hs:∀x∈l,GoodB x) (hl:l.length<=1000000):fA l=some (iE l):=by
 unfold fA iE
 have e:decide ((l.length:Int)>500)=decide (l.length>500):=decide_eq_decide.2 (by omega)
 rw [e]
 cases decide (l.length>500)with
 | true=>rfl
 | false =>
  simp only [cond_false]
  rw [fo (by omega),oQ (stp:=Cz) l l 0 rfl (λk x hx => ?_)]
  ·simp only [ob_,rH];rfl
  ·have hxs:bN x.Player:=hs x (List.mem_of_getElem? hx)
   have eo:eT x.Clock 0 345686399999=some (!jM x.Clock):=by rw [uq];simp [jM]
   simp only [fq,qy x.Player (by unfold bN at hxs;omega),og,eo,ob_,Cz]
   cases hk:nG x.Player with
   | false=>rfl
   | true =>
   simp only [Bool.not_true,cond_false]
   cases jM x.At with
   | false=>rfl
   | true =>
   simp only [Bool.not_true,cond_false,Bool.false_or,ob_]
   cases jM x.Clock with
   | false=>rfl
   | true =>
   simp only [Bool.not_true,cond_false]
   by_cases hk0:0<k
   ·obtain ⟨y,h1,h2⟩:=qB hx hk0 (by omega)
    have hd:decide ((k:Int)>0)=true:=by simp;omega
    obtain ⟨n,hn,hn2⟩:=sV y x
    simp only [hd,cond_true,h1,ob_,sF,if_neg (show ¬k=0 by omega),h2,hn]
    by_cases hb:gU y x
    ·have:decide (n>=0)=false:=by simp only [decide_eq_false_iff_not];exact λh=>(hn2.1 h) hb
     simp only [this,cond_false,if_pos hb,BS]
     by_cases he:x.Player=y.Player
     ·by_cases hc:x.Clock<=y.Clock
      ·simp [he,hc,sQ]
      ·simp [he,hc,sQ]
     ·simp [he,sQ]
    ·have:decide (n>=0)=true:=decide_eq_true (hn2.2 hb)
     simp only [this,cond_true,if_neg hb,sQ];rfl
   ·have hk0:k=0:=by omega
    subst hk0
    rfl
theorem before_trans {a b c:Beat} (h:gU a b) (k:gU b c):gU a c:=by
 rcases h with h|⟨h1,h2⟩
 ·rcases k with k|⟨k1,_⟩
  ·exact .inl (lt_trans h k)
  ·exact .inl (k1 ▸ h)
 ·rcases k with k|⟨k1,k2⟩
  ·exact .inl (h1 ▸ k)
  ·exact .inr ⟨h1.trans k1,by omega⟩
theorem bStp_0 {p:Option Beat} {b:Beat} (h:Cz p b=0):jM b.At=true/\jM b.Clock=true/\∀o,p=some o->gU o b:=by
 unfold Cz at h
 cases hk:nG b.Player with
 | false=>rw [hk]at h;cases h
 | true =>
 rw [hk]at h
 simp only [Bool.not_true,cond_false]at h
 cases ha:jM b.At with
 | false=>rw [ha]at h;cases h
 | true =>
 cases hc:jM b.Clock with
 | false=>rw [ha,hc]at h;cases h
 | true =>
 rw [ha,hc]at h
 simp only [Bool.not_true,Bool.or_self,cond_false]at h
 refine⟨rfl,rfl,λo ho => ?_⟩
 subst ho
 simp only at h
 by_cases hb:gU o b
 ·exact hb
 ·rw [if_neg hb]at h;cases h
def xH:List Beat->Prop
 | []=>True
 | x::xs=>(∀y∈xs,gU x y)/\xH xs
theorem sO:∀{l:List Beat} {p:Option Beat},yD Cz p l=0->(∀o,p=some o->∀y∈l,gU o y)/\xH l/\∀x∈l,jM x.At=true/\jM x.Clock=true
 | [],_,_=>⟨λ_ _ y hy=>(by cases hy),trivial,λx hx=>(by cases hx)⟩
 | x::xs,p,h=>by
  obtain ⟨h1,h2⟩:=chkG_0 h
  obtain ⟨i1,i2,i3⟩:=sO h2
  obtain ⟨j1,j2,j3⟩:=bStp_0 h1
  refine⟨λo ho y hy => ?_,⟨i1 x rfl,i2⟩,λy hy => ?_⟩
  ·rcases List.mem_cons.1 hy with rfl|hy
   ·exact j3 o ho
   ·exact before_trans (j3 o ho) (i1 x rfl y hy)
  ·rcases List.mem_cons.1 hy with rfl|hy
   ·exact⟨j1,j2⟩
   ·exact i3 y hy
theorem Dh {l:List Beat} (h:iE l=0):xH l/\∀x∈l,jM x.At=true/\jM x.Clock=true:=by
 unfold iE at h
 cases hl:decide (l.length>500)with
 | true=>rw [hl]at h;cases h
 | false=>rw [hl,cond_false]at h;exact (sO h).2
end Go.Proofs.YtdenjndllgahgaaGreatDoor.Law

