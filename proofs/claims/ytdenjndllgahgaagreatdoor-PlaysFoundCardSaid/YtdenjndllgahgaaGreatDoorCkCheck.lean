import Derived.Test.YtdenjndllgahgaaGreatDoorCkGen
/-
  PLAIN LEMMAS: the check of beats; those of a player, in order.
-/
open Go Go.Eng
namespace Go.Proofs.YtdenjndllgahgaaGreatDoor.Law
set_option linter.unusedVariables false
set_option linter.unusedSimpArgs false
def gJ (o b:Beat):Prop:=lt o.Player b.Player\/o.Player=b.Player/\o.At<b.At
instance (o b:Beat):Decidable (gJ o b):=by unfold gJ lt;infer_instance
def Bt (p:Option Beat) (b:Beat):Int :=
 bif !ng b.Player then 5 else bif !momB b.At || !momB b.Clock then 1 else match p with
  | none=>0
  | some o=>if gJ o b then (if b.Player=o.Player/\b.Clock<=o.Clock then 16 else 0)else 7
def fG (l:List Beat):Int:=bif decide (l.length>500)then 2 else x9 Bt none l
theorem uW (a b:Beat):∃n,fT a b=some n/\(n>=0↔¬gJ a b):=by
 refine⟨_,by simp only [fT,oM,uu,GJ,ob_];rfl,?_⟩
 unfold or0 gJ zW
 rcases nY a.Player b.Player with⟨h,k⟩|⟨h,k⟩|⟨h,k⟩
 ·rw [k];simp [h]
 ·rw [k,h]
  have:=jS b.Player
  by_cases h1:a.At<b.At
  ·simp [h1]
  ·by_cases h2:a.At>b.At
   ·simp [h1,h2,this]
   ·simp [h1,h2,this]
 ·rw [k]
  have h1:¬lt a.Player b.Player:=λh2=>jS _ (lt_trans h h2)
  have h2:a.Player≠b.Player:=λe=>jS _ (e ▸ h)
  simp [h1,h2]
theorem FH (l:List Beat) (hs:∀x∈l,wN x) (hl:l.length<=1000000):eu l=some (fG l):=by
 unfold eu fG
 have e:decide ((l.length:Int)>500)=decide (l.length>500):=decide_eq_decide.2 (by omega)
 rw [e]
 cases decide (l.length>500)with
 | true=>rfl
 | false =>
  simp only [cond_false]
  rw [fK (by omega),nL (stp:=Bt) l l 0 rfl (λk x hx => ?_)]
  ·simp only [ob_,ql];rfl
  ·have hxs:eO x.Player:=hs x (List.mem_of_getElem? hx)
   have eo:gD x.Clock 0 345686399999=some (!momB x.Clock):=by rw [vT];simp [momB]
   simp only [gX,sD x.Player (by unfold eO at hxs;omega),mP,eo,ob_,Bt]
   cases hk:ng x.Player with
   | false=>rfl
   | true =>
   simp only [Bool.not_true,cond_false]
   cases momB x.At with
   | false=>rfl
   | true =>
   simp only [Bool.not_true,cond_false,Bool.false_or,ob_]
   cases momB x.Clock with
   | false=>rfl
   | true =>
   simp only [Bool.not_true,cond_false]
   by_cases hk0:0<k
   ·obtain ⟨y,h1,h2⟩:=sO hx hk0 (by omega)
    have hd:decide ((k:Int)>0)=true:=by simp;omega
    obtain ⟨n,hn,hn2⟩:=uW y x
    simp only [hd,cond_true,h1,ob_,rZ,if_neg (show ¬k=0 by omega),h2,hn]
    by_cases hb:gJ y x
    ·have:decide (n>=0)=false:=by simp only [decide_eq_false_iff_not];exact λh=>(hn2.1 h) hb
     simp only [this,cond_false,if_pos hb,qy]
     by_cases he:x.Player=y.Player
     ·by_cases hc:x.Clock<=y.Clock
      ·simp [he,hc,o7]
      ·simp [he,hc,o7]
     ·simp [he,o7]
    ·have:decide (n>=0)=true:=decide_eq_true (hn2.2 hb)
     simp only [this,cond_true,if_neg hb,o7];rfl
   ·have hk0:k=0:=by omega
    subst hk0
    rfl
theorem beatsR (l:List Beat) (hs:∀x∈l,wN x) (hl:l.length<=1000000):jd l=some (fG l):=by
 unfold jd fG
 have e:decide ((l.length:Int)>500)=decide (l.length>500):=decide_eq_decide.2 (by omega)
 rw [e]
 cases decide (l.length>500)with
 | true=>rfl
 | false =>
  simp only [cond_false]
  rw [fK (by omega),nL (stp:=Bt) l l 0 rfl (λk x hx => ?_)]
  ·simp only [ob_,ql];rfl
  ·have hxs:eO x.Player:=hs x (List.mem_of_getElem? hx)
   simp only [ja,ug x.Player (by unfold eO at hxs;omega),lU,ob_,Bt]
   cases hk:ng x.Player with
   | false=>rfl
   | true =>
   simp only [Bool.not_true,cond_false]
   cases momB x.At with
   | false=>rfl
   | true =>
   simp only [Bool.not_true,cond_false,Bool.false_or,ob_]
   cases momB x.Clock with
   | false=>rfl
   | true =>
   simp only [Bool.not_true,cond_false]
   by_cases hk0:0<k
   ·obtain ⟨y,h1,h2⟩:=sO hx hk0 (by omega)
    have hd:((k:Int)==0)=false:=by simp;omega
    simp only [hd,cond_false,h1,ob_,rZ,if_neg (show ¬k=0 by omega),h2]
    rcases lt_tri x.Player y.Player with h|h|h
    ·have hb:¬gJ y x:=by
      rintro (h3|⟨h3,_⟩)
      ·exact jS _ (lt_trans h h3)
      ·rw [h3]at h;exact jS _ h
     have h1':sLt x.Player y.Player=true:=(Am _ _).2 h
     simp only [h1',cond_true,ob_,if_neg hb,o7];rfl
    ·have h1':sLt x.Player y.Player=false:=by
      rw [<- Bool.not_eq_true,Am,h];exact jS _
     have h2':sEq x.Player y.Player=true:=(zg _ _).2 h
     simp only [h1',h2',cond_true,cond_false,ob_]
     by_cases hat:x.At<=y.At
     ·have hb:¬gJ y x:=by
       rintro (h3|⟨_,h3⟩)
       ·rw [h]at h3;exact jS _ h3
       ·omega
      simp only [decide_eq_true hat,cond_true,if_neg hb,o7];rfl
     ·have hb:gJ y x := .inr ⟨h.symm,by omega⟩
      simp only [decide_eq_false hat,cond_false,if_pos hb]
      by_cases hc:x.Clock<=y.Clock
      ·simp [h,hc,o7]
      ·simp [h,hc,o7]
    ·have h1':sLt x.Player y.Player=false:=by
      rw [<- Bool.not_eq_true,Am];exact λh3=>jS _ (lt_trans h h3)
     have hne:x.Player≠y.Player:=λe=>jS _ (e ▸ h)
     have h2':sEq x.Player y.Player=false:=by rw [qy];exact decide_eq_false hne
     have hb:gJ y x := .inl h
     simp only [h1',h2',cond_false,ob_,if_pos hb]
     simp [hne,o7]
   ·have hk0:k=0:=by omega
    subst hk0
    rfl
theorem before_trans {a b c:Beat} (h:gJ a b) (k:gJ b c):gJ a c:=by
 rcases h with h|⟨h1,h2⟩
 ·rcases k with k|⟨k1,_⟩
  ·exact .inl (lt_trans h k)
  ·exact .inl (k1 ▸ h)
 ·rcases k with k|⟨k1,k2⟩
  ·exact .inl (h1 ▸ k)
  ·exact .inr ⟨h1.trans k1,by omega⟩
theorem bStp_0 {p:Option Beat} {b:Beat} (h:Bt p b=0):momB b.At=true/\momB b.Clock=true/\∀o,p=some o->gJ o b:=by
 unfold Bt at h
 cases hk:ng b.Player with
 | false=>rw [hk]at h;cases h
 | true =>
 rw [hk]at h
 simp only [Bool.not_true,cond_false]at h
 cases ha:momB b.At with
 | false=>rw [ha]at h;cases h
 | true =>
 cases hc:momB b.Clock with
 | false=>rw [ha,hc]at h;cases h
 | true =>
 rw [ha,hc]at h
 simp only [Bool.not_true,Bool.or_self,cond_false]at h
 refine⟨rfl,rfl,λo ho => ?_⟩
 subst ho
 simp only at h
 by_cases hb:gJ o b
 ·exact hb
 ·rw [if_neg hb]at h;cases h
def zA:List Beat->Prop
 | []=>True
 | x::xs=>(∀y∈xs,gJ x y)/\zA xs
theorem uT:∀{l:List Beat} {p:Option Beat},x9 Bt p l=0->(∀o,p=some o->∀y∈l,gJ o y)/\zA l/\∀x∈l,momB x.At=true/\momB x.Clock=true
 | [],_,_=>⟨λ_ _ y hy=>(by cases hy),trivial,λx hx=>(by cases hx)⟩
 | x::xs,p,h=>by
  obtain ⟨h1,h2⟩:=FE h
  obtain ⟨i1,i2,i3⟩:=uT h2
  obtain ⟨j1,j2,j3⟩:=bStp_0 h1
  refine⟨λo ho y hy => ?_,⟨i1 x rfl,i2⟩,λy hy => ?_⟩
  ·rcases List.mem_cons.1 hy with rfl|hy
   ·exact j3 o ho
   ·exact before_trans (j3 o ho) (i1 x rfl y hy)
  ·rcases List.mem_cons.1 hy with rfl|hy
   ·exact⟨j1,j2⟩
   ·exact i3 y hy
theorem Ca {l:List Beat} (h:fG l=0):zA l/\∀x∈l,momB x.At=true/\momB x.Clock=true:=by
 unfold fG at h
 cases hl:decide (l.length>500)with
 | true=>rw [hl]at h;cases h
 | false=>rw [hl,cond_false]at h;exact (uT h).2
end Go.Proofs.YtdenjndllgahgaaGreatDoor.Law

