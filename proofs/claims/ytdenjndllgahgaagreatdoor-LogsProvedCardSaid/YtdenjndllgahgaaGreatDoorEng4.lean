/-
  The engine: what the machine does to data, shown once for all programs (part 4).
-/
import Derived.Test.YtdenjndllgahgaaGreatDoorEng3
import Derived.Sort.Row
import Derived.Sort.Grow
/-
  THE ENGINE: parts of a slice over a box; clear.
-/
namespace Go.Eng
set_option linter.unusedSectionVars false
variable [DM]
set_option linter.unusedVariables false
set_option linter.unusedSimpArgs false
section
variable {C:Cfg} {Q:QH} {sl:Nat->V} {H:Hp} {c:Code}
end
section
variable {C:Cfg} {sl:Nat->V} {H:Hp} {q:Qm} {all rest:List Oper} {K:(Nat->V)->Hp->Prop}
 {dst:Option Tmp} {t ty e:TypeId} {pos:String} {after:Array Edge} {g:Option (Nat×Bool)}
def yo {α:Type} (xs:List α) (lo hi:Int):Option Unit:=if 0<=lo/\0<=hi/\lo.toNat<=hi.toNat/\hi.toNat<=xs.length then some ()else none
theorem tq {α:Type} {xs:List α} {lo hi:Int} {u:Unit} (h:yo xs lo hi=some u):0<=lo/\0<=hi/\lo.toNat<=hi.toNat/\hi.toNat<=xs.length:=by
 unfold yo at h;split at h
 ·assumption
 ·cases h
theorem subR_le {α:Type} {xs:List α} {lo hi:Int} {u:Unit} (h:yo xs lo hi=some u):lo.toNat+(hi.toNat-lo.toNat)<=xs.length:=by
 have:=tq h;omega
section part
variable {α:Type} {enc:α->List D} {xs:List α} {sz:Nat} {n:Nm} {x l hi:Operand} {k k':IntKind} {a b:Int} {u:Unit}
end part
end
end Go.Eng

/-
  THE ENGINE: a slice that a function writes into: its box is handed in and handed back.
-/
namespace Go.Eng
set_option linter.unusedSectionVars false
variable [DM]
set_option linter.unusedVariables false
set_option linter.unusedSimpArgs false
def gI {α:Type} (sz:Nat) (enc:α->List D):List α->List Box
  | []=>[]
  | x::xs=>[.vec sz ((x::xs).map enc)]
def gT {α:Type} (xs:List α) (o:Option Box):List (Option Box):=match xs with
  | []=>[]
  | _::_=>[o]
def inN (i:Int) (len:Nat):Option Unit:=if 0<=i/\i.toNat<len then some ()else none
abbrev yY {α:Type} (xs:List α) (lo len:Nat):List α:=(xs.drop lo).take len
theorem zS {i:Int} {n:Nat} {u:Unit} (h:inN i n=some u):0<=i:=by
  unfold inN at h;split at h
  · rename_i h1;exact h1.1
  · cases h
theorem uN {i:Int} {n:Nat} {u:Unit} (h:inN i n=some u):i.toNat<n:=by
  unfold inN at h;split at h
  · rename_i h1;exact h1.2
  · cases h
section
variable {C:Cfg} {sl:Nat->V} {H:Hp} {Q:QH} {c:Code}
end
section
variable {C:Cfg} {sl:Nat->V} {H:Hp} {q:Qm} {all rest:List Oper} {K:(Nat->V)->Hp->Prop}
variable {dst:Option Tmp} {d:Nat} {t ty:TypeId} {pos:String} {after:Array Edge} {g:Option (Nat×Bool)}
theorem CU {α:Type} {enc:α->List D} {sz:Nat} {rs:List ResultVar} {r:V} {e:Exit} {bs os:List Box} {xs:List α} {o:Option Box} (he:e = .normal\/e = .ret) (vs:List V) (h1:z8 C sl H rs vs) (h2:(vs.flatMap frz).all (λ_=>false)=true) (h3:A8 (vs.map co0)=r) (hr:okV 0 r=true)
    (hbl:bs.length=os.length) (hj:H[os.length]? = some (aG os.length,o)) (hO:os.all (λb=>b.ok 0)=true) (ho:∀b,o=some b->b.ok 0=true) (hH:H.take os.length=kZ 0 os) :
    AR C rs (bs++gI sz enc xs).length r (os.map some++gT xs o) e sl H:=by
  have hn:vs.flatMap frz=[]:=by
    cases hx:vs.flatMap frz with
    | nil=>rfl
    | cons a b=>rw [hx]at h2;simp at h2
  have hc:∀{vs:List V},vs.flatMap frz=[]->CoL H vs (vs.map co0):=by
    intro vs
    induction vs with
    | nil=>exact λ_ => .nil
    | cons v vs ih=>exact λh => .cons (iG (nA h v (by simp)) rfl) (ih (by simp only [List.flatMap_cons,List.append_eq_nil_iff]at h;exact h.2))
  have hget:∀i (h:i<os.length),H[i]? = some (aG i,some os[i]):=λi hi=>by
    have:=nu os 0 i hi
    rw [Nat.zero_add,<- hH,List.getElem?_take,if_pos hi]at this
    exact this
  have hou:∀{ν:List Nm} {l:List Box} {j:Nat} {js:List Nat} {ns:List Nm} {bs:List (Option Box)},(∀b∈l,b.ok 0=true)->(∀i (h:i<l.length),H[j+i]? = some (aG (j+i),some l[i]))->wT H ν js ns bs->wT H ν (List.range' j l.length++js) ((List.range' j l.length).map aG++ns) (l.map some++bs):=by
    intro ν l
    induction l with
    | nil=>exact λ_ _ h=>h
    | cons b l ih =>
      intro j js ns bs hb hg hr
      simp only [List.length_cons,List.range'_succ,List.map_cons,List.cons_append]
      refine⟨?_,ih (λx hx=>hb x (by simp [hx])) (λi hi => ?_) hr⟩
      · have:=hg 0 (by simp)
        simp only [Option.map_some,yF (hb b (by simp))]
        exact this
      · have:=hg (i+1) (by simpa using hi)
        rw [show j+1+i=j+(i+1) by omega]
        exact this
  have hO':∀b∈os,b.ok 0=true:=λb hb=>List.all_eq_true.1 hO b hb
  cases xs with
  | nil =>
    refine⟨he,vs,vs.map co0,List.range' 0 os.length++[],(List.range' 0 os.length).map aG++[],h1,hc hn,by rw [h3,si hr],hou hO' (λi hi=>by rw [Nat.zero_add];exact hget i hi) trivial,by simp [List.nodup_range'],λi hi => ?_⟩
    have:i<os.length:=by simpa [gI,hbl]using hi
    simp [this]
  | cons x xs =>
    refine⟨he,vs,vs.map co0,List.range' 0 os.length++[os.length],(List.range' 0 os.length).map aG++[aG os.length],h1,hc hn,by rw [h3,si hr],
      hou hO' (λi hi=>by rw [Nat.zero_add];exact hget i hi) ⟨?_,trivial⟩,?_,λi hi => ?_⟩
    · rw [hj]
      cases o with
      | none=>rfl
      | some b=>simp only [Option.map_some,yF (ho b rfl)]
    · rw [List.nodup_append]
      refine⟨List.nodup_range',by simp,λa ha b hb => ?_⟩
      simp only [List.mem_singleton]at hb
      simp only [List.mem_range'_1]at ha
      omega
    · have hi':i<os.length+1:=by simpa [gI,hbl]using hi
      by_cases hlt:i<os.length
      · rw [List.getElem?_append_left (by simpa using hlt)];simp [hlt]
      · have:i=os.length:=by omega
        subst this
        rw [List.getElem?_append_right (by simp)];simp
end
end Go.Eng

/-
  THE ENGINE: rules for maps, arrays and new slices of zeros.
-/
namespace Go.Eng
set_option linter.unusedSectionVars false
variable [DM]
set_option linter.unusedVariables false
set_option linter.unusedSimpArgs false
section
variable {C:Cfg} {sl:Nat->V} {H:Hp} {q:Qm} {all rest:List Oper} {K:(Nat->V)->Hp->Prop}
variable {dst:Option Tmp} {d:Nat} {t ty:TypeId} {pos:String} {after:Array Edge} {g:Option (Nat×Bool)}
end
end Go.Eng

/-
  THE ENGINE: slices with room made ahead; functions that are handed two slices in their boxes.
-/
namespace Go.Eng
set_option linter.unusedSectionVars false
variable [DM]
set_option linter.unusedVariables false
set_option linter.unusedSimpArgs false
section
variable {C:Cfg} {Q:QH} {sl:Nat->V} {H:Hp} {c:Code}
end
section
variable {C:Cfg} {sl:Nat->V} {H:Hp} {q:Qm} {all rest:List Oper} {K:(Nat->V)->Hp->Prop}
variable {dst:Option Tmp} {d:Nat} {t ty:TypeId} {pos:String} {after:Array Edge} {g:Option (Nat×Bool)}
end
end Go.Eng

/-
  THE ENGINE: functions that are handed two slices in their boxes.
-/
namespace Go.Eng
set_option linter.unusedSectionVars false
variable [DM]
set_option linter.unusedVariables false
set_option linter.unusedSimpArgs false
def okO (os:List (Option Box)):Bool:=os.all λo=>match o with
  | some b=>b.ok 0
  | none=>true
theorem ArgsOK.set {S:Store} {x y x' y':V} (hxy:y'=x'\/y'=co S x'):∀{a b:List V} {i:Nat},ArgsOK S (a.set i x) (b.set i y)->ArgsOK S (a.set i x') (b.set i y')
  | [],[],i,h=>by simpa using h
  | [],b::bs,i,h=>by cases i <;> (simp at h;cases h)
  | a::az,[],i,h=>by cases i <;> (simp at h;cases h)
  | a::az,b::bs,0,h=>by
    simp only [List.set_cons_zero]at h ⊢
    cases h with
    | cons _ t=>exact .cons hxy t
  | a::az,b::bs,i+1,h=>by
    simp only [List.set_cons_succ]at h ⊢
    cases h with
    | cons h1 t=>exact .cons h1 (ArgsOK.set hxy t)
section
variable {C:Cfg} {sl:Nat->V} {H:Hp} {q:Qm} {all rest:List Oper} {K:(Nat->V)->Hp->Prop}
variable {dst:Option Tmp} {d:Nat} {t ty:TypeId} {pos:String} {after:Array Edge} {g:Option (Nat×Bool)}
theorem yf {H0:Hp} (h:H.take H0.length=H0):pre H0 H:=aI h
end
end Go.Eng

/-
  THE ENGINE: a sort of the library's, by its contract off the shelf.
-/
namespace Go.Eng
set_option linter.unusedSectionVars false
variable [DM]
open Go.Sort
set_option linter.unusedVariables false
set_option linter.unusedSimpArgs false
theorem l7.alone {G:Gh} {w:World} {vargs:List Value} {a:V} (h:l7 G w vargs [a]):∃x,vargs=[x]/\RepV G w x a:=by
 obtain ⟨hl,h⟩:=h
 match vargs,hl with
 | [x],_=>exact⟨x,rfl,h 0 (by simp) (by simp)⟩
end Go.Eng

