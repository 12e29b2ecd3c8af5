/-
  The engine: what the machine does to data, shown once for all programs (part 5).
-/
import Derived.Test.YtekmkepojbhafacGreatDoorEng4
/-
  THE ENGINE: a slice that is cut in its own box and grows again; boxes of slices that may be empty; maps whose keys are structs.
-/
namespace Go.Eng
set_option linter.unusedSectionVars false
variable [DM]
set_option linter.unusedVariables false
set_option linter.unusedSimpArgs false
section
variable {C:Cfg} {Q:QH} {sl:Nat->V} {H:Hp} {c:Code}
end
section
variable {C:Cfg} {sl:Nat->V} {H:Hp} {q:Qm} {all rest:List Oper} {K:(Nat->V)->Hp->Prop}
variable {dst:Option Tmp} {d:Nat} {t ty:TypeId} {pos:String} {after:Array Edge} {g:Option (Nat×Bool)}
end
end Go.Eng

/-
  THE ENGINE: rules for arrays of bytes in a box, and for bytes to a string and back.
-/
namespace Go.Eng
set_option linter.unusedSectionVars false
variable [DM]
open Go
set_option linter.unusedVariables false
set_option linter.unusedSimpArgs false
def zL {α:Type} (xs:List α) (n:Nat):Option Unit:=if xs.length=n then some ()else none
theorem oW {α:Type} {xs:List α} {n:Nat} {u:Unit} (h:zL xs n=some u):xs.length=n:=by
 unfold zL at h;split at h
 ·assumption
 ·cases h
section
variable {C:Cfg} {sl:Nat->V} {H:Hp} {q:Qm} {all rest:List Oper} {K:(Nat->V)->Hp->Prop}
variable {dst:Option Tmp} {d:Nat} {t ty:TypeId} {pos:String} {after:Array Edge} {g:Option (Nat×Bool)}
section
variable {xs:List Int} {m:Nat} {nm:Nm} {x l hi:Operand} {k k':IntKind} {a b:Int} {u u':Unit}
end
end
end Go.Eng

/-
  THE ENGINE: results of which the first is a new slice and the others are data.
-/
namespace Go.Eng
set_option linter.unusedSectionVars false
variable [DM]
set_option linter.unusedVariables false
section
variable {C:Cfg} {sl:Nat->V} {H:Hp} {q:Qm} {all rest:List Oper} {K:(Nat->V)->Hp->Prop}
variable {dst:Option Tmp} {d:Nat} {t ty:TypeId} {pos:String} {after:Array Edge} {g:Option (Nat×Bool)}
end
end Go.Eng

/-
  THE ENGINE: a function that reads a slice as data reads it out of its box, too: the box is as it was.
-/
namespace Go.Eng
set_option linter.unusedSectionVars false
variable [DM]
set_option linter.unusedVariables false
end Go.Eng

/-
  THE ENGINE: grids: slices of slices of which each row is a box of its own; the rows' boxes stand behind all others.
-/
namespace Go.Eng
set_option linter.unusedSectionVars false
variable [DM]
set_option linter.unusedVariables false
section rows
variable {α:Type} {enc:α->List D} {sz:Nat}
def w9 (ns:Nat->Nm) (i:Nat) (m:Nm):Nat->Nm:=λj=>if j=i then m else ns j
theorem Mq (ns:Nat->Nm) (i:Nat) (m:Nm):w9 ns i m i=m:=if_pos rfl
theorem GK (ns:Nat->Nm) (i:Nat):w9 ns i (ns i)=ns:=funext λj=>by unfold w9;split <;> simp_all
def aP (sz:Nat) (enc:α->List D) (ns:Nat->Nm) (rows:List (List α)):Hp:=rows.mapIdx λi r=>(ns i,gB sz enc r)
def aJ (sz:Nat) (ns:Nat->Nm) (rows:List (List α)):List V:=rows.mapIdx λi r=>gV (ns i) sz r
theorem yo {ns:Nat->Nm} {rows:List (List α)}:(aP sz enc ns rows).length=rows.length:=by simp [aP]
theorem sV {ns:Nat->Nm} {rows:List (List α)}:(aJ sz ns rows).length=rows.length:=by simp [aJ]
theorem Ng {ns:Nat->Nm} {rows:List (List α)} {i:Nat} {r:List α} (hr:rows[i]? = some r):(aP sz enc ns rows)[i]? = some (ns i,gB sz enc r):=by
 unfold aP;rw [List.getElem?_mapIdx,hr];rfl
theorem DK {ns:Nat->Nm} {rows:List (List α)} {i:Nat} {r:List α} (hr:rows[i]? = some r):(aJ sz ns rows)[i]? = some (gV (ns i) sz r):=by
 unfold aJ;rw [List.getElem?_mapIdx,hr];rfl
theorem zY {C0:Hp} {ns:Nat->Nm} {rows:List (List α)} {i:Nat} {r:List α} (hr:rows[i]? = some r):(C0++aP sz enc ns rows)[C0.length+i]? = some (ns i,gB sz enc r):=by
 rw [List.getElem?_append_right (by omega),show C0.length+i-C0.length=i by omega];exact Ng hr
theorem Ol {β γ:Type} (f:Nat->β->γ) (g:Nat->β->γ) (l:List β) (i:Nat) (b:β) (h:∀j x,j≠i->g j x=f j x):(l.set i b).mapIdx g=(l.mapIdx f).set i (g i b):=by
 refine List.ext_getElem? (λj => ?_)
 rw [List.getElem?_mapIdx,List.getElem?_set,List.getElem?_set,List.getElem?_mapIdx,List.length_mapIdx]
 by_cases hj:i=j
 ·subst hj
  simp only [if_true]
  split <;> rfl
 ·rw [if_neg hj,if_neg hj]
  cases l[j]? with
  | none=>rfl
  | some x=>simp only [Option.map_some];rw [h j x (λe=>hj e.symm)]
theorem Gg {ns:Nat->Nm} {rows:List (List α)} {i:Nat} {m:Nm} {r:List α}:(aP sz enc ns rows).set i (m,gB sz enc r)=aP sz enc (w9 ns i m) (rows.set i r):=by
 unfold aP
 rw [Ol (λi r=>(ns i,gB sz enc r)) _ rows i r (λj x h=>by simp only [w9,if_neg h]),Mq]
theorem DX {ns:Nat->Nm} {rows:List (List α)} {i:Nat} {m:Nm} {r:List α}:(aJ sz ns rows).set i (gV m sz r)=aJ sz (w9 ns i m) (rows.set i r):=by
 unfold aJ
 rw [Ol (λi r=>gV (ns i) sz r) _ rows i r (λj x h=>by simp only [w9,if_neg h]),Mq]
theorem Nr {C0:Hp} {ns:Nat->Nm} {rows:List (List α)} {i:Nat} {m:Nm} {r:List α}:(C0++aP sz enc ns rows).set (C0.length+i) (m,gB sz enc r)=C0++aP sz enc (w9 ns i m) (rows.set i r):=by
 show List.set (C0++aP sz enc ns rows) _ _=_
 rw [List.set_append_right _ _ (by omega),show C0.length+i-C0.length=i by omega,Gg]
theorem NY {C0:Hp} {ns:Nat->Nm} {rows:List (List α)} {i:Nat} {r:List α}:(C0++aP sz enc ns rows).set (C0.length+i) (ns i,gB sz enc r)=C0++aP sz enc ns (rows.set i r):=by
 have:=Nr (sz:=sz) (enc:=enc) (C0:=C0) (ns:=ns) (rows:=rows) (i:=i) (m:=ns i) (r:=r)
 rw [GK]at this;exact this
theorem NE {ns:Nat->Nm} {rows:List (List α)} {i:Nat} {r:List α} (hr:rows[i]? = some r):rdV false 1 ((aJ sz ns rows).drop (i*1+0))=some (gV (ns i) sz r):=by
 have h:=DK (sz:=sz) (ns:=ns) hr
 obtain ⟨hi,e⟩:=List.getElem?_eq_some_iff.1 h
 rw [show i*1+0=i by omega,List.drop_eq_getElem_cons hi,e];rfl
theorem OC {m:Nm} {r:List α}:bA (gV m sz r)=[gV m sz r]/\iX (gV m sz r)=true:=by cases r <;> exact⟨rfl,rfl⟩
theorem D5 {β:Type}:∀(l:List β) (i:Nat) (b:β),i<l.length->splice l [b] i=l.set i b
 | [],i,b,h=>by cases h
 | x::l,0,b,h=>rfl
 | x::l,i+1,b,h=>by
  have:=D5 l i b (by simpa using h)
  unfold splice at this ⊢
  simp only [List.length_cons,List.length_nil,List.take_succ_cons,List.cons_append,List.set_cons_succ]at this ⊢
  rw [<- this]
  simp only [show i+1+(0+1)=(i+(0+1))+1 by omega,List.drop_succ_cons]
theorem NP {ns:Nat->Nm} {rows:List (List α)} {i:Nat} {m:Nm} {r:List α} (hl:i<rows.length):stC 1 (aJ sz ns rows) (i*1+0) (gV m sz r)=some (aJ sz (w9 ns i m) (rows.set i r)):=by
 have hl':i<(aJ sz ns rows).length:=by rw [sV];exact hl
 unfold stC
 rw [show i*1+0=i by omega,(OC (m:=m) (sz:=sz) (r:=r)).1]
 have h1:(Nat.beq [gV m sz r].length 1&&Nat.ble (i+1) (aJ sz ns rows).length&&[gV m sz r].all iX)=true:=by
  simp only [List.length_cons,List.length_nil,List.all_cons,(OC (m:=m) (sz:=sz) (r:=r)).2,List.all_nil,Bool.and_true,Bool.and_eq_true,Nat.ble_eq]
  exact⟨rfl,by omega⟩
 rw [h1,cond_true,D5 _ _ _ hl',DX]
theorem NK (ns:Nat->Nm) (n:Nat):aP sz enc ns (List.replicate n [])=(List.range n).map λi=>(ns i,none):=by
 refine List.ext_getElem? (λj => ?_)
 unfold aP
 rw [List.getElem?_mapIdx,List.getElem?_map,List.getElem?_replicate]
 by_cases hj:j<n
 ·rw [if_pos hj,List.getElem?_range hj];rfl
 ·rw [if_neg hj,List.getElem?_eq_none (by simpa using hj)];rfl
theorem KP (ns:Nat->Nm) (n:Nat):aJ (α:=α) sz ns (List.replicate n [])=List.replicate n .nil:=by
 refine List.ext_getElem? (λj => ?_)
 unfold aJ
 rw [List.getElem?_mapIdx,List.getElem?_replicate,List.getElem?_replicate]
 by_cases hj:j<n
 ·rw [if_pos hj,if_pos hj];rfl
 ·rw [if_neg hj,if_neg hj];rfl
end rows
theorem Po {H0 H:Hp} (hp:H0.Perm H):pre H0 H:=by
 induction hp with
 | nil=>exact⟨[],List.nodup_nil,rfl⟩
 | @cons x l1 l2 _ ih =>
  obtain ⟨is,h1,h2⟩:=ih
  refine⟨0::is.map (· + 1),?_,?_⟩
  ·refine List.nodup_cons.2 ⟨by simp,?_⟩
   exact List.Pairwise.map _ (λa b h e=>h (by omega)) h1
  ·simp only [List.map_cons,List.map_map,List.getElem?_cons_zero]
   congr 1
 | swap x y l =>
  refine⟨1::0::(List.range l.length).map (· + 2),?_,?_⟩
  ·refine List.nodup_cons.2 ⟨by simp,List.nodup_cons.2 ⟨by simp,?_⟩⟩
   exact List.Pairwise.map _ (λa b h e=>h (by omega)) List.nodup_range
  ·simp only [List.map_cons,List.map_map,List.getElem?_cons_zero,List.getElem?_cons_succ]
   congr 2
   refine List.ext_getElem (by simp) (λi h1 h2 => ?_)
   simp only [List.getElem_map,List.getElem_range,Function.comp_apply,List.getElem?_cons_succ]
   simp only [List.length_map,List.length_range]at h1
   rw [List.getElem?_eq_getElem h1]
 | trans _ _ ih1 ih2 =>
  obtain ⟨is,h1,h2⟩:=ih1
  obtain ⟨js,k1,k2⟩:=ih2
  obtain ⟨hl,hg⟩:=tY h2
  obtain ⟨kl,kg⟩:=tY k2
  have hb:∀i∈is,i<js.length:=λi hi=>by
   obtain ⟨j,hj,rfl⟩:=List.getElem_of_mem hi
   have:=(List.getElem?_eq_some_iff.1 (hg j hj (by omega))).1
   omega
  refine⟨is.map (λi=>js.getD i 0),?_,?_⟩
  ·rw [List.nodup_iff_pairwise_ne]at h1 k1 ⊢
   refine List.pairwise_map.2 ((List.Pairwise.and_mem.1 h1).imp (λ{a b} h e => ?_))
   obtain ⟨ha,hb',hne⟩:=h
   have la:=hb a ha
   have lb:=hb b hb'
   simp only [List.getD_eq_getElem?_getD,List.getElem?_eq_getElem la,List.getElem?_eq_getElem lb,Option.getD_some]at e
   rcases Nat.lt_or_gt_of_ne hne with h|h
   ·exact (List.pairwise_iff_getElem.1 k1) a b la lb h e
   ·exact (List.pairwise_iff_getElem.1 k1) b a lb la h e.symm
  ·rw [<- h2,List.map_map]
   refine List.map_congr_left (λi hi => ?_)
   have li:=hb i hi
   simp only [Function.comp_apply,List.getD_eq_getElem?_getD,List.getElem?_eq_getElem li,Option.getD_some]
   rw [kg i li (by omega),List.getElem?_eq_getElem (by omega)]
theorem Om {C0 C1 T:Hp} (h:pre C0 C1):pre (C0++T) (C1++T):=by
 obtain ⟨is,h1,h2⟩:=h
 obtain ⟨hl,hg⟩:=tY h2
 have hb:∀i∈is,i<C1.length:=λi hi=>by
  obtain ⟨j,hj,rfl⟩:=List.getElem_of_mem hi
  exact (List.getElem?_eq_some_iff.1 (hg j hj (by omega))).1
 refine⟨is++(List.range T.length).map (· + C1.length),?_,?_⟩
 ·refine List.nodup_append.2 ⟨h1,?_,λa ha b hb' e => ?_⟩
  ·exact List.Pairwise.map _ (λa b h e=>h (by omega)) List.nodup_range
  ·obtain ⟨j,_,rfl⟩:=List.mem_map.1 hb'
   have:=hb a ha
   omega
 ·rw [List.map_append,List.map_append]
  congr 1
  ·rw [<- h2]
   exact List.map_congr_left (λi hi=>List.getElem?_append_left (hb i hi))
  ·refine List.ext_getElem (by simp) (λi k1 k2 => ?_)
   simp only [List.length_map,List.length_range]at k1
   simp only [List.getElem_map,List.getElem_range]
   rw [List.getElem?_append_right (by omega),show i+C1.length-C1.length=i by omega,List.getElem?_eq_getElem k1]
theorem J8 (C0 T X:Hp):(C0++X++T).Perm (C0++T++X):=by
 rw [List.append_assoc,List.append_assoc]
 exact List.Perm.append_left C0 List.perm_append_comm
section
variable {C:Cfg} {sl:Nat->V} {H H0:Hp} {q:Qm} {all rest:List Oper} {K:(Nat->V)->Hp->Prop}
theorem AgR.perm {S:Store} {t:Nat} {l:List Oper} (hp:H0.Perm H) (ag:AgR H S t l):AgR H0 S t l :=
 ⟨ag.pos,(hp.map (·.1)).nodup_iff.2 ag.nd,λp h=>ag.at_ p (hp.mem_iff.1 h)⟩
theorem h_perm (hp:H0.Perm H) (h:aW q C all K rest sl H0):aW q C all K rest sl H:=λS tk ok ag=>h S tk ok (ag.perm hp)
theorem kL (e:H0=H) (h:aW q C all K rest sl H0):aW q C all K rest sl H:=e ▸ h
theorem Eh:∀(n:Nat) {H:Hp},(∀ns:List Nm,ns.length=n->aW q C all K rest sl (H++ns.map λm=>(m,none)))->aW q C all K rest sl H
 | 0,H,h=>by have:=h [] rfl;simpa using this
 | n+1,H,h=>Iw (λm=>Eh n (λns hn=>by
   have:=h (m::ns) (by simp [hn])
   simpa using this))
theorem Nl {α:Type} {enc:α->List D} {sz:Nat} (n:Nat) (h:∀ns:Nat->Nm,aW q C all K rest sl (H++aP (α:=α) sz enc ns (List.replicate n []))):aW q C all K rest sl H :=
 Eh n (λns hn=>by
  have:=h (λi=>ns.getD i (0,0))
  rw [NK]at this
  have e:(ns.map λm=>((m,none):Nm×Option Box))=(List.range n).map λi=>(ns.getD i (0,0),none):=by
   refine List.ext_getElem (by simp [hn]) (λi h1 h2 => ?_)
   simp only [List.length_map]at h1
   simp only [List.getElem_map,List.getElem_range,List.getD_eq_getElem?_getD,List.getElem?_eq_getElem h1,Option.getD_some]
  rw [e];exact this)
theorem rG {C0 T X:Hp} (h:aW q C all K rest sl (C0++X++T)):aW q C all K rest sl (C0++T++X):=h_perm (J8 C0 T X) h
theorem MS {α:Type} {enc:α->List D} {sz:Nat} {C0:Hp} {ns:Nat->Nm} {rows:List (List α)} {i:Nat} {m:Nm} {r:List α} (hi:i<rows.length):pre (C0++aP sz enc (w9 ns i m) (rows.set i r)) (C0++[(m,gB sz enc r)]++aP sz enc ns rows):=by
 have hlen:(aP sz enc ns rows).length=rows.length:=yo
 refine⟨List.range C0.length++((List.range rows.length).map λj=>if j=i then C0.length else C0.length+1+j),?_,?_⟩
 ·refine List.nodup_append.2 ⟨List.nodup_range,?_,λa ha b hb e => ?_⟩
  ·refine List.pairwise_map.2 (List.nodup_range.imp (λ{a b} h e => ?_))
   split at e <;> split at e <;> omega
  ·simp only [List.mem_range]at ha
   obtain ⟨j,_,rfl⟩:=List.mem_map.1 hb
   split at e <;> omega
 ·rw [List.map_append,List.map_append,List.map_map]
  congr 1
  ·refine List.ext_getElem (by simp) (λj h1 h2 => ?_)
   simp only [List.length_map,List.length_range]at h1
   simp only [List.getElem_map,List.getElem_range]
   rw [List.append_assoc,List.getElem?_append_left h1,List.getElem?_eq_getElem h1]
  ·refine List.ext_getElem (by simp [yo]) (λj h1 h2 => ?_)
   simp only [List.length_map,List.length_range]at h1
   simp only [List.getElem_map,List.getElem_range,Function.comp_apply]
   have hg:=Gg (sz:=sz) (enc:=enc) (ns:=ns) (rows:=rows) (i:=i) (m:=m) (r:=r)
   by_cases hj:j=i
   ·subst hj
    rw [if_pos rfl,List.append_assoc,List.getElem?_append_right (by omega),Nat.sub_self]
    have:(aP sz enc (w9 ns j m) (rows.set j r))[j]? = some (m,gB sz enc r):=by
     rw [<- hg,List.getElem?_set_self (by rw [hlen];exact hi)]
    rw [<- List.getElem?_eq_getElem,this];rfl
   ·rw [if_neg hj,List.append_assoc,List.getElem?_append_right (by omega),show C0.length+1+j-C0.length=j+1 by omega]
    have:(aP sz enc (w9 ns i m) (rows.set i r))[j]? = (aP sz enc ns rows)[j]? := by
     rw [<- hg,List.getElem?_set_ne (λe=>hj e.symm)]
    rw [<- List.getElem?_eq_getElem,this];rfl
theorem AgR.pre {S:Store} {t:Nat} {l:List Oper} (h:Eng.pre H0 H) (ag:AgR H S t l):AgR H0 S t l:=by
 have ag1:Ag H S (t+1):=⟨Nat.succ_pos _,ag.nd,λp hp=>⟨by rcases (ag.at_ p hp).1 with h1 | ⟨h1,_⟩ <;> omega,(ag.at_ p hp).2⟩⟩
 refine⟨ag.pos,(ag1.pre h).nd,λp hp => ?_⟩
 obtain ⟨is,_,he⟩:=h
 obtain ⟨hl,hg⟩:=tY he
 obtain ⟨i,hi,rfl⟩:=List.getElem_of_mem hp
 exact ag.at_ _ (List.mem_of_getElem? (hg i (by omega) hi))
theorem h_pre (hp:Eng.pre H0 H) (h:aW q C all K rest sl H0):aW q C all K rest sl H:=λS tk ok ag=>h S tk ok (ag.pre hp)
theorem h_rowin {α:Type} {enc:α->List D} {sz:Nat} {C0:Hp} {ns:Nat->Nm} {rows:List (List α)} {i:Nat} {m:Nm} {r:List α} (hi:i<rows.length) (h:aW q C all K rest sl (C0++aP sz enc (w9 ns i m) (rows.set i r))):aW q C all K rest sl (C0++[(m,gB sz enc r)]++aP sz enc ns rows):=h_pre (MS hi) h
variable {dst:Option Tmp} {d:Nat} {t ty:TypeId} {pos:String} {after:Array Edge} {g:Option (Nat×Bool)}
theorem pU {α:Type} {x:Operand} {n:Nm} {i sz:Nat} {ns:Nat->Nm} {rows:List (List α)} {r:List α} (p k:Nat) (hp:q=none\/Nat.beq all.length (p+(rest.length+1))=true) (hf:∀S tk,AgR H S tk (⟨dst,.load t x,ty,pos,after,g⟩::rest)->okQ q all p [n] false) (hs:szT C.P t=some 1) (ha:bX C.P t=false) (hx:ev sl x = .ref n i 0) (hH:H[k]? = some (n,some (.cells 1 (aJ sz ns rows)))) (hr:rows[i]? = some r)
  (hw:aN all sl ⟨dst,.load t x,ty,pos,after,g⟩=some true) (h:aW (mP q p [n] false) C all K rest (dG sl dst (gV (ns i) sz r)) H):aW q C all K (⟨dst,.load t x,ty,pos,after,g⟩::rest) sl H :=
 aF p k hp hf hs ha hx hH _ (NE hr) hw h
theorem Gl {α:Type} {enc:α->List D} {C0:Hp} {x:Operand} {size:Nat} {agg:Bool} {i j o sz:Nat} {ns:Nat->Nm} {rows:List (List α)} {r:List α} {e:α} (p:Nat) (hp:q=none\/Nat.beq all.length (p+(rest.length+1))=true) (hf:∀S tk,AgR (C0++aP sz enc ns rows) S tk (⟨dst,.load t x,ty,pos,after,g⟩::rest)->okQ q all p [ns i] false) (hs:szT C.P t=some size) (ha:bX C.P t=agg) (hx:ev sl x = .ref (ns i) j o) (hr:rows[i]? = some r) (he:r[j]? = some e)
  (v:V) (hv:rdD agg size ((enc e).drop o)=some v) (hw:aN all sl ⟨dst,.load t x,ty,pos,after,g⟩=some true) (h:aW (mP q p [ns i] false) C all K rest (dG sl dst v) (C0++aP sz enc ns rows)):aW q C all K (⟨dst,.load t x,ty,pos,after,g⟩::rest) sl (C0++aP sz enc ns rows) :=
 uj p (C0.length+i) hp hf hs ha hx (zY hr) he v hv hw h
theorem Av {α:Type} {enc:α->List D} {C0:Hp} {x y:Operand} {size:Nat} {i j o sz:Nat} {ns:Nat->Nm} {rows:List (List α)} {r:List α} {e:α} (p:Nat) (hp:q=none\/Nat.beq all.length (p+(rest.length+1))=true) (hf:∀S tk,AgR (C0++aP sz enc ns rows) S tk (⟨dst,.store t x y,ty,pos,after,g⟩::rest)->okQ q all p [ns i] true) (hs:szT C.P t=some size) (hx:ev sl x = .ref (ns i) j o) (hr:rows[i]? = some r) (he:r[j]? = some e) (e':α) (hv:stD size (enc e) o (ev sl y)=some (enc e'))
  (hw:aN all sl ⟨dst,.store t x y,ty,pos,after,g⟩=some true) (h:aW (mP q p [ns i] true) C all K rest (dG sl dst .none) (C0++aP sz enc ns (rows.set i (r.set j e')))):aW q C all K (⟨dst,.store t x y,ty,pos,after,g⟩::rest) sl (C0++aP sz enc ns rows) :=
 D7 p hp hf (C0.length+i) hs hx (zY hr) he e' hv hw (by rw [NY];exact h)
theorem h_gst {α:Type} {x y:Operand} {n:Nm} {i sz:Nat} {ns:Nat->Nm} {rows:List (List α)} {m:Nm} {r:List α} (p k:Nat) (hp:q=none\/Nat.beq all.length (p+(rest.length+1))=true) (hf:∀S tk,AgR H S tk (⟨dst,.store t x y,ty,pos,after,g⟩::rest)->okQ q all p [n] true) (hs:szT C.P t=some 1) (hx:ev sl x = .ref n i 0) (hy:ev sl y=gV m sz r) (hH:H[k]? = some (n,some (.cells 1 (aJ sz ns rows)))) (hi:i<rows.length)
  (hw:aN all sl ⟨dst,.store t x y,ty,pos,after,g⟩=some true) (h:aW (mP q p [n] true) C all K rest (dG sl dst .none) (H.set k (n,some (.cells 1 (aJ sz (w9 ns i m) (rows.set i r)))))):aW q C all K (⟨dst,.store t x y,ty,pos,after,g⟩::rest) sl H :=
 fE p hp hf k hs hx hH _ (by rw [hy];exact NP hi) hw h
theorem Oo {α:Type} {enc:α->List D} {x y:Operand} {k k':IntKind} {n:Int} {m e sz by_:Nat} (p:Nat) (hp:q=none\/Nat.beq all.length (p+(rest.length+1))=true)
  (he:bN C.P t=some e) (hs:szT C.P e=some 1) (hz:zeroCells C.P e=some [.nil]) (hb:eP C.P e=by_)
  (hx:ev sl x = .d (.int k n)) (hy:ev sl y = .d (.int k' n)) (hn:mkN n by_=some m) (hn0:n≠0)
  (hw:aN all sl ⟨some d,.makeSlice t x y,ty,pos,after,g⟩=some true)
  (h:∀(nm:Nm) (ns:Nat->Nm),aW (mP q p [nm] true) C all K rest (upd sl d (.vs nm 1 0 m)) (H++[(nm,some (.cells 1 (aJ (α:=α) sz ns (List.replicate m []))))]++aP sz enc ns (List.replicate m []))):aW q C all K (⟨some d,.makeSlice t x y,ty,pos,after,g⟩::rest) sl H:=by
 unfold mkN at hn
 split at hn
 ·rename_i hc
  simp only [so_]at hn;subst hn
  refine qh rfl p [] hp (λ_ _ _=>vG) (λm hm=>by cases hm) hw (λS tk K' ok ag hk=>jq (A:=⟨[],[((d,tk),some (.cells 1 (List.replicate n.toNat .nil)))],.vs (d,tk) 1 0 n.toNat⟩) (λc e=>by cases e) ?_
   (hk _ _ _ (.inl rfl) ⟨by simp,by simp⟩ (ag.new ok rfl _) (Nl (α:=α) (enc:=enc) (sz:=sz) n.toNat (λns=>by
    have:=h (d,tk) ns
    rw [KP]at this
    exact this))))
  show kQ C.P t (ev sl x) (ev sl y) d tk=_
  unfold kQ
  rw [he,hx,hy]
  simp only [hs,hz,hb]
  rw [if_neg (λh=>hn0 h.1)]
  rw [if_pos ⟨hc.1,trivial,hc.2.1,hc.2.2,rfl,by omega,rfl⟩]
  rfl
 ·cases hn
end
end Go.Eng

/-
  THE ENGINE: queues: a slice that is shortened from its head and appended to.
-/
namespace Go.Eng
set_option linter.unusedSectionVars false
variable [DM]
set_option linter.unusedVariables false
abbrev qV {α:Type} (n:Nm) (sz:Nat) (xs:List α) (k:Nat):V := .vs n sz k (xs.length-k)
section
variable {C:Cfg} {sl:Nat->V} {H:Hp} {q:Qm} {all rest:List Oper} {K:(Nat->V)->Hp->Prop}
variable {dst:Option Tmp} {d:Nat} {t ty:TypeId} {pos:String} {after:Array Edge} {g:Option (Nat×Bool)}
variable {α:Type} {enc:α->List D} {xs ys zs:List α} {x y:Operand} {t' e e':TypeId} {sz bytes i k:Nat} {n:Nm} {z:List V}
theorem h_appq (p:Nat) (hpp:q=none\/Nat.beq all.length (p+(rest.length+1))=true) (hf:∀S tk,AgR H S tk (⟨some d,.call ⟨.builtin .append,#[x,y],#[t,t']⟩,ty,pos,after,g⟩::rest)->okQ q all p [n] true) (he:bN C.P t=some e) (he':bN C.P t'=some e') (hs:szT C.P e=some sz) (hz:zeroCells C.P e=some z) (hzl:z.length=sz) (hp:0<sz) (hby:eP C.P e=bytes) (hbb:bytes<=100000)
  (henc:∀y,(enc y).length=sz) (hx:ev sl x=qV n sz xs k) (hk:k<=xs.length) (hH:H[i]? = some (n,some (bV sz enc xs))) (hy:ev sl y=vL enc ys) (hne:ys ≠ []) (ha:nk (xs.drop k) ys=some zs)
  (hw:aN all sl ⟨some d,.call ⟨.builtin .append,#[x,y],#[t,t']⟩,ty,pos,after,g⟩=some true)
  (h:∀n':Nm,aW (mP q p [n,n'] true) C all K rest (upd sl d (vV n' sz zs)) (H.set i (n',some (bV sz enc zs)))):aW q C all K (⟨some d,.call ⟨.builtin .append,#[x,y],#[t,t']⟩,ty,pos,after,g⟩::rest) sl H:=by
 unfold nk at ha
 split at ha
 case isFalse=>cases ha
 rename_i hle
 simp only [so_]at ha
 subst ha
 refine qh rfl p [n] hpp hf (xP hH) hw (λS tk K' ok ag hk' => ?_)
 have hall:=Ap (sz:=sz) henc ys
 have hzz:z.length=sz/\0<sz:=⟨hzl,hp⟩
 have hb1:∀m,m<=1000000000->(2*m+192)*eP C.P e<=2 ^ 48/\m<=2 ^ 48:=λm hm=>by
  rw [hby]
  have:=Nat.mul_le_mul (show 2*m+192<=2000000192 by omega) hbb
  exact⟨by omega,by omega⟩
 have run:∀{A:Eff},kP C.P t t' S (ev sl x) (ev sl y) d tk=some A->K' A->opD C ⟨some d,.call ⟨.builtin .append,#[x,y],#[t,t']⟩,ty,pos,after,g⟩ sl S tk K':=λha hk=>wM (by show (bif ny C.P t' then _ else _)=_;rw [xz he',cond_false];exact ha) hk
 have hS:S n=some (.vec sz (xs.map enc)):=ag.get hH
 cases ys with
 | nil=>exact absurd rfl hne
 | cons y0 ys =>
  have hlen:(xs.length-k)+(y0::ys).length=(xs.drop k++(y0::ys)).length:=by simp
  refine run (A:=⟨[(n,.vec sz (xs.map enc))],[(n,none),((d,tk),some (.vec sz ((xs.drop k++(y0::ys)).map enc)))],.vs (d,tk) sz 0 (xs.drop k++(y0::ys)).length⟩) ?_ (hk' _ (H.set i ((d,tk),some (bV sz enc (xs.drop k++(y0::ys))))) (d,tk) (.inl rfl) ⟨by simp,by simp⟩ ?_ (h (d,tk)))
  ·rw [hx,hy]
   simp only [kP,he,yw he',hs,hz,if_pos hzz,lL,pQ,hall,if_true,hS]
   have hle':(xs.length-k)+((y0::ys).map enc).length<=1000000000:=by
    rw [List.length_drop]at hle;rw [List.length_map];exact hle
   rw [if_pos ⟨trivial,by rw [List.length_map];omega,hb1 _ hle'⟩]
   simp [List.map_drop]
  ·exact ag.swap ok rfl hH _ _ (λm h1 h2=>by simp [dR,supd,h2,h1]) (λx hx=>by simp only [dR,supd,if_true];exact hx)
theorem qpop (hu:C.P.underlying t=some (.slice e)) (hs:szT C.P e=some sz) (h1:k<xs.length):kv C.P t (qV n sz xs k) (some (.d (.int .i64 1))) none none=some (qV n sz xs (k+1)):=by
 unfold kv
 rw [hu]
 simp only [qV,hs,pq]
 show (if 1<=xs.length-k/\xs.length-k<=xs.length-k/\sz=sz then some (V.vs n sz (k+1) (xs.length-k-1))else none)=_
 rw [if_pos ⟨by omega,Nat.le_refl _,rfl⟩,Nat.sub_sub]
theorem h_qpop {α:Type} {xs:List α} (hu:C.P.underlying t=some (.slice e)) (hs:szT C.P e=some sz) (hx:ev sl x=qV n sz xs k) (h1:k<xs.length)
  (hw:aN all sl ⟨dst,.slice t x (some (.const (.int .i64 1))) none none,ty,pos,after,g⟩=some true) (h:aW q C all K rest (dG sl dst (qV n sz xs (k+1))) H):aW q C all K (⟨dst,.slice t x (some (.const (.int .i64 1))) none none,ty,pos,after,g⟩::rest) sl H :=
 aG _ hw (by
  show kv C.P t (ev sl x) (some (.d (.int .i64 1))) none none=_
  rw [hx];exact qpop hu hs h1) h
end
end Go.Eng

/-
  THE ENGINE: structs with a grid: handed in, handed back, and made.
-/
namespace Go.Eng
set_option linter.unusedSectionVars false
variable [DM]
set_option linter.unusedVariables false
def ltN (k n:Nat):Option Unit:=if k<n then some ()else none
theorem ltN_lt {k n:Nat} {u:Unit} (h:ltN k n=some u):k<n:=by
 unfold ltN at h;split at h
 ·assumption
 ·cases h
def leN (k n:Nat):Option Unit:=if k<=n then some ()else none
theorem leN_le {k n:Nat} {u:Unit} (h:leN k n=some u):k<=n:=by
 unfold leN at h;split at h
 ·assumption
 ·cases h
def nzI (n:Int):Option Unit:=if n≠0 then some ()else none
theorem nzI_ne {n:Int} {u:Unit} (h:nzI n=some u):n≠0:=by
 unfold nzI at h;split at h
 ·assumption
 ·cases h
def neR {α:Type} (rows:List (List α)):Option Unit:=if rows.all (λr => !r.isEmpty)=true then some ()else none
theorem qP {α:Type} {rows:List (List α)} {u:Unit} (h:neR rows=some u):∀r∈rows,r ≠ []:=by
 unfold neR at h;split at h
 ·rename_i hc
  intro r hr e
  have:=List.all_eq_true.1 hc r hr
  rw [e]at this;cases this
 ·cases h
theorem O4 {α:Type} {xs:List α} {i:Nat} {x:α} (h:xs[i]? = some x):i<xs.length:=(List.getElem?_eq_some_iff.1 h).1
theorem cO {C0 C1 T H:Hp} (is:List Nat) (hd:is.Nodup) (e:is.map (λi=>C1[i]?)=C0.map some) (h:H=C1++T):pre (C0++T) H:=by
 subst h;exact Om ⟨is,hd,e⟩
section
variable {C:Cfg} {Q:QH} {sl:Nat->V} {H:Hp} {c:Code}
theorem Oa {C0 T X:Hp} (h:wH C c Q sl (C0++X++T)):wH C c Q sl (C0++T++X):=N7 (Po (J8 C0 T X)) h
end
section rows
variable {α:Type} {enc:α->List D} {sz:Nat}
theorem NR {β:Type} {l:List β} {i:Nat} {b:β} (h:l[i]? = some b):l.set i b=l:=by
 refine List.ext_getElem? (λk => ?_)
 rw [List.getElem?_set]
 by_cases hk:i=k
 ·subst hk
  rw [if_pos rfl]
  obtain ⟨hl,he⟩:=List.getElem?_eq_some_iff.1 h
  rw [if_pos hl,h]
 ·rw [if_neg hk]
theorem M8 {ns:Nat->Nm} {rows:List (List α)} {i j:Nat} {r:List α} {e:α} (hr:rows[i]? = some r):aJ sz ns rows=aJ sz ns (rows.set i (r.set j e)):=by
 have h:=DX (sz:=sz) (ns:=ns) (rows:=rows) (i:=i) (m:=ns i) (r:=r.set j e)
 rw [GK]at h
 rw [<- h]
 refine (NR ?_).symm
 rw [DK hr,sK (List.length_set ..).symm]
theorem rT {ns:Nat->Nm} {rows:List (List α)} {i j:Nat} {r:List α} {e:α} (hr:rows[i]? = some r):some (Box.cells 1 (aJ sz ns rows))=some (Box.cells 1 (aJ sz ns (rows.set i (r.set j e)))):=by rw [M8 hr]
def bS:Nat->Nm:=λi=>ax (2+i)
def lc (k sz:Nat) (enc:α->List D) (cs:List V) (rows:List (List α)):List Box :=
 .cells k (.vs (ax 1) 1 0 rows.length::cs) :: .cells 1 (aJ sz bS rows)::rows.map (bV sz enc)
def gy (k sz:Nat) (enc:α->List D) (cs:List V) (rows:List (List α)):List (Option Box) :=
 some (.cells k (.vs (ax 1) 1 0 rows.length::cs))::some (.cells 1 (aJ sz bS rows))::rows.map (gB sz enc)
theorem LC {k:Nat} {cs:List V} {rows:List (List α)}:(lc k sz enc cs rows).length=2+rows.length:=by simp [lc];omega
theorem qx {k:Nat} {cs:List V} {rows:List (List α)}:(gy k sz enc cs rows).length=2+rows.length:=by simp [gy];omega
theorem Mo {r:List α} (h:r ≠ []):gB sz enc r=some (bV sz enc r):=by
 cases r with
 | nil=>exact absurd rfl h
 | cons x r=>rfl
theorem LA {k:Nat} {cs:List V} {rows:List (List α)} (h:∀r∈rows,r ≠ []):gy k sz enc cs rows=(lc k sz enc cs rows).map some:=by
 simp only [gy,lc,List.map_cons,List.map_map]
 congr 2
 exact List.map_congr_left (λr hr=>Mo (h r hr))
theorem II {r:List α} {ν:List Nm}:(gB sz enc r).map (·.ren ν)=gB sz enc r:=by cases r <;> rfl
theorem I7 {ns:Nat->Nm} {rows:List (List α)}:(aP sz enc ns rows).map (·.1)=(List.range rows.length).map ns:=by
 refine List.ext_getElem (by simp [aP]) (λi h1 h2 => ?_)
 simp [aP]
theorem wC {ν:List Nm} {ns:Nat->Nm} {rows:List (List α)} (h:∀i,i<rows.length->ν[2+i]? = some (ns i)):renL ν (aJ sz bS rows)=aJ sz ns rows:=by
 refine List.ext_getElem (by rw [bQ,sV,sV]) (λi h1 h2 => ?_)
 have h3:i<(aJ sz bS rows).length:=by rw [bQ]at h1;exact h1
 have hi:i<rows.length:=by rw [sV]at h2;exact h2
 rw [j4 ν _ i h1 h3]
 have e1:(aJ sz bS rows)[i]=gV (bS i) sz rows[i]:=by simp [aJ]
 have e2:(aJ sz ns rows)[i]=gV (ns i) sz rows[i]:=by simp [aJ]
 rw [e1,e2,OH]
 show gV (uE ν (ax (2+i))) sz _=_
 rw [yl (h i hi)]
theorem GJ {n:Nat}:∀(rows:List (List α)),2+rows.length<=n->okL n (aJ sz bS rows)=true:=λrows h=>by
 have:∀(l:List V),(∀v∈l,okV n v=true)->okL n l=true:=by
  intro l
  induction l with
  | nil=>exact λ_=>rfl
  | cons v l ih=>intro h;simp only [okL,Bool.and_eq_true];exact⟨h v (by simp),ih (λx hx=>h x (by simp [hx]))⟩
 refine this _ (λv hv => ?_)
 obtain ⟨i,hi,rfl⟩:=List.getElem_of_mem hv
 have hi':i<rows.length:=by rw [sV]at hi;exact hi
 have e1:(aJ sz bS rows)[i]=gV (bS i) sz rows[i]:=by simp [aJ]
 rw [e1]
 exact Pt (by omega) _
theorem Aj {ν:List Nm} {cs:List V} (h:okL 0 cs=true):renL ν cs=cs:=Ao h
theorem FnM.of_wHg {P:Program} {f:FuncId} {fn:Func} {body:Code} (C:Cfg) (hP:C.P=P) (hf:P.funcs[f]? = some fn) (hb:fn.body=some body) (hn:C.n=fn.ntmps)
  {k:Nat} {cs args:List V} {rows:List (List α)} {r:V} {Sout:List (Option Box)} (hl:args.length<=fn.ntmps) (hok:o8 C body=true)
  (h:wH C body (vX C fn.results.toList (lc k sz enc cs rows).length r Sout) (JO args) (([(ax 0,some (.cells k (.vs (ax 1) 1 0 rows.length::cs))),(ax 1,some (.cells 1 (aJ sz bS rows)))]:Hp)++aP sz enc bS rows)) :
  FnM P f args (lc k sz enc cs rows) r Sout:=by
 refine FnM.of_wpD' hf hb hP hn hl ?_
 have hag:Ag (([(ax 0,some (.cells k (.vs (ax 1) 1 0 rows.length::cs))),(ax 1,some (.cells 1 (aJ sz bS rows)))]:Hp)++aP sz enc bS rows) (gX (lc k sz enc cs rows)) 1:=by
  refine⟨Nat.one_pos,?_,λp hp => ?_⟩
  ·rw [List.map_append,I7]
   have e:(([(ax 0,some (.cells k (.vs (ax 1) 1 0 rows.length::cs))),(ax 1,some (.cells 1 (aJ sz bS rows)))]:Hp).map (·.1))++(List.range rows.length).map bS=(List.range (2+rows.length)).map ax:=by
    refine List.ext_getElem (by simp;omega) (λi h1 h2 => ?_)
    simp only [List.getElem_map,List.getElem_range]
    match i with
    | 0=>rfl
    | 1=>rfl
    | i+2=>simp [bS];congr 1;omega
   rw [e]
   refine List.pairwise_map.2 (List.nodup_range.imp (λ{a b} h e=>h ?_))
   simp only [ax,Prod.mk.injEq,and_true]at e
   omega
  ·rcases List.mem_append.1 hp with hp|hp
   ·simp only [List.mem_cons,List.not_mem_nil,or_false]at hp
    rcases hp with rfl|rfl
    ·exact⟨Nat.one_pos,λb hb=>by cases hb;rw [vZ];rfl⟩
    ·exact⟨Nat.one_pos,λb hb=>by cases hb;rw [vZ];rfl⟩
   ·obtain ⟨i,hi,rfl⟩:=List.getElem_of_mem hp
    have hi':i<rows.length:=by rw [yo]at hi;exact hi
    have e:(aP sz enc bS rows)[i]=(bS i,gB sz enc rows[i]):=by simp [aP]
    rw [e]
    refine⟨Nat.one_pos,λb hb => ?_⟩
    show gX _ (ax (2+i))=some b
    rw [vZ,lc,show 2+i=i+1+1 by omega,List.getElem?_cons_succ,List.getElem?_cons_succ,List.getElem?_map,List.getElem?_eq_getElem hi']
    cases hr:rows[i]with
    | nil=>rw [hr]at hb;cases hb
    | cons x xs=>rw [hr]at hb;exact hb
 obtain ⟨σ',hg,hw⟩:=h hok _ 1 hag
 exact⟨σ',hg,jP body (λe σ h=>IU h) hw⟩
section
variable {C:Cfg} {sl:Nat->V} {H:Hp}
theorem MP {ν:List Nm}:∀{js:List Nat} {ns:List Nm} {bs:List (Option Box)},js.length=ns.length->ns.length=bs.length->(∀i (h1:i<js.length) (h2:i<ns.length) (h3:i<bs.length),H[js[i]]? = some (ns[i],bs[i].map (·.ren ν)))->zk H ν js ns bs
 | [],[],[],_,_,_=>trivial
 | j::js,n::ns,b::bs,h1,h2,h=>⟨h 0 (by simp) (by simp) (by simp),MP (by simpa using h1) (by simpa using h2) (λi a b c=>h (i+1) (by simpa using a) (by simpa using b) (by simpa using c))⟩
 | [],[],_::_,_,h,_=>by simp at h
 | [],_::_,_,h,_,_=>by simp at h
 | _::_,[],_,h,_,_=>by simp at h
 | _::_,_::_,[],_,h,_=>by simp at h
theorem GI {k m j0 j1:Nat} {cs:List V} {rows:List (List α)} {C0:Hp} {ns:Nat->Nm} {n0 n1:Nm} (hm:rows.length=m) (hcs:okL 0 cs=true) (h0:C0[j0]? = some (n0,some (.cells k (.vs n1 1 0 m::cs)))) (h1:C0[j1]? = some (n1,some (.cells 1 (aJ sz ns rows)))) :
  zk (C0++aP sz enc ns rows) (n0::n1::(List.range rows.length).map ns) (j0::j1::(List.range rows.length).map (C0.length + ·)) (n0::n1::(List.range rows.length).map ns) (gy k sz enc cs rows):=by
 refine⟨?_,?_,MP (by simp) (by simp) (λi a b c => ?_)⟩
 ·rw [List.getElem?_append_left (List.getElem?_eq_some_iff.1 h0).1,h0]
  simp only [Option.map_some,Box.ren,renL,ren,IR,Aj hcs,hm]
 ·rw [List.getElem?_append_left (List.getElem?_eq_some_iff.1 h1).1,h1]
  simp only [Option.map_some,Box.ren]
  rw [wC (ns:=ns) (λi hi=>by
   rw [show 2+i=i+1+1 by omega,List.getElem?_cons_succ,List.getElem?_cons_succ,List.getElem?_map,List.getElem?_range hi];rfl)]
 ·simp only [List.length_map,List.length_range]at a c
  simp only [List.getElem_map,List.getElem_range]
  rw [zY (List.getElem?_eq_getElem c),II]
theorem LU {rs:List ResultVar} {r:V} {e:Exit} {k:Nat} {cs cs':List V} {rows rows':List (List α)} (X:Hp) (he:e = .normal\/e = .ret) (vs:List V) (h1:FN C sl H rs vs) (h2:(vs.flatMap frz).all (λ_=>false)=true) (h3:Dv (vs.map co0)=r) (hr:okV 0 r=true) (hcs:okL 0 cs'=true)
  (hlen:rows'.length=rows.length) (hH:H=(([(ax 0,some (.cells k (.vs (ax 1) 1 0 rows.length::cs'))),(ax 1,some (.cells 1 (aJ sz bS rows')))]:Hp)++X)++aP sz enc bS rows') :
  vX C rs (lc k sz enc cs rows).length r (gy k sz enc cs' rows') e sl H:=by
 have hn:vs.flatMap frz=[]:=by
  cases hx:vs.flatMap frz with
  | nil=>rfl
  | cons a b=>rw [hx]at h2;simp at h2
 have hc:∀{vs:List V},vs.flatMap frz=[]->CoL H vs (vs.map co0):=by
  intro vs
  induction vs with
  | nil=>exact λ_ => .nil
  | cons v vs ih=>exact λh => .cons (lN (qG h v (by simp)) rfl) (ih (by simp only [List.flatMap_cons,List.append_eq_nil_iff]at h;exact h.2))
 refine⟨he,vs,vs.map co0,0::1::(List.range rows'.length).map (2+X.length + ·),ax 0::ax 1::(List.range rows'.length).map bS,h1,hc hn,by rw [h3,sQ hr],?_,?_,?_⟩
 ·subst hH
  have:=GI (sz:=sz) (enc:=enc) (k:=k) (m:=rows.length) (j0:=0) (j1:=1) (cs:=cs') (rows:=rows') (C0:=([(ax 0,some (.cells k (.vs (ax 1) 1 0 rows.length::cs'))),(ax 1,some (.cells 1 (aJ sz bS rows')))]:Hp)++X) (ns:=bS) (n0:=ax 0) (n1:=ax 1) hlen hcs rfl rfl
  rw [show (([(ax 0,some (.cells k (.vs (ax 1) 1 0 rows.length::cs'))),(ax 1,some (.cells 1 (aJ sz bS rows')))]:Hp)++X).length=2+X.length by simp;omega]at this
  exact this
 ·refine List.nodup_cons.2 ⟨λh => ?_,List.nodup_cons.2 ⟨λh => ?_,?_⟩⟩
  ·rcases List.mem_cons.1 h with h|h
   ·cases h
   ·obtain ⟨j,_,h⟩:=List.mem_map.1 h;omega
  ·obtain ⟨j,_,h⟩:=List.mem_map.1 h;omega
  ·exact List.pairwise_map.2 (List.nodup_range.imp (λ{a b} h e=>h (by omega)))
 ·intro i hi
  rw [LC,<- hlen]at hi
  match i,hi with
  | 0,_=>rfl
  | 1,_=>rfl
  | i+2,hi =>
   rw [List.getElem?_cons_succ,List.getElem?_cons_succ,List.getElem?_map,List.getElem?_range (by omega)]
   show some (ax (2+i))=_
   rw [Nat.add_comm]
theorem finGrN {t:Tmp} {e:Exit} {k m:Nat} {cs:List V} {rows:List (List α)} {C0:Hp} {ns:Nat->Nm} {n0 n1:Nm} (j0 j1:Nat) (he:e = .normal\/e = .ret) (hs:sl t = .ref n0 0 0) (hcs:okL 0 cs=true) (hm:rows.length=m) (hj:j0≠j1)
  (h0:C0[j0]? = some (n0,some (.cells k (.vs n1 1 0 m::cs)))) (h1:C0[j1]? = some (n1,some (.cells 1 (aJ sz ns rows)))) (hH:H=C0++aP sz enc ns rows) :
  vX C [.tmp t] 0 (.ref (ax 0) 0 0) (gy k sz enc cs rows) e sl H:=by
 subst hH
 refine⟨he,[.ref n0 0 0],[.ref n0 0 0],_,_,⟨hs,trivial⟩,.cons (Ox _) .nil,?_,GI hm hcs h0 h1,?_,λi hi=>absurd hi (Nat.not_lt_zero i)⟩
 ·simp only [Dv,ren,Pv]
 ·have l0:=(List.getElem?_eq_some_iff.1 h0).1
  have l1:=(List.getElem?_eq_some_iff.1 h1).1
  refine List.nodup_cons.2 ⟨λh => ?_,List.nodup_cons.2 ⟨λh => ?_,?_⟩⟩
  ·rcases List.mem_cons.1 h with h|h
   ·exact hj h
   ·obtain ⟨j,_,h⟩:=List.mem_map.1 h;omega
  ·obtain ⟨j,_,h⟩:=List.mem_map.1 h;omega
  ·exact List.pairwise_map.2 (List.nodup_range.imp (λ{a b} h e=>h (by omega)))
end
theorem Jl {H:Hp}:∀{is:List Nat} {l:List (Nm×Box)},is.length=l.length->(∀j (h1:j<is.length) (h2:j<l.length),H[is[j]]? = some (l[j].1,some l[j].2))->lK H is=some l
 | [],[],_,_=>rfl
 | i::is,(n,b)::l,hl,h=>by
  have e0:=h 0 (by simp) (by simp)
  simp only [List.getElem_cons_zero]at e0
  simp only [lK,e0,Jl (by simpa using hl) (λj h1 h2=>h (j+1) (by simpa using h1) (by simpa using h2))]
 | [],_::_,h,_=>by simp at h
 | _::_,[],h,_=>by simp at h
theorem Gq {ν:List Nm}:∀{ms:List Nm} {as C0:Hp} {bs:List (Option Box)},as.length=ms.length->bs.length=ms.length->setH (C0++as) (outs ν (List.range' C0.length ms.length) ms bs)=C0++ms.zip (bs.map (Option.map (·.ren ν)))
 | [],[],C0,[],_,_=>by simp [outs,setH]
 | m::ms,a::as,C0,b::bs,h1,h2=>by
  have ih:=Gq (ν:=ν) (ms:=ms) (as:=as) (C0:=C0++[(m,b.map (·.ren ν))]) (bs:=bs) (by simpa using h1) (by simpa using h2)
  simp only [List.length_cons,List.range'_succ,outs,setH,List.zip_cons_cons,List.map_cons]
  have e:(C0++a::as).set C0.length (m,b.map (·.ren ν))=C0++[(m,b.map (·.ren ν))]++as:=by simp
  rw [show setH ((C0++a::as).set C0.length (m,b.map (·.ren ν)))=setH (C0++[(m,b.map (·.ren ν))]++as) by rw [e]]
  rw [List.length_append]at ih
  rw [show C0.length+1=C0.length+[(m,Option.map (λx=>x.ren ν) b)].length by rfl,ih]
  simp
 | [],_::_,_,_,h,_=>by simp at h
 | _::_,[],_,_,h,_=>by simp at h
 | [],[],_,_::_,_,h=>by simp at h
 | _::_,_::_,_,[],_,h=>by simp at h
theorem Jh {ν:List Nm} {ns:Nat->Nm} {rows:List (List α)}:((List.range rows.length).map ns).zip ((rows.map (gB sz enc)).map (Option.map (·.ren ν)))=aP sz enc ns rows:=by
 refine List.ext_getElem (by simp [aP]) (λi h1 h2 => ?_)
 simp only [aP,List.getElem_zip,List.getElem_map,List.getElem_range,List.getElem_mapIdx,II]
section
variable {C:Cfg} {sl:Nat->V} {C0:Hp} {q:Qm} {all rest:List Oper} {K:(Nat->V)->Hp->Prop}
variable {dst:Option Tmp} {d:Nat} {t ty:TypeId} {pos:String} {after:Array Edge} {g:Option (Nat×Bool)}
def EN (k sz:Nat) (enc:α->List D) (cs:List V) (rows:List (List α)) (n0 n1:Nm) (ns:Nat->Nm):List (Nm×Box) :=
 (n0,.cells k (.vs n1 1 0 rows.length::cs))::(n1,.cells 1 (aJ sz ns rows))::rows.mapIdx λi r=>(ns i,bV sz enc r)
theorem Ck {k:Nat} {cs:List V} {rows:List (List α)} {n0 n1:Nm} {ns:Nat->Nm}:(EN k sz enc cs rows n0 n1 ns).map (·.1)=n0::n1::(List.range rows.length).map ns:=by
 simp only [EN,List.map_cons]
 congr 2
 refine List.ext_getElem (by simp) (λi h1 h2 => ?_)
 simp
theorem Eu {k j0 j1:Nat} {cs:List V} {rows:List (List α)} {n0 n1:Nm} {ns:Nat->Nm} (h0:C0[j0]? = some (n0,some (.cells k (.vs n1 1 0 rows.length::cs)))) (h1:C0[j1]? = some (n1,some (.cells 1 (aJ sz ns rows)))) (hne:∀r∈rows,r ≠ []) :
  lK (C0++aP sz enc ns rows) (j0::j1::List.range' C0.length rows.length)=some (EN k sz enc cs rows n0 n1 ns):=by
 refine Jl (by simp [EN]) (λj a b => ?_)
 match j,a,b with
 | 0,_,_=>exact (List.getElem?_append_left (List.getElem?_eq_some_iff.1 h0).1).trans h0
 | 1,_,_=>exact (List.getElem?_append_left (List.getElem?_eq_some_iff.1 h1).1).trans h1
 | j+2,a,b =>
  have hj:j<rows.length:=by simp only [List.length_cons,List.length_range']at a;omega
  simp only [EN,List.getElem_cons_succ,List.getElem_range',List.getElem_mapIdx,Nat.one_mul]
  rw [zY (List.getElem?_eq_getElem hj),Mo (hne _ (List.getElem_mem hj))]
theorem FT {k:Nat} {cs:List V} {rows:List (List α)} {n0 n1:Nm} {ns:Nat->Nm} (hcs:okL 0 cs=true):(lc k sz enc cs rows).map (λb=>b.ren (n0::n1::(List.range rows.length).map ns))=(EN k sz enc cs rows n0 n1 ns).map (·.2):=by
 simp only [lc,EN,List.map_cons,Box.ren,renL,ren,IR,Aj hcs,List.map_map]
 rw [wC (ns:=ns) (λi hi=>by
   rw [show 2+i=i+1+1 by omega,List.getElem?_cons_succ,List.getElem?_cons_succ,List.getElem?_map,List.getElem?_range hi];rfl)]
 congr 2
 refine List.ext_getElem (by simp) (λi h1 h2 => ?_)
 simp only [List.getElem_map,List.getElem_mapIdx,Function.comp_apply]
theorem F4 {k:Nat} {cs:List V} {rows:List (List α)} (hcs:okL 0 cs=true):(lc k sz enc cs rows).all (λb=>b.ok (2+rows.length))=true:=by
 refine List.all_eq_true.2 (λb hb => ?_)
 simp only [lc,List.mem_cons,List.mem_map]at hb
 rcases hb with rfl|rfl|⟨r,_,rfl⟩
 ·simp only [Box.ok,okL,okV,Bool.and_eq_true]
  exact⟨BH (by omega),nH (Nat.zero_le _) _ hcs⟩
 ·exact GJ rows (Nat.le_refl _)
 ·rfl
theorem E5 {k:Nat} {cs:List V} {rows:List (List α)} (hcs:okL 0 cs=true):okOut (2+rows.length) (gy k sz enc cs rows)=true:=by
 have key:∀(l:List (List α)) (n:Nat),okOut n (l.map (gB sz enc))=true:=by
  intro l n
  induction l with
  | nil=>rfl
  | cons r l ih=>cases r <;> simp [gB,okOut,Box.ok,ih]
 simp only [gy,okOut,Bool.and_eq_true]
 refine⟨?_,GJ rows (Nat.le_refl _),key _ _⟩
 simp only [Box.ok,okL,okV,Bool.and_eq_true]
 exact⟨BH (by omega),nH (Nat.zero_le _) _ hcs⟩
theorem Gj {j0 j1 m:Nat} (h0:j0<C0.length) (h1:j1<C0.length) (hj:j0≠j1):(j0::j1::List.range' C0.length m).Nodup:=by
 refine List.nodup_cons.2 ⟨λh => ?_,List.nodup_cons.2 ⟨λh => ?_,List.nodup_range'⟩⟩
 ·rcases List.mem_cons.1 h with h|h
  ·exact hj h
  ·have:=(List.mem_range'_1.1 h).1;omega
 ·have:=(List.mem_range'_1.1 h).1;omega
theorem Ec {f:Operand} {args:List Operand} {ats:Array TypeId} {fn:FuncId} {caps args0:List V} {r:V} {k m:Nat} {cs cs':List V} {rows rows':List (List α)} {n0 n1:Nm} {ns:Nat->Nm} (p j0 j1:Nat) (hp:q=none\/Nat.beq all.length (p+(rest.length+1))=true)
  (hfp:∀S tk,AgR (C0++aP sz enc ns rows) S tk (⟨some d,.call ⟨.value f,args.toArray,ats⟩,ty,pos,after,g⟩::rest)->okQ q all p (n0::n1::(List.range rows.length).map ns) true)
  (hc:FnM C.P fn args0 (lc k sz enc cs rows) r (gy k sz enc cs' rows')) (hf:ev sl f = .fn fn caps) (hb:aI C.P fn=true)
  (h0:C0[j0]? = some (n0,some (.cells k (.vs n1 1 0 m::cs)))) (h1:C0[j1]? = some (n1,some (.cells 1 (aJ sz ns rows)))) (hj:j0≠j1) (hm:rows.length=m) (hne:∀r∈rows,r ≠ []) (hlen:rows'.length=rows.length) (hcs:okL 0 cs=true) (hcs':okL 0 cs'=true)
  (hn:((args.map (ev sl)++caps).flatMap frz).all (λn=>false)=true) (ha:∀L,(args.map (ev sl)++caps).map co0=renL (n0::L) args0) (hok:okL 1 args0=true) (hr:okV 0 r=true)
  (hw:aN all sl ⟨some d,.call ⟨.value f,args.toArray,ats⟩,ty,pos,after,g⟩=some true)
  (h:aW (mP q p (n0::n1::(List.range rows.length).map ns) true) C all K rest (upd sl d r) ((C0.set j0 (n0,some (.cells k (.vs n1 1 0 m::cs')))).set j1 (n1,some (.cells 1 (aJ sz ns rows')))++aP sz enc ns rows')) :
  aW q C all K (⟨some d,.call ⟨.value f,args.toArray,ats⟩,ty,pos,after,g⟩::rest) sl (C0++aP sz enc ns rows):=by
 subst hm
 have l0:=(List.getElem?_eq_some_iff.1 h0).1
 have l1:=(List.getElem?_eq_some_iff.1 h1).1
 have hnames:=Ck (sz:=sz) (enc:=enc) (k:=k) (cs:=cs) (rows:=rows) (n0:=n0) (n1:=n1) (ns:=ns)
 have hil:(j0::j1::List.range' C0.length rows.length).length=2+rows.length:=by simp;omega
 refine gU p (j0::j1::List.range' C0.length rows.length) hp (by rw [hnames];exact hfp) hc hf hb (Eu h0 h1 hne) ?_ ?_ hn ?_ ?_ (uN (Nat.zero_le _) _ hr) ?_ (Gj l0 l1 hj) ?_ hw r (sQ hr) _ ?_ (by rw [hnames];exact h)
 ·rw [hnames];exact FT hcs
 ·rw [hil];exact F4 hcs
 ·rw [hnames];exact ha _
 ·rw [hil];exact nH (by omega) _ hok
 ·rw [qx,hil,hlen]
 ·rw [qx];exact E5 hcs'
 ·rw [hnames]
  simp only [gy,outs,setH,Option.map_some,Box.ren,renL,ren,IR,Aj hcs']
  rw [wC (ns:=ns) (λi hi=>by
   rw [show 2+i=i+1+1 by omega,List.getElem?_cons_succ,List.getElem?_cons_succ,List.getElem?_map,List.getElem?_range (by omega)];rfl)]
  rw [List.set_append_left _ _ l0,List.set_append_left _ _ (by rw [List.length_set];exact l1)]
  have e:=Gq (ν:=n0::n1::(List.range rows.length).map ns) (ms:=(List.range rows.length).map ns) (as:=aP sz enc ns rows) (C0:=(C0.set j0 (n0,some (.cells k (.vs n1 1 0 rows'.length::cs')))).set j1 (n1,some (.cells 1 (aJ sz ns rows')))) (bs:=rows'.map (gB sz enc)) (by simp [yo]) (by simp [hlen])
  simp only [List.length_set,List.length_map,List.length_range]at e
  rw [e,<- hlen,Jh]
theorem sS {f:Operand} {args:List Operand} {ats:Array TypeId} {fn:FuncId} {caps args0:List V} {r:V} {k m:Nat} {cs:List V} {rows:List (List α)} {n0 n1:Nm} {ns:Nat->Nm} (p j0 j1:Nat) (hp:q=none\/Nat.beq all.length (p+(rest.length+1))=true)
  (hfp:∀S tk,AgR (C0++aP sz enc ns rows) S tk (⟨some d,.call ⟨.value f,args.toArray,ats⟩,ty,pos,after,g⟩::rest)->okQ q all p (n0::n1::(List.range rows.length).map ns) false)
  (hc:FnM C.P fn args0 (lc k sz enc cs rows) r (gy k sz enc cs rows)) (hf:ev sl f = .fn fn caps) (hb:aI C.P fn=true)
  (h0:C0[j0]? = some (n0,some (.cells k (.vs n1 1 0 m::cs)))) (h1:C0[j1]? = some (n1,some (.cells 1 (aJ sz ns rows)))) (hj:j0≠j1) (hm:rows.length=m) (hne:∀r∈rows,r ≠ []) (hcs:okL 0 cs=true)
  (hn:((args.map (ev sl)++caps).flatMap frz).all (λn=>false)=true) (ha:∀L,(args.map (ev sl)++caps).map co0=renL (n0::L) args0) (hok:okL 1 args0=true) (hr:okV 0 r=true)
  (hw:aN all sl ⟨some d,.call ⟨.value f,args.toArray,ats⟩,ty,pos,after,g⟩=some true)
  (h:aW (mP q p (n0::n1::(List.range rows.length).map ns) false) C all K rest (upd sl d r) (C0++aP sz enc ns rows)) :
  aW q C all K (⟨some d,.call ⟨.value f,args.toArray,ats⟩,ty,pos,after,g⟩::rest) sl (C0++aP sz enc ns rows):=by
 subst hm
 have l0:=(List.getElem?_eq_some_iff.1 h0).1
 have l1:=(List.getElem?_eq_some_iff.1 h1).1
 have hnames:=Ck (sz:=sz) (enc:=enc) (k:=k) (cs:=cs) (rows:=rows) (n0:=n0) (n1:=n1) (ns:=ns)
 have hil:(j0::j1::List.range' C0.length rows.length).length=2+rows.length:=by simp;omega
 refine h_callr p (j0::j1::List.range' C0.length rows.length) hp (by rw [hnames];exact hfp) (by rw [<- LA hne];exact hc) hf hb (Eu h0 h1 hne) ?_ ?_ hn ?_ ?_ (uN (Nat.zero_le _) _ hr) (Gj l0 l1 hj) hw r (sQ hr) (by rw [hnames];exact h)
 ·rw [hnames];exact FT hcs
 ·rw [hil];exact F4 hcs
 ·rw [hnames];exact ha _
 ·rw [hil];exact nH (by omega) _ hok
theorem Jb {H:Hp} {f:Operand} {args:List Operand} {ats:Array TypeId} {fn:FuncId} {caps args0:List V} {k:Nat} {cs:List V} {rows:List (List α)}
  (hc:FnM C.P fn args0 [] (.ref (ax 0) 0 0) (gy k sz enc cs rows)) (hf:ev sl f = .fn fn caps) (hb:aI C.P fn=true) (hne:∀r∈rows,r ≠ []) (hcs:okL 0 cs=true)
  (hn:((args.map (ev sl)++caps).flatMap frz).all (λn=>false)=true) (ha:(args.map (ev sl)++caps).map co0=args0) (hok:okL 0 args0=true)
  (hw:aN all sl ⟨some d,.call ⟨.value f,args.toArray,ats⟩,ty,pos,after,g⟩=some true)
  (h:∀(n0 n1:Nm) (ns:Nat->Nm),aW none C all K rest (upd sl d (.ref n0 0 0)) (H++[(n0,some (.cells k (.vs n1 1 0 rows.length::cs))),(n1,some (.cells 1 (aJ sz ns rows)))]++aP sz enc ns rows)) :
  aW none C all K (⟨some d,.call ⟨.value f,args.toArray,ats⟩,ty,pos,after,g⟩::rest) sl H:=by
 have hmut:mutOut (gy k sz enc cs rows)=true:=by
  have key:∀(l:List (List α)),(∀r∈l,r ≠ [])->mutOut (l.map (gB sz enc))=true:=by
   intro l
   induction l with
   | nil=>exact λ_=>rfl
   | cons r l ih =>
    intro h
    cases r with
    | nil=>exact absurd rfl (h [] (by simp))
    | cons x r=>simp only [List.map_cons,gB,mutOut,Box.mut,Bool.true_and];exact ih (λr hr=>h r (by simp [hr]))
  simp only [gy,mutOut,Box.mut,Bool.true_and]
  exact key rows hne
 refine KC [] (2+rows.length) (l:=[]) hc hf hb rfl rfl rfl hn ?_ hok ?_ ?_ List.nodup_nil ?_ (by rw [List.length_nil,List.drop_zero];exact hmut) hw (λν => ?_)
 ·rw [ha];exact (Ao hok).symm
 ·show okN _ (ax 0)=true
  exact BH (by rw [qx];omega)
 ·rw [qx,List.length_nil];omega
 ·rw [qx];exact E5 hcs
 ·have hν:(List.range (2+rows.length)).map ν=ν 0::ν 1::(List.range rows.length).map (λi=>ν (2+i)):=by
   refine List.ext_getElem (by simp;omega) (λi h1 h2 => ?_)
   match i with
   | 0=>simp
   | 1=>simp
   | i+2=>simp;congr 1;omega
  simp only [List.map_nil,List.nil_append,outs,setH,List.length_nil,List.drop_zero]
  rw [hν]
  have:=h (ν 0) (ν 1) (λi=>ν (2+i))
  have e1:ren (ν 0::ν 1::(List.range rows.length).map (λi=>ν (2+i))) (.ref (ax 0) 0 0) = .ref (ν 0) 0 0:=by simp only [ren,Pv]
  have e2:news (ν 0::ν 1::(List.range rows.length).map (λi=>ν (2+i))) (ν 0::ν 1::(List.range rows.length).map (λi=>ν (2+i))) (gy k sz enc cs rows)
    = [(ν 0,some (.cells k (.vs (ν 1) 1 0 rows.length::cs))),(ν 1,some (.cells 1 (aJ sz (λi=>ν (2+i)) rows)))]++aP sz enc (λi=>ν (2+i)) rows:=by
   simp only [gy,news,Option.map_some,Box.ren,renL,ren,IR,Aj hcs,List.cons_append,List.nil_append]
   rw [wC (ns:=λi=>ν (2+i)) (λi hi=>by
    show (ν 0::ν 1::(List.range rows.length).map (λi=>ν (2+i)))[2+i]? = some (ν (2+i))
    rw [show (ν 0::ν 1::(List.range rows.length).map (λi=>ν (2+i)))[2+i]? = ((List.range rows.length).map (λi=>ν (2+i)))[i]? by rw [show 2+i=i+1+1 by omega,List.getElem?_cons_succ,List.getElem?_cons_succ],List.getElem?_map,List.getElem?_range hi];rfl)]
   congr 2
   have key:∀(ν' ms:List Nm) (l:List (List α)),ms.length=l.length->news ν' ms (l.map (gB sz enc))=ms.zip (l.map (gB sz enc)):=by
    intro ν' ms
    induction ms with
    | nil=>intro l hl;cases l <;> simp [news]at *
    | cons m ms ih =>
     intro l hl
     cases l with
     | nil=>simp at hl
     | cons r l=>simp only [List.map_cons,news,II,List.zip_cons_cons];rw [ih l (by simpa using hl)]
   rw [key _ _ _ (by simp)]
   have:=Jh (sz:=sz) (enc:=enc) (ν:=[]) (ns:=λi=>ν (2+i)) (rows:=rows)
   rw [<- this,List.map_map]
   congr 1
   exact List.map_congr_left (λr _=>II.symm)
  rw [e1,e2,<- List.append_assoc]
  exact this
end
end rows
end Go.Eng

/-
  THE ENGINE: a function that reads slices as data reads them out of their boxes, too: the boxes are as they were.
-/
namespace Go.Eng
set_option linter.unusedSectionVars false
variable [DM]
set_option linter.unusedVariables false
end Go.Eng

