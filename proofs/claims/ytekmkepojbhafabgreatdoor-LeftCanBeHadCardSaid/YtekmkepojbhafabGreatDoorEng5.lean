/-
  The engine: what the machine does to data, shown once for all programs (part 5).
-/
import Derived.Test.YtekmkepojbhafabGreatDoorEng4
/-
  THE ENGINE: a slice that is cut in its own box and grows again; boxes of slices that may be empty; maps whose keys are structs.
-/
namespace Go.Eng
set_option linter.unusedSectionVars false
variable [DM]
set_option linter.unusedVariables false
set_option linter.unusedSimpArgs false
section
variable {C:Cfg} {Q:QH} {sl:Nat->V} {H:Hp} {c:Code}
end
section
variable {C:Cfg} {sl:Nat->V} {H:Hp} {q:Qm} {all rest:List Oper} {K:(Nat->V)->Hp->Prop}
variable {dst:Option Tmp} {d:Nat} {t ty:TypeId} {pos:String} {after:Array Edge} {g:Option (Nat×Bool)}
end
end Go.Eng

/-
  THE ENGINE: rules for arrays of bytes in a box, and for bytes to a string and back.
-/
namespace Go.Eng
set_option linter.unusedSectionVars false
variable [DM]
open Go
set_option linter.unusedVariables false
set_option linter.unusedSimpArgs false
def Dl {α:Type} (xs:List α) (n:Nat):Option Unit:=if xs.length=n then some ()else none
theorem vK {α:Type} {xs:List α} {n:Nat} {u:Unit} (h:Dl xs n=some u):xs.length=n:=by
 unfold Dl at h;split at h
 ·assumption
 ·cases h
section
variable {C:Cfg} {sl:Nat->V} {H:Hp} {q:Qm} {all rest:List Oper} {K:(Nat->V)->Hp->Prop}
variable {dst:Option Tmp} {d:Nat} {t ty:TypeId} {pos:String} {after:Array Edge} {g:Option (Nat×Bool)}
section
variable {xs:List Int} {m:Nat} {nm:Nm} {x l hi:Operand} {k k':IntKind} {a b:Int} {u u':Unit}
end
end
end Go.Eng

/-
  THE ENGINE: results of which the first is a new slice and the others are data.
-/
namespace Go.Eng
set_option linter.unusedSectionVars false
variable [DM]
set_option linter.unusedVariables false
section
variable {C:Cfg} {sl:Nat->V} {H:Hp} {q:Qm} {all rest:List Oper} {K:(Nat->V)->Hp->Prop}
variable {dst:Option Tmp} {d:Nat} {t ty:TypeId} {pos:String} {after:Array Edge} {g:Option (Nat×Bool)}
end
end Go.Eng

/-
  THE ENGINE: a function that reads a slice as data reads it out of its box, too: the box is as it was.
-/
namespace Go.Eng
set_option linter.unusedSectionVars false
variable [DM]
set_option linter.unusedVariables false
def GG:D->Bool
 | .int _ _ | .bool _ | .str _=>true
 | _=>false
theorem RepD.scal {I I':Nat->Nat->Prop} {w:World} {v:Value} {r:D} (hr:GG r=true) (h:RepD I w v r):RepD I' w v r:=by
 cases h with
 | int k n=>exact .int k n
 | bool b=>exact .bool b
 | str s=>exact .str s
 | _=>cases hr
theorem FnM.unfz {P:Program} {f:FuncId} {α:Type} {enc:α->List D} {sz po:Nat} {xs:List α} {args:List V} {r:D} (hd:FnM P f (args.set po (vL enc xs)) [] (.d r) []) (hp:args[po]? = some (dV (av 0) sz xs)) (hr:GG r=true) :
  FnM P f args (gI sz enc xs) (.d r) (gT xs (gB sz enc xs)):=by
 cases hxs:xs with
 | nil =>
  subst hxs
  have e:args.set po (vL enc [])=args:=rU hp
  rw [e]at hd
  exact hd
 | cons x0 xs0 =>
 rw [<- hxs]
 have hgI:gI sz enc xs=[.vec sz (xs.map enc)]:=by rw [hxs];rfl
 have hgT:gT xs (gB sz enc xs)=[some (.vec sz (xs.map enc))]:=by rw [hxs];rfl
 have hdV:dV (av 0) sz xs = .vs (av 0) sz 0 xs.length:=by rw [hxs];rfl
 rw [hgI,hgT]
 rw [hdV]at hp
 intro G w vargs hinv hargs
 obtain ⟨hl,hrep⟩:=hargs
 have hS0:cz [Box.vec sz (xs.map enc)] (av 0)=some (.vec sz (xs.map enc)):=by rw [nW];rfl
 obtain ⟨b,o,z,hmu,hst,hE⟩:=hinv.box (av 0) _ hS0
 have hst':Stands G w (.vec sz (xs.map enc)) b o z:=hst
 obtain ⟨⟨arr,el,harr⟩,hfree⟩:=hst'.free rfl
 have hbs:b<w.heap.size:=hinv.bound _ _ _ _ hmu
 obtain ⟨G1,hinv1,hext1⟩:=j6 [av 0] hinv
 rw [Km hS0]at hinv1
 have himm:∀b' o',G1.imm b' o'->G.imm b' o'\/b'=b:=λb' o' k=>by
  rcases hinv1.newI b' o' k with q|q|q
  ·exact .inl q
  ·have:=hinv1.immB b' o' k
   exact absurd this (Nat.not_lt.2 q)
  ·obtain ⟨i,bx,o2,z2,q1,q2,q3⟩:=q
   have hi:i=0:=by
    have:=(List.getElem?_eq_some_iff.1 q1).1
    simpa using this
   subst hi
   rw [hmu]at q3
   simp only [so_,Prod.mk.injEq]at q3
   exact .inr q3.1.symm
 have hS1:supd (cz [Box.vec sz (xs.map enc)]) (av 0) (some (.froz sz (xs.map enc))) (av 0)=some (.froz sz (xs.map enc)):=by simp [supd]
 have hpl:po<args.length:=(List.getElem?_eq_some_iff.1 hp).1
 have hpe:args[po] = .vs (av 0) sz 0 xs.length:=(List.getElem?_eq_some_iff.1 hp).2
 have hpv:po<vargs.length:=by omega
 have hrep1:rT G1 w vargs (args.set po (vL enc xs)):=⟨by rw [List.length_set];exact hl,λi h1 h2=>by
  have h2':i<args.length:=by simpa using h2
  by_cases hi:i=po
  ·subst hi
   rw [List.getElem_set_self]
   have h3:=hrep i h1 h2'
   rw [hpe]at h3
   have h4:=Cs hinv1 hS1 (h3.ext hext1) rfl (by simp)
   rw [List.drop_zero,List.take_of_length_le (by simp)]at h4
   exact .d h4
  ·rw [List.getElem_set_ne (λe=>hi e.symm)]
   exact (hrep i h1 h2').ext hext1⟩
 have hE1:Inv ⟨G1,w,wC G1 []⟩ G1 w (cz []) 1 (λ_=>False):=by
  have hnone:∀n,cz [] n=none:=λn=>by
   unfold cz
   cases mh n <;> rfl
  refine⟨Ext.refl _ _,λb o k => .inl k,λ_ _ _=>rfl,Nat.le_refl _,rfl,rfl,rfl,λn bx k => ?_,λn m bx by' b o sz o' sz' k => ?_,hinv1.tick,hinv1.bound,hinv1.immB,?_,λ_=>Nat.le_refl _⟩
  ·rw [hnone]at k;cases k
  ·rw [hnone]at k;cases k
  ·exact hinv.kn.ext hext1.imm hext1.cell
 refine (hd G1 w vargs hE1 hrep1).mono (λe w' hq => ?_)
 obtain ⟨v,G',S',tk',U',ν,he,hi',hv,hν,_,_,_⟩:=hq
 have hheap:∀b',b'<w.heap.size->w'.heap[b']? = w.heap[b']? := λb' k=>hi'.frame b' k (fun⟨i,bx,_,_,q,_⟩=>by simp at q)
 have hextT:Ext G1 w G' w':=hi'.ext
 obtain ⟨G2,hG2⟩:∃G2:Gh,G2=⟨λb' o'=>G'.imm b' o'/\b'≠b,G'.mu⟩:=⟨_,rfl⟩
 have hG2i:∀b' o',G2.imm b' o'↔G'.imm b' o'/\b'≠b:=λb' o'=>by rw [hG2]
 have hG2m:G2.mu=G'.mu:=by rw [hG2]
 have hext2:Ext G w G2 w':=⟨λb' o' k=>(hG2i b' o').2 ⟨hextT.imm _ _ (hext1.imm _ _ k),λe=>by subst e;exact hfree o' k⟩,λb' o' k=>hextT.cell _ _ (hext1.imm _ _ k),λn x k=>by rw [hG2m];exact hextT.mu _ _ (hext1.mu _ _ k),λb'=>hextT.size b',λb' e k=>hextT.elem b' e k⟩
 have hmu2:G2.mu (av 0)=some (b,o,z):=hext2.mu _ _ hmu
 refine⟨v,G2,cz [Box.vec sz (xs.map enc)],tk',U',[av 0],he,⟨hext2,λb' o' k => ?_,λb' k _=>hheap b' k,hi'.size,hi'.os,hi'.tape,hi'.output,λn bx k => ?_,λn m bx by' b1 o1 sz1 o2 sz2 k1 k2 _ _ _ => ?_,λn x k => ?_,λn b1 o1 sz1 k => ?_,λb' o' k => ?_,hinv.kn,hi'.dr⟩,?_,rfl,by simp,λi hi => ?_,λi bx hb => ?_⟩
 ·obtain ⟨k1,k2⟩:=(hG2i b' o').1 k
  rcases hi'.newI b' o' k1 with q|q|q
  ·rcases himm b' o' q with q|q
   ·exact .inl q
   ·exact absurd q k2
  ·exact .inr (.inl q)
  ·obtain ⟨i,bx,_,_,q,_⟩:=q
   simp at q
 ·have hn:n=av 0/\bx = .vec sz (xs.map enc):=by
   unfold cz at k
   cases hx:mh n with
   | none=>rw [hx]at k;cases k
   | some i =>
    rw [hx]at k
    have hi:i=0:=by
     have:=(List.getElem?_eq_some_iff.1 k).1
     simpa using this
    subst hi
    refine⟨?_,by simpa using k.symm⟩
    unfold mh at hx
    cases hc:(Nat.beq n.2 0&&Nat.ble 1000000 n.1)with
    | false=>rw [hc]at hx;cases hx
    | true =>
     rw [hc]at hx
     simp only [cond_true,so_]at hx
     simp only [Bool.and_eq_true]at hc
     have h1:=Nat.eq_of_beq_eq_true hc.1
     have h2:=Nat.le_of_ble_eq_true hc.2
     obtain ⟨n1,n2⟩:=n
     simp only at h1 h2 hx
     simp only [av,Prod.mk.injEq]
     exact⟨by omega,h1⟩
  obtain ⟨rfl,rfl⟩:=hn
  refine⟨b,o,z,hmu2,?_,λ_ => .inr ⟨0,_,o,z,rfl,rfl,hmu⟩⟩
  exact StandsBox.ext hst hext2 (λ_=>hheap b hbs) (λ_ o' k=>absurd rfl ((hG2i b o').1 k).2)
 ·have key:∀n bx,cz [Box.vec sz (xs.map enc)] n=some bx->mh n=some 0:=λn bx k=>by
   unfold cz at k
   cases hx:mh n with
   | none=>rw [hx]at k;cases k
   | some i =>
    rw [hx]at k
    have:=(List.getElem?_eq_some_iff.1 k).1
    congr 1
    simpa using this
  have inj:∀n:Nm,mh n=some 0->n=av 0:=λn hx=>by
   unfold mh at hx
   cases hc:(Nat.beq n.2 0&&Nat.ble 1000000 n.1)with
   | false=>rw [hc]at hx;cases hx
   | true =>
    rw [hc]at hx
    simp only [cond_true,so_]at hx
    simp only [Bool.and_eq_true]at hc
    have h1:=Nat.eq_of_beq_eq_true hc.1
    have h2:=Nat.le_of_ble_eq_true hc.2
    obtain ⟨n1,n2⟩:=n
    simp only at h1 h2 hx
    simp only [av,Prod.mk.injEq]
    exact⟨by omega,h1⟩
  rw [inj n (key n _ k1),inj m (key m _ k2)]
 ·rw [hG2m]at k;exact hi'.tick n x k
 ·rw [hG2m]at k;exact hi'.bound n b1 o1 sz1 k
 ·exact hi'.immB b' o' ((hG2i b' o').1 k).1
 ·have hv':RepV G' w' v (.d r):=hv
  cases hv' with
  | d h=>exact .d (h.scal hr)
 ·have hi0:i=0:=by simpa using hi
  subst hi0;rfl
 ·have hi0:i=0:=by
   have:=(List.getElem?_eq_some_iff.1 hb).1
   simpa using this
  subst hi0
  simp only [List.getElem?_cons_zero,so_]at hb
  subst hb
  exact⟨av 0,rfl,hS0⟩
end Go.Eng

/-
  THE ENGINE: grids: slices of slices of which each row is a box of its own; the rows' boxes stand behind all others.
-/
namespace Go.Eng
set_option linter.unusedSectionVars false
variable [DM]
set_option linter.unusedVariables false
section rows
variable {α:Type} {enc:α->List D} {sz:Nat}
def vX (ns:Nat->Nm) (i:Nat) (m:Nm):Nat->Nm:=λj=>if j=i then m else ns j
theorem KT (ns:Nat->Nm) (i:Nat) (m:Nm):vX ns i m i=m:=if_pos rfl
theorem EU (ns:Nat->Nm) (i:Nat):vX ns i (ns i)=ns:=funext λj=>by unfold vX;split <;> simp_all
def aR (sz:Nat) (enc:α->List D) (ns:Nat->Nm) (rows:List (List α)):Hp:=rows.mapIdx λi r=>(ns i,gB sz enc r)
def aL (sz:Nat) (ns:Nat->Nm) (rows:List (List α)):List V:=rows.mapIdx λi r=>gV (ns i) sz r
theorem xy {ns:Nat->Nm} {rows:List (List α)}:(aR sz enc ns rows).length=rows.length:=by simp [aR]
theorem ru {ns:Nat->Nm} {rows:List (List α)}:(aL sz ns rows).length=rows.length:=by simp [aL]
theorem LF {ns:Nat->Nm} {rows:List (List α)} {i:Nat} {r:List α} (hr:rows[i]? = some r):(aR sz enc ns rows)[i]? = some (ns i,gB sz enc r):=by
 unfold aR;rw [List.getElem?_mapIdx,hr];rfl
theorem Dy {ns:Nat->Nm} {rows:List (List α)} {i:Nat} {r:List α} (hr:rows[i]? = some r):(aL sz ns rows)[i]? = some (gV (ns i) sz r):=by
 unfold aL;rw [List.getElem?_mapIdx,hr];rfl
theorem yS {C0:Hp} {ns:Nat->Nm} {rows:List (List α)} {i:Nat} {r:List α} (hr:rows[i]? = some r):(C0++aR sz enc ns rows)[C0.length+i]? = some (ns i,gB sz enc r):=by
 rw [List.getElem?_append_right (by omega),show C0.length+i-C0.length=i by omega];exact LF hr
theorem Nc {β γ:Type} (f:Nat->β->γ) (g:Nat->β->γ) (l:List β) (i:Nat) (b:β) (h:∀j x,j≠i->g j x=f j x):(l.set i b).mapIdx g=(l.mapIdx f).set i (g i b):=by
 refine List.ext_getElem? (λj => ?_)
 rw [List.getElem?_mapIdx,List.getElem?_set,List.getElem?_set,List.getElem?_mapIdx,List.length_mapIdx]
 by_cases hj:i=j
 ·subst hj
  simp only [if_true]
  split <;> rfl
 ·rw [if_neg hj,if_neg hj]
  cases l[j]? with
  | none=>rfl
  | some x=>simp only [Option.map_some];rw [h j x (λe=>hj e.symm)]
theorem EX {ns:Nat->Nm} {rows:List (List α)} {i:Nat} {m:Nm} {r:List α}:(aR sz enc ns rows).set i (m,gB sz enc r)=aR sz enc (vX ns i m) (rows.set i r):=by
 unfold aR
 rw [Nc (λi r=>(ns i,gB sz enc r)) _ rows i r (λj x h=>by simp only [vX,if_neg h]),KT]
theorem Dv {ns:Nat->Nm} {rows:List (List α)} {i:Nat} {m:Nm} {r:List α}:(aL sz ns rows).set i (gV m sz r)=aL sz (vX ns i m) (rows.set i r):=by
 unfold aL
 rw [Nc (λi r=>gV (ns i) sz r) _ rows i r (λj x h=>by simp only [vX,if_neg h]),KT]
theorem LG {C0:Hp} {ns:Nat->Nm} {rows:List (List α)} {i:Nat} {m:Nm} {r:List α}:(C0++aR sz enc ns rows).set (C0.length+i) (m,gB sz enc r)=C0++aR sz enc (vX ns i m) (rows.set i r):=by
 show List.set (C0++aR sz enc ns rows) _ _=_
 rw [List.set_append_right _ _ (by omega),show C0.length+i-C0.length=i by omega,EX]
theorem Na {C0:Hp} {ns:Nat->Nm} {rows:List (List α)} {i:Nat} {r:List α}:(C0++aR sz enc ns rows).set (C0.length+i) (ns i,gB sz enc r)=C0++aR sz enc ns (rows.set i r):=by
 have:=LG (sz:=sz) (enc:=enc) (C0:=C0) (ns:=ns) (rows:=rows) (i:=i) (m:=ns i) (r:=r)
 rw [EU]at this;exact this
theorem Lr {ns:Nat->Nm} {rows:List (List α)} {i:Nat} {r:List α} (hr:rows[i]? = some r):rdV false 1 ((aL sz ns rows).drop (i*1+0))=some (gV (ns i) sz r):=by
 have h:=Dy (sz:=sz) (ns:=ns) hr
 obtain ⟨hi,e⟩:=List.getElem?_eq_some_iff.1 h
 rw [show i*1+0=i by omega,List.drop_eq_getElem_cons hi,e];rfl
theorem M9 {m:Nm} {r:List α}:bz (gV m sz r)=[gV m sz r]/\iE (gV m sz r)=true:=by cases r <;> exact⟨rfl,rfl⟩
theorem CF {β:Type}:∀(l:List β) (i:Nat) (b:β),i<l.length->splice l [b] i=l.set i b
 | [],i,b,h=>by cases h
 | x::l,0,b,h=>rfl
 | x::l,i+1,b,h=>by
  have:=CF l i b (by simpa using h)
  unfold splice at this ⊢
  simp only [List.length_cons,List.length_nil,List.take_succ_cons,List.cons_append,List.set_cons_succ]at this ⊢
  rw [<- this]
  simp only [show i+1+(0+1)=(i+(0+1))+1 by omega,List.drop_succ_cons]
theorem Md {ns:Nat->Nm} {rows:List (List α)} {i:Nat} {m:Nm} {r:List α} (hl:i<rows.length):stC 1 (aL sz ns rows) (i*1+0) (gV m sz r)=some (aL sz (vX ns i m) (rows.set i r)):=by
 have hl':i<(aL sz ns rows).length:=by rw [ru];exact hl
 unfold stC
 rw [show i*1+0=i by omega,(M9 (m:=m) (sz:=sz) (r:=r)).1]
 have h1:(Nat.beq [gV m sz r].length 1&&Nat.ble (i+1) (aL sz ns rows).length&&[gV m sz r].all iE)=true:=by
  simp only [List.length_cons,List.length_nil,List.all_cons,(M9 (m:=m) (sz:=sz) (r:=r)).2,List.all_nil,Bool.and_true,Bool.and_eq_true,Nat.ble_eq]
  exact⟨rfl,by omega⟩
 rw [h1,cond_true,CF _ _ _ hl',Dv]
theorem Mg (ns:Nat->Nm) (n:Nat):aR sz enc ns (List.replicate n [])=(List.range n).map λi=>(ns i,none):=by
 refine List.ext_getElem? (λj => ?_)
 unfold aR
 rw [List.getElem?_mapIdx,List.getElem?_map,List.getElem?_replicate]
 by_cases hj:j<n
 ·rw [if_pos hj,List.getElem?_range hj];rfl
 ·rw [if_neg hj,List.getElem?_eq_none (by simpa using hj)];rfl
theorem I6 (ns:Nat->Nm) (n:Nat):aL (α:=α) sz ns (List.replicate n [])=List.replicate n .nil:=by
 refine List.ext_getElem? (λj => ?_)
 unfold aL
 rw [List.getElem?_mapIdx,List.getElem?_replicate,List.getElem?_replicate]
 by_cases hj:j<n
 ·rw [if_pos hj,if_pos hj];rfl
 ·rw [if_neg hj,if_neg hj];rfl
end rows
theorem Nh {C0 C1 T:Hp} (h:pre C0 C1):pre (C0++T) (C1++T):=by
 obtain ⟨is,h1,h2⟩:=h
 obtain ⟨hl,hg⟩:=xe h2
 have hb:∀i∈is,i<C1.length:=λi hi=>by
  obtain ⟨j,hj,rfl⟩:=List.getElem_of_mem hi
  exact (List.getElem?_eq_some_iff.1 (hg j hj (by omega))).1
 refine⟨is++(List.range T.length).map (· + C1.length),?_,?_⟩
 ·refine List.nodup_append.2 ⟨h1,?_,λa ha b hb' e => ?_⟩
  ·exact List.Pairwise.map _ (λa b h e=>h (by omega)) List.nodup_range
  ·obtain ⟨j,_,rfl⟩:=List.mem_map.1 hb'
   have:=hb a ha
   omega
 ·rw [List.map_append,List.map_append]
  congr 1
  ·rw [<- h2]
   exact List.map_congr_left (λi hi=>List.getElem?_append_left (hb i hi))
  ·refine List.ext_getElem (by simp) (λi k1 k2 => ?_)
   simp only [List.length_map,List.length_range]at k1
   simp only [List.getElem_map,List.getElem_range]
   rw [List.getElem?_append_right (by omega),show i+C1.length-C1.length=i by omega,List.getElem?_eq_getElem k1]
theorem NJ (C0 T X:Hp):(C0++X++T).Perm (C0++T++X):=by
 rw [List.append_assoc,List.append_assoc]
 exact List.Perm.append_left C0 List.perm_append_comm
section
variable {C:Cfg} {sl:Nat->V} {H H0:Hp} {q:Qm} {all rest:List Oper} {K:(Nat->V)->Hp->Prop}
theorem AgR.perm {S:Store} {t:Nat} {l:List Oper} (hp:H0.Perm H) (ag:AgR H S t l):AgR H0 S t l :=
 ⟨ag.pos,(hp.map (·.1)).nodup_iff.2 ag.nd,λp h=>ag.at_ p (hp.mem_iff.1 h)⟩
theorem h_perm (hp:H0.Perm H) (h:aS q C all K rest sl H0):aS q C all K rest sl H:=λS tk ok ag=>h S tk ok (ag.perm hp)
theorem qx (e:H0=H) (h:aS q C all K rest sl H0):aS q C all K rest sl H:=e ▸ h
theorem CU:∀(n:Nat) {H:Hp},(∀ns:List Nm,ns.length=n->aS q C all K rest sl (H++ns.map λm=>(m,none)))->aS q C all K rest sl H
 | 0,H,h=>by have:=h [] rfl;simpa using this
 | n+1,H,h=>BP (λm=>CU n (λns hn=>by
   have:=h (m::ns) (by simp [hn])
   simpa using this))
theorem Ld {α:Type} {enc:α->List D} {sz:Nat} (n:Nat) (h:∀ns:Nat->Nm,aS q C all K rest sl (H++aR (α:=α) sz enc ns (List.replicate n []))):aS q C all K rest sl H :=
 CU n (λns hn=>by
  have:=h (λi=>ns.getD i (0,0))
  rw [Mg]at this
  have e:(ns.map λm=>((m,none):Nm×Option Box))=(List.range n).map λi=>(ns.getD i (0,0),none):=by
   refine List.ext_getElem (by simp [hn]) (λi h1 h2 => ?_)
   simp only [List.length_map]at h1
   simp only [List.getElem_map,List.getElem_range,List.getD_eq_getElem?_getD,List.getElem?_eq_getElem h1,Option.getD_some]
  rw [e];exact this)
theorem vC {C0 T X:Hp} (h:aS q C all K rest sl (C0++X++T)):aS q C all K rest sl (C0++T++X):=h_perm (NJ C0 T X) h
theorem L9 {α:Type} {enc:α->List D} {sz:Nat} {C0:Hp} {ns:Nat->Nm} {rows:List (List α)} {i:Nat} {m:Nm} {r:List α} (hi:i<rows.length):pre (C0++aR sz enc (vX ns i m) (rows.set i r)) (C0++[(m,gB sz enc r)]++aR sz enc ns rows):=by
 have hlen:(aR sz enc ns rows).length=rows.length:=xy
 refine⟨List.range C0.length++((List.range rows.length).map λj=>if j=i then C0.length else C0.length+1+j),?_,?_⟩
 ·refine List.nodup_append.2 ⟨List.nodup_range,?_,λa ha b hb e => ?_⟩
  ·refine List.pairwise_map.2 (List.nodup_range.imp (λ{a b} h e => ?_))
   split at e <;> split at e <;> omega
  ·simp only [List.mem_range]at ha
   obtain ⟨j,_,rfl⟩:=List.mem_map.1 hb
   split at e <;> omega
 ·rw [List.map_append,List.map_append,List.map_map]
  congr 1
  ·refine List.ext_getElem (by simp) (λj h1 h2 => ?_)
   simp only [List.length_map,List.length_range]at h1
   simp only [List.getElem_map,List.getElem_range]
   rw [List.append_assoc,List.getElem?_append_left h1,List.getElem?_eq_getElem h1]
  ·refine List.ext_getElem (by simp [xy]) (λj h1 h2 => ?_)
   simp only [List.length_map,List.length_range]at h1
   simp only [List.getElem_map,List.getElem_range,Function.comp_apply]
   have hg:=EX (sz:=sz) (enc:=enc) (ns:=ns) (rows:=rows) (i:=i) (m:=m) (r:=r)
   by_cases hj:j=i
   ·subst hj
    rw [if_pos rfl,List.append_assoc,List.getElem?_append_right (by omega),Nat.sub_self]
    have:(aR sz enc (vX ns j m) (rows.set j r))[j]? = some (m,gB sz enc r):=by
     rw [<- hg,List.getElem?_set_self (by rw [hlen];exact hi)]
    rw [<- List.getElem?_eq_getElem,this];rfl
   ·rw [if_neg hj,List.append_assoc,List.getElem?_append_right (by omega),show C0.length+1+j-C0.length=j+1 by omega]
    have:(aR sz enc (vX ns i m) (rows.set i r))[j]? = (aR sz enc ns rows)[j]? := by
     rw [<- hg,List.getElem?_set_ne (λe=>hj e.symm)]
    rw [<- List.getElem?_eq_getElem,this];rfl
theorem AgR.pre {S:Store} {t:Nat} {l:List Oper} (h:Eng.pre H0 H) (ag:AgR H S t l):AgR H0 S t l:=by
 have ag1:Ag H S (t+1):=⟨Nat.succ_pos _,ag.nd,λp hp=>⟨by rcases (ag.at_ p hp).1 with h1 | ⟨h1,_⟩ <;> omega,(ag.at_ p hp).2⟩⟩
 refine⟨ag.pos,(ag1.pre h).nd,λp hp => ?_⟩
 obtain ⟨is,_,he⟩:=h
 obtain ⟨hl,hg⟩:=xe he
 obtain ⟨i,hi,rfl⟩:=List.getElem_of_mem hp
 exact ag.at_ _ (List.mem_of_getElem? (hg i (by omega) hi))
theorem h_pre (hp:Eng.pre H0 H) (h:aS q C all K rest sl H0):aS q C all K rest sl H:=λS tk ok ag=>h S tk ok (ag.pre hp)
theorem h_rowin {α:Type} {enc:α->List D} {sz:Nat} {C0:Hp} {ns:Nat->Nm} {rows:List (List α)} {i:Nat} {m:Nm} {r:List α} (hi:i<rows.length) (h:aS q C all K rest sl (C0++aR sz enc (vX ns i m) (rows.set i r))):aS q C all K rest sl (C0++[(m,gB sz enc r)]++aR sz enc ns rows):=h_pre (L9 hi) h
variable {dst:Option Tmp} {d:Nat} {t ty:TypeId} {pos:String} {after:Array Edge} {g:Option (Nat×Bool)}
theorem yD {α:Type} {x:Operand} {n:Nm} {i sz:Nat} {ns:Nat->Nm} {rows:List (List α)} {r:List α} (p k:Nat) (hp:q=none\/Nat.beq all.length (p+(rest.length+1))=true) (hf:∀S tk,AgR H S tk (⟨dst,.load t x,ty,pos,after,g⟩::rest)->okQ q all p [n] false) (hs:szT C.P t=some 1) (ha:bT C.P t=false) (hx:ev sl x = .ref n i 0) (hH:H[k]? = some (n,some (.cells 1 (aL sz ns rows)))) (hr:rows[i]? = some r)
  (hw:aM all sl ⟨dst,.load t x,ty,pos,after,g⟩=some true) (h:aS (kL q p [n] false) C all K rest (dA sl dst (gV (ns i) sz r)) H):aS q C all K (⟨dst,.load t x,ty,pos,after,g⟩::rest) sl H :=
 aF p k hp hf hs ha hx hH _ (Lr hr) hw h
theorem KA {α:Type} {enc:α->List D} {C0:Hp} {x:Operand} {size:Nat} {agg:Bool} {i j o sz:Nat} {ns:Nat->Nm} {rows:List (List α)} {r:List α} {e:α} (p:Nat) (hp:q=none\/Nat.beq all.length (p+(rest.length+1))=true) (hf:∀S tk,AgR (C0++aR sz enc ns rows) S tk (⟨dst,.load t x,ty,pos,after,g⟩::rest)->okQ q all p [ns i] false) (hs:szT C.P t=some size) (ha:bT C.P t=agg) (hx:ev sl x = .ref (ns i) j o) (hr:rows[i]? = some r) (he:r[j]? = some e)
  (v:V) (hv:rdD agg size ((enc e).drop o)=some v) (hw:aM all sl ⟨dst,.load t x,ty,pos,after,g⟩=some true) (h:aS (kL q p [ns i] false) C all K rest (dA sl dst v) (C0++aR sz enc ns rows)):aS q C all K (⟨dst,.load t x,ty,pos,after,g⟩::rest) sl (C0++aR sz enc ns rows) :=
 sG p (C0.length+i) hp hf hs ha hx (yS hr) he v hv hw h
theorem Hq {α:Type} {enc:α->List D} {C0:Hp} {x y:Operand} {size:Nat} {i j o sz:Nat} {ns:Nat->Nm} {rows:List (List α)} {r:List α} {e:α} (p:Nat) (hp:q=none\/Nat.beq all.length (p+(rest.length+1))=true) (hf:∀S tk,AgR (C0++aR sz enc ns rows) S tk (⟨dst,.store t x y,ty,pos,after,g⟩::rest)->okQ q all p [ns i] true) (hs:szT C.P t=some size) (hx:ev sl x = .ref (ns i) j o) (hr:rows[i]? = some r) (he:r[j]? = some e) (e':α) (hv:stD size (enc e) o (ev sl y)=some (enc e'))
  (hw:aM all sl ⟨dst,.store t x y,ty,pos,after,g⟩=some true) (h:aS (kL q p [ns i] true) C all K rest (dA sl dst .none) (C0++aR sz enc ns (rows.set i (r.set j e')))):aS q C all K (⟨dst,.store t x y,ty,pos,after,g⟩::rest) sl (C0++aR sz enc ns rows) :=
 CZ p hp hf (C0.length+i) hs hx (yS hr) he e' hv hw (by rw [Na];exact h)
theorem h_gst {α:Type} {x y:Operand} {n:Nm} {i sz:Nat} {ns:Nat->Nm} {rows:List (List α)} {m:Nm} {r:List α} (p k:Nat) (hp:q=none\/Nat.beq all.length (p+(rest.length+1))=true) (hf:∀S tk,AgR H S tk (⟨dst,.store t x y,ty,pos,after,g⟩::rest)->okQ q all p [n] true) (hs:szT C.P t=some 1) (hx:ev sl x = .ref n i 0) (hy:ev sl y=gV m sz r) (hH:H[k]? = some (n,some (.cells 1 (aL sz ns rows)))) (hi:i<rows.length)
  (hw:aM all sl ⟨dst,.store t x y,ty,pos,after,g⟩=some true) (h:aS (kL q p [n] true) C all K rest (dA sl dst .none) (H.set k (n,some (.cells 1 (aL sz (vX ns i m) (rows.set i r)))))):aS q C all K (⟨dst,.store t x y,ty,pos,after,g⟩::rest) sl H :=
 fP p hp hf k hs hx hH _ (by rw [hy];exact Md hi) hw h
theorem MC {α:Type} {enc:α->List D} {x y:Operand} {k k':IntKind} {n:Int} {m e sz by_:Nat} (p:Nat) (hp:q=none\/Nat.beq all.length (p+(rest.length+1))=true)
  (he:bK C.P t=some e) (hs:szT C.P e=some 1) (hz:zeroCells C.P e=some [.nil]) (hb:eu C.P e=by_)
  (hx:ev sl x = .d (.int k n)) (hy:ev sl y = .d (.int k' n)) (hn:mkN n by_=some m) (hn0:n≠0)
  (hw:aM all sl ⟨some d,.makeSlice t x y,ty,pos,after,g⟩=some true)
  (h:∀(nm:Nm) (ns:Nat->Nm),aS (kL q p [nm] true) C all K rest (upd sl d (.vs nm 1 0 m)) (H++[(nm,some (.cells 1 (aL (α:=α) sz ns (List.replicate m []))))]++aR sz enc ns (List.replicate m []))):aS q C all K (⟨some d,.makeSlice t x y,ty,pos,after,g⟩::rest) sl H:=by
 unfold mkN at hn
 split at hn
 ·rename_i hc
  simp only [so_]at hn;subst hn
  refine mH rfl p [] hp (λ_ _ _=>oV) (λm hm=>by cases hm) hw (λS tk K' ok ag hk=>iy (A:=⟨[],[((d,tk),some (.cells 1 (List.replicate n.toNat .nil)))],.vs (d,tk) 1 0 n.toNat⟩) (λc e=>by cases e) ?_
   (hk _ _ _ (.inl rfl) ⟨by simp,by simp⟩ (ag.new ok rfl _) (Ld (α:=α) (enc:=enc) (sz:=sz) n.toNat (λns=>by
    have:=h (d,tk) ns
    rw [I6]at this
    exact this))))
  show j3 C.P t (ev sl x) (ev sl y) d tk=_
  unfold j3
  rw [he,hx,hy]
  simp only [hs,hz,hb]
  rw [if_neg (λh=>hn0 h.1)]
  rw [if_pos ⟨hc.1,trivial,hc.2.1,hc.2.2,rfl,by omega,rfl⟩]
  rfl
 ·cases hn
end
end Go.Eng

/-
  THE ENGINE: queues: a slice that is shortened from its head and appended to.
-/
namespace Go.Eng
set_option linter.unusedSectionVars false
variable [DM]
set_option linter.unusedVariables false
abbrev qV {α:Type} (n:Nm) (sz:Nat) (xs:List α) (k:Nat):V := .vs n sz k (xs.length-k)
section
variable {C:Cfg} {sl:Nat->V} {H:Hp} {q:Qm} {all rest:List Oper} {K:(Nat->V)->Hp->Prop}
variable {dst:Option Tmp} {d:Nat} {t ty:TypeId} {pos:String} {after:Array Edge} {g:Option (Nat×Bool)}
variable {α:Type} {enc:α->List D} {xs ys zs:List α} {x y:Operand} {t' e e':TypeId} {sz bytes i k:Nat} {n:Nm} {z:List V}
theorem h_appq (p:Nat) (hpp:q=none\/Nat.beq all.length (p+(rest.length+1))=true) (hf:∀S tk,AgR H S tk (⟨some d,.call ⟨.builtin .append,#[x,y],#[t,t']⟩,ty,pos,after,g⟩::rest)->okQ q all p [n] true) (he:bK C.P t=some e) (he':bK C.P t'=some e') (hs:szT C.P e=some sz) (hz:zeroCells C.P e=some z) (hzl:z.length=sz) (hp:0<sz) (hby:eu C.P e=bytes) (hbb:bytes<=100000)
  (henc:∀y,(enc y).length=sz) (hx:ev sl x=qV n sz xs k) (hk:k<=xs.length) (hH:H[i]? = some (n,some (bV sz enc xs))) (hy:ev sl y=vL enc ys) (hne:ys ≠ []) (ha:jZ (xs.drop k) ys=some zs)
  (hw:aM all sl ⟨some d,.call ⟨.builtin .append,#[x,y],#[t,t']⟩,ty,pos,after,g⟩=some true)
  (h:∀n':Nm,aS (kL q p [n,n'] true) C all K rest (upd sl d (vV n' sz zs)) (H.set i (n',some (bV sz enc zs)))):aS q C all K (⟨some d,.call ⟨.builtin .append,#[x,y],#[t,t']⟩,ty,pos,after,g⟩::rest) sl H:=by
 unfold jZ at ha
 split at ha
 case isFalse=>cases ha
 rename_i hle
 simp only [so_]at ha
 subst ha
 refine mH rfl p [n] hpp hf (wR hH) hw (λS tk K' ok ag hk' => ?_)
 have hall:=xB (sz:=sz) henc ys
 have hzz:z.length=sz/\0<sz:=⟨hzl,hp⟩
 have hb1:∀m,m<=1000000000->(2*m+192)*eu C.P e<=2 ^ 48/\m<=2 ^ 48:=λm hm=>by
  rw [hby]
  have:=Nat.mul_le_mul (show 2*m+192<=2000000192 by omega) hbb
  exact⟨by omega,by omega⟩
 have run:∀{A:Eff},iX C.P t t' S (ev sl x) (ev sl y) d tk=some A->K' A->opD C ⟨some d,.call ⟨.builtin .append,#[x,y],#[t,t']⟩,ty,pos,after,g⟩ sl S tk K':=λha hk=>sM (by show (bif lG C.P t' then _ else _)=_;rw [sw he',cond_false];exact ha) hk
 have hS:S n=some (.vec sz (xs.map enc)):=ag.get hH
 cases ys with
 | nil=>exact absurd rfl hne
 | cons y0 ys =>
  have hlen:(xs.length-k)+(y0::ys).length=(xs.drop k++(y0::ys)).length:=by simp
  refine run (A:=⟨[(n,.vec sz (xs.map enc))],[(n,none),((d,tk),some (.vec sz ((xs.drop k++(y0::ys)).map enc)))],.vs (d,tk) sz 0 (xs.drop k++(y0::ys)).length⟩) ?_ (hk' _ (H.set i ((d,tk),some (bV sz enc (xs.drop k++(y0::ys))))) (d,tk) (.inl rfl) ⟨by simp,by simp⟩ ?_ (h (d,tk)))
  ·rw [hx,hy]
   simp only [iX,he,qN he',hs,hz,if_pos hzz,jF,mK,hall,if_true,hS]
   have hle':(xs.length-k)+((y0::ys).map enc).length<=1000000000:=by
    rw [List.length_drop]at hle;rw [List.length_map];exact hle
   rw [if_pos ⟨trivial,by rw [List.length_map];omega,hb1 _ hle'⟩]
   simp [List.map_drop]
  ·exact ag.swap ok rfl hH _ _ (λm h1 h2=>by simp [dL,supd,h2,h1]) (λx hx=>by simp only [dL,supd,if_true];exact hx)
theorem qpop (hu:C.P.underlying t=some (.slice e)) (hs:szT C.P e=some sz) (h1:k<xs.length):jN C.P t (qV n sz xs k) (some (.d (.int .i64 1))) none none=some (qV n sz xs (k+1)):=by
 unfold jN
 rw [hu]
 simp only [qV,hs,nY]
 show (if 1<=xs.length-k/\xs.length-k<=xs.length-k/\sz=sz then some (V.vs n sz (k+1) (xs.length-k-1))else none)=_
 rw [if_pos ⟨by omega,Nat.le_refl _,rfl⟩,Nat.sub_sub]
theorem h_qpop {α:Type} {xs:List α} (hu:C.P.underlying t=some (.slice e)) (hs:szT C.P e=some sz) (hx:ev sl x=qV n sz xs k) (h1:k<xs.length)
  (hw:aM all sl ⟨dst,.slice t x (some (.const (.int .i64 1))) none none,ty,pos,after,g⟩=some true) (h:aS q C all K rest (dA sl dst (qV n sz xs (k+1))) H):aS q C all K (⟨dst,.slice t x (some (.const (.int .i64 1))) none none,ty,pos,after,g⟩::rest) sl H :=
 aH _ hw (by
  show jN C.P t (ev sl x) (some (.d (.int .i64 1))) none none=_
  rw [hx];exact qpop hu hs h1) h
end
end Go.Eng

/-
  THE ENGINE: structs with a grid: handed in, handed back, and made.
-/
namespace Go.Eng
set_option linter.unusedSectionVars false
variable [DM]
set_option linter.unusedVariables false
def ltN (k n:Nat):Option Unit:=if k<n then some ()else none
theorem ltN_lt {k n:Nat} {u:Unit} (h:ltN k n=some u):k<n:=by
 unfold ltN at h;split at h
 ·assumption
 ·cases h
def leN (k n:Nat):Option Unit:=if k<=n then some ()else none
theorem leN_le {k n:Nat} {u:Unit} (h:leN k n=some u):k<=n:=by
 unfold leN at h;split at h
 ·assumption
 ·cases h
def nzI (n:Int):Option Unit:=if n≠0 then some ()else none
theorem nzI_ne {n:Int} {u:Unit} (h:nzI n=some u):n≠0:=by
 unfold nzI at h;split at h
 ·assumption
 ·cases h
def neR {α:Type} (rows:List (List α)):Option Unit:=if rows.all (λr => !r.isEmpty)=true then some ()else none
theorem yh {α:Type} {rows:List (List α)} {u:Unit} (h:neR rows=some u):∀r∈rows,r ≠ []:=by
 unfold neR at h;split at h
 ·rename_i hc
  intro r hr e
  have:=List.all_eq_true.1 hc r hr
  rw [e]at this;cases this
 ·cases h
theorem NL {α:Type} {xs:List α} {i:Nat} {x:α} (h:xs[i]? = some x):i<xs.length:=(List.getElem?_eq_some_iff.1 h).1
theorem dD {C0 C1 T H:Hp} (is:List Nat) (hd:is.Nodup) (e:is.map (λi=>C1[i]?)=C0.map some) (h:H=C1++T):pre (C0++T) H:=by
 subst h;exact Nh ⟨is,hd,e⟩
section
variable {C:Cfg} {Q:QH} {sl:Nat->V} {H:Hp} {c:Code}
end
section rows
variable {α:Type} {enc:α->List D} {sz:Nat}
theorem LM {β:Type} {l:List β} {i:Nat} {b:β} (h:l[i]? = some b):l.set i b=l:=by
 refine List.ext_getElem? (λk => ?_)
 rw [List.getElem?_set]
 by_cases hk:i=k
 ·subst hk
  rw [if_pos rfl]
  obtain ⟨hl,he⟩:=List.getElem?_eq_some_iff.1 h
  rw [if_pos hl,h]
 ·rw [if_neg hk]
theorem La {ns:Nat->Nm} {rows:List (List α)} {i j:Nat} {r:List α} {e:α} (hr:rows[i]? = some r):aL sz ns rows=aL sz ns (rows.set i (r.set j e)):=by
 have h:=Dv (sz:=sz) (ns:=ns) (rows:=rows) (i:=i) (m:=ns i) (r:=r.set j e)
 rw [EU]at h
 rw [<- h]
 refine (LM ?_).symm
 rw [Dy hr,qW (List.length_set ..).symm]
theorem zn {ns:Nat->Nm} {rows:List (List α)} {i j:Nat} {r:List α} {e:α} (hr:rows[i]? = some r):some (Box.cells 1 (aL sz ns rows))=some (Box.cells 1 (aL sz ns (rows.set i (r.set j e)))):=by rw [La hr]
def bN:Nat->Nm:=λi=>av (2+i)
def kw (k sz:Nat) (enc:α->List D) (cs:List V) (rows:List (List α)):List Box :=
 .cells k (.vs (av 1) 1 0 rows.length::cs) :: .cells 1 (aL sz bN rows)::rows.map (bV sz enc)
def fU (k sz:Nat) (enc:α->List D) (cs:List V) (rows:List (List α)):List (Option Box) :=
 some (.cells k (.vs (av 1) 1 0 rows.length::cs))::some (.cells 1 (aL sz bN rows))::rows.map (gB sz enc)
theorem JH {k:Nat} {cs:List V} {rows:List (List α)}:(kw k sz enc cs rows).length=2+rows.length:=by simp [kw];omega
theorem pq {k:Nat} {cs:List V} {rows:List (List α)}:(fU k sz enc cs rows).length=2+rows.length:=by simp [fU];omega
theorem Ku {r:List α} (h:r ≠ []):gB sz enc r=some (bV sz enc r):=by
 cases r with
 | nil=>exact absurd rfl h
 | cons x r=>rfl
theorem J4 {k:Nat} {cs:List V} {rows:List (List α)} (h:∀r∈rows,r ≠ []):fU k sz enc cs rows=(kw k sz enc cs rows).map some:=by
 simp only [fU,kw,List.map_cons,List.map_map]
 congr 2
 exact List.map_congr_left (λr hr=>Ku (h r hr))
theorem Gq {r:List α} {ν:List Nm}:(gB sz enc r).map (·.ren ν)=gB sz enc r:=by cases r <;> rfl
theorem GM {ns:Nat->Nm} {rows:List (List α)}:(aR sz enc ns rows).map (·.1)=(List.range rows.length).map ns:=by
 refine List.ext_getElem (by simp [aR]) (λi h1 h2 => ?_)
 simp [aR]
theorem uZ {ν:List Nm} {ns:Nat->Nm} {rows:List (List α)} (h:∀i,i<rows.length->ν[2+i]? = some (ns i)):renL ν (aL sz bN rows)=aL sz ns rows:=by
 refine List.ext_getElem (by rw [bL,ru,ru]) (λi h1 h2 => ?_)
 have h3:i<(aL sz bN rows).length:=by rw [bL]at h1;exact h1
 have hi:i<rows.length:=by rw [ru]at h2;exact h2
 rw [jO ν _ i h1 h3]
 have e1:(aL sz bN rows)[i]=gV (bN i) sz rows[i]:=by simp [aL]
 have e2:(aL sz ns rows)[i]=gV (ns i) sz rows[i]:=by simp [aL]
 rw [e1,e2,Ns]
 show gV (sF ν (av (2+i))) sz _=_
 rw [vo (h i hi)]
theorem EJ {n:Nat}:∀(rows:List (List α)),2+rows.length<=n->okL n (aL sz bN rows)=true:=λrows h=>by
 have:∀(l:List V),(∀v∈l,okV n v=true)->okL n l=true:=by
  intro l
  induction l with
  | nil=>exact λ_=>rfl
  | cons v l ih=>intro h;simp only [okL,Bool.and_eq_true];exact⟨h v (by simp),ih (λx hx=>h x (by simp [hx]))⟩
 refine this _ (λv hv => ?_)
 obtain ⟨i,hi,rfl⟩:=List.getElem_of_mem hv
 have hi':i<rows.length:=by rw [ru]at hi;exact hi
 have e1:(aL sz bN rows)[i]=gV (bN i) sz rows[i]:=by simp [aL]
 rw [e1]
 exact M5 (by omega) _
theorem y5 {ν:List Nm} {cs:List V} (h:okL 0 cs=true):renL ν cs=cs:=xu h
theorem FnM.of_wHg {P:Program} {f:FuncId} {fn:Func} {body:Code} (C:Cfg) (hP:C.P=P) (hf:P.funcs[f]? = some fn) (hb:fn.body=some body) (hn:C.n=fn.ntmps)
  {k:Nat} {cs args:List V} {rows:List (List α)} {r:V} {Sout:List (Option Box)} (hl:args.length<=fn.ntmps) (hok:nI C body=true)
  (h:wH C body (uL C fn.results.toList (kw k sz enc cs rows).length r Sout) (GQ args) (([(av 0,some (.cells k (.vs (av 1) 1 0 rows.length::cs))),(av 1,some (.cells 1 (aL sz bN rows)))]:Hp)++aR sz enc bN rows)) :
  FnM P f args (kw k sz enc cs rows) r Sout:=by
 refine FnM.of_wpD' hf hb hP hn hl ?_
 have hag:Ag (([(av 0,some (.cells k (.vs (av 1) 1 0 rows.length::cs))),(av 1,some (.cells 1 (aL sz bN rows)))]:Hp)++aR sz enc bN rows) (cz (kw k sz enc cs rows)) 1:=by
  refine⟨Nat.one_pos,?_,λp hp => ?_⟩
  ·rw [List.map_append,GM]
   have e:(([(av 0,some (.cells k (.vs (av 1) 1 0 rows.length::cs))),(av 1,some (.cells 1 (aL sz bN rows)))]:Hp).map (·.1))++(List.range rows.length).map bN=(List.range (2+rows.length)).map av:=by
    refine List.ext_getElem (by simp;omega) (λi h1 h2 => ?_)
    simp only [List.getElem_map,List.getElem_range]
    match i with
    | 0=>rfl
    | 1=>rfl
    | i+2=>simp [bN];congr 1;omega
   rw [e]
   refine List.pairwise_map.2 (List.nodup_range.imp (λ{a b} h e=>h ?_))
   simp only [av,Prod.mk.injEq,and_true]at e
   omega
  ·rcases List.mem_append.1 hp with hp|hp
   ·simp only [List.mem_cons,List.not_mem_nil,or_false]at hp
    rcases hp with rfl|rfl
    ·exact⟨Nat.one_pos,λb hb=>by cases hb;rw [nW];rfl⟩
    ·exact⟨Nat.one_pos,λb hb=>by cases hb;rw [nW];rfl⟩
   ·obtain ⟨i,hi,rfl⟩:=List.getElem_of_mem hp
    have hi':i<rows.length:=by rw [xy]at hi;exact hi
    have e:(aR sz enc bN rows)[i]=(bN i,gB sz enc rows[i]):=by simp [aR]
    rw [e]
    refine⟨Nat.one_pos,λb hb => ?_⟩
    show cz _ (av (2+i))=some b
    rw [nW,kw,show 2+i=i+1+1 by omega,List.getElem?_cons_succ,List.getElem?_cons_succ,List.getElem?_map,List.getElem?_eq_getElem hi']
    cases hr:rows[i]with
    | nil=>rw [hr]at hb;cases hb
    | cons x xs=>rw [hr]at hb;exact hb
 obtain ⟨σ',hg,hw⟩:=h hok _ 1 hag
 exact⟨σ',hg,jr body (λe σ h=>Fw h) hw⟩
section
variable {C:Cfg} {sl:Nat->V} {H:Hp}
theorem KS {ν:List Nm}:∀{js:List Nat} {ns:List Nm} {bs:List (Option Box)},js.length=ns.length->ns.length=bs.length->(∀i (h1:i<js.length) (h2:i<ns.length) (h3:i<bs.length),H[js[i]]? = some (ns[i],bs[i].map (·.ren ν)))->yn H ν js ns bs
 | [],[],[],_,_,_=>trivial
 | j::js,n::ns,b::bs,h1,h2,h=>⟨h 0 (by simp) (by simp) (by simp),KS (by simpa using h1) (by simpa using h2) (λi a b c=>h (i+1) (by simpa using a) (by simpa using b) (by simpa using c))⟩
 | [],[],_::_,_,h,_=>by simp at h
 | [],_::_,_,h,_,_=>by simp at h
 | _::_,[],_,h,_,_=>by simp at h
 | _::_,_::_,[],_,h,_=>by simp at h
theorem E9 {k m j0 j1:Nat} {cs:List V} {rows:List (List α)} {C0:Hp} {ns:Nat->Nm} {n0 n1:Nm} (hm:rows.length=m) (hcs:okL 0 cs=true) (h0:C0[j0]? = some (n0,some (.cells k (.vs n1 1 0 m::cs)))) (h1:C0[j1]? = some (n1,some (.cells 1 (aL sz ns rows)))) :
  yn (C0++aR sz enc ns rows) (n0::n1::(List.range rows.length).map ns) (j0::j1::(List.range rows.length).map (C0.length + ·)) (n0::n1::(List.range rows.length).map ns) (fU k sz enc cs rows):=by
 refine⟨?_,?_,KS (by simp) (by simp) (λi a b c => ?_)⟩
 ·rw [List.getElem?_append_left (List.getElem?_eq_some_iff.1 h0).1,h0]
  simp only [Option.map_some,Box.ren,renL,ren,Fs,y5 hcs,hm]
 ·rw [List.getElem?_append_left (List.getElem?_eq_some_iff.1 h1).1,h1]
  simp only [Option.map_some,Box.ren]
  rw [uZ (ns:=ns) (λi hi=>by
   rw [show 2+i=i+1+1 by omega,List.getElem?_cons_succ,List.getElem?_cons_succ,List.getElem?_map,List.getElem?_range hi];rfl)]
 ·simp only [List.length_map,List.length_range]at a c
  simp only [List.getElem_map,List.getElem_range]
  rw [yS (List.getElem?_eq_getElem c),Gq]
theorem Kh {rs:List ResultVar} {r:V} {e:Exit} {k:Nat} {cs cs':List V} {rows rows':List (List α)} (X:Hp) (he:e = .normal\/e = .ret) (vs:List V) (h1:Ef C sl H rs vs) (h2:(vs.flatMap frz).all (λ_=>false)=true) (h3:DN (vs.map co0)=r) (hr:okV 0 r=true) (hcs:okL 0 cs'=true)
  (hlen:rows'.length=rows.length) (hH:H=(([(av 0,some (.cells k (.vs (av 1) 1 0 rows.length::cs'))),(av 1,some (.cells 1 (aL sz bN rows')))]:Hp)++X)++aR sz enc bN rows') :
  uL C rs (kw k sz enc cs rows).length r (fU k sz enc cs' rows') e sl H:=by
 have hn:vs.flatMap frz=[]:=by
  cases hx:vs.flatMap frz with
  | nil=>rfl
  | cons a b=>rw [hx]at h2;simp at h2
 have hc:∀{vs:List V},vs.flatMap frz=[]->CoL H vs (vs.map co0):=by
  intro vs
  induction vs with
  | nil=>exact λ_ => .nil
  | cons v vs ih=>exact λh => .cons (lS (pQ h v (by simp)) rfl) (ih (by simp only [List.flatMap_cons,List.append_eq_nil_iff]at h;exact h.2))
 refine⟨he,vs,vs.map co0,0::1::(List.range rows'.length).map (2+X.length + ·),av 0::av 1::(List.range rows'.length).map bN,h1,hc hn,by rw [h3,qZ hr],?_,?_,?_⟩
 ·subst hH
  have:=E9 (sz:=sz) (enc:=enc) (k:=k) (m:=rows.length) (j0:=0) (j1:=1) (cs:=cs') (rows:=rows') (C0:=([(av 0,some (.cells k (.vs (av 1) 1 0 rows.length::cs'))),(av 1,some (.cells 1 (aL sz bN rows')))]:Hp)++X) (ns:=bN) (n0:=av 0) (n1:=av 1) hlen hcs rfl rfl
  rw [show (([(av 0,some (.cells k (.vs (av 1) 1 0 rows.length::cs'))),(av 1,some (.cells 1 (aL sz bN rows')))]:Hp)++X).length=2+X.length by simp;omega]at this
  exact this
 ·refine List.nodup_cons.2 ⟨λh => ?_,List.nodup_cons.2 ⟨λh => ?_,?_⟩⟩
  ·rcases List.mem_cons.1 h with h|h
   ·cases h
   ·obtain ⟨j,_,h⟩:=List.mem_map.1 h;omega
  ·obtain ⟨j,_,h⟩:=List.mem_map.1 h;omega
  ·exact List.pairwise_map.2 (List.nodup_range.imp (λ{a b} h e=>h (by omega)))
 ·intro i hi
  rw [JH,<- hlen]at hi
  match i,hi with
  | 0,_=>rfl
  | 1,_=>rfl
  | i+2,hi =>
   rw [List.getElem?_cons_succ,List.getElem?_cons_succ,List.getElem?_map,List.getElem?_range (by omega)]
   show some (av (2+i))=_
   rw [Nat.add_comm]
theorem finGrN {t:Tmp} {e:Exit} {k m:Nat} {cs:List V} {rows:List (List α)} {C0:Hp} {ns:Nat->Nm} {n0 n1:Nm} (j0 j1:Nat) (he:e = .normal\/e = .ret) (hs:sl t = .ref n0 0 0) (hcs:okL 0 cs=true) (hm:rows.length=m) (hj:j0≠j1)
  (h0:C0[j0]? = some (n0,some (.cells k (.vs n1 1 0 m::cs)))) (h1:C0[j1]? = some (n1,some (.cells 1 (aL sz ns rows)))) (hH:H=C0++aR sz enc ns rows) :
  uL C [.tmp t] 0 (.ref (av 0) 0 0) (fU k sz enc cs rows) e sl H:=by
 subst hH
 refine⟨he,[.ref n0 0 0],[.ref n0 0 0],_,_,⟨hs,trivial⟩,.cons (Oy _) .nil,?_,E9 hm hcs h0 h1,?_,λi hi=>absurd hi (Nat.not_lt_zero i)⟩
 ·simp only [DN,ren,Np]
 ·have l0:=(List.getElem?_eq_some_iff.1 h0).1
  have l1:=(List.getElem?_eq_some_iff.1 h1).1
  refine List.nodup_cons.2 ⟨λh => ?_,List.nodup_cons.2 ⟨λh => ?_,?_⟩⟩
  ·rcases List.mem_cons.1 h with h|h
   ·exact hj h
   ·obtain ⟨j,_,h⟩:=List.mem_map.1 h;omega
  ·obtain ⟨j,_,h⟩:=List.mem_map.1 h;omega
  ·exact List.pairwise_map.2 (List.nodup_range.imp (λ{a b} h e=>h (by omega)))
end
theorem GJ {H:Hp}:∀{is:List Nat} {l:List (Nm×Box)},is.length=l.length->(∀j (h1:j<is.length) (h2:j<l.length),H[is[j]]? = some (l[j].1,some l[j].2))->kT H is=some l
 | [],[],_,_=>rfl
 | i::is,(n,b)::l,hl,h=>by
  have e0:=h 0 (by simp) (by simp)
  simp only [List.getElem_cons_zero]at e0
  simp only [kT,e0,GJ (by simpa using hl) (λj h1 h2=>h (j+1) (by simpa using h1) (by simpa using h2))]
 | [],_::_,h,_=>by simp at h
 | _::_,[],h,_=>by simp at h
theorem EK {ν:List Nm}:∀{ms:List Nm} {as C0:Hp} {bs:List (Option Box)},as.length=ms.length->bs.length=ms.length->setH (C0++as) (outs ν (List.range' C0.length ms.length) ms bs)=C0++ms.zip (bs.map (Option.map (·.ren ν)))
 | [],[],C0,[],_,_=>by simp [outs,setH]
 | m::ms,a::as,C0,b::bs,h1,h2=>by
  have ih:=EK (ν:=ν) (ms:=ms) (as:=as) (C0:=C0++[(m,b.map (·.ren ν))]) (bs:=bs) (by simpa using h1) (by simpa using h2)
  simp only [List.length_cons,List.range'_succ,outs,setH,List.zip_cons_cons,List.map_cons]
  have e:(C0++a::as).set C0.length (m,b.map (·.ren ν))=C0++[(m,b.map (·.ren ν))]++as:=by simp
  rw [show setH ((C0++a::as).set C0.length (m,b.map (·.ren ν)))=setH (C0++[(m,b.map (·.ren ν))]++as) by rw [e]]
  rw [List.length_append]at ih
  rw [show C0.length+1=C0.length+[(m,Option.map (λx=>x.ren ν) b)].length by rfl,ih]
  simp
 | [],_::_,_,_,h,_=>by simp at h
 | _::_,[],_,_,h,_=>by simp at h
 | [],[],_,_::_,_,h=>by simp at h
 | _::_,_::_,_,[],_,h=>by simp at h
theorem H7 {ν:List Nm} {ns:Nat->Nm} {rows:List (List α)}:((List.range rows.length).map ns).zip ((rows.map (gB sz enc)).map (Option.map (·.ren ν)))=aR sz enc ns rows:=by
 refine List.ext_getElem (by simp [aR]) (λi h1 h2 => ?_)
 simp only [aR,List.getElem_zip,List.getElem_map,List.getElem_range,List.getElem_mapIdx,Gq]
section
variable {C:Cfg} {sl:Nat->V} {C0:Hp} {q:Qm} {all rest:List Oper} {K:(Nat->V)->Hp->Prop}
variable {dst:Option Tmp} {d:Nat} {t ty:TypeId} {pos:String} {after:Array Edge} {g:Option (Nat×Bool)}
def CW (k sz:Nat) (enc:α->List D) (cs:List V) (rows:List (List α)) (n0 n1:Nm) (ns:Nat->Nm):List (Nm×Box) :=
 (n0,.cells k (.vs n1 1 0 rows.length::cs))::(n1,.cells 1 (aL sz ns rows))::rows.mapIdx λi r=>(ns i,bV sz enc r)
theorem Bf {k:Nat} {cs:List V} {rows:List (List α)} {n0 n1:Nm} {ns:Nat->Nm}:(CW k sz enc cs rows n0 n1 ns).map (·.1)=n0::n1::(List.range rows.length).map ns:=by
 simp only [CW,List.map_cons]
 congr 2
 refine List.ext_getElem (by simp) (λi h1 h2 => ?_)
 simp
theorem D5 {k j0 j1:Nat} {cs:List V} {rows:List (List α)} {n0 n1:Nm} {ns:Nat->Nm} (h0:C0[j0]? = some (n0,some (.cells k (.vs n1 1 0 rows.length::cs)))) (h1:C0[j1]? = some (n1,some (.cells 1 (aL sz ns rows)))) (hne:∀r∈rows,r ≠ []) :
  kT (C0++aR sz enc ns rows) (j0::j1::List.range' C0.length rows.length)=some (CW k sz enc cs rows n0 n1 ns):=by
 refine GJ (by simp [CW]) (λj a b => ?_)
 match j,a,b with
 | 0,_,_=>exact (List.getElem?_append_left (List.getElem?_eq_some_iff.1 h0).1).trans h0
 | 1,_,_=>exact (List.getElem?_append_left (List.getElem?_eq_some_iff.1 h1).1).trans h1
 | j+2,a,b =>
  have hj:j<rows.length:=by simp only [List.length_cons,List.length_range']at a;omega
  simp only [CW,List.getElem_cons_succ,List.getElem_range',List.getElem_mapIdx,Nat.one_mul]
  rw [yS (List.getElem?_eq_getElem hj),Ku (hne _ (List.getElem_mem hj))]
theorem Er {k:Nat} {cs:List V} {rows:List (List α)} {n0 n1:Nm} {ns:Nat->Nm} (hcs:okL 0 cs=true):(kw k sz enc cs rows).map (λb=>b.ren (n0::n1::(List.range rows.length).map ns))=(CW k sz enc cs rows n0 n1 ns).map (·.2):=by
 simp only [kw,CW,List.map_cons,Box.ren,renL,ren,Fs,y5 hcs,List.map_map]
 rw [uZ (ns:=ns) (λi hi=>by
   rw [show 2+i=i+1+1 by omega,List.getElem?_cons_succ,List.getElem?_cons_succ,List.getElem?_map,List.getElem?_range hi];rfl)]
 congr 2
 refine List.ext_getElem (by simp) (λi h1 h2 => ?_)
 simp only [List.getElem_map,List.getElem_mapIdx,Function.comp_apply]
theorem Ez {k:Nat} {cs:List V} {rows:List (List α)} (hcs:okL 0 cs=true):(kw k sz enc cs rows).all (λb=>b.ok (2+rows.length))=true:=by
 refine List.all_eq_true.2 (λb hb => ?_)
 simp only [kw,List.mem_cons,List.mem_map]at hb
 rcases hb with rfl|rfl|⟨r,_,rfl⟩
 ·simp only [Box.ok,okL,okV,Bool.and_eq_true]
  exact⟨yl (by omega),mF (Nat.zero_le _) _ hcs⟩
 ·exact EJ rows (Nat.le_refl _)
 ·rfl
theorem Ce {k:Nat} {cs:List V} {rows:List (List α)} (hcs:okL 0 cs=true):okOut (2+rows.length) (fU k sz enc cs rows)=true:=by
 have key:∀(l:List (List α)) (n:Nat),okOut n (l.map (gB sz enc))=true:=by
  intro l n
  induction l with
  | nil=>rfl
  | cons r l ih=>cases r <;> simp [gB,okOut,Box.ok,ih]
 simp only [fU,okOut,Bool.and_eq_true]
 refine⟨?_,EJ rows (Nat.le_refl _),key _ _⟩
 simp only [Box.ok,okL,okV,Bool.and_eq_true]
 exact⟨yl (by omega),mF (Nat.zero_le _) _ hcs⟩
theorem EZ {j0 j1 m:Nat} (h0:j0<C0.length) (h1:j1<C0.length) (hj:j0≠j1):(j0::j1::List.range' C0.length m).Nodup:=by
 refine List.nodup_cons.2 ⟨λh => ?_,List.nodup_cons.2 ⟨λh => ?_,List.nodup_range'⟩⟩
 ·rcases List.mem_cons.1 h with h|h
  ·exact hj h
  ·have:=(List.mem_range'_1.1 h).1;omega
 ·have:=(List.mem_range'_1.1 h).1;omega
theorem Nb {f:Operand} {args:List Operand} {ats:Array TypeId} {fn:FuncId} {caps args0:List V} {r:V} {k m:Nat} {cs cs':List V} {rows rows':List (List α)} {n0 n1:Nm} {ns:Nat->Nm} (p j0 j1:Nat) (hp:q=none\/Nat.beq all.length (p+(rest.length+1))=true)
  (hfp:∀S tk,AgR (C0++aR sz enc ns rows) S tk (⟨some d,.call ⟨.value f,args.toArray,ats⟩,ty,pos,after,g⟩::rest)->okQ q all p (n0::n1::(List.range rows.length).map ns) true)
  (hc:FnM C.P fn args0 (kw k sz enc cs rows) r (fU k sz enc cs' rows')) (hf:ev sl f = .fn fn caps) (hb:aI C.P fn=true)
  (h0:C0[j0]? = some (n0,some (.cells k (.vs n1 1 0 m::cs)))) (h1:C0[j1]? = some (n1,some (.cells 1 (aL sz ns rows)))) (hj:j0≠j1) (hm:rows.length=m) (hne:∀r∈rows,r ≠ []) (hlen:rows'.length=rows.length) (hcs:okL 0 cs=true) (hcs':okL 0 cs'=true)
  (hn:((args.map (ev sl)++caps).flatMap frz).all (λn=>false)=true) (ha:∀L,(args.map (ev sl)++caps).map co0=renL (n0::L) args0) (hok:okL 1 args0=true) (hr:okV 0 r=true)
  (hw:aM all sl ⟨some d,.call ⟨.value f,args.toArray,ats⟩,ty,pos,after,g⟩=some true)
  (h:aS (kL q p (n0::n1::(List.range rows.length).map ns) true) C all K rest (upd sl d r) ((C0.set j0 (n0,some (.cells k (.vs n1 1 0 m::cs')))).set j1 (n1,some (.cells 1 (aL sz ns rows')))++aR sz enc ns rows')) :
  aS q C all K (⟨some d,.call ⟨.value f,args.toArray,ats⟩,ty,pos,after,g⟩::rest) sl (C0++aR sz enc ns rows):=by
 subst hm
 have l0:=(List.getElem?_eq_some_iff.1 h0).1
 have l1:=(List.getElem?_eq_some_iff.1 h1).1
 have hnames:=Bf (sz:=sz) (enc:=enc) (k:=k) (cs:=cs) (rows:=rows) (n0:=n0) (n1:=n1) (ns:=ns)
 have hil:(j0::j1::List.range' C0.length rows.length).length=2+rows.length:=by simp;omega
 refine gz p (j0::j1::List.range' C0.length rows.length) hp (by rw [hnames];exact hfp) hc hf hb (D5 h0 h1 hne) ?_ ?_ hn ?_ ?_ (uf (Nat.zero_le _) _ hr) ?_ (EZ l0 l1 hj) ?_ hw r (qZ hr) _ ?_ (by rw [hnames];exact h)
 ·rw [hnames];exact Er hcs
 ·rw [hil];exact Ez hcs
 ·rw [hnames];exact ha _
 ·rw [hil];exact mF (by omega) _ hok
 ·rw [pq,hil,hlen]
 ·rw [pq];exact Ce hcs'
 ·rw [hnames]
  simp only [fU,outs,setH,Option.map_some,Box.ren,renL,ren,Fs,y5 hcs']
  rw [uZ (ns:=ns) (λi hi=>by
   rw [show 2+i=i+1+1 by omega,List.getElem?_cons_succ,List.getElem?_cons_succ,List.getElem?_map,List.getElem?_range (by omega)];rfl)]
  rw [List.set_append_left _ _ l0,List.set_append_left _ _ (by rw [List.length_set];exact l1)]
  have e:=EK (ν:=n0::n1::(List.range rows.length).map ns) (ms:=(List.range rows.length).map ns) (as:=aR sz enc ns rows) (C0:=(C0.set j0 (n0,some (.cells k (.vs n1 1 0 rows'.length::cs')))).set j1 (n1,some (.cells 1 (aL sz ns rows')))) (bs:=rows'.map (gB sz enc)) (by simp [xy]) (by simp [hlen])
  simp only [List.length_set,List.length_map,List.length_range]at e
  rw [e,<- hlen,H7]
theorem vZ {f:Operand} {args:List Operand} {ats:Array TypeId} {fn:FuncId} {caps args0:List V} {r:V} {k m:Nat} {cs:List V} {rows:List (List α)} {n0 n1:Nm} {ns:Nat->Nm} (p j0 j1:Nat) (hp:q=none\/Nat.beq all.length (p+(rest.length+1))=true)
  (hfp:∀S tk,AgR (C0++aR sz enc ns rows) S tk (⟨some d,.call ⟨.value f,args.toArray,ats⟩,ty,pos,after,g⟩::rest)->okQ q all p (n0::n1::(List.range rows.length).map ns) false)
  (hc:FnM C.P fn args0 (kw k sz enc cs rows) r (fU k sz enc cs rows)) (hf:ev sl f = .fn fn caps) (hb:aI C.P fn=true)
  (h0:C0[j0]? = some (n0,some (.cells k (.vs n1 1 0 m::cs)))) (h1:C0[j1]? = some (n1,some (.cells 1 (aL sz ns rows)))) (hj:j0≠j1) (hm:rows.length=m) (hne:∀r∈rows,r ≠ []) (hcs:okL 0 cs=true)
  (hn:((args.map (ev sl)++caps).flatMap frz).all (λn=>false)=true) (ha:∀L,(args.map (ev sl)++caps).map co0=renL (n0::L) args0) (hok:okL 1 args0=true) (hr:okV 0 r=true)
  (hw:aM all sl ⟨some d,.call ⟨.value f,args.toArray,ats⟩,ty,pos,after,g⟩=some true)
  (h:aS (kL q p (n0::n1::(List.range rows.length).map ns) false) C all K rest (upd sl d r) (C0++aR sz enc ns rows)) :
  aS q C all K (⟨some d,.call ⟨.value f,args.toArray,ats⟩,ty,pos,after,g⟩::rest) sl (C0++aR sz enc ns rows):=by
 subst hm
 have l0:=(List.getElem?_eq_some_iff.1 h0).1
 have l1:=(List.getElem?_eq_some_iff.1 h1).1
 have hnames:=Bf (sz:=sz) (enc:=enc) (k:=k) (cs:=cs) (rows:=rows) (n0:=n0) (n1:=n1) (ns:=ns)
 have hil:(j0::j1::List.range' C0.length rows.length).length=2+rows.length:=by simp;omega
 refine h_callr p (j0::j1::List.range' C0.length rows.length) hp (by rw [hnames];exact hfp) (by rw [<- J4 hne];exact hc) hf hb (D5 h0 h1 hne) ?_ ?_ hn ?_ ?_ (uf (Nat.zero_le _) _ hr) (EZ l0 l1 hj) hw r (qZ hr) (by rw [hnames];exact h)
 ·rw [hnames];exact Er hcs
 ·rw [hil];exact Ez hcs
 ·rw [hnames];exact ha _
 ·rw [hil];exact mF (by omega) _ hok
theorem NW {H:Hp} {f:Operand} {args:List Operand} {ats:Array TypeId} {fn:FuncId} {caps args0:List V} {k:Nat} {cs:List V} {rows:List (List α)}
  (hc:FnM C.P fn args0 [] (.ref (av 0) 0 0) (fU k sz enc cs rows)) (hf:ev sl f = .fn fn caps) (hb:aI C.P fn=true) (hne:∀r∈rows,r ≠ []) (hcs:okL 0 cs=true)
  (hn:((args.map (ev sl)++caps).flatMap frz).all (λn=>false)=true) (ha:(args.map (ev sl)++caps).map co0=args0) (hok:okL 0 args0=true)
  (hw:aM all sl ⟨some d,.call ⟨.value f,args.toArray,ats⟩,ty,pos,after,g⟩=some true)
  (h:∀(n0 n1:Nm) (ns:Nat->Nm),aS none C all K rest (upd sl d (.ref n0 0 0)) (H++[(n0,some (.cells k (.vs n1 1 0 rows.length::cs))),(n1,some (.cells 1 (aL sz ns rows)))]++aR sz enc ns rows)) :
  aS none C all K (⟨some d,.call ⟨.value f,args.toArray,ats⟩,ty,pos,after,g⟩::rest) sl H:=by
 have hmut:mutOut (fU k sz enc cs rows)=true:=by
  have key:∀(l:List (List α)),(∀r∈l,r ≠ [])->mutOut (l.map (gB sz enc))=true:=by
   intro l
   induction l with
   | nil=>exact λ_=>rfl
   | cons r l ih =>
    intro h
    cases r with
    | nil=>exact absurd rfl (h [] (by simp))
    | cons x r=>simp only [List.map_cons,gB,mutOut,Box.mut,Bool.true_and];exact ih (λr hr=>h r (by simp [hr]))
  simp only [fU,mutOut,Box.mut,Bool.true_and]
  exact key rows hne
 refine Ju [] (2+rows.length) (l:=[]) hc hf hb rfl rfl rfl hn ?_ hok ?_ ?_ List.nodup_nil ?_ (by rw [List.length_nil,List.drop_zero];exact hmut) hw (λν => ?_)
 ·rw [ha];exact (xu hok).symm
 ·show okN _ (av 0)=true
  exact yl (by rw [pq];omega)
 ·rw [pq,List.length_nil];omega
 ·rw [pq];exact Ce hcs
 ·have hν:(List.range (2+rows.length)).map ν=ν 0::ν 1::(List.range rows.length).map (λi=>ν (2+i)):=by
   refine List.ext_getElem (by simp;omega) (λi h1 h2 => ?_)
   match i with
   | 0=>simp
   | 1=>simp
   | i+2=>simp;congr 1;omega
  simp only [List.map_nil,List.nil_append,outs,setH,List.length_nil,List.drop_zero]
  rw [hν]
  have:=h (ν 0) (ν 1) (λi=>ν (2+i))
  have e1:ren (ν 0::ν 1::(List.range rows.length).map (λi=>ν (2+i))) (.ref (av 0) 0 0) = .ref (ν 0) 0 0:=by simp only [ren,Np]
  have e2:news (ν 0::ν 1::(List.range rows.length).map (λi=>ν (2+i))) (ν 0::ν 1::(List.range rows.length).map (λi=>ν (2+i))) (fU k sz enc cs rows)
    = [(ν 0,some (.cells k (.vs (ν 1) 1 0 rows.length::cs))),(ν 1,some (.cells 1 (aL sz (λi=>ν (2+i)) rows)))]++aR sz enc (λi=>ν (2+i)) rows:=by
   simp only [fU,news,Option.map_some,Box.ren,renL,ren,Fs,y5 hcs,List.cons_append,List.nil_append]
   rw [uZ (ns:=λi=>ν (2+i)) (λi hi=>by
    show (ν 0::ν 1::(List.range rows.length).map (λi=>ν (2+i)))[2+i]? = some (ν (2+i))
    rw [show (ν 0::ν 1::(List.range rows.length).map (λi=>ν (2+i)))[2+i]? = ((List.range rows.length).map (λi=>ν (2+i)))[i]? by rw [show 2+i=i+1+1 by omega,List.getElem?_cons_succ,List.getElem?_cons_succ],List.getElem?_map,List.getElem?_range hi];rfl)]
   congr 2
   have key:∀(ν' ms:List Nm) (l:List (List α)),ms.length=l.length->news ν' ms (l.map (gB sz enc))=ms.zip (l.map (gB sz enc)):=by
    intro ν' ms
    induction ms with
    | nil=>intro l hl;cases l <;> simp [news]at *
    | cons m ms ih =>
     intro l hl
     cases l with
     | nil=>simp at hl
     | cons r l=>simp only [List.map_cons,news,Gq,List.zip_cons_cons];rw [ih l (by simpa using hl)]
   rw [key _ _ _ (by simp)]
   have:=H7 (sz:=sz) (enc:=enc) (ν:=[]) (ns:=λi=>ν (2+i)) (rows:=rows)
   rw [<- this,List.map_map]
   congr 1
   exact List.map_congr_left (λr _=>Gq.symm)
  rw [e1,e2,<- List.append_assoc]
  exact this
end
end rows
end Go.Eng

/-
  THE ENGINE: a function that reads slices as data reads them out of their boxes, too: the boxes are as they were.
-/
namespace Go.Eng
set_option linter.unusedSectionVars false
variable [DM]
set_option linter.unusedVariables false
theorem wh {S:Store} {n:Nm} {ns:List Nm}:freezeAll S (n::ns)=match S n with
  | some (.vec sz xs)=>freezeAll (supd S n (some (.froz sz xs))) ns
  | _=>freezeAll S ns:=by
 simp only [freezeAll,dQ]
 split <;> simp_all [dL]
theorem rA {n:Nm} {sz:Nat} {xs:List (List D)}:∀(ns:List Nm) {S:Store},S n=some (.froz sz xs)->freezeAll S ns n=some (.froz sz xs)
 | [],S,h=>h
 | m::ns,S,h=>by
  rw [wh]
  split
  ·rename_i s ys hm
   refine rA ns ?_
   have:n≠m:=λe=>by rw [e,hm]at h;cases h
   simp only [supd,if_neg this];exact h
  ·exact rA ns h
theorem sI {n:Nm} {sz:Nat} {xs:List (List D)}:∀(ns:List Nm) {S:Store},n∈ns->S n=some (.vec sz xs)->freezeAll S ns n=some (.froz sz xs)
 | m::ns,S,hm,h=>by
  rw [wh]
  by_cases e:n=m
  ·subst e
   rw [h]
   exact rA ns (by simp [supd])
  ·have hm':n∈ns:=by
    rcases List.mem_cons.1 hm with h1|h1
    ·exact absurd h1 e
    ·exact h1
   split
   ·exact sI ns hm' (by simp only [supd,if_neg e];exact h)
   ·exact sI ns hm' h
theorem CY {Bs:List Box} {n:Nm} {bx:Box} (h:cz Bs n=some bx):∃i,n=av i/\Bs[i]? = some bx:=by
 unfold cz at h
 cases hx:mh n with
 | none=>rw [hx]at h;cases h
 | some i=>rw [hx]at h;exact⟨i,zF hx,h⟩
theorem FnM.unfzV {P:Program} {f:FuncId} {Bs:List Box} (hv:∀b∈Bs,∃sz xs,b = .vec sz xs) {args args':List V} (hl:args'.length=args.length)
  (ha:∀i (h1:i<args'.length) (h2:i<args.length),args'[i]=args[i]\/∃j sz xs,Bs[j]? = some (.vec sz xs)/\args[i] = .vs (av j) sz 0 xs.length/\args'[i] = .d (.sl xs))
  {r:V} (hd:FnM P f args' [] r []) (hr:∀{ν ν':List Nm} {G G':Gh} {w:World} {v:Value},RepV G w v (ren ν r)->RepV G' w v (ren ν' r)):FnM P f args Bs r (Bs.map some):=by
 intro G w vargs hinv hargs
 obtain ⟨hal,hrep⟩:=hargs
 obtain ⟨G1,hinv1,hext1⟩:=j6 ((List.range Bs.length).map av) hinv
 have hmem:∀{j:Nat} {bx:Box},Bs[j]? = some bx->av j∈(List.range Bs.length).map av:=λ{j bx} h=>List.mem_map.2 ⟨j,List.mem_range.2 (List.getElem?_eq_some_iff.1 h).1,rfl⟩
 have hMb:∀b',wC G Bs b'->b'<w.heap.size/\∀o',¬G.imm b' o':=λb' ⟨i,bx,o,sz,q1,q2,q3⟩=>by
  obtain ⟨b2,o2,z2,r1,r2,_⟩:=hinv.box (av i) bx (by rw [nW];exact q1)
  rw [q3]at r1
  simp only [so_,Prod.mk.injEq]at r1
  obtain ⟨rfl,_,_⟩:=r1
  obtain ⟨sz',xs,rfl⟩:=hv bx (List.mem_of_getElem? q1)
  have r2:Stands G w (.vec sz' xs) b' o2 z2:=r2
  exact⟨hinv.bound _ _ _ _ q3,(r2.free rfl).2⟩
 have himm:∀b' o',G1.imm b' o'->G.imm b' o'\/wC G Bs b':=λb' o' k=>by
  rcases hinv1.newI b' o' k with q|q|q
  ·exact .inl q
  ·exact absurd (hinv1.immB b' o' k) (Nat.not_lt.2 q)
  ·exact .inr q
 have hrep1:rT G1 w vargs args':=⟨by rw [hl];exact hal,λi h1 h2=>by
  have h2':i<args.length:=by omega
  have h3:=(hrep i h1 h2').ext hext1
  rcases ha i h2 h2' with e|⟨j,sz,xs,q1,q2,q3⟩
  ·rw [e];exact h3
  ·rw [q2]at h3
   rw [q3]
   have hS1:=sI (n:=av j) (sz:=sz) (xs:=xs) ((List.range Bs.length).map av) (S:=cz Bs) (hmem q1) (by rw [nW];exact q1)
   have h4:=Cs hinv1 hS1 h3 rfl (by simp)
   rw [List.drop_zero,List.take_length]at h4
   exact .d h4⟩
 have hE1:Inv ⟨G1,w,wC G1 []⟩ G1 w (cz []) 1 (λ_=>False):=by
  have hnone:∀n,cz [] n=none:=λn=>by
   unfold cz
   cases mh n <;> rfl
  refine⟨Ext.refl _ _,λb o k => .inl k,λ_ _ _=>rfl,Nat.le_refl _,rfl,rfl,rfl,λn bx k => ?_,λn m bx by' b o sz o' sz' k => ?_,hinv1.tick,hinv1.bound,hinv1.immB,?_,λ_=>Nat.le_refl _⟩
  ·rw [hnone]at k;cases k
  ·rw [hnone]at k;cases k
  ·exact hinv.kn.ext hext1.imm hext1.cell
 refine (hd G1 w vargs hE1 hrep1).mono (λe w' hq => ?_)
 obtain ⟨v,G',S',tk',U',ν,he,hi',hv',hν,_,_,_⟩:=hq
 have hheap:∀b',b'<w.heap.size->w'.heap[b']? = w.heap[b']? := λb' k=>hi'.frame b' k (fun⟨i,bx,_,_,q,_⟩=>by simp at q)
 have hextT:Ext G1 w G' w':=hi'.ext
 obtain ⟨G2,hG2⟩:∃G2:Gh,G2=⟨λb' o'=>G'.imm b' o'/\¬wC G Bs b',G'.mu⟩:=⟨_,rfl⟩
 have hG2i:∀b' o',G2.imm b' o'↔G'.imm b' o'/\¬wC G Bs b':=λb' o'=>by rw [hG2]
 have hG2m:G2.mu=G'.mu:=by rw [hG2]
 have hext2:Ext G w G2 w':=⟨λb' o' k=>(hG2i b' o').2 ⟨hextT.imm _ _ (hext1.imm _ _ k),λe=>(hMb b' e).2 o' k⟩,λb' o' k=>hextT.cell _ _ (hext1.imm _ _ k),λn x k=>by rw [hG2m];exact hextT.mu _ _ (hext1.mu _ _ k),λb'=>hextT.size b',λb' e k=>hextT.elem b' e k⟩
 refine⟨v,G2,cz Bs,tk',U',(List.range Bs.length).map av,he,⟨hext2,λb' o' k => ?_,λb' k _=>hheap b' k,hi'.size,hi'.os,hi'.tape,hi'.output,λn bx k => ?_,λn m bx by' b1 o1 sz1 o2 sz2 k1 k2 k3 k4 k5 => ?_,λn x k => ?_,λn b1 o1 sz1 k => ?_,λb' o' k => ?_,hinv.kn,hi'.dr⟩,?_,by simp,?_,λi hi => ?_,λi bx hb => ?_⟩
 ·obtain ⟨k1,k2⟩:=(hG2i b' o').1 k
  rcases hi'.newI b' o' k1 with q|q|q
  ·rcases himm b' o' q with q|q
   ·exact .inl q
   ·exact absurd q k2
  ·exact .inr (.inl q)
  ·obtain ⟨i,bx,_,_,q,_⟩:=q
   simp at q
 ·obtain ⟨i,rfl,q⟩:=CY k
  obtain ⟨b,o,z,r1,r2,r3⟩:=hinv.box (av i) bx k
  obtain ⟨sz',xs,rfl⟩:=hv bx (List.mem_of_getElem? q)
  have hM:wC G Bs b:=⟨i,_,o,z,q,rfl,r1⟩
  exact⟨b,o,z,hext2.mu _ _ r1,StandsBox.ext r2 hext2 (λ_=>hheap b (hMb b hM).1) (λ_ o' k=>absurd hM ((hG2i b o').1 k).2),λ_ => .inr hM⟩
 ·obtain ⟨i,rfl,q⟩:=CY k1
  obtain ⟨j,rfl,q'⟩:=CY k2
  obtain ⟨b,o,z,r1,_,_⟩:=hinv.box (av i) bx k1
  obtain ⟨b',o',z',r1',_,_⟩:=hinv.box (av j) by' k2
  have e1:=hext2.mu _ _ r1
  have e2:=hext2.mu _ _ r1'
  rw [k4]at e1
  rw [k5]at e2
  simp only [so_,Prod.mk.injEq]at e1 e2
  obtain ⟨rfl,rfl,rfl⟩:=e1
  obtain ⟨rfl,rfl,rfl⟩:=e2
  exact hinv.one _ _ _ _ _ _ _ _ _ k1 k2 k3 r1 r1'
 ·rw [hG2m]at k;exact hi'.tick n x k
 ·rw [hG2m]at k;exact hi'.bound n b1 o1 sz1 k
 ·exact hi'.immB b' o' ((hG2i b' o').1 k).1
 ·exact hr hv'
 ·refine List.pairwise_map.2 (List.nodup_range.imp (λ{a b} h e=>h ?_))
  simp only [av,Prod.mk.injEq,and_true]at e
  omega
 ·rw [List.getElem?_map,List.getElem?_range hi];rfl
 ·rw [List.getElem?_map]at hb
  cases hq:Bs[i]? with
  | none=>rw [hq]at hb;cases hb
  | some b0 =>
   rw [hq]at hb
   simp only [Option.map_some,so_]at hb
   subst hb
   refine⟨av i,by rw [List.getElem?_map,List.getElem?_range (List.getElem?_eq_some_iff.1 hq).1];rfl,?_⟩
   obtain ⟨sz',xs,rfl⟩:=hv b0 (List.mem_of_getElem? hq)
   rw [nW];exact hq
theorem Oc {r:D} (hr:GG r=true) {G G':Gh} {w:World} {v:Value} (h:RepV G w v (.d r)):RepV G' w v (.d r):=by
 cases h with
 | d h=>exact .d (h.scal hr)
theorem Im (ρ:List Nm):∀ds:List D,renL ρ (ds.map V.d)=ds.map V.d
 | []=>rfl
 | d::ds=>congrArg (V.d d :: ·) (Im ρ ds)
theorem LC {rs:List D} (hr:rs.all GG=true) {G G':Gh} {w:World} {v:Value} (h:RepV G w v (.tup (rs.map .d))):RepV G' w v (.tup (rs.map .d)):=by
 cases h with
 | tup arr vs hl h =>
  refine .tup arr _ hl (λi h1 h2 => ?_)
  have h3:=h i h1 h2
  have h4:i<rs.length:=by simpa using h2
  rw [List.getElem_map]at h3 ⊢
  exact Oc (List.all_eq_true.1 hr _ (List.getElem_mem h4)) h3
theorem FnM.unfzT {P:Program} {f:FuncId} {α:Type} {enc:α->List D} {sz po:Nat} {xs:List α} {args:List V} {rs:List D} {r:V} (hd:FnM P f (args.set po (vL enc xs)) [] r []) (hrs:r = .tup (rs.map .d)) (hp:args[po]? = some (dV (av 0) sz xs)) (hr:rs.all GG=true) :
  FnM P f args (gI sz enc xs) r (gT xs (gB sz enc xs)):=by
 subst hrs
 have e0:gT xs (gB sz enc xs)=(gI sz enc xs).map some:=by cases xs <;> rfl
 rw [e0]
 refine FnM.unfzV (args':=args.set po (vL enc xs)) ?_ (by simp) ?_ hd (λ{ν} {ν'} {G} {G'} {w} {v} h=>by
  have e:∀ρ:List Nm,ren ρ (.tup (rs.map .d)) = .tup (rs.map .d):=λρ=>congrArg V.tup (Im ρ rs)
  rw [e]at h ⊢
  exact LC hr h)
 ·intro b hb
  cases xs <;> simp [gI]at hb
  subst hb;exact⟨_,_,rfl⟩
 ·intro i h1 h2
  obtain ⟨l1,g1⟩:=List.getElem?_eq_some_iff.1 hp
  by_cases hi:i=po
  ·subst hi
   rw [List.getElem_set_self]
   cases xs with
   | nil=>exact .inl (by rw [g1];rfl)
   | cons x xs =>
    refine .inr ⟨0,sz,(x::xs).map enc,rfl,?_,rfl⟩
    rw [g1];simp [dV]
  ·rw [List.getElem_set_ne (λe=>hi e.symm)]
   exact .inl rfl
end Go.Eng

