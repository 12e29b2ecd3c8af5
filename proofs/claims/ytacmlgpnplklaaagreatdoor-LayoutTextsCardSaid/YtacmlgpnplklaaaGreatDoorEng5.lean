/-
  The engine: what the machine does to data, shown once for all programs (part 5).
-/
import Derived.Test.YtacmlgpnplklaaaGreatDoorEng4
import Derived.Lib.LaidTab
import Derived.Lib.ItoaNum
import Derived.Deep.Draws
import Derived.Below
import Derived.Lib.IndexMore
import Derived.Lib.TrimByte
import Derived.Lib.Join
import Derived.Lib.Repeat
import Derived.Lib.TrailingZeros
import Derived.Lib.SlTrimSet
import Derived.Sort.KeysCollected
import Derived.Laws.AppendOwn
import Derived.Shelf.Strings.FuncGrows
import Derived.Shelf.Unicode.DecodeSlow
import Derived.Lib.ValidU
import Derived.Lib.SplitLaws
import Derived.Lib.Atoi
import Derived.Lib.AtoiErrMem
import Derived.Shelf.Strings.Builder1
/-
  THE ENGINE: a slice that is cut in its own box and grows again; boxes of slices that may be empty; maps whose keys are structs.
-/
namespace Go.Eng
set_option linter.unusedSectionVars false
variable [DM]
set_option linter.unusedVariables false
set_option linter.unusedSimpArgs false
section
variable {C:Cfg} {Q:QH} {sl:Nat->V} {H:Hp} {c:Code}
end
section
variable {C:Cfg} {sl:Nat->V} {H:Hp} {q:Qm} {all rest:List Oper} {K:(Nat->V)->Hp->Prop}
variable {dst:Option Tmp} {d:Nat} {t ty:TypeId} {pos:String} {after:Array Edge} {g:Option (Nat×Bool)}
end
def cutG {β:Type} (env:β->List (Nat×V)) (Hs:β->Hp) (R:β->Prop):(Nat->V)->Hp->Prop:=λsl H =>
 ∀(C:Cfg) (b:Code) (Q:QH),(∀x,R x->∀sl' H',Eng.pick (env x) sl'=env x->Eng.pre (Hs x) H'->wH C b Q sl' H')->wH C b Q sl H
theorem IP {C:Cfg} {c b:Code} {Q Q':QH} {sl:Nat->V} {H:Hp} {β:Type} (env:β->List (Nat×V)) (Hs:β->Hp) (R:β->Prop) (h1:wH C c (zF (cutG env Hs R) (zF (wH C b Q) Q')) sl H)
  (h2:∀x,R x->∀sl' H',Eng.pick (env x) sl'=env x->Eng.pre (Hs x) H'->wH C b Q sl' H'):wH C c (zF (wH C b Q) Q') sl H:=by
 refine FD (λe sl H h => ?_) h1
 cases e with
 | normal=>exact h C b Q h2
 | _=>exact h
end Go.Eng

/-
  THE ENGINE: rules for arrays of bytes in a box, and for bytes to a string and back.
-/
namespace Go.Eng
set_option linter.unusedSectionVars false
variable [DM]
open Go
set_option linter.unusedVariables false
set_option linter.unusedSimpArgs false
section
variable {C:Cfg} {sl:Nat->V} {H:Hp} {q:Qm} {all rest:List Oper} {K:(Nat->V)->Hp->Prop}
variable {dst:Option Tmp} {d:Nat} {t ty:TypeId} {pos:String} {after:Array Edge} {g:Option (Nat×Bool)}
section
variable {xs:List Int} {m:Nat} {nm:Nm} {x l hi:Operand} {k k':IntKind} {a b:Int} {u u':Unit}
end
end
end Go.Eng

/-
  THE ENGINE: strconv.Itoa, by its contract off the shelf; the table that it reads is known.
-/
namespace Go.Eng
set_option linter.unusedSectionVars false
variable [DM]
open Go.Sort
set_option linter.unusedVariables false
set_option linter.unusedSimpArgs false
theorem Jm {P:Program} {G:Gh} {w:World} {name:String} {k:IntKind} {zs:List Int} (hl:∀w0,wY w0->Lib.TabIs P w0 name k zs) (hz:zs ≠ []) (h:Kn G w):Lib.TabIs P w name k zs:=by
 obtain ⟨w0,h1,h2⟩:=h
 have ht:=hl w0 h1
 unfold Lib.TabIs World.var? at ht ⊢
 cases hg:P.globalNamed name with
 | none=>rw [hg]at ht;simp at ht
 | some g =>
  rw [hg]at ht
  simp only [ob_]at ht ⊢
  have hlt:g<w0.heap.size:=by
   rcases Nat.lt_or_ge g w0.heap.size with h|h
   ·exact h
   ·rw [Array.getElem?_eq_none h]at ht;cases ht
  have hc:∀o,w.cell? ⟨g,o,Option.none⟩=w0.cell? ⟨g,o,Option.none⟩:=λo=>(h2 g o hlt).2
  cases hb:w0.heap[g]? with
  | none=>rw [hb]at ht;cases ht
  | some ob =>
   rw [hb]at ht
   cases ob with
   | cells cs t fr =>
    simp only [so_]at ht
    have e0:∀o,w0.cell? ⟨g,o,Option.none⟩=cs[o]? := λo=>by simp [World.cell?,hb]
    cases hw:w.heap[g]? with
    | none =>
     exfalso
     have:=hc 0
     rw [e0]at this
     simp only [World.cell?,hw]at this
     rw [ht]at this
     cases zs with
     | nil=>exact hz rfl
     | cons z zs=>simp at this
    | some ob' =>
     cases ob' with
     | cells cs' t' fr' =>
      have e1:∀o,w.cell? ⟨g,o,Option.none⟩=cs'[o]? := λo=>by simp [World.cell?,hw]
      have:cs'=cs:=Array.ext_getElem? (λo=>by rw [<- e1,<- e0,hc])
      rw [this,ht]
     | _ =>
      exfalso
      have:=hc 0
      rw [e0]at this
      simp only [World.cell?,hw]at this
      rw [ht]at this
      cases zs with
      | nil=>exact hz rfl
      | cons z zs=>simp at this
   | _=>cases ht
def FK (n:Int):Option ByteArray:=if -9223372036854775808<=n/\n<=9223372036854775807 then some ⟨(Lib.itoa n).toArray⟩else none
theorem itoa_ok {P:Program} {f:FuncId}
  (hC : ∀ (n : Int), -9223372036854775808 ≤ n → n ≤ 9223372036854775807 → ∀ w : World, Lib.TabIs P w "internal/strconv.uint64pow10" .u64 Lib.pow10Tab →
   Calls P f #[.int .i64 n] w λe w'=>e = .returned (.string ⟨(Lib.itoa n).toArray⟩)/\∃k os,w'=grow (w.drewN k) os)
  (hl : ∀ w0, wY w0 → Lib.TabIs P w0 "internal/strconv.uint64pow10" .u64 Lib.pow10Tab) {n : Int} {r : ByteArray} (hF : FK n = some r) : FnM P f [.d (.int .i64 n)] [] (.d (.str r)) [] := by
 unfold FK at hF
 split at hF
 ·rename_i hn
  simp only [so_]at hF
  subst hF
  intro G w vargs hinv hargs
  obtain ⟨v,rfl,hv⟩:=hargs.alone
  have hv':RepD G.imm w v (.int .i64 n):=hv.d_inv
  cases hv' with
  | int =>
   refine (hC n hn.1 hn.2 w (Jm hl (by decide) hinv.kn)).mono ?_
   rintro e w' ⟨rfl,k,os,rfl⟩
   obtain ⟨i2,e2⟩:=hinv.more (w':=grow (w.drewN k) os) (G':=G) (U':=λ_=>False) (λb' hb'=>by
    show (w.heap++os)[b']? = _
    rw [Array.getElem?_append_left hb']) (by simp [grow,World.drewN]) rfl rfl rfl (λ_ _ h=>h) (λ_ _ h => .inl h) rfl (λ_ h=>h) (λ_=>Nat.le_add_right w.drawn k)
   exact⟨_,G,_,1,_,[],rfl,i2,.d (.str _),rfl,List.nodup_nil,λi hi=>absurd hi (Nat.not_lt_zero i),λi bx hb=>by simp at hb⟩
 ·cases hF
end Go.Eng

/-
  THE ENGINE: functions over literals, by their contracts off the shelf.
-/
namespace Go.Eng
set_option linter.unusedSectionVars false
variable [DM]
open Go.RowKit (Below)
set_option linter.unusedVariables false
set_option linter.unusedSimpArgs false
def isLit:D->Bool
 | .int _ _ | .bool _ | .str _=>true
 | _=>false
def lv:D->Value
 | .int k n => .int k n
 | .bool b => .bool b
 | .str s => .string s
 | _=>undef
theorem lit_inv {I:Nat->Nat->Prop} {w:World} {v:Value} {d:D} (h:RepD I w v d) (hl:isLit d=true):v=lv d:=by
 cases h with
 | int k n=>rfl
 | bool b=>rfl
 | str s=>rfl
 | agg=>cases hl
 | sl0=>cases hl
 | sl=>cases hl
 | ptr=>cases hl
 | nilp=>cases hl
theorem y8 {G:Gh} {w:World}:∀{vs:List Value} {ds:List D},mR G w vs (ds.map V.d)->ds.all isLit=true->vs=ds.map lv
 | [],[],_,_=>rfl
 | [],d::ds,h,_=>by have:=h.1;simp at this
 | v::vs,[],h,_=>by have:=h.1;simp at this
 | v::vs,d::ds,h,hl=>by
  simp only [List.all_cons,Bool.and_eq_true]at hl
  obtain ⟨hlen,h⟩:=h
  have h0:RepV G w v (.d d):=h 0 (by simp) (by simp)
  have e:=lit_inv h0.d_inv hl.1
  have:mR G w vs (ds.map V.d):=⟨by simpa using hlen,λi h1 h2=>by
   have:=h (i+1) (by simpa using h1) (by simpa using h2)
   simpa using this⟩
  rw [e,y8 this hl.2];rfl
theorem Iw {P:Program} {f:FuncId} (ds:List D) (v:Value) (r:V) (ha:ds.all isLit=true) (hr:∀G w,RepV G w v (ren [] r))
  (hC:∀(G:Gh) (w:World),Kn G w->Calls P f (ds.map lv).toArray w λe w'=>e = .returned v/\Below w.heap.size w w'/\(dmK=true->w.drawn<=w'.drawn)):FnM P f (ds.map V.d) [] r []:=by
 intro G w vargs hinv hargs
 rw [y8 hargs ha]
 refine (hC G w hinv.kn).mono ?_
 rintro e w' ⟨rfl,hb,hd⟩
 obtain ⟨i2,e2⟩:=hinv.more (w':=w') (G':=G) (U':=λ_=>False) (λb' hb'=>hb.block b' hb') hb.size hb.os hb.tape hb.output (λ_ _ h=>h) (λ_ _ h => .inl h) rfl (λ_ h=>h) hd
 exact⟨_,G,_,1,_,[],rfl,i2,hr _ _,rfl,List.nodup_nil,λi hi=>absurd hi (Nat.not_lt_zero i),λi bx hb=>by simp at hb⟩
end Go.Eng

/-
  THE ENGINE: strings.Join, strings.Repeat, bits.TrailingZeros, by their contracts off the shelf.
-/
namespace Go.Eng
set_option linter.unusedSectionVars false
variable [DM]
open Go
open Go.RowKit (Below)
set_option linter.unusedVariables false
set_option linter.unusedSimpArgs false
def FM (xs:List ByteArray) (sep:ByteArray):Option ByteArray :=
 if xs.length<=140737488355328/\(Lib.join (xs.map (·.data.toList)) sep.data.toList).length<=140737488355328 then some ⟨(Lib.join (xs.map (·.data.toList)) sep.data.toList).toArray⟩else none
theorem join_ok (hdm:dmK=false) {P:Program} {f:FuncId}
  (h0:∀(a:Option Addr) (c:Nat) (sep:ByteArray) (w:World),Calls P f #[.slice a 0 c,.string sep] w λe w'=>e = .returned (.string ⟨#[]⟩)/\w'=w)
  (hC:∀(bk o c:Nat) (xs:List ByteArray) (sep:ByteArray) (w:World),(∀(j:Nat) x,xs[j]? = some x->w.cell? ⟨bk,o+j,none⟩=some (.string x))->bk<w.heap.size->xs.length<=140737488355328->xs.length<=c ->
   (Lib.join (xs.map (·.data.toList)) sep.data.toList).length<=140737488355328 ->
   Calls P f #[.slice (some ⟨bk,o,none⟩) xs.length c,.string sep] w λe w'=>e = .returned (.string ⟨(Lib.join (xs.map (·.data.toList)) sep.data.toList).toArray⟩)/\Below w.heap.size w w')
  {xs:List ByteArray} {sep r:ByteArray} (hF:FM xs sep=some r):FnM P f [vL eS xs,vS sep] [] (vS r) []:=by
 unfold FM at hF
 split at hF
 ·rename_i hx
  simp only [so_]at hF
  subst hF
  intro G w vargs hinv hargs
  have hfin:∀w',Below w.heap.size w w'->∃v G' S' tk' U' ν,Ending.returned (.string ⟨(Lib.join (xs.map (·.data.toList)) sep.data.toList).toArray⟩) = .returned v/\Inv ⟨G,w,rY G []⟩ G' w' S' tk' U'/\RepV G' w' v (ren ν (vS ⟨(Lib.join (xs.map (·.data.toList)) sep.data.toList).toArray⟩)) /\
    ν.length=([]:List (Option Box)).length/\ν.Nodup/\(∀i,i<([]:List Box).length->ν[i]? = some (au i))/\∀(i:Nat) (bx:Box),([]:List (Option Box))[i]? = some (some bx)->∃n,ν[i]? = some n/\S' n=some (bx.ren ν):=by
   intro w' hb
   obtain ⟨i2,e2⟩:=hinv.more (w':=w') (G':=G) (U':=λ_=>False) (λb' hb'=>hb.block b' hb') hb.size hb.os hb.tape hb.output (λ_ _ h=>h) (λ_ _ h => .inl h) rfl (λ_ h=>h) (λh=>by rw [hdm]at h;cases h)
   exact⟨_,G,_,1,_,[],rfl,i2,.d (.str _),rfl,List.nodup_nil,λi hi=>absurd hi (Nat.not_lt_zero i),λi bx hb=>by simp at hb⟩
  obtain ⟨hl,ha⟩:=hargs
  obtain ⟨v0,v1,rfl⟩:∃v0 v1,vargs=[v0,v1]:=by
   match vargs,hl with
   | [v0,v1],_=>exact⟨v0,v1,rfl⟩
  have r0:RepV G w v0 (vL eS xs):=ha 0 (by simp) (by simp)
  have r1:RepV G w v1 (vS sep):=ha 1 (by simp) (by simp)
  rw [r1.d_inv.str_inv]
  have r0':=r0.d_inv
  generalize hys:xs.map eS=ys at r0'
  cases r0' with
  | sl0 a cap =>
   have hn:xs=[]:=by simpa using hys
   subst hn
   refine (h0 a cap sep w).mono ?_
   rintro e w' ⟨rfl,rfl⟩
   exact hfin _ (Below.refl _ _)
  | sl b off cap sz _ us hcap hsz hI hc ho hr =>
   have hlen:ys.length=xs.length:=by rw [<- hys];simp
   have hcell:∀(j:Nat) x,xs[j]? = some x->w.cell? ⟨b,off+j,none⟩=some (.string x):=by
    intro j x hj
    obtain ⟨hj1,hj2⟩:=List.getElem?_eq_some_iff.1 hj
    have hj':j<ys.length:=by omega
    have hy:ys[j]=[D.str x]:=by
     subst hys
     rw [List.getElem_map,hj2];rfl
    have hz:sz=1:=by rw [<- hsz j hj',hy];rfl
    subst hz
    have h2:=hc j 0 hj' (by omega)
    have h3:=hr j 0 hj' (by rw [hy];exact Nat.zero_lt_one)
    have h4:us j 0 = .string x:=by
     have:ys[j][0]'(by rw [hy];exact Nat.zero_lt_one)=D.str x:=by simp [hy]
     rw [this]at h3
     exact h3.str_inv
    rw [h4]at h2
    simpa using h2
   rw [hlen]
   cases xs with
   | nil =>
    refine (h0 (some ⟨b,off,none⟩) cap sep w).mono ?_
    rintro e w' ⟨rfl,rfl⟩
    exact hfin _ (Below.refl _ _)
   | cons x xs =>
    have hb:b<w.heap.size:=by
     rcases Nat.lt_or_ge b w.heap.size with h|h
     ·exact h
     ·have h1:=hcell 0 x rfl
      have e:w.heap[b]? = none:=Array.getElem?_eq_none h
      simp only [World.cell?,e]at h1
      cases h1
    refine (hC b off cap (x::xs) sep w hcell hb hx.1 (by omega) hx.2).mono ?_
    rintro e w' ⟨rfl,hbw⟩
    exact hfin _ hbw
 ·cases hF
end Go.Eng

/-
  THE ENGINE: rows of strings that a function of the library makes; slices.Sorted(maps.Keys(m)), by the contracts off the shelf.
-/
namespace Go.Eng
set_option linter.unusedSectionVars false
variable [DM]
open Go
open Go.RowKit (Below)
open Go.WideElems (Fit rd rg)
set_option linter.unusedVariables false
set_option linter.unusedSimpArgs false
theorem row_rep {G:Gh} {w w':World} {t:TypeId} {v:Value} {xs:List ByteArray} (h:w'.ownsRow w.heap.size t 1 v xs.length (xs.map Value.string)) :
    ∃I':Nat->Nat->Prop,(∀b o,G.imm b o->I' b o)/\(∀b o,I' b o->G.imm b o\/(w.heap.size<=b/\b<w'.heap.size))/\RepD I' w' v (.sl (xs.map eS)):=by
  rcases h.2 with⟨rfl,h0⟩|⟨g,cap,cur,rfl,h1,h2,h3,h4,h5,h6⟩
  · have:xs=[]:=List.eq_nil_of_length_eq_zero h0
    subst this
    exact⟨G.imm,λ_ _ h=>h,λ_ _ h => .inl h,.sl0 _ _⟩
  · have hlt:g<w'.heap.size:=(Array.getElem?_eq_some_iff.1 h2).1
    refine⟨λb o=>G.imm b o\/(b=g/\o<xs.length),λ_ _ h => .inl h,λb o h=>h.imp id (λh=>by rw [h.1];exact⟨h1,hlt⟩),?_⟩
    have hl:(xs.map eS).length=xs.length:=by simp
    have hc:∀i (hi:i<xs.length),w'.cell? ⟨g,0+i*1+0,none⟩=some (.string xs[i]):=λi hi=>by
      have e1:cur.toList[i]? = some (.string xs[i]):=by
        have:=congrArg (λl=>l[i]?) h6
        simp only [List.getElem?_map,List.getElem?_eq_getElem hi,Option.map_some,Nat.mul_one]at this
        rwa [List.getElem?_take,if_pos hi]at this
      have e2:cur[i]? = some (.string xs[i]):=by simpa using e1
      simp [World.cell?,h2,e2]
    have:=RepD.sl (I:=λb o=>G.imm b o\/(b=g/\o<xs.length)) (w:=w') g 0 cap 1 (xs.map eS) (λi _ => .string (xs.getD i ⟨#[]⟩)) (by rw [hl];exact h3) (λi hi=>by rw [List.getElem_map];rfl)
      (λi j hi hj => .inr ⟨rfl,by rw [hl]at hi;omega⟩)
      (λi j hi hj=>by
        rw [hl]at hi
        obtain rfl:j=0:=by omega
        rw [hc i hi];simp [List.getD,List.getElem?_eq_getElem hi])
      (λi j hi hj=>rfl)
      (λi j hi hj=>by
        have hi':i<xs.length:=by rw [hl]at hi;exact hi
        have e:(xs.map eS)[i]=[D.str xs[i]]:=by rw [List.getElem_map];rfl
        have hj0:j=0:=by
          have:((xs.map eS)[i]).length=1:=by rw [e];rfl
          omega
        subst hj0
        have e2:(xs.map eS)[i][0]=D.str xs[i]:=by simp [eS]
        rw [e2]
        simp only [List.getD,List.getElem?_eq_getElem hi',Option.getD_some]
        exact .str _)
    rw [hl]at this
    exact this
theorem FnM.ofRow (hdm:dmK=false) {P:Program} {f:FuncId} {args:List V} {Sin:List Box} (xs:List ByteArray) (hok:∀b∈Sin,b.ok Sin.length=true)
    (h:∀(G:Gh) (w:World) (vargs:List Value),Inv ⟨G,w,rY G Sin⟩ G w (bK Sin) 1 (λ_=>False)->mR G w vargs args ->
      Calls P f vargs.toArray w λe w'=>∃v t,e = .returned v/\w'.ownsRow w.heap.size t 1 v xs.length (xs.map Value.string)/\Below w.heap.size w w'):FnM P f args Sin (vL eS xs) (Sin.map some):=by
  intro G w vargs hinv hargs
  refine (h G w vargs hinv hargs).mono ?_
  rintro e w' ⟨v,t,rfl,hrow,hb⟩
  obtain ⟨I',h1,h2,h3⟩:=row_rep (G:=G) hrow
  obtain ⟨i2,e2⟩:=hinv.more (w':=w') (G':=⟨I',G.mu⟩) (U':=λ_=>False) (λb' hb'=>hb.block b' hb') hb.size hb.os hb.tape hb.output h1 h2 rfl (λ_ h=>h) (λh=>by rw [hdm]at h;cases h)
  refine⟨_,_,_,1,_,(List.range Sin.length).map au,rfl,i2,.d h3,by simp,?_,λi hi=>by simp [hi],λi bx hb => ?_⟩
  · refine List.pairwise_map.2 (List.nodup_range.imp (λ{a b} hab he=>hab ?_))
    have:=congrArg ow he
    rw [eQ,eQ,so_]at this
    exact this
  · rw [List.getElem?_map,Option.map_eq_some_iff]at hb
    obtain ⟨b',hb1,hb2⟩:=hb
    obtain rfl:b'=bx:=by simpa using hb2
    have hi:i<Sin.length:=(List.getElem?_eq_some_iff.1 hb1).1
    refine⟨au i,by simp [hi],?_⟩
    rw [Hf (hok _ (List.mem_of_getElem? hb1)),jA]
    exact hb1
end Go.Eng

/-
  THE ENGINE: results of which the first is a new slice and the others are data.
-/
namespace Go.Eng
set_option linter.unusedSectionVars false
variable [DM]
set_option linter.unusedVariables false
section
variable {C:Cfg} {sl:Nat->V} {H:Hp} {q:Qm} {all rest:List Oper} {K:(Nat->V)->Hp->Prop}
variable {dst:Option Tmp} {d:Nat} {t ty:TypeId} {pos:String} {after:Array Edge} {g:Option (Nat×Bool)}
end
end Go.Eng

/-
  THE ENGINE: strings.ContainsFunc by its contract off the shelf (only where draws are not counted).
-/
namespace Go.Eng
set_option linter.unusedSectionVars false
variable [DM]
open Go.Proofs
open Go.RowKit (Below)
set_option linter.unusedVariables false
set_option linter.unusedSimpArgs false
end Go.Eng

/-
  THE ENGINE: strings.Split at a separator that is not empty, by its contract off the shelf.
-/
namespace Go.Eng
set_option linter.unusedSectionVars false
variable [DM]
open Go
open Go.RowKit (Below)
set_option linter.unusedVariables false
set_option linter.unusedSimpArgs false
theorem kn_some {G:Gh} {w:World} {g:Nat} (h:Kn G w) (hl:∀w0,wY w0->∃m,w0.cell? ⟨g,0,Option.none⟩=some (.int .i64 m)):∃m,w.cell? ⟨g,0,Option.none⟩=some (.int .i64 m):=by
 obtain ⟨w0,h1,h2⟩:=h
 obtain ⟨m,hm⟩:=hl w0 h1
 have hb:g<w0.heap.size:=by
  rcases Nat.lt_or_ge g w0.heap.size with h|h
  ·exact h
  ·have e:w0.heap[g]? = none:=Array.getElem?_eq_none h
   simp only [World.cell?,e]at hm
   cases hm
 exact⟨m,by rw [(h2 g 0 hb).2];exact hm⟩
theorem Dz (w:World) (o:Obj):Below w.heap.size w (w.alloc o) :=
 ⟨rfl,rfl,rfl,by show w.heap.size<=(w.heap.push o).size;simp,λb hb=>by show (w.heap.push o)[b]? = _;rw [Array.getElem?_push,if_neg (by omega)]⟩
def yN (s sep:ByteArray):Option (List ByteArray):=if s.size<4294967281/\1<=sep.size then some (Lib.splitB sep 0 (Lib.countB s sep) s)else none
theorem Ig (hdm:dmK=false) {P:Program} {f:FuncId} {g:Nat} {t:TypeId}
  (hC:∀(s sep:ByteArray) (m:Int) (w:World),s.size<4294967281->w.cell? ⟨g,0,Option.none⟩=some (.int .i64 m)->1<=sep.size ->
   Calls P f #[.string s,.string sep] w λe w'=>e = .returned (.slice (some ⟨w.heap.size,0,none⟩) (Lib.countB s sep+1) (Lib.countB s sep+1))/\w'=w.alloc (.cells ((Lib.splitB sep 0 (Lib.countB s sep) s).map Value.string).toArray t))
  (hl:∀w0,wY w0->∃m,w0.cell? ⟨g,0,Option.none⟩=some (.int .i64 m)) {s sep:ByteArray} {r:List ByteArray} (hF:yN s sep=some r):FnM P f [.d (.str s),.d (.str sep)] [] (vL eS r) []:=by
 unfold yN at hF
 split at hF
 ·rename_i hx
  simp only [so_]at hF
  subst hF
  refine FnM.ofRow hdm _ (λb hb=>by cases hb) (λG w vargs hinv hargs => ?_)
  rw [y8 (ds:=[.str s,.str sep]) hargs rfl]
  obtain ⟨m,hm⟩:=kn_some hinv.kn hl
  refine (hC s sep m w hx.1 hm hx.2).mono ?_
  rintro e w' ⟨rfl,rfl⟩
  have h1:=Lib.splitB_all sep hx.2 0 _ s rfl
  have h2:=Lib.countB_le sep hx.2 _ s (Nat.le_refl _)
  refine⟨_,t,rfl,?_,Dz w _⟩
  refine⟨by simp,.inr ⟨w.heap.size,_,((Lib.splitB sep 0 (Lib.countB s sep) s).map Value.string).toArray,by rw [h1],Nat.le_refl _,eP w _,by omega,by unfold maxLen;omega,by simp [h1],?_⟩⟩
  rw [Nat.mul_one]
  exact List.take_of_length_le (by simp)
 ·cases hF
end Go.Eng

/-
  THE ENGINE: strconv.Atoi at a text of at most 18 bytes that is a number, by its contract off the shelf.
-/
namespace Go.Eng
set_option linter.unusedSectionVars false
variable [DM]
open Go
open Go.RowKit (Below)
set_option linter.unusedVariables false
set_option linter.unusedSimpArgs false
def Dx (s:ByteArray):Option Int:=if s.size<=18 then Lib.atoi s.data.toList else none
theorem atoi_ok (hdm:dmK=false) {P:Program} {f:FuncId} {T:TypeId}
  (hC:∀(s:ByteArray) (n:Int),s.size<=18->Lib.atoi s.data.toList=some n->∀w:World,
   Calls P f #[.string s] w λe w'=>e = .returned (.tuple #[.int .i64 n,.nilIface])/\∃t,w'=Lib.bytesWorld w T t)
  {s:ByteArray} {r:Int} (hF:Dx s=some r):FnM P f [.d (.str s)] [] (.tup [.d (.int .i64 r),.nili]) []:=by
 unfold Dx at hF
 split at hF
 ·rename_i hx
  refine Iw [.str s] (.tuple [.int .i64 r,.nilIface].toArray) _ rfl (λG w => ?_) (λG w hk => ?_)
  ·exact .tup _ _ rfl (λi h1 h2=>by
    match i,h1 with
    | 0,_=>exact .d (.int _ _)
    | 1,_=>exact .nili)
  ·refine (hC s r hx hF w).mono ?_
   rintro e w' ⟨h1,t,rfl⟩
   exact⟨h1,Lib.bytesWorld_below w T t,λh=>by rw [hdm]at h;cases h⟩
 ·cases hF
end Go.Eng

/-
  THE ENGINE: strings.Builder: a box of a known type, and the box of its bytes.
-/
namespace Go.Eng
set_option linter.unusedSectionVars false
variable [DM]
open Go
set_option linter.unusedVariables false
set_option linter.unusedSimpArgs false
def tO (w:World) (v:Value):Prop:=v = .slice none 0 0\/∃g n cap,v = .slice (some ⟨g,0,none⟩) n cap/\0<cap/\elemAt w g=some byteK
theorem Ef {P:Program} {t t' e ty:TypeId} (hu:P.underlying t=some (.slice e)) (hu':P.underlying t'=some .string) {size:Nat} (hsz:szT P e=some size) {base:Option Addr} {n cap:Nat} {v':Value} {s:ByteArray} {w w1:World}
    (hfit:n+s.size<=cap) (hrun:(Builtin.append_ #[t,t'] ty #[.slice base n cap,.string s]).run P w = .ok v' w1):v' = .slice base (n+s.size) cap:=by
  simp only [Builtin.append_,List.getElem?_toArray,List.getElem?_cons_zero,List.getElem?_cons_succ,Sem.run_bind,aM hu,aM hu',Result.andThen_ok,run_sizeOf hsz,Sem.run_pure,
      Bool.false_eq_true,if_false,Builtin.lenOf,Bool.not_false,if_true,hfit,Builtin.firstCells]at hrun
  cases base with
  | none =>
    simp only [Sem.run_pure,Result.ok.injEq]at hrun
    exact hrun.1.symm
  | some a =>
    simp only [Sem.run_bind]at hrun
    generalize hst:Sem.run P (storeCells _ _) w=r at hrun
    cases r with
    | ok u w2 =>
      simp only [Result.andThen_ok,Sem.run_pure,Result.ok.injEq]at hrun
      exact hrun.1.symm
    | _=>simp [Result.andThen]at hrun
theorem kX {w:World} {b o:Nat} {cs:Array Value} {t:TypeId} (h:w.heap[b]? = some (.cells cs t (0,0))) (x:Value):(w.setCell ⟨b,o,none⟩ x).heap[b]? = some (.cells (cs.setIfInBounds o x) t (0,0)):=by
  simp [World.setCell,Array.getElem?_modify,h]
theorem lS {w:World} {b o:Nat} (x:Value) {b':Nat} (h:b'≠b):(w.setCell ⟨b,o,none⟩ x).heap[b']? = w.heap[b']? := by
  simp [World.setCell,Array.getElem?_modify,Ne.symm h]
theorem qY {w:World} {b o:Nat} {cs:Array Value} {t:TypeId} (h:w.heap[b]? = some (.cells cs t (0,0))) (x:Value) (g:Nat):elemAt (w.setCell ⟨b,o,none⟩ x) g=elemAt w g:=by
  by_cases hg:g=b
  · subst hg;rw [eB (kX h x),eB h]
  · exact wB (lS x hg)
theorem tO.mono {w w':World} {v:Value} (h:tO w v) (he:∀g e,elemAt w g=some e->elemAt w' g=some e):tO w' v:=h.imp id fun⟨g,n,c,h1,h2,h3⟩=>⟨g,n,c,h1,h2,he _ _ h3⟩
theorem uD {w:World} {b o:Nat} (x:Value):(w.setCell ⟨b,o,none⟩ x).heap.size=w.heap.size:=by simp [World.setCell]
section
variable {P:Program} {f:FuncId} {tB tS tStr e:TypeId}
def pz (P:Program) (f:FuncId) (tB tS tStr:TypeId):Prop:=∀(b:Nat) (s:ByteArray) (w w1:World) (p v v' p1 v1:Value),w.heap[b]? = some (.cells #[p,v] tB (0,0))->(p = .pointer none\/p = .pointer (some ⟨b,0,none⟩)) ->
  (Builtin.append_ #[tS,tStr] tS #[v,.string s]).run P (w.setCell ⟨b,0,none⟩ (.pointer (some ⟨b,0,none⟩))) = .ok v' w1->w1.heap[b]? = some (.cells #[p1,v1] tB (0,0))->(∃ao n cap,v' = .slice ao n cap) ->
  Calls P f #[.pointer (some ⟨b,0,none⟩),.string s] w λe w'=>e = .returned (.tuple #[.int .i64 s.size,.nilIface])/\w'=w1.setCell ⟨b,1,none⟩ v'
theorem tK {E:Env} {G:Gh} {w:World} {S:Store} {tk:Nat} {U:Nat->Prop} (h:Inv E G w S tk U) {n:Nm} {x:V} (hS:S n=some (.cells (1048576+tB) [.any,x])) {b o sz:Nat} (hmu:G.mu n=some (b,o,sz)) :
    o=0/\sz=1048576+tB/\(∀o',¬G.imm b o')/\∃p v,w.heap[b]? = some (.cells #[p,v] tB (0,0))/\(p = .pointer none\/p = .pointer (some ⟨b,0,none⟩))/\tO w v/\RepV G w v x/\v.oneCell'=true:=by
  have hst:Stands G w (.cells (1048576+tB) [.any,x]) b o sz:=(h.stands hS hmu).1
  obtain ⟨ho,hty⟩:=hst.cel
  obtain ⟨p,v,h1,h2,h3⟩:=hty (Nat.le_add_right _ _)
  rw [Nat.add_sub_cancel_left]at h1
  refine⟨ho,hst.sz,(hst.free rfl).2,p,v,h1,h2,h3,?_⟩
  obtain ⟨u,c1,c2,c3⟩:=hst.cell 1 (by show 1<2;omega)
  rw [cell_of_row h1,ho]at c1
  have:v=u:=by simpa using c1
  rw [this]
  exact⟨c3,c2⟩
theorem Fq {E:Env} {G:Gh} {w w':World} {S:Store} {tk:Nat} {U:Nat->Prop} (h:Inv E G w S tk U) {n:Nm} {x x':V} (hS:S n=some (.cells (1048576+tB) [.any,x])) {b:Nat} (hmu:G.mu n=some (b,0,1048576+tB))
    (hh:∀b',b'≠b->w'.heap[b']? = w.heap[b']?) (hsz:w'.heap.size=w.heap.size) {p v:Value} (hb:w'.heap[b]? = some (.cells #[p,v] tB (0,0))) (hp:p = .pointer none\/p = .pointer (some ⟨b,0,none⟩)) (hv:tO w' v) (hr:RepV G w v x') (ho:v.oneCell'=true)
    (hos:w'.os=w.os) (ht:w'.tape=w.tape) (hout:w'.output=w.output) (hdr:dmK=true->w.drawn<=w'.drawn):Inv E G w' (supd S n (some (.cells (1048576+tB) [.any,x']))) tk U/\Ext G w G w':=by
  obtain ⟨_,_,himm,p0,v0,h1,_⟩:=tK h hS hmu
  refine h.write hS rfl hmu hh hsz (by rw [aO h1,aO hb];exact Nat.le_refl _) (λe he=>by rw [eB h1]at he;rw [eB hb];exact he) himm hos ht hout _ (λe => ?_) hdr
  have hs:Stands G w' (.cells (1048576+tB) [.any,x']) b 0 (1048576+tB) :=
    { sz:=rfl,even:=trivial
      room:=by rw [aO hb];show 0+2<=2;omega
      cell:=λj hj=>by
        have hj':j<2:=hj
        match j,hj' with
        | 0,_=>exact⟨p,by rw [cell_of_row hb];rfl,by rcases hp with rfl | rfl <;> rfl,.any _⟩
        | 1,_=>exact⟨v,by rw [cell_of_row hb];rfl,ho,hr.ext e⟩
      free:=λ_=>⟨⟨_,_,hb⟩,himm⟩
      froz:=λhx=>by simp [Box.mut]at hx
      cel:=⟨rfl,λ_=>⟨p,v,by rw [Nat.add_sub_cancel_left];exact hb,hp,hv⟩⟩ }
  exact hs
theorem GG {S:Store} {n:Nm} {b:Option Box} (h:S n=b):supd S n b=S:=by
  funext m
  simp only [supd]
  split
  · rename_i e;rw [e,h]
  · rfl
theorem yf {n:Nm}:∀(l:List (Nm×Option Box)) (S:Store),(∀p∈l,p.1≠n)->bS S l n=S n
  | [],S,_=>rfl
  | (m,b)::l,S,h=>by
    show bS (supd S m b) l n=S n
    rw [yf l _ (λp hp=>h p (List.mem_cons_of_mem _ hp)),supd,if_neg (λe=>h (m,b) (by simp) e.symm)]
theorem xP (hW:pz P f tB tS tStr) {E:Env} {G:Gh} {w:World} {S:Store} (h:Inv E G w S 1 (λ_=>False)) {n:Nm} {x:V} (hS:S n=some (.cells (1048576+tB) [.any,x])) {b:Nat} (hmu:G.mu n=some (b,0,1048576+tB))
    {s:ByteArray} {A:Eff} (hA:eY P tS tStr S x (vS s) 0 1=some A) (hA0:∀p∈A.upd,p.1≠n) (hone:gq A.val=true)
    (hsh:∀(w0 w1:World) (v v':Value),Inv E G w0 S 1 (λ_=>False)->RepV G w0 v x->tO w0 v->(∀g k,elemAt w0 g=some k->elemAt w1 g=some k)->(Builtin.append_ #[tS,tStr] tS #[v,.string s]).run P w0 = .ok v' w1->tO w1 v') :
    Calls P f #[.pointer (some ⟨b,0,none⟩),.string s] w λe w'=>e = .returned (.tuple #[.int .i64 s.size,.nilIface]) /\
      ∃G',Ext G w G' w'/\Inv E G' w' (supd (bS S A.upd) n (some (.cells (1048576+tB) [.any,A.val]))) 1 (λm=>False\/some 0=some (m % 100000)):=by
  obtain ⟨_,_,himm,p,v,h1,h2,h3,h4,h5⟩:=tK h hS hmu
  have hb0:=kX (o:=0) h1 (.pointer (some ⟨b,0,none⟩))
  have hb0':(w.setCell ⟨b,0,none⟩ (.pointer (some ⟨b,0,none⟩))).heap[b]? = some (.cells #[.pointer (some ⟨b,0,none⟩),v] tB (0,0)):=by rw [hb0];rfl
  obtain ⟨i0,e0⟩:=Fq (w':=w.setCell ⟨b,0,none⟩ (.pointer (some ⟨b,0,none⟩))) h hS hmu (λb' hb'=>lS _ hb') (uD _) hb0' (.inr rfl) (h3.mono λg k hk=>by rw [qY h1];exact hk) h4 h5 rfl rfl rfl (λ_=>Nat.le_refl _)
  rw [GG hS]at i0
  obtain ⟨nx,u,w1,G1,hrun,hnx,e1,i1,r1⟩:=yR (P:=P) (ty:=tS) i0 (by decide:0<100000) (λh=>h) (h4.ext e0) (.d (.str s)) hA
  have hrun':(Builtin.append_ #[tS,tStr] tS #[v,.string s]).run P (w.setCell ⟨b,0,none⟩ (.pointer (some ⟨b,0,none⟩))) = .ok u w1:=by
    simp only [Sem.run_bind]at hrun
    generalize Sem.run P (Builtin.append_ #[tS,tStr] tS #[v,.string s]) _=r at hrun ⊢
    cases r with
    | ok u' w' =>
      simp only [Result.andThen_ok,Sem.run_pure,Result.ok.injEq]at hrun
      obtain ⟨rfl,rfl⟩:=hrun
      rcases hnx with hnx|⟨hnx,_⟩
      · simp only [Next.value.injEq]at hnx;rw [hnx]
      · cases hnx
    | _=>simp [Result.andThen]at hrun
  have hbuf:tO w1 u:=hsh _ _ _ _ i0 (h4.ext e0) (h3.mono e0.elem) e1.elem hrun'
  have hS1:bS S A.upd n=some (.cells (1048576+tB) [.any,x]):=by rw [yf _ _ hA0];exact hS
  have hmu1:=(e0.trans e1).mu _ _ hmu
  obtain ⟨_,_,_,p1,v1,q1,q2,q3,q4,q5⟩:=tK i1 hS1 hmu1
  have hb2:(w1.setCell ⟨b,1,none⟩ u).heap[b]? = some (.cells #[p1,u] tB (0,0)):=by rw [kX q1];rfl
  obtain ⟨i2,e2⟩:=Fq (w':=w1.setCell ⟨b,1,none⟩ u) (x':=A.val) i1 hS1 hmu1 (λb' hb'=>lS _ hb') (uD _) hb2 q2 (hbuf.mono λg k hk=>by rw [qY q1];exact hk) r1 (r1.oneCell hone) rfl rfl rfl (λ_=>Nat.le_refl _)
  refine (hW b s w w1 p v u p1 v1 h1 h2 hrun' q1 ?_).mono ?_
  · rcases hbuf with rfl | ⟨g,m,cap,rfl,_⟩ <;> exact⟨_,_,_,rfl⟩
  · rintro en w' ⟨rfl,rfl⟩
    exact⟨rfl,G1,(e0.trans e1).trans e2,i2⟩
abbrev bB (s:ByteArray):List (List D):=(aP s).map (eK .u8)
theorem Ii (s:ByteArray):(bB s).length=s.size:=by simp [bB,aP]
theorem Bc (S:Store) (s:ByteArray):gM S 1 (vS s)=some (bB s,[]):=by
  simp only [gM,if_true,bB,aP,List.map_map]
  rfl
structure BldT (P:Program) (tS tStr e:TypeId):Prop where
  el:elemT P tS=some e
  str:P.underlying tStr=some .string
  sz:szT P e=some 1
  z:zeroCells P e=some [.d (.int .u8 0)]
  by_:bytesT P e=1
  bt:e=byteK
theorem BldT.arg (h:BldT P tS tStr e):Cs P tStr=some ():=by simp only [Cs,h.str]
theorem app_nil (h:BldT P tS tStr e) (S:Store) (s:ByteArray) (hs:s.size<=1000000000):eY P tS tStr S .nil (vS s) 0 1=match bB s with
    | []=>some ⟨[],[],.nil⟩
    | y::ys=>some ⟨[],[((0,1),some (.vec 1 (y::ys)))],.vs (0,1) 1 0 (y::ys).length⟩:=by
  have hl:=Ii s
  simp only [eY,h.el,h.arg,h.sz,h.z,List.length_singleton,Nat.zero_lt_one,and_self,if_true,Bc,h.by_,Nat.mul_one]
  rw [if_pos ⟨by omega,by omega⟩]
  cases bB s <;> rfl
theorem app_vs (h:BldT P tS tStr e) (S:Store) (s:ByteArray) {n:Nm} {xs:List (List D)} (hS:S n=some (.vec 1 xs)) (hs:xs.length+s.size<=1000000000):eY P tS tStr S (.vs n 1 0 xs.length) (vS s) 0 1=match bB s with
    | []=>some ⟨[(n,.vec 1 xs)],[],.vs n 1 0 xs.length⟩
    | y::ys=>some ⟨[(n,.vec 1 xs)],[(n,none),((0,1),some (.vec 1 (xs++(y::ys))))],.vs (0,1) 1 0 (xs.length+(y::ys).length)⟩:=by
  have hl:=Ii s
  simp only [eY,h.el,h.arg,h.sz,h.z,List.length_singleton,Nat.zero_lt_one,and_self,if_true,Bc,h.by_,Nat.mul_one,hS]
  rw [if_pos ⟨trivial,by omega,by omega,by omega⟩]
  cases bB s <;> simp
def lenVs:V->Nat
  | .vs _ _ _ l=>l
  | _=>0
theorem zX (h:BldT P tS tStr e) {E:Env} {G:Gh} {w0 w1:World} {S:Store} (hi:Inv E G w0 S 1 (λ_=>False)) {x:V} (hx:x = .nil\/∃n xs,S n=some (.vec 1 xs)/\x = .vs n 1 0 xs.length) {s:ByteArray} {v v':Value} (hr:RepV G w0 v x) (hv:tO w0 v) (helem:∀g k,elemAt w0 g=some k->elemAt w1 g=some k)
    (hb:lenVs x+s.size<=1000000000) (hrun:(Builtin.append_ #[tS,tStr] tS #[v,.string s]).run P w0 = .ok v' w1):tO w1 v':=by
  have hu:=fT h.el
  obtain ⟨zv,hzv,hzc⟩:=fQ h.z
  have hlx:∀W:World,(Builtin.lenOf (.string s)).run P W = .ok s.size W:=λW=>rfl
  have hfx:∀W:World,(Builtin.firstCells 1 s.size (.string s)).run P W = .ok ((s.extract 0 s.size).data.map λb => .int .u8 b.toNat) W:=λW=>rfl
  have done:∀{b o:Option Addr} {n cap newCap:Nat} {w2:World} {g:Nat},0<newCap->elemAt w2 g=some byteK->Result.ok (Value.slice (some ⟨g,0,none⟩) n newCap) w2=Result.ok v' w1->tO w1 v':=λhc hk he=>by
    simp only [Result.ok.injEq]at he
    rw [<- he.1,<- he.2];exact .inr ⟨_,_,_,rfl,hc,hk⟩
  obtain ⟨base,n,cap,rfl,hbase,hold⟩:∃base n cap,v = .slice base n cap/\n=lenVs x/\∃old,∀w',w'.heap=w0.heap->(Builtin.firstCells 1 n (.slice base n cap)).run P w' = .ok old w':=by
    rcases hx with rfl|⟨n,xs,hS,rfl⟩
    · cases hr with
      | nil a=>exact⟨a,0,0,rfl,rfl,#[],λw' _=>by cases a <;> simp [Builtin.firstCells,loadCells,loadCellsFrom]⟩
    · have hle:(xs.drop 0).take xs.length=xs:=by simp
      obtain ⟨⟨a,cap,rfl⟩,_,old,o1,_⟩:=vP (P:=P) (size:=1) (ys:=xs) (req:=[(n,.vec 1 xs)]) hi hr (by simp only [j6,hS];rw [if_pos ⟨trivial,by omega⟩,hle])
      exact⟨a,xs.length,cap,rfl,rfl,old,o1⟩
  obtain ⟨old,hold⟩:=hold
  by_cases hfit:n+s.size<=cap
  · rw [Ef hu h.str h.sz hfit hrun]
    rcases hv with hv|⟨g,m,c,hv,hc⟩
    · simp only [Value.slice.injEq]at hv
      obtain ⟨rfl,rfl,rfl⟩:=hv
      have:s.size=0:=by omega
      rw [this];exact .inl rfl
    · simp only [Value.slice.injEq]at hv
      obtain ⟨rfl,rfl,rfl⟩:=hv
      exact .inr ⟨_,_,_,rfl,hc.1,helem _ _ hc.2⟩
  · obtain ⟨newCap,k1,k2⟩:=lm (P:=P) (ty:=tS) (w:=w0) (base:=base) hu h.str (.inr rfl) h.sz hzv hlx (show cap<n+s.size by omega) (by rw [h.by_];omega) (by omega) (hold _ rfl) (hfx _)
    rw [k2]at hrun
    exact done (b:=none) (o:=none) (n:=n+s.size) (cap:=0) (by omega) (by rw [<- h.bt];exact eB (eP w0.drew _)) hrun
theorem BO {i j:Nat} (h:i≠j):au i≠au j:=λe=>by
  have:=congrArg ow e
  rw [eQ,eQ,so_]at this
  exact h this
theorem AL (i:Nat):au i≠((0,1):Nm):=λe=>by
  have:=congrArg Prod.snd e
  simp [au]at this
section fnm
variable (hW:pz P f tB tS tStr) (hT:BldT P tS tStr e)
include hW hT
theorem fnm_bw0 {s:ByteArray} (hs:s.size<=1000000000):FnM P f [.ref (au 0) 0 0,vS s] [.cells (1048576+tB) [.any,.nil]] (.tup [vI s.size,.any])
    (match bB s with | []=>[some (.cells (1048576+tB) [.any,.nil])] | y::ys=>[some (.cells (1048576+tB) [.any,.vs (au 1) 1 0 (y::ys).length]),some (.vec 1 (y::ys))]):=by
  intro G w vargs hinv hargs
  obtain ⟨v0,v1,rfl,r0,r1⟩:=hargs.two
  obtain rfl:=r1.d_inv.str_inv
  cases r0 with
  | ref _ _ hm =>
    rename_i b o sz
    have hS:bK [Box.cells (1048576+tB) [.any,.nil]] (au 0)=some (.cells (1048576+tB) [.any,.nil]):=by rw [jA];rfl
    obtain ⟨rfl,rfl,_⟩:=tK hinv hS hm
    have e0:(⟨b,0+0*(1048576+tB)+0,none⟩:Addr)=⟨b,0,none⟩:=by simp
    rw [e0]
    have hA:=app_nil hT (bK [Box.cells (1048576+tB) [.any,.nil]]) s hs
    have hsh:∀(w0 w1:World) (v v':Value),Inv ⟨G,w,rY G [Box.cells (1048576+tB) [.any,.nil]]⟩ G w0 (bK [Box.cells (1048576+tB) [.any,.nil]]) 1 (λ_=>False)->RepV G w0 v .nil->tO w0 v->(∀g k,elemAt w0 g=some k->elemAt w1 g=some k)->(Builtin.append_ #[tS,tStr] tS #[v,.string s]).run P w0 = .ok v' w1->tO w1 v' :=
      λw0 w1 v v' hi hr hv he hrun=>zX hT hi (.inl rfl) hr hv he (by show 0+s.size<=_;omega) hrun
    have hres:∀{G':Gh} {w':World} {ρ:List Nm},RepV G' w' (.tuple #[.int .i64 s.size,.nilIface]) (ren ρ (.tup [vI s.size,.any])):=λ{G' w' ρ} =>
      .tup [_,_] _ rfl (λi h1 h2=>by
        match i,h1 with
        | 0,_=>exact .d (.int _ _)
        | 1,_=>exact .any _)
    cases hbs:bB s with
    | nil =>
      rw [hbs]at hA
      refine (xP hW hinv hS hm hA (λp hp=>by cases hp) rfl hsh).mono ?_
      rintro en w' ⟨rfl,G',ee,ii⟩
      refine⟨_,G',_,1,_,[au 0],rfl,ii,hres,rfl,List.pairwise_singleton _ _,λi hi => ?_,λi bx hb => ?_⟩
      · have hi0:i=0:=by simpa using hi
        subst hi0;rfl
      · match i,hb with
        | 0,hb =>
          simp only [List.getElem?_cons_zero,so_]at hb
          subst hb
          exact⟨au 0,rfl,by simp [supd,Box.ren,renL,ren]⟩
        | i+1,hb=>simp at hb
    | cons y ys =>
      rw [hbs]at hA
      refine (xP hW hinv hS hm hA (λp hp=>by simp only [List.mem_singleton]at hp;subst hp;exact (AL 0).symm) rfl hsh).mono ?_
      rintro en w' ⟨rfl,G',ee,ii⟩
      refine⟨_,G',_,1,_,[au 0,(0,1)],rfl,ii,hres,rfl,by simp [AL],λi hi => ?_,λi bx hb => ?_⟩
      · have hi0:i=0:=by simpa using hi
        subst hi0;rfl
      · match i,hb with
        | 0,hb =>
          simp only [List.getElem?_cons_zero,so_]at hb
          subst hb
          exact⟨au 0,rfl,by simp [supd,Box.ren,renL,ren,vC]⟩
        | 1,hb =>
          simp only [List.getElem?_cons_succ,List.getElem?_cons_zero,so_]at hb
          subst hb
          refine⟨(0,1),rfl,?_⟩
          simp [bS,supd,(AL 0).symm,Box.ren]
        | i+2,hb=>simp at hb
theorem fnm_bw1 {s:ByteArray} {xs:List (List D)} (hs:xs.length+s.size<=1000000000):FnM P f [.ref (au 0) 0 0,vS s] [.cells (1048576+tB) [.any,.vs (au 1) 1 0 xs.length],.vec 1 xs] (.tup [vI s.size,.any])
    (match bB s with | []=>[some (.cells (1048576+tB) [.any,.vs (au 1) 1 0 xs.length]),some (.vec 1 xs)] | y::ys=>[some (.cells (1048576+tB) [.any,.vs (au 2) 1 0 (xs.length+(y::ys).length)]),none,some (.vec 1 (xs++(y::ys)))]):=by
  intro G w vargs hinv hargs
  obtain ⟨v0,v1,rfl,r0,r1⟩:=hargs.two
  obtain rfl:=r1.d_inv.str_inv
  cases r0 with
  | ref _ _ hm =>
    rename_i b o sz
    generalize hSin : [Box.cells (1048576+tB) [.any,.vs (au 1) 1 0 xs.length],Box.vec 1 xs]=Sin at hinv
    have hS:bK Sin (au 0)=some (.cells (1048576+tB) [.any,.vs (au 1) 1 0 xs.length]):=by subst hSin;rw [jA];rfl
    have hS1:bK Sin (au 1)=some (.vec 1 xs):=by subst hSin;rw [jA];rfl
    obtain ⟨rfl,rfl,_⟩:=tK hinv hS hm
    have e0:(⟨b,0+0*(1048576+tB)+0,none⟩:Addr)=⟨b,0,none⟩:=by simp
    rw [e0]
    have hA:=app_vs hT (bK Sin) s hS1 hs
    have hsh:∀(w0 w1:World) (v v':Value),Inv ⟨G,w,rY G Sin⟩ G w0 (bK Sin) 1 (λ_=>False)->RepV G w0 v (.vs (au 1) 1 0 xs.length)->tO w0 v->(∀g k,elemAt w0 g=some k->elemAt w1 g=some k)->(Builtin.append_ #[tS,tStr] tS #[v,.string s]).run P w0 = .ok v' w1->tO w1 v' :=
      λw0 w1 v v' hi hr hv he hrun=>zX hT hi (.inr ⟨_,_,hS1,rfl⟩) hr hv he hs hrun
    have hres:∀{G':Gh} {w':World} {ρ:List Nm},RepV G' w' (.tuple #[.int .i64 s.size,.nilIface]) (ren ρ (.tup [vI s.size,.any])):=λ{G' w' ρ} =>
      .tup [_,_] _ rfl (λi h1 h2=>by
        match i,h1 with
        | 0,_=>exact .d (.int _ _)
        | 1,_=>exact .any _)
    have h01:(au 0:Nm)≠au 1:=BO (by decide)
    cases hbs:bB s with
    | nil =>
      rw [hbs]at hA
      refine (xP hW hinv hS hm hA (λp hp=>by cases hp) rfl hsh).mono ?_
      rintro en w' ⟨rfl,G',ee,ii⟩
      refine⟨_,G',_,1,_,[au 0,au 1],rfl,ii,hres,rfl,by simp [h01],λi hi => ?_,λi bx hb => ?_⟩
      · match i,hi with
        | 0,_=>rfl
        | 1,_=>rfl
        | i+2,hi=>exact absurd hi (by rw [<- hSin];simp)
      · match i,hb with
        | 0,hb =>
          simp only [List.getElem?_cons_zero,so_]at hb
          subst hb
          exact⟨au 0,rfl,by simp [supd,Box.ren,renL,ren,vC]⟩
        | 1,hb =>
          simp only [List.getElem?_cons_succ,List.getElem?_cons_zero,so_]at hb
          subst hb
          refine⟨au 1,rfl,?_⟩
          simp only [bS,supd,if_neg h01.symm,hS1,Box.ren]
        | i+2,hb=>simp at hb
    | cons y ys =>
      rw [hbs]at hA
      refine (xP hW hinv hS hm hA (λp hp=>by
        simp only [List.mem_cons,List.not_mem_nil,or_false]at hp
        rcases hp with rfl|rfl
        · exact h01.symm
        · exact (AL 0).symm) rfl hsh).mono ?_
      rintro en w' ⟨rfl,G',ee,ii⟩
      refine⟨_,G',_,1,_,[au 0,au 1,(0,1)],rfl,ii,hres,rfl,by simp [h01,AL],λi hi => ?_,λi bx hb => ?_⟩
      · match i,hi with
        | 0,_=>rfl
        | 1,_=>rfl
        | i+2,hi=>exact absurd hi (by rw [<- hSin];simp)
      · match i,hb with
        | 0,hb =>
          simp only [List.getElem?_cons_zero,so_]at hb
          subst hb
          refine⟨au 0,rfl,?_⟩
          have e2:mX [au 0,au 1,((0,1):Nm)] (au 2)=(0,1):=by simp only [mX,eQ];rfl
          simp only [supd,if_true,Box.ren,renL,ren,e2]
        | 1,hb=>simp at hb
        | 2,hb =>
          simp only [List.getElem?_cons_succ,List.getElem?_cons_zero,so_]at hb
          subst hb
          refine⟨(0,1),rfl,?_⟩
          simp only [bS,supd,if_neg (AL 0).symm,if_true,Box.ren]
        | i+3,hb=>simp at hb
end fnm
end
def rH (P:Program) (f:FuncId) (tB:TypeId):Prop :=
  (∀(b:Nat) (w:World) (p:Value),w.heap[b]? = some (.cells #[p,.slice none 0 0] tB (0,0))->Calls P f #[.pointer (some ⟨b,0,none⟩)] w λe w'=>e = .returned (.string ⟨#[]⟩)/\w'=w.drew) /\
  (∀(b g cap:Nat) (l:List UInt8) (cur:Array Value) (w:World) (p:Value),w.heap[b]? = some (.cells #[p,.slice (some ⟨g,0,none⟩) l.length cap] tB (0,0))->w.heap[g]? = some (.cells cur byteK (0,0))->l ≠ []->l.length<=1000000000->l.length<=cap->0<cap->cap<=cur.size ->
    (∀(j:Nat) x,l[j]? = some x->cur[j]? = some (.int .u8 x.toNat))->Calls P f #[.pointer (some ⟨b,0,none⟩)] w λe w'=>e = .returned (.string ⟨l.toArray⟩)/\w'=w.drew.freeze ⟨g,0,none⟩ l.length)
section two
variable {P:Program} {f:FuncId} {tB:TypeId}
theorem Hg (hL:rH P f tB):FnM P f [.ref (au 0) 0 0] [.cells (1048576+tB) [.any,.nil]] (vS ⟨#[]⟩) [none]:=by
  intro G w vargs hinv hargs
  obtain ⟨v0,rfl,r0⟩:=hargs.alone
  cases r0 with
  | ref _ _ hm =>
    rename_i b o sz
    have hS:bK [Box.cells (1048576+tB) [.any,.nil]] (au 0)=some (.cells (1048576+tB) [.any,.nil]):=by rw [jA];rfl
    obtain ⟨rfl,rfl,_,p,v,h1,_,h3,h4,_⟩:=tK hinv hS hm
    have e0:(⟨b,0+0*(1048576+tB)+0,none⟩:Addr)=⟨b,0,none⟩:=by simp
    rw [e0]
    obtain rfl:v = .slice none 0 0:=by
      cases h4 with
      | nil a =>
        rcases h3 with h3|⟨g,n,cap,h3,hc⟩
        · exact h3
        · simp only [Value.slice.injEq]at h3;omega
    obtain ⟨i1,e1⟩:=hinv.drew
    refine (hL.1 b w p h1).mono ?_
    rintro en w' ⟨rfl,rfl⟩
    refine⟨_,G,_,1,_,[au 0],rfl,i1,.d (.str _),rfl,List.pairwise_singleton _ _,λi hi => ?_,λi bx hb => ?_⟩
    · have hi0:i=0:=by simpa using hi
      subst hi0;rfl
    · match i,hb with
      | 0,hb=>simp at hb
      | i+1,hb=>simp at hb
theorem G6 (hL:rH P f tB) {s:ByteArray} (hsz:s.size<=1000000000) (hs:aP s ≠ []):FnM P f [.ref (au 0) 0 0] [.cells (1048576+tB) [.any,.vs (au 1) 1 0 (aP s).length],.vec 1 ((aP s).map (eK .u8))] (vS s) [none,none]:=by
  intro G w vargs hinv hargs
  obtain ⟨v0,rfl,r0⟩:=hargs.alone
  cases r0 with
  | ref _ _ hm =>
    rename_i b o sz
    generalize hSin : [Box.cells (1048576+tB) [.any,.vs (au 1) 1 0 (aP s).length],.vec 1 ((aP s).map (eK .u8))]=Sin at hinv
    have hS:bK Sin (au 0)=some (.cells (1048576+tB) [.any,.vs (au 1) 1 0 (aP s).length]):=by subst hSin;rw [jA];rfl
    have hS1:bK Sin (au 1)=some (.vec 1 ((aP s).map (eK .u8))):=by subst hSin;rw [jA];rfl
    obtain ⟨rfl,rfl,_,p,v,h1,_,h3,h4,_⟩:=tK hinv hS hm
    have e0:(⟨b,0+0*(1048576+tB)+0,none⟩:Addr)=⟨b,0,none⟩:=by simp
    rw [e0]
    have hlen:(aP s).length=s.data.toList.length:=by simp [aP]
    have hpos:0<(aP s).length:=List.length_pos_iff.2 hs
    generalize hl:(aP s).length=m at h4
    cases h4 with
    | vs0=>omega
    | vs _ _ cap hmu hc hbd =>
      rename_i b' o' _
      rcases h3 with h3|⟨g,n,cap',h3,hc'⟩
      · simp at h3
      · simp only [Value.slice.injEq,so_,Addr.mk.injEq]at h3
        obtain ⟨⟨rfl,ho,_⟩,rfl,rfl⟩:=h3
        have ho':o'=0:=by omega
        subst ho'
        obtain ⟨q1,q2⟩:=hinv.stands hS1 hmu
        have hst:Stands G w (.vec 1 ((aP s).map (eK .u8))) b' 0 1:=q1
        obtain ⟨⟨cur,t,hcur⟩,himm⟩:=hst.free rfl
        have hbs:=aO hcur
        have hall:(Box.vec 1 ((aP s).map (eK .u8))).all=(aP s).map λn=>V.d (.int .u8 n):=by
          simp only [Box.all,List.map_map]
          induction aP s with
          | nil=>rfl
          | cons a l ih=>simp only [List.map_cons,List.flatten_cons,ih];rfl
        have hcell:∀(j:Nat) x,s.data.toList[j]? = some x->cur[j]? = some (.int .u8 x.toNat):=λj x hj=>by
          have hj1:(Box.vec 1 ((aP s).map (eK .u8))).all[j]? = some (V.d (.int .u8 x.toNat)):=by
            rw [hall,List.getElem?_map,aP,List.getElem?_map,hj];rfl
          obtain ⟨hj2,hj3⟩:=List.getElem?_eq_some_iff.1 hj1
          obtain ⟨u,u1,_,u3⟩:=hst.cell j hj2
          rw [hj3]at u3
          rw [cell_of_row hcur,Nat.zero_add]at u1
          have:=u3.d_inv
          cases this
          exact u1
        have e2:(⟨b',0+0*1,none⟩:Addr)=⟨b',0,none⟩:=by simp
        rw [e2]at h1
        rw [<- hl,hlen]at h1
        rw [hbs]at hbd
        have hne:b'≠b:=λe=>by
          subst e
          exact BO (show 1≠0 by decide) (hinv.one (au 1) (au 0) _ _ b' 0 1 0 (1048576+tB) hS1 hS rfl hmu hm)
        obtain ⟨i1,e1⟩:=hinv.drew
        have hfr:(w.drew.freeze ⟨b',0,none⟩ s.data.toList.length).heap[b']? = some (.cells cur t (0,0+s.data.toList.length)):=by
          have hc0:w.drew.heap[b']? = some (.cells cur t (0,0)):=hcur
          have hn:s.data.toList.length≠0:=by omega
          simp only [World.freeze,if_neg hn,Array.getElem?_modify,hc0,if_true,Option.map_some]
          rfl
        have hso:∀k,k≠b'->(w.drew.freeze ⟨b',0,none⟩ s.data.toList.length).heap[k]? = w.drew.heap[k]? := λk hk=>by
          simp only [World.freeze]
          split
          · rfl
          · simp [Array.getElem?_modify,Ne.symm hk]
        have hbz:bsize w.drew b'=bsize (w.drew.freeze ⟨b',0,none⟩ s.data.toList.length) b':=by
          rw [show bsize w.drew b'=cur.size from hbs]
          simp only [bsize,hfr]
        obtain ⟨i2,e3⟩:=i1.write (w':=w.drew.freeze ⟨b',0,none⟩ s.data.toList.length) hS1 rfl hmu hso (by simp only [World.freeze];split <;> simp) (by rw [hbz];exact Nat.le_refl _) (λe he=>by rw [eB (show w.drew.heap[b']? = some (.cells cur t (0,0)) from hcur)]at he;rw [eB hfr];exact he) himm (by simp only [World.freeze];split <;> rfl) (by simp only [World.freeze];split <;> rfl) (by simp only [World.freeze];split <;> rfl) (.froz 1 []) (λe=>by
          have hs':Stands G (w.drew.freeze ⟨b',0,none⟩ s.data.toList.length) (.froz 1 []) b' 0 1 :=
            { sz:=rfl,even:=λx hx=>by cases hx
              room:=Nat.zero_le _
              cell:=λj hj=>absurd hj (Nat.not_lt_zero j)
              free:=λhx=>by cases hx
              froz:=λ_ j hj=>absurd hj (Nat.not_lt_zero j) }
          exact hs') (λ_=>by simp only [World.freeze];split <;> exact Nat.le_refl _)
        have htk:t=byteK:=by
          have:=hc'.2
          rw [eB hcur,so_]at this
          exact this
        refine (hL.2 b b' cap s.data.toList cur w p h1 (by rw [<- htk];exact hcur) (λe=>by rw [e]at hlen;rw [hlen]at hpos;exact Nat.lt_irrefl _ hpos) (by rw [<- Lib.size_eq];exact hsz) (by omega) hc'.1 (by omega) hcell).mono ?_
        rintro en w' ⟨rfl,rfl⟩
        refine⟨_,G,_,1,_,[au 0,au 1],rfl,i2,.d (.str _),rfl,by simp [BO (show 0≠1 by decide)],λi hi => ?_,λi bx hb => ?_⟩
        · match i,hi with
          | 0,_=>rfl
          | 1,_=>rfl
          | i+2,hi=>exact absurd hi (by rw [<- hSin];simp)
        · match i,hb with
          | 0,hb=>simp at hb
          | 1,hb=>simp at hb
          | i+2,hb=>simp at hb
end two
section
variable {C:Cfg} {sl:Nat->V} {H:Hp} {q:Qm} {all rest:List Oper} {K:(Nat->V)->Hp->Prop}
variable {dst:Option Tmp} {d:Nat} {t ty:TypeId} {pos:String} {after:Array Edge} {g:Option (Nat×Bool)}
theorem yP {α:Type} {l:List α} {i:Nat} {a:α} (h:l[i]? = some a):l.set i a=l:=by
  obtain ⟨h1,h2⟩:=List.getElem?_eq_some_iff.1 h
  rw [<- h2,List.set_getElem_self]
theorem bOK {P:Program} {f:FuncId} {ρ:List Nm} {args0 vs:List V} {Sin:List Box} {r:V} {Sout:List (Option Box)} {S:Store} {tk:Nat} (hc:FnM P f args0 Sin r Sout) (hvs:vs.map (co S)=renL ρ args0) (okA:okL ρ.length args0=true) (nd:ρ.Nodup)
    (hi:insOK S ρ ρ Sin) (hl:Sin.length<=Sout.length) (okR:okV Sout.length r=true) (okO:okOut Sout.length Sout=true) (hm:mutOut (Sout.drop Sin.length)=true) (cov:∀n∈vs.flatMap frz,n∈ρ):CallData.OK ⟨[],ρ,args0,Sin,r,Sout,false⟩ P f vs S tk :=
  { does:=hc,args:=ArgsOK.of_map hvs,okA:=okA,nodup:=nd,ins:=hi,len:=hl,okR:=okR,okO:=okO,mutN:=hm
    roOK:=(λe=>by cases e),have_:=(λn hn=>nomatch hn),cov:=(λn h' => .inr (cov n h')),dis:=(λn _ hn=>nomatch hn) }
theorem bEff {ρ:List Nm} {args0:List V} {Sin:List Box} {r:V} {Sout:List (Option Box)} {S:Store} {d tk:Nat} {ns:List Nm} (hn:ρ++iI d tk (Sout.length-Sin.length)=ns) :
    CallData.eff ⟨[],ρ,args0,Sin,r,Sout,false⟩ S d tk=⟨(ρ.zip Sin).map (λp=>(p.1,p.2.ren ρ)),bC ns ns Sout,ren ns r⟩:=by
  simp only [CallData.eff,dR,dQ,CallData.names,hn,cond_false,List.nil_append]
theorem renN_2 (a b n:Nm) (l:List Nm):mX (a::b::n::l) (au 2)=n:=by simp only [mX,eQ];rfl
theorem h_bstr {tB:TypeId} {bb:ByteArray} {nb nf:Nm} {f x:Operand} {ats:Array TypeId} {fn:FuncId} (p i j:Nat) (hp:q=none\/Nat.beq all.length (p+(rest.length+1))=true)
    (hf:∀S tk,AgR H S tk (⟨some d,.call ⟨.value f,#[x],ats⟩,ty,pos,after,g⟩::rest)->okQ q all p [nb,nf] true) (hL:rH C.P fn tB)
    (hff:ev sl f = .fn fn []) (hbd:aB C.P fn=true) (hx:ev sl x = .ref nb 0 0) (hHi:H[i]? = some (nb,some (.cells (1048576+tB) [.any,gV nf 1 (aP bb)]))) (hHj:H[j]? = some (nf,gB 1 (eK .u8) (aP bb))) (hij:i≠j) (hsz:bb.size<=1000000000)
    (hw:aG all sl ⟨some d,.call ⟨.value f,#[x],ats⟩,ty,pos,after,g⟩=some true)
    (h:aL (lu q p [nb,nf] true) C all K rest (upd sl d (vS bb)) ((H.set i (nb,none)).set j (nf,none))) :
    aL q C all K (⟨some d,.call ⟨.value f,#[x],ats⟩,ty,pos,after,g⟩::rest) sl H:=by
  have hargs:([x].map (ev sl)++[])=[.ref nb 0 0]:=by simp [hx]
  have hfz:∀n∈([x].map (ev sl)++[]).flatMap frz,n=nb:=λn hn=>by
    rw [hargs]at hn
    simp [frz,Ee]at hn
    try exact hn
  have hco:∀S:Store,([x].map (ev sl)++[]).map (co S)=[.ref nb 0 0]:=λS=>by rw [hargs];simp [co,co1]
  cases hX:aP bb with
  | nil =>
    rw [hX]at hHi hHj
    have hz:bb=⟨#[]⟩:=by
      apply ByteArray.ext
      have:bb.data.toList=[]:=by simpa [aP]using hX
      exact Array.toList_inj.1 this
    have hHj2:(H.set i (nb,none))[j]? = some (nf,none):=by rw [List.getElem?_set_ne hij];exact hHj
    refine xG (args:=[x]) p [i] (l:=[(nb,.cells (1048576+tB) [.any,.nil])]) hp (λS tk ag=>okQ_sub (λm hm=>by simp at hm;simp [hm]) (hf S tk ag)) (Hg hL) hff hbd (by simp only [iM,hHi];rfl) (by simp [Box.ren,renL,ren]) (by simp [Box.ok,okL,okV]) (λn hn=>by rw [hfz n hn];simp) (λS tk _=>ArgsOK.of_map (by rw [hco];simp [renL,ren,vU])) (by simp [okL,okV,kT]) rfl rfl (List.pairwise_singleton _ _) rfl hw (vS ⟨#[]⟩) rfl (H.set i (nb,none)) rfl ?_
    rw [yP hHj2,hz]at h
    refine more_fp (T':=[nb,nf]) (λm hm=>by simp at hm;simp [hm]) (λm hm => ?_) h
    simp only [List.mem_cons,List.not_mem_nil,or_false]at hm
    rcases hm with rfl|rfl
    · exact .inl (by simp)
    · exact .inr (List.mem_map.2 ⟨_,List.mem_of_getElem? hHj2,rfl⟩)
  | cons x0 xs =>
    have hc:=G6 hL (s:=bb) hsz (by rw [hX];simp)
    refine xG (args:=[x]) p [i,j] (l:=[(nb,.cells (1048576+tB) [.any,gV nf 1 (aP bb)]),(nf,.vec 1 ((aP bb).map (eK .u8)))]) hp hf hc hff hbd (by simp only [iM,hHi,hHj,hX];rfl) (by rw [hX];simp [Box.ren,renL,ren,vC,gV]) (by simp [Box.ok,okL,okV,kT]) (λn hn=>by rw [hfz n hn];simp) (λS tk _=>ArgsOK.of_map (by rw [hco];simp [renL,ren,vU])) (by simp [okL,okV,kT]) rfl rfl (by simp [hij]) rfl hw (vS bb) rfl _ rfl h
end
end Go.Eng

/-
  THE ENGINE: what strings.Builder's methods do, step by step, walked over the library's text.
-/
set_option linter.unusedVariables false
set_option linter.unusedSimpArgs false
namespace Go.Eng
open Go.Shelf Go.RowKit Go.Proofs
variable {P:Program} {ρ:Ren}
theorem wpList_append_run {ops:Array Oper} {rest:List Oper} {o:Oper} {a:Go.Act} {Q:Exit->Go.Act->World->Prop} {w w':World} (hgd:o.guard=none) (sl x:Operand) (t u:TypeId)
  (ho:o.op = .call { callee := .builtin .append,args := #[sl,x],argTypes := #[t,u] }) {v v' y:Value} (hs:a.eval sl=v) (hx:a.eval x=y)
  (hr:(Builtin.append_ #[t,u] o.type #[v,y]).run P w = .ok v' w') (h:wpList P ops Q rest (a.put o.dst v') w'):wpList P ops Q (o::rest) a w:=by
 refine wpList_plain hgd λK hK => ?_
 unfold Oper.wp execOp
 simp only [ho,resolve,invoke,builtin,Sem.run_bind,Sem.run_pure,Result.andThen_ok,List.map_toArray,List.map_cons,List.map_nil,hs,hx,hr]
 exact hK _ _ h
set_option maxHeartbeats 2000000 in
set_option maxRecDepth 100000 in
theorem E8 (L:Lays.n166 P ρ) (X:Builder.Extra P ρ) (b:Nat) (s:ByteArray) (w w0 w1:World) (v v' p0 p1 v1:Value)
  (hcc:Calls P (ρ.f 240) #[.pointer (some ⟨b,0,none⟩)] w λe w'=>e = .returned (.tuple #[])/\w'=w0)
  (hb0:w0.heap[b]? = some (.cells #[p0,v] (ρ.t 72) (0,0)))
  (hrun:(Builtin.append_ #[ρ.t 37,ρ.t 9] (ρ.t 37) #[v,.string s]).run P w0 = .ok v' w1)
  (hb1:w1.heap[b]? = some (.cells #[p1,v1] (ρ.t 72) (0,0)))
  (hv:∃ao n cap,v' = .slice ao n cap) :
  Calls P (ρ.f 166) #[.pointer (some ⟨b,0,none⟩),.string s] w λe w'=>e = .returned (.tuple #[.int .i64 s.size,.nilIface])/\w'=w1.setCell ⟨b,1,none⟩ v':=by
 obtain ⟨ao,n',cap,rfl⟩:=hv
 have d0:w1.cell? ⟨b,0,none⟩=some p1:=by rw [Lib.cell_of_heap hb1];rfl
 have d1:w1.cell? ⟨b,1,none⟩=some v1:=by rw [Lib.cell_of_heap hb1];rfl
 have f1:w1.frozen? ⟨b,1,none⟩=false:=Lib.frozen_of_heap hb1 1
 have mixed:=L.mixed
 have t72:=L.t72;have a72:=L.a72;have z72:=L.z72;have v72:=L.v72;have u72:=run_underlying L.t72
 have t70:=L.t70;have a70:=L.a70;have z70:=L.z70;have v70:=L.v70;have u70:=run_underlying L.t70
 have t37:=L.t37;have a37:=L.a37;have z37:=L.z37;have v37:=L.v37;have u37:=run_underlying L.t37
 have t3:=L.t3;have a3:=L.a3;have z3:=L.z3;have v3:=L.v3;have u3:=run_underlying L.t3
 have t9:=L.t9;have a9:=L.a9;have z9:=L.z9;have v9:=L.v9;have u9:=run_underlying L.t9
 have t4:=L.t4;have a4:=L.a4;have z4:=L.z4;have v4:=L.v4;have u4:=run_underlying L.t4
 have t5:=X.t5;have a5:=X.a5;have z5:=X.z5;have v5:=X.v5;have u5:=run_underlying X.t5
 have e240:∀args w,(callFunc (ρ.f 240) args).run P w = .ok (.enter (ρ.f 240) args) w:=enters_of L.f240 (by kernel_rfl) rfl
 go_enter L.f166,Body.n166_ntmps ρ
 go_wp2_with (go_at_fn (ρ.f 240);refine hcc.mono ?_)
 rintro e w0' ⟨rfl,rfl⟩
 have c0:w0'.cell? ⟨b,0,none⟩=some p0:=by rw [Lib.cell_of_heap hb0];rfl
 have c1:w0'.cell? ⟨b,1,none⟩=some v:=by rw [Lib.cell_of_heap hb0];rfl
 go_wp2_with (at_builtin;refine wpList_append_run rfl _ _ (ρ.t 37) (ρ.t 9) rfl rfl rfl hrun ?_)
 go_wp2
 go_ret2
 exact⟨rfl,rfl⟩
theorem Ci {w:World} {b:Nat} {cs:Array Value} {t:TypeId} {x:Value} (h:w.heap[b]? = some (.cells cs t (0,0))) (hx:cs[0]? = some x):w.setCell ⟨b,0,none⟩ x=w:=by
 have e:∀k,(w.setCell ⟨b,0,none⟩ x).heap[k]? = w.heap[k]? := λk=>by
  by_cases hk:k=b
  ·subst hk
   rw [kX h,h]
   have:cs.setIfInBounds 0 x=cs:=by
    apply Array.ext_getElem?
    intro j
    rw [Array.getElem?_setIfInBounds]
    split
    ·rename_i h0
     subst h0
     split
     ·exact hx.symm
     ·rename_i h1;rw [Array.getElem?_eq_none (by omega)]
    ·rfl
   rw [this]
  ·exact lS x hk
 have h1:(w.setCell ⟨b,0,none⟩ x).heap=w.heap:=Array.ext_getElem? e
 show ({ w with heap:=(w.setCell ⟨b,0,none⟩ x).heap }:World)=w
 rw [h1]
theorem Ha (L:Lays.n166 P ρ) (X:Builder.Extra P ρ):pz P (ρ.f 166) (ρ.t 72) (ρ.t 37) (ρ.t 9):=by
 intro b s w w1 p v v' p1 v1 hb hp hrun hb1 hv
 have hlt:b<w.heap.size:=(Array.getElem?_eq_some_iff.1 hb).1
 have hb0:(w.setCell ⟨b,0,none⟩ (.pointer (some ⟨b,0,none⟩))).heap[b]? = some (.cells #[.pointer (some ⟨b,0,none⟩),v] (ρ.t 72) (0,0)):=by rw [kX hb];rfl
 refine E8 L X b s w _ w1 v v' _ p1 v1 ?_ hb0 hrun hb1 hv
 rcases hp with rfl|rfl
 ·refine Any.Builder_copyCheck_fresh { L with } X.toX72 b w (by rw [Lib.cell_of_heap hb];rfl) ?_ (Lib.frozen_of_heap hb 0)
  simp [World.shape?,hb]
 ·refine (Any.Builder_copyCheck_used { L with } X.toX72 b w (by rw [Lib.cell_of_heap hb];rfl)).mono ?_
  rintro e w' ⟨rfl,rfl⟩
  exact⟨rfl,(Ci hb rfl).symm⟩
set_option maxHeartbeats 2000000 in
set_option maxRecDepth 100000 in
theorem strDoes (L:Lays.n169 P ρ) (X:Builder.Extra P ρ) (h5:ρ.t 5=byteK):rH P (ρ.f 169) (ρ.t 72):=by
 refine⟨λb w p hbk => ?_,λb g cap l cur w p hbk hg h0 hl9 hnc hc0 hcs hcell => ?_⟩
 ·have hUS:=Any.unsafeString_none L X
  have c1:w.drew.cell? ⟨b,1,none⟩=some (.slice none 0 0):=by
   have:w.drew.heap[b]? = some (.cells #[p,.slice none 0 0] (ρ.t 72) (0,0)):=hbk
   rw [Lib.cell_of_heap this];rfl
  have hSD:(Builtin.unsafeSliceData_ #[(ρ.t 37)] (ρ.t 127) #[.slice none 0 0]).run P w.drew = .ok (.pointer none) w.drew:=rfl
  have mixed:=L.mixed
  have t72:=L.t72;have a72:=L.a72;have z72:=L.z72;have v72:=L.v72;have u72:=run_underlying L.t72
  have t70:=L.t70;have a70:=L.a70;have z70:=L.z70;have v70:=L.v70;have u70:=run_underlying L.t70
  have t37:=L.t37;have a37:=L.a37;have z37:=L.z37;have v37:=L.v37;have u37:=run_underlying L.t37
  have t127:=L.t127;have a127:=L.a127;have z127:=L.z127;have v127:=L.v127;have u127:=run_underlying L.t127
  have t3:=L.t3;have a3:=L.a3;have z3:=L.z3;have v3:=L.v3;have u3:=run_underlying L.t3
  have t9:=L.t9;have a9:=L.a9;have z9:=L.z9;have v9:=L.v9;have u9:=run_underlying L.t9
  have t5:=X.t5;have a5:=X.a5;have z5:=X.z5;have v5:=X.v5;have u5:=run_underlying X.t5
  go_enter L.f169,Body.n169_ntmps ρ
  go_wp2
  go_region_o
  all_goals (go_wp2;go_ret;exact⟨rfl,rfl⟩)
 ·have hl0:l.length≠0:=by simpa using h0
  have c1:w.drew.cell? ⟨b,1,none⟩=some (.slice (some ⟨g,0,none⟩) l.length cap):=by
   have:w.drew.heap[b]? = some (.cells #[p,.slice (some ⟨g,0,none⟩) l.length cap] (ρ.t 72) (0,0)):=hbk
   rw [Lib.cell_of_heap this];rfl
  have hSD:(Builtin.unsafeSliceData_ #[(ρ.t 37)] (ρ.t 127) #[.slice (some ⟨g,0,none⟩) l.length cap]).run P w.drew = .ok (.pointer (some ⟨g,0,none⟩)) w.drew :=
   Lib.run_unsafeSliceData_row _ _ _ _ _ _ (by omega)
  have hUS:(Builtin.unsafeString_ #[(ρ.t 127),(ρ.t 3)] (ρ.t 9) #[.pointer (some ⟨g,0,none⟩),.int .i64 l.length]).run P w.drew = .ok (.string ⟨l.toArray⟩) (w.drew.freeze ⟨g,0,none⟩ l.length):=by
   refine Lib.run_unsafeString_row w.drew (ρ.t 127) (ρ.t 3) (ρ.t 9) (ρ.t 5) L.t127 X.cellsByte g cur.size (by have hg':w.drew.heap[g]? = some (.cells cur byteK (0,0)):=hg;simp [World.shape?,hg',h5]) l h0 (by omega) (by omega) (λj x hj => ?_)
   have hg':w.drew.heap[g]? = some (.cells cur byteK (0,0)):=hg
   have:=hcell j x hj
   have ea:((⟨g,0,none⟩:Addr).add j)=⟨g,j,none⟩:=by
    unfold Addr.add
    split
    ·rename_i h;rw [h]
    ·simp
   rw [ea,Lib.cell_of_heap hg'];exact this
  have mixed:=L.mixed
  have t72:=L.t72;have a72:=L.a72;have z72:=L.z72;have v72:=L.v72;have u72:=run_underlying L.t72
  have t70:=L.t70;have a70:=L.a70;have z70:=L.z70;have v70:=L.v70;have u70:=run_underlying L.t70
  have t37:=L.t37;have a37:=L.a37;have z37:=L.z37;have v37:=L.v37;have u37:=run_underlying L.t37
  have t127:=L.t127;have a127:=L.a127;have z127:=L.z127;have v127:=L.v127;have u127:=run_underlying L.t127
  have t3:=L.t3;have a3:=L.a3;have z3:=L.z3;have v3:=L.v3;have u3:=run_underlying L.t3
  have t9:=L.t9;have a9:=L.a9;have z9:=L.z9;have v9:=L.v9;have u9:=run_underlying L.t9
  have t5:=X.t5;have a5:=X.a5;have z5:=X.z5;have v5:=X.v5;have u5:=run_underlying X.t5
  go_enter L.f169,Body.n169_ntmps ρ
  go_wp2
  go_region_o
  all_goals (go_wp2;go_ret;exact⟨rfl,rfl⟩)
end Go.Eng

/-
  THE ENGINE: strings.Builder, its bytes as a list of numbers: the rules by which dec.py prints.
-/
namespace Go.Eng
set_option linter.unusedSectionVars false
variable [DM]
open Go
set_option linter.unusedVariables false
set_option linter.unusedSimpArgs false
def GQ (xs:List Int) (s:ByteArray):Option (List Int):=if xs.length+s.size<=1000000000 then some (xs++aP s)else none
def vY (xs:List Int):Option ByteArray:=if xs.length<=1000000000/\xs.all (λn=>decide (0<=n)&&decide (n<=255))=true then some (Go.strOfNums xs)else none
theorem CB {xs:List Int} {bb:ByteArray} (h:vY xs=some bb):xs=aP bb/\bb.size<=1000000000:=by
 unfold vY at h
 split at h
 ·rename_i hx
  simp only [so_]at h
  subst h
  have e:aP (Go.strOfNums xs)=xs:=by
   unfold aP Go.strOfNums
   refine List.ext_getElem (by simp) (λi h1 h2 => ?_)
   have:=List.all_eq_true.1 hx.2 _ (List.getElem_mem h2)
   simp only [Bool.and_eq_true,decide_eq_true_eq]at this
   simp
   omega
  refine⟨e.symm,?_⟩
  have:(aP (Go.strOfNums xs)).length=(Go.strOfNums xs).size:=by simp [aP]
  rw [e]at this
  omega
 ·cases h
section
variable {C:Cfg} {sl:Nat->V} {H:Hp} {q:Qm} {all rest:List Oper} {K:(Nat->V)->Hp->Prop}
variable {dst:Option Tmp} {d:Nat} {t ty:TypeId} {pos:String} {after:Array Edge} {g:Option (Nat×Bool)}
theorem Jq {e:TypeId} (p:Nat) (hp:q=none\/Nat.beq all.length (p+(rest.length+1))=true) (hz:zeroCells C.P e=some [.d .nilp,.nil]) (hw:aG all sl ⟨some d,.alloc e,ty,pos,after,g⟩=some true)
  (h:∀n:Nm,aL (lu q p [n] true) C all K rest (upd sl d (.ref n 0 0)) (H++[(n,some (.cells (1048576+e) [.any,.nil]))])) (hb:zt C.P e=none:=by kernel_rfl) (hvm:C.vm.contains d=true:=by rfl):aL q C all K (⟨some d,.alloc e,ty,pos,after,g⟩::rest) sl H :=
 oD rfl p [] hp (λ_ _ _=>uO) (λm hm=>by cases hm) hw (λS tk K' ok ag hk=>iZ (A:=⟨[],[((d,tk),some (.cells (1048576+e) [.any,.nil]))],.ref (d,tk) 0 0⟩) (λc e=>by cases e) (by
  show (bif (zt C.P e).isSome then qi C.P e d tk else bif C.vm.contains d then oz C.P e d tk else qO C.P e d tk)=_
  rw [hb,hvm]
  simp only [Option.isSome_none,cond_false,cond_true,oz,hz]) (hk _ _ _ (.inl rfl) ⟨by simp,by simp⟩ (ag.new ok rfl _) (h (d,tk))))
theorem AY {tB tS tStr e:TypeId} {bb z:List Int} {s:ByteArray} {nb nf:Nm} {f x y:Operand} {ats:Array TypeId} {fn:FuncId} (p i j:Nat) (hp:q=none\/Nat.beq all.length (p+(rest.length+1))=true)
  (hf:∀S tk,AgR H S tk (⟨some d,.call ⟨.value f,#[x,y],ats⟩,ty,pos,after,g⟩::rest)->okQ q all p [nb,nf] true) (hW:pz C.P fn tB tS tStr) (hT:BldT C.P tS tStr e)
  (hff:ev sl f = .fn fn []) (hbd:aB C.P fn=true) (hx:ev sl x = .ref nb 0 0) (hy:ev sl y=vS s) (hHi:H[i]? = some (nb,some (.cells (1048576+tB) [.any,gV nf 1 (bb)]))) (hHj:H[j]? = some (nf,gB 1 (eK .u8) (bb))) (hij:i≠j) (ha:GQ bb s=some z)
  (hw:aG all sl ⟨some d,.call ⟨.value f,#[x,y],ats⟩,ty,pos,after,g⟩=some true)
  (h:∀n':Nm,aL (lu q p [nb,nf,n'] true) C all K rest (upd sl d (.tup [vI s.size,.any])) ((H.set i (nb,some (.cells (1048576+tB) [.any,gV n' 1 (z)]))).set j (n',gB 1 (eK .u8) (z)))) :
  aL q C all K (⟨some d,.call ⟨.value f,#[x,y],ats⟩,ty,pos,after,g⟩::rest) sl H:=by
 unfold GQ at ha
 split at ha
 case isFalse=>cases ha
 rename_i hle
 simp only [so_]at ha
 subst ha
 have hHj':∀a:Nm×Option Box,(H.set i a)[j]? = some (nf,gB 1 (eK .u8) (bb)):=λa=>by rw [List.getElem?_set_ne hij];exact hHj
 refine oD rfl p [nb,nf] hp hf (λm hm => ?_) hw (λS tk K' ok ag hk=>nO hff ?_)
 ·simp only [List.mem_cons,List.not_mem_nil,or_false]at hm
  rcases hm with rfl|rfl
  ·exact List.mem_map.2 ⟨_,List.mem_of_getElem? hHi,rfl⟩
  ·exact List.mem_map.2 ⟨_,List.mem_of_getElem? hHj,rfl⟩
 have hne:nb≠nf:=Fs ag hHi hHj hij
 have hSb:S nb=some (.cells (1048576+tB) [.any,gV nf 1 (bb)]):=ag.get hHi
 have hargs:([x,y].map (ev sl)++[])=[.ref nb 0 0,vS s]:=by simp [hx,hy]
 have hfz:∀n∈([x,y].map (ev sl)++[]).flatMap frz,n=nb:=λn hn=>by
  rw [hargs]at hn
  simp [frz,Ee]at hn
  try exact hn
 have hco:∀S:Store,([x,y].map (ev sl)++[]).map (co S)=[.ref nb 0 0,vS s]:=λS=>by rw [hargs];simp [co,co1]
 have hargs2:(#[x,y].toList.map (ev sl)++[])=([x,y].map (ev sl)++[]):=rfl
 have hres:∀ns:List Nm,ren ns (.tup [vI s.size,.any]) = .tup [vI s.size,.any]:=λns=>by simp [ren,renL]
 cases bb with
 | nil =>
  have hc:=fnm_bw0 hW hT (s:=s) (by simp only [List.length_nil]at hle;omega)
  have hins:insOK S [nb] [nb] [.cells (1048576+tB) [.any,.nil]]:=⟨⟨by simp [Box.ok,okL,okV],by show S nb=some _;rw [hSb];simp [Box.ren,renL,ren,gV]⟩,trivial⟩
  cases hY:aP s with
  | nil =>
   have hbs:bB s=[]:=by rw [bB,hY];rfl
   rw [hbs]at hc
   refine .inl ⟨hbd,⟨[],[nb],[.ref (au 0) 0 0,vS s],[.cells (1048576+tB) [.any,.nil]],.tup [vI s.size,.any],[some (.cells (1048576+tB) [.any,.nil])],false⟩,?_,(λe=>by cases e),?_⟩
   ·exact bOK hc (by rw [hargs2,hco];simp [renL,ren,vU]) (by simp [okL,okV,kT]) (List.pairwise_singleton _ _) hins (Nat.le_refl _) (by simp [okV,okL]) (by simp [okOut,Box.ok,okL,okV]) rfl (λn hn=>by rw [hfz n hn];simp)
   ·rw [bEff (ns:=[nb]) (by simp [iI])]
    rw [hY]at h
    have hag:=(ag.set hHi (b:=some (.cells (1048576+tB) [.any,gV nf 1 ([]:List Int)])) (b':=some (.cells (1048576+tB) [.any,gV nf 1 ([]:List Int)])) (λx hx=>hx)).tail
    refine hk _ (H.set i (nb,some (.cells (1048576+tB) [.any,gV nf 1 ([]:List Int)]))) nf (.inr (by simp)) ⟨by simp,by simp [bC]⟩ ?_ ?_
    ·simpa [bS,bC,Box.ren,renL,ren,gV]using hag
    ·have:=h nf
     first | rw [List.append_nil,yP (hHj' _)]at this | (simp only [List.nil_append]at this;rw [yP (hHj' _)]at this)
     rw [hres];exact this
  | cons y0 ys =>
   have hbs:bB s=eK .u8 y0::ys.map (eK .u8):=by rw [bB,hY];rfl
   rw [hbs]at hc
   rw [hY]at h
   refine .inl ⟨hbd,⟨[],[nb],[.ref (au 0) 0 0,vS s],[.cells (1048576+tB) [.any,.nil]],.tup [vI s.size,.any],[some (.cells (1048576+tB) [.any,.vs (au 1) 1 0 (eK .u8 y0::ys.map (eK .u8)).length]),some (.vec 1 (eK .u8 y0::ys.map (eK .u8)))],false⟩,?_,(λe=>by cases e),?_⟩
   ·exact bOK hc (by rw [hargs2,hco];simp [renL,ren,vU]) (by simp [okL,okV,kT]) (List.pairwise_singleton _ _) hins (by simp) (by simp [okV,okL]) (by simp [okOut,Box.ok,okL,okV,kT]) rfl (λn hn=>by rw [hfz n hn];simp)
   ·rw [bEff (ns:=[nb,(d,tk)]) (by simp [iI])]
    have ag1:=ag.set hHi (b:=some (.cells (1048576+tB) [.any,gV (d,tk) 1 (y0::ys)])) (b':=some (.cells (1048576+tB) [.any,gV (d,tk) 1 (y0::ys)])) (λx hx=>hx)
    have hnd:((d,tk):Nm)≠nb:=λe=>new_ne ok ag rfl 0 _ (List.mem_of_getElem? hHi) (by rw [Nat.mul_zero];exact e.symm)
    refine hk _ ((H.set i (nb,some (.cells (1048576+tB) [.any,gV (d,tk) 1 (y0::ys)]))).set j ((d,tk),gB 1 (eK .u8) (y0::ys))) (d,tk) (.inl rfl) ⟨by simp,by simp [bC]⟩ ?_ ?_
    ·refine ag1.swap ok rfl (hHj' _) _ _ (λm h1 h2 => ?_) (λx hx => ?_)
     ·simp [bS,bC,supd,h2,Box.ren,renL,ren,vC,gV]
     ·simp only [bC,bS,Option.map_some,supd,if_true,Box.ren]
      exact hx
    ·rw [hres];exact h (d,tk)
 | cons x0 xs =>
  have hSf:S nf=some (.vec 1 ((x0::xs).map (eK .u8))):=ag.get hHj
  have hlx:((x0::xs).map (eK .u8)).length=(x0::xs).length:=List.length_map _
  have hc:=fnm_bw1 hW hT (s:=s) (xs:=(x0::xs).map (eK .u8)) (by rw [hlx];exact hle)
  rw [hlx]at hc
  have hins:insOK S [nb,nf] [nb,nf] [.cells (1048576+tB) [.any,.vs (au 1) 1 0 (x0::xs).length],.vec 1 ((x0::xs).map (eK .u8))] :=
   ⟨⟨by simp [Box.ok,okL,okV,kT],by show S nb=some _;rw [hSb];simp [Box.ren,renL,ren,gV,vC]⟩,⟨rfl,hSf⟩,trivial⟩
  have hokA:okL [nb,nf].length [V.ref (au 0) 0 0,vS s]=true:=by simp [okL,okV,kT]
  have hnd2 : [nb,nf].Nodup:=by simp [hne]
  cases hY:aP s with
  | nil =>
   have hbs:bB s=[]:=by rw [bB,hY];rfl
   rw [hbs]at hc
   rw [hY]at h
   refine .inl ⟨hbd,⟨[],[nb,nf],[.ref (au 0) 0 0,vS s],[.cells (1048576+tB) [.any,.vs (au 1) 1 0 (x0::xs).length],.vec 1 ((x0::xs).map (eK .u8))],.tup [vI s.size,.any],[some (.cells (1048576+tB) [.any,.vs (au 1) 1 0 (x0::xs).length]),some (.vec 1 ((x0::xs).map (eK .u8)))],false⟩,?_,(λe=>by cases e),?_⟩
   ·exact bOK hc (by rw [hargs2,hco];simp [renL,ren,vU]) hokA hnd2 hins (Nat.le_refl _) (by simp [okV,okL]) (by simp [okOut,Box.ok,okL,okV,kT]) rfl (λn hn=>by rw [hfz n hn];simp)
   ·rw [bEff (ns:=[nb,nf]) (by simp [iI])]
    have ag1:=ag.set hHi (b:=some (.cells (1048576+tB) [.any,gV nf 1 (x0::xs)])) (b':=some (.cells (1048576+tB) [.any,gV nf 1 (x0::xs)])) (λx hx=>hx)
    have ag2:=(ag1.set (hHj' _) (b:=gB 1 (eK .u8) (x0::xs)) (b':=some (.vec 1 ((x0::xs).map (eK .u8)))) (λx hx=>hx)).tail
    refine hk _ ((H.set i (nb,some (.cells (1048576+tB) [.any,gV nf 1 (x0::xs)]))).set j (nf,gB 1 (eK .u8) (x0::xs))) nf (.inr (by simp)) ⟨by simp,by simp [bC]⟩ ?_ ?_
    ·simpa [bS,bC,Box.ren,renL,ren,gV,vC]using ag2
    ·have:=h nf
     rw [List.append_nil]at this
     rw [hres];exact this
  | cons y0 ys =>
   have hbs:bB s=eK .u8 y0::ys.map (eK .u8):=by rw [bB,hY];rfl
   rw [hbs]at hc
   rw [hY]at h
   have hll:(x0::xs).length+(eK .u8 y0::ys.map (eK .u8)).length=((x0::xs)++(y0::ys)).length:=by simp;omega
   dsimp only at hc
   rw [hll]at hc
   refine .inl ⟨hbd,⟨[],[nb,nf],[.ref (au 0) 0 0,vS s],[.cells (1048576+tB) [.any,.vs (au 1) 1 0 (x0::xs).length],.vec 1 ((x0::xs).map (eK .u8))],.tup [vI s.size,.any],[some (.cells (1048576+tB) [.any,.vs (au 2) 1 0 ((x0::xs)++(y0::ys)).length]),none,some (.vec 1 ((x0::xs).map (eK .u8)++(eK .u8 y0::ys.map (eK .u8))))],false⟩,?_,(λe=>by cases e),?_⟩
   ·exact bOK hc (by rw [hargs2,hco];simp [renL,ren,vU]) hokA hnd2 hins (by simp) (by simp [okV,okL]) (by simp [okOut,Box.ok,okL,okV,kT]) rfl (λn hn=>by rw [hfz n hn];simp)
   ·rw [bEff (ns:=[nb,nf,(d,tk)]) (by simp [iI])]
    have ag1:=ag.set hHi (b:=some (.cells (1048576+tB) [.any,gV (d,tk) 1 ((x0::xs)++(y0::ys))])) (b':=some (.cells (1048576+tB) [.any,gV (d,tk) 1 ((x0::xs)++(y0::ys))])) (λx hx=>hx)
    refine hk _ ((H.set i (nb,some (.cells (1048576+tB) [.any,gV (d,tk) 1 ((x0::xs)++(y0::ys))]))).set j ((d,tk),gB 1 (eK .u8) ((x0::xs)++(y0::ys)))) (d,tk) (.inl rfl) ⟨by simp,by simp [bC]⟩ ?_ ?_
    ·refine ag1.swap ok rfl (hHj' _) _ _ (λm h1 h2 => ?_) (λx hx => ?_)
     ·simp [bS,bC,supd,h1,h2,Box.ren,renL,ren,renN_2,gV]
     ·simp only [bC,bS,Option.map_some,supd,if_true,Box.ren]
      rw [<- hx];simp [gB]
    ·rw [hres];exact h (d,tk)
theorem h_bstrL {tB:TypeId} {xs:List Int} {bb:ByteArray} {nb nf:Nm} {f x:Operand} {ats:Array TypeId} {fn:FuncId} (p i j:Nat) (hp:q=none\/Nat.beq all.length (p+(rest.length+1))=true)
  (hf:∀S tk,AgR H S tk (⟨some d,.call ⟨.value f,#[x],ats⟩,ty,pos,after,g⟩::rest)->okQ q all p [nb,nf] true) (hL:rH C.P fn tB)
  (hff:ev sl f = .fn fn []) (hbd:aB C.P fn=true) (hx:ev sl x = .ref nb 0 0) (hHi:H[i]? = some (nb,some (.cells (1048576+tB) [.any,gV nf 1 xs]))) (hHj:H[j]? = some (nf,gB 1 (eK .u8) xs)) (hij:i≠j) (hb:vY xs=some bb)
  (hw:aG all sl ⟨some d,.call ⟨.value f,#[x],ats⟩,ty,pos,after,g⟩=some true)
  (h:aL (lu q p [nb,nf] true) C all K rest (upd sl d (vS bb)) ((H.set i (nb,none)).set j (nf,none))) :
  aL q C all K (⟨some d,.call ⟨.value f,#[x],ats⟩,ty,pos,after,g⟩::rest) sl H:=by
 obtain ⟨hxs,hsz⟩:=CB hb
 subst hxs
 exact h_bstr p i j hp hf hL hff hbd hx hHi hHj hij hsz hw h
end
end Go.Eng

/-
  THE ENGINE: functions that hand a slice through: it is handed in with its box, and handed back (or nil), with data behind it.
-/
namespace Go.Eng
set_option linter.unusedSectionVars false
variable [DM]
set_option linter.unusedVariables false
section
variable {C:Cfg} {sl:Nat->V} {H:Hp} {q:Qm} {all rest:List Oper} {K:(Nat->V)->Hp->Prop}
variable {dst:Option Tmp} {d:Nat} {t ty:TypeId} {pos:String} {after:Array Edge} {g:Option (Nat×Bool)}
end
end Go.Eng

/-
  THE ENGINE: a slice that a closure holds and appends to: a cell with a slice whose box the cell alone has.
-/
namespace Go.Eng
set_option linter.unusedSectionVars false
variable [DM]
set_option linter.unusedVariables false
theorem FnM.of_wpDx {P:Program} {f:FuncId} {fn:Func} {body:Code} {C:Cfg} (hf:P.funcs[f]? = some fn) (hb:fn.body=some body) (hP:C.P=P) (hn:C.n=fn.ntmps)
  {args:List V} {Sin:List Box} {r:V} {Sout:List (Option Box)} {Fin:List V->Store->Prop} (hl:args.length<=fn.ntmps)
  (hx:∀(E:Env) (G':Gh) (w':World) (S:Store) (tk:Nat) (vs:List V),Inv E G' w' S tk (λ_=>False)->Fin vs S->∃(G'':Gh) (S'':Store) (tk'':Nat) (U'':Nat->Prop) (ν:List Nm) (vs':List V),Inv E G'' w' S'' tk'' U''/\Ext G' w' G'' w' /\
   vs.length=vs'.length/\(∀(i:Nat) (h1:i<vs.length) (h2:i<vs'.length),vs'[i]=vs[i]\/vs'[i]=co S vs[i])/\uT vs'=ren ν r/\ν.length=Sout.length/\ν.Nodup/\(∀i,i<Sin.length->ν[i]? = some (au i))/\∀(i:Nat) (bx:Box),Sout[i]? = some (some bx)->∃n,ν[i]? = some n/\S'' n=some (bx.ren ν))
  (h:∃σ',Gst ⟨wQ args,bK Sin,1⟩ σ'/\wpD C body (IY C fn.results.toList (Fin)) σ'):FnM P f args Sin r Sout:=by
 subst hP
 intro G w vargs hinv hargs
 refine calls_of_wp hf hb ?_
 have hc:zD C ⟨G,w,rY G Sin⟩ G w { tmps:=vargs.toArray++Array.replicate (fn.ntmps-vargs.toArray.size) undef,defers:=[] } ⟨wQ args,bK Sin,1⟩:=by
  refine⟨?_,rfl,λi => ?_,hinv⟩
  ·have:=hargs.1
   simp;omega
  ·have hl:=hargs.1
   show RepV G w _ (args.getD i .none)
   by_cases hi:i<args.length
   ·have h1:=hargs.2 i (by omega) hi
    simp only [Array.getD_eq_getD_getElem?,List.getD_eq_getElem?_getD]
    rw [List.getElem?_eq_getElem hi,Array.getElem?_append_left (by simp;omega)]
    simp [show i<vargs.length by omega]
    exact h1
   ·have e2:args.getD i .none = .none:=by simp [List.getD_eq_getElem?_getD,List.getElem?_eq_none (Nat.le_of_not_lt hi)]
    have e1:(vargs.toArray++Array.replicate (fn.ntmps-vargs.toArray.size) undef).getD i undef=undef:=by
     simp only [Array.getD_eq_getD_getElem?]
     rw [Array.getElem?_append_right (by simp;omega)]
     simp only [Array.getElem?_replicate]
     split <;> rfl
    rw [e1,e2]
    exact .none
 obtain ⟨σ0,hg0,h⟩:=h
 obtain ⟨G0,hc0⟩:=hg0.ok hc
 refine kw body _ _ _ _ _ _ hc0 (λe a w' G' σ' hq hc' => ?_) h
 have fin:IY C fn.results.toList (Fin) .ret σ'->a.defers=[]/\∃v,(results fn a.tmps).run C.P w' = .ok v w'/\∃v' G' S' tk' U' ν,Ending.returned v = .returned v'/\Inv ⟨G,w,rY G Sin⟩ G' w' S' tk' U'/\RepV G' w' v' (ren ν r) /\
   ν.length=Sout.length/\ν.Nodup/\(∀i,i<Sin.length->ν[i]? = some (au i))/\∀(i:Nat) (bx:Box),Sout[i]? = some (some bx)->∃n,ν[i]? = some n/\S' n=some (bx.ren ν):=by
  rintro ⟨vs0,h1,hfin⟩
  obtain ⟨G'',S'',tk'',U'',ν,vs,hinv2,hext,f0,f01,f1,f2,f3,f4,f5⟩:=hx _ _ _ _ _ _ hc'.inv hfin
  obtain ⟨us,u10,u2⟩:=xI hc' _ vs0 h1
  have u1:mR G' w' us vs:=⟨u10.1.trans f0,λi q1 q2=>by
   rcases f01 i (by omega) q2 with e|e
   ·rw [e];exact u10.2 i q1 _
   ·rw [e];exact yZ hc'.inv (u10.2 i q1 _)⟩
  have hres:∃v,(results fn a.tmps).run C.P w' = .ok v w'/\RepV G' w' v (uT vs):=by
   have hm:(fn.results.mapM (fun | .tmp t=>pure (a.tmps.getD t undef) | .cell b t=>do loadVar t (<- asAddr (a.tmps.getD b undef)):ResultVar->Sem Value)).run C.P w' = .ok us.toArray w':=by
    rw [Array.mapM_eq_mapM_toList]
    simp only [Sem.run_map]
    exact (congrArg (λx=>Result.andThen x _) u2).trans rfl
   have hrun:(results fn a.tmps).run C.P w' = .ok (if h:us.toArray.size=1 then us.toArray[0]else .tuple us.toArray) w':=by
    unfold results
    simp only [Sem.run_bind,Sem.run_pure]
    exact (congrArg (λx=>Result.andThen x (λ(a:Array Value) w'=>Result.ok (if h:a.size=1 then a[0]else Value.tuple a) w')) hm).trans rfl
   refine⟨_,hrun,?_⟩
   have hl1:=u1.1
   clear f1 f01 f0 u2 hm hrun
   match vs,us,u1,hl1 with
   | [v],[u],u1,_=>exact u1.2 0 (by simp) (by simp)
   | [],[],u1,_=>exact .tup [] [] u1.1 u1.2
   | v1::v2::vs,x1::x2::us,u1,_ =>
    rw [dif_neg (by simp)]
    exact .tup _ _ u1.1 u1.2
  obtain ⟨v,hv,rv⟩:=hres
  refine⟨hc'.df,v,hv,v,G'',_,_,_,ν,rfl,hinv2,?_,f2,f3,f4,f5⟩
  rw [<- f1]
  exact rv.ext hext
 cases e with
 | normal=>exact fin hq
 | ret=>exact fin hq
 | exit id=>exact hq.elim
 | goto l=>exact hq.elim
 | panic ch=>exact hq.elim
 | outgrown=>exact hq.elim
theorem Inv.fresh {E:Env} {G:Gh} {w:World} {S:Store} {tk:Nat} (h:Inv E G w S tk (λ_=>False)) {m c:Nm} {sz s:Nat} {xs:List (List D)} {cs cs':List V} (hm:S m=some (.vec sz xs)) (hc:S c=some (.cells s cs)) (hl:cs'.length=cs.length)
  (hcs:∀j (h1:j<cs'.length) (h2:j<cs.length),cs'[j]=cs[j]\/∃z k len,cs[j] = .vs m z k len/\cs'[j] = .vs (0,tk+1) z k len) :
  ∃G',Ext G w G' w/\Inv E G' w (λx=>if x=(0,tk+1)then some (.vec sz xs)else if x=m then none else if x=c then some (.cells s cs')else S x) (tk+2) (λ_=>False):=by
 obtain ⟨n,hn⟩:∃n:Nm,n=(0,tk+1):=⟨_,rfl⟩
 rw [<- hn]at hcs ⊢
 have hfree:G.mu n=none:=by
  cases hx:G.mu n with
  | none=>rfl
  | some x =>
   rcases h.tick n x hx with k|k
   ·rw [hn]at k;simp at k;omega
   ·exact k.2.elim
 have hmn:m≠n:=λe=>by
  obtain ⟨b,o,z,h1,_⟩:=h.box m _ hm
  rw [e,hfree]at h1;cases h1
 have hSn:∀x bx,S x=some bx->x≠n:=λx bx hx e=>by
  obtain ⟨b,o,z,h1,_⟩:=h.box x _ hx
  rw [e,hfree]at h1;cases h1
 have hmc:c≠m:=λe=>by rw [e,hm]at hc;cases hc
 obtain ⟨bm,om,zm,hmu,hst,hE⟩:=h.box m _ hm
 obtain ⟨G',hG⟩:∃G':Gh,G'=⟨G.imm,λx=>if x=n then G.mu m else G.mu x⟩:=⟨_,rfl⟩
 have hGi:G'.imm=G.imm:=by rw [hG]
 have hGn:G'.mu n=G.mu m:=by rw [hG];simp
 have hGx:∀x,x≠n->G'.mu x=G.mu x:=λx hx=>by rw [hG];simp [hx]
 have e:Ext G w G' w:=⟨λb o k=>by rw [hGi];exact k,λ_ _ _=>rfl,λx y k=>by rw [hGx x (λq=>by rw [q,hfree]at k;cases k)];exact k,λ_=>Nat.le_refl _,λ_ _ k=>k⟩
 have hi:∀b o',G'.imm b o'->G.imm b o':=λb o' k=>by rw [hGi]at k;exact k
 refine⟨G',e,⟨h.ext.trans e,λb o k=>h.newI b o (hi b o k),h.frame,h.size,h.os,h.tape,h.output,λx bx hx => ?_,λx y bx by' b o z o' z' hx hy hmt h1 h2 => ?_,λx y k => ?_,λx b o z k => ?_,λb o k=>h.immB b o (hi b o k),h.kn,h.dr⟩⟩
 ·split at hx
  ·rename_i q
   simp only [so_]at hx
   subst hx q
   exact⟨bm,om,zm,by rw [hGn];exact hmu,hst.ext e (λ_=>rfl) (λ_=>hi bm),hE⟩
  ·rename_i q
   split at hx
   ·cases hx
   ·split at hx
    ·rename_i q2
     simp only [so_]at hx
     subst hx q2
     obtain ⟨b,o,z,k1,k2,k3⟩:=h.box x _ hc
     have k2':Stands G w (.cells s cs) b o z:=k2
     have k4:=Stands.ext k2' e (λ_=>rfl) (λ_=>hi b)
     refine⟨b,o,z,by rw [hGx x q];exact k1,?_,k3⟩
     refine⟨k4.sz,trivial,?_,λj hj => ?_,k4.free,(λk=>by cases k),k4.cel⟩
     ·have:=k4.room
      simp only [Box.all]at this ⊢
      rw [hl];exact this
     ·simp only [Box.all]at hj ⊢
      have hj2:j<cs.length:=by rw [<- hl];exact hj
      obtain ⟨u,u1,u2,u3⟩:=k4.cell j (by simp only [Box.all];exact hj2)
      simp only [Box.all]at u3
      refine⟨u,u1,u2,?_⟩
      rcases hcs j hj hj2 with r|⟨z2,k,len,r1,r2⟩
      ·rw [r];exact u3
      ·rw [r1]at u3
       rw [r2]
       cases u3 with
       | vs0 _ _ _ a=>exact .vs0 _ _ _ a
       | vs k len cap g1 g2 g3=>exact .vs k len cap (by rw [hGn];rw [hGx m hmn]at g1;exact g1) g2 g3
    ·obtain ⟨b,o,z,k1,k2,k3⟩:=h.box x _ hx
     exact⟨b,o,z,by rw [hGx x q];exact k1,k2.ext e (λ_=>rfl) (λ_=>hi b),k3⟩
 ·have key:∀x bx,(if x=n then some (Box.vec sz xs)else if x=m then none else if x=c then some (Box.cells s cs')else S x)=some bx->(x=n/\bx = .vec sz xs)\/(x≠n/\x≠m/\∃b0,S x=some b0/\b0.mut=bx.mut):=by
   intro x bx hx
   split at hx
   ·rename_i q
    simp only [so_]at hx
    exact .inl ⟨q,hx.symm⟩
   ·rename_i q
    split at hx
    ·cases hx
    ·rename_i q1
     split at hx
     ·rename_i q2
      simp only [so_]at hx
      subst hx q2
      exact .inr ⟨q,q1,_,hc,rfl⟩
     ·exact .inr ⟨q,q1,_,hx,rfl⟩
  rcases key x bx hx with⟨rfl,rfl⟩|⟨x1,x2,b0,x3,x4⟩
  ·rcases key y by' hy with⟨rfl,_⟩|⟨y1,y2,b1,y3,y4⟩
   ·rfl
   ·rw [hGn]at h1
    rw [hGx y y1]at h2
    exact absurd (h.one m y _ _ b o z o' z' hm y3 rfl h1 h2).symm y2
  ·rcases key y by' hy with⟨rfl,rfl⟩|⟨y1,y2,b1,y3,y4⟩
   ·rw [hGn]at h2
    rw [hGx x x1]at h1
    exact absurd (h.one x m _ _ b o z o' z' x3 hm (by rw [x4];exact hmt) h1 h2) x2
   ·rw [hGx x x1]at h1
    rw [hGx y y1]at h2
    exact h.one x y _ _ b o z o' z' x3 y3 (by rw [x4];exact hmt) h1 h2
 ·by_cases q:x=n
  ·subst q
   rw [hn];exact .inl (by simp)
  ·rw [hGx x q]at k
   rcases h.tick x y k with k|k
   ·exact .inl (by omega)
   ·exact k.2.elim
 ·by_cases q:x=n
  ·subst q
   rw [hGn]at k
   exact h.bound m b o z k
  ·rw [hGx x q]at k
   exact h.bound x b o z k
theorem zo {i j:Nat} (h:au i=au j):i=j:=by
 simp only [au,Prod.mk.injEq,and_true]at h
 omega
section
variable {C:Cfg} {sl:Nat->V} {H:Hp} {all rest:List Oper} {K:(Nat->V)->Hp->Prop}
variable {d:Nat} {ty:TypeId} {pos:String} {after:Array Edge} {g:Option (Nat×Bool)}
end
end Go.Eng

/-
  THE ENGINE: a closure that holds a struct with a slice at its end that it appends to, and boxes of data ahead of it.
-/
namespace Go.Eng
set_option linter.unusedSectionVars false
variable [DM]
set_option linter.unusedVariables false
theorem qV (ρ:List Nm):∀a b:List V,renL ρ (a++b)=renL ρ a++renL ρ b
 | [],b=>rfl
 | v::a,b=>by simp only [List.cons_append,renL,qV ρ a b]
def Jb {α:Type} (C:Cfg) (rs:List ResultVar) (k:Nat) (os:List Box) (s:Nat) (cs:List V) (sz:Nat) (enc:α->List D) (ys:List α) (r:V):QH:=λe sl H=>(e = .normal\/e = .ret) /\
 ∃(vs:List V) (n:Nm) (j:Nat),zI C sl H rs vs/\(vs.flatMap frz).all (λ_=>false)=true/\uT (vs.map co0)=r/\okV 0 r=true/\os.all (λb=>b.ok 0)=true/\okL 0 cs=true/\H.take k=oU 0 os/\H[k]? = some (au k,some (.cells s (cs++[gV n sz ys])))/\Nat.blt k j=true/\H[j]? = some (n,gB sz enc ys)
theorem FnM.of_wHs {P:Program} {f:FuncId} {fn:Func} {body:Code} (C:Cfg) (hP:C.P=P) (hf:P.funcs[f]? = some fn) (hb:fn.body=some body) (hn:C.n=fn.ntmps)
  {α:Type} {enc:α->List D} {sz:Nat} {xs ys:List α} {s:Nat} {cs cs':List V} {args:List V} {bs os:List Box} {r:V} (hl:args.length<=fn.ntmps) (hok:j5 C body=true) (hk:os.length=bs.length)
  (h:wH C body (Jb C fn.results.toList bs.length os s cs' sz enc ys r) (wQ args) (oU 0 (bs++[.cells s (cs++[gV (au (bs.length+1)) sz xs])])++[(au (bs.length+1),gB sz enc xs)])) :
  FnM P f args (bs++[.cells s (cs++[gV (au (bs.length+1)) sz xs])]++gI sz enc xs) r (os.map some++[some (.cells s (cs'++[gV (au (bs.length+1+(gI sz enc xs).length)) sz ys]))]++gT xs none++gO sz enc ys):=by
 obtain ⟨k,hkk⟩:∃k,k=bs.length:=⟨_,rfl⟩
 have hgl:(gT xs (none:Option Box)).length=(gI sz enc xs).length:=by cases xs <;> rfl
 have hgn:∀(i:Nat) (bx:Box),(gT xs (none:Option Box))[i]? ≠ some (some bx):=λi bx e=>by
  cases xs with
  | nil=>simp [gT]at e
  | cons x xs=>cases i <;> simp [gT]at e
 refine FnM.of_wpDx (Fin:=λvs S=>∃(tk:Nat) (n:Nm),(vs.flatMap frz=[])/\uT (vs.map co0)=r/\okV 0 r=true/\(∀b∈os,b.ok 0=true)/\okL 0 cs'=true/\(∀i (h:i<os.length),S (au i)=some os[i])/\S (au k)=some (.cells s (cs'++[gV n sz ys]))/\(ys ≠ []->S n=some (bV sz enc ys))/\∀i,i<=k->n≠au i) hf hb hP hn hl ?_ ?_
 ·rintro E G' w' S tk vs hinv ⟨_,n,f1,f2,f3,f4,fcs,f5,f6,f7,f8⟩
  have hco:vs.map (co S)=vs.map co0:=zl f1
  have hcoi:∀(i:Nat) (h1:i<vs.length) (h2:i<(vs.map co0).length),(vs.map co0)[i]=vs[i]\/(vs.map co0)[i]=co S vs[i]:=λi h1 h2=>by
   refine .inr ?_
   have:(vs.map co0)[i]? = (vs.map (co S))[i]? := by rw [hco]
   rw [List.getElem?_eq_getElem h2,List.getElem?_eq_getElem (by simpa using h1)]at this
   simpa using this
  cases hys:ys with
  | nil =>
   subst hys
   refine⟨G',S,tk,_,(List.range (k+1+(gI sz enc xs).length)).map au,vs.map co0,hinv,Ext.refl _ _,by simp,hcoi,by rw [f2,mh f3],(by simp [gO,hgl,hk,hkk];omega),?_,λi hi => ?_,λi bx hb => ?_⟩
   ·rw [List.nodup_iff_pairwise_ne,List.pairwise_map]
    exact List.nodup_range.imp (λ{a b} hab e=>hab (zo e))
   ·rw [List.length_append,List.length_append]at hi
    simp only [List.length_cons,List.length_nil]at hi
    rw [List.getElem?_map,List.getElem?_range (by omega)];rfl
   ·simp only [gO,List.append_nil]at hb
    by_cases h1:i<os.length
    ·rw [List.append_assoc,List.getElem?_append_left (by simpa using h1),List.getElem?_map,List.getElem?_eq_getElem h1]at hb
     simp only [Option.map_some,so_]at hb
     subst hb
     refine⟨au i,by rw [List.getElem?_map,List.getElem?_range (by omega)];rfl,?_⟩
     rw [lK (f4 _ (List.getElem_mem h1))];exact f5 i h1
    ·rw [List.append_assoc,List.getElem?_append_right (by simpa using h1),List.length_map]at hb
     by_cases h2:i=os.length
     ·subst h2
      rw [Nat.sub_self]at hb
      simp only [List.cons_append,List.getElem?_cons_zero,so_]at hb
      subst hb
      refine⟨au os.length,by rw [List.getElem?_map,List.getElem?_range (by omega)];rfl,?_⟩
      rw [hk,<- hkk,f6]
      simp only [Box.ren,qV,pM fcs,gV,renL,ren]
     ·obtain ⟨d,hd⟩:∃d,i-os.length=d+1:=⟨i-os.length-1,by omega⟩
      rw [hd]at hb
      simp only [List.cons_append,List.getElem?_cons_succ,List.nil_append]at hb
      exact absurd hb (hgn _ _)
  | cons y ys' =>
   have hne:ys ≠ []:=by rw [hys];simp
   rw [<- hys]
   have hm:=f7 hne
   have hcs:gV n sz ys = .vs n sz 0 ys.length:=by rw [hys];rfl
   rw [hcs]at f6
   obtain ⟨G2,e2,inv2⟩:=hinv.fresh (m:=n) (c:=au k) (xs:=ys.map enc) (sz:=sz) (cs':=cs'++[.vs (0,tk+1) sz 0 ys.length]) hm f6 (by simp) (λj h1 h2=>by
    by_cases hj:j<cs'.length
    ·exact .inl (by rw [List.getElem_append_left hj,List.getElem_append_left hj])
    ·have:j=cs'.length:=by simp at h1;omega
     subst this
     exact .inr ⟨sz,0,ys.length,by simp,by simp⟩)
   have hne':∀i,au i≠(0,tk+1):=λi e=>by
    have:=congrArg Prod.snd e
    simp [au]at this
   have hnu:((List.range (k+1+(gI sz enc xs).length)).map au++[(0,tk+1)])[k+1+(gI sz enc xs).length]? = some (0,tk+1):=by
    rw [List.getElem?_append_right (by simp)];simp
   refine⟨G2,_,_,_,(List.range (k+1+(gI sz enc xs).length)).map au++[(0,tk+1)],vs.map co0,inv2,e2,by simp,hcoi,by rw [f2,mh f3],(by rw [hys];simp [gO,hgl,hk,hkk];omega),?_,λi hi => ?_,λi bx hb => ?_⟩
   ·rw [List.nodup_append]
    refine⟨?_,by simp,λa ha b hb e => ?_⟩
    ·rw [List.nodup_iff_pairwise_ne,List.pairwise_map]
     exact List.nodup_range.imp (λ{a b} hab e=>hab (zo e))
    ·obtain ⟨i,_,rfl⟩:=List.mem_map.1 ha
     rw [List.mem_singleton]at hb
     exact hne' i (e.trans hb)
   ·rw [List.length_append,List.length_append]at hi
    simp only [List.length_cons,List.length_nil]at hi
    rw [List.getElem?_append_left (by simp;omega),List.getElem?_map,List.getElem?_range (by omega)];rfl
   ·have hgo:gO sz enc ys=[some (bV sz enc ys)]:=by rw [hys];rfl
    by_cases h1:i<os.length
    ·rw [List.append_assoc,List.append_assoc,List.getElem?_append_left (by simpa using h1),List.getElem?_map,List.getElem?_eq_getElem h1]at hb
     simp only [Option.map_some,so_]at hb
     subst hb
     refine⟨au i,by rw [List.getElem?_append_left (by simp;omega),List.getElem?_map,List.getElem?_range (by omega)];rfl,?_⟩
     rw [if_neg (hne' i),if_neg (λe=>f8 i (by omega) e.symm),if_neg (λe=>by have:=zo e;omega),lK (f4 _ (List.getElem_mem h1))]
     exact f5 i h1
    ·rw [List.append_assoc,List.append_assoc,List.getElem?_append_right (by simpa using h1),List.length_map]at hb
     by_cases h2:i=os.length
     ·subst h2
      rw [Nat.sub_self]at hb
      simp only [List.cons_append,List.getElem?_cons_zero,so_]at hb
      subst hb
      refine⟨au os.length,by rw [List.getElem?_append_left (by simp;omega),List.getElem?_map,List.getElem?_range (by omega)];rfl,?_⟩
      rw [hk,<- hkk,if_neg (hne' k),if_neg (λe=>f8 k (Nat.le_refl _) e.symm),if_pos rfl]
      have e3:gV (au (k+1+(gI sz enc xs).length)) sz ys = .vs (au (k+1+(gI sz enc xs).length)) sz 0 ys.length:=by rw [hys];rfl
      rw [e3]
      simp only [Box.ren,qV,pM fcs,renL,ren]
      rw [mQ hnu]
     ·obtain ⟨d,hd⟩:∃d,i-os.length=d+1:=⟨i-os.length-1,by omega⟩
      rw [hd]at hb
      simp only [List.cons_append,List.getElem?_cons_succ,List.nil_append]at hb
      by_cases h3:d<(gT xs (none:Option Box)).length
      ·rw [List.getElem?_append_left h3]at hb
       exact absurd hb (hgn _ _)
      ·rw [List.getElem?_append_right (by omega),hgo]at hb
       have h4:d-(gT xs (none:Option Box)).length=0:=by
        have:=(List.getElem?_eq_some_iff.1 hb).1
        simpa using this
       rw [h4]at hb
       simp only [List.getElem?_cons_zero,so_]at hb
       subst hb
       have h5:i=k+1+(gI sz enc xs).length:=by omega
       rw [h5]
       exact⟨_,hnu,by rw [if_pos rfl];rfl⟩
 ·have hag:Ag (oU 0 (bs++[.cells s (cs++[gV (au (bs.length+1)) sz xs])])++[(au (bs.length+1),gB sz enc xs)]) (bK (bs++[.cells s (cs++[gV (au (bs.length+1)) sz xs])]++gI sz enc xs)) 1:=by
   obtain ⟨b1,hb1⟩:∃b1,b1=bs++[Box.cells s (cs++[gV (au (bs.length+1)) sz xs])]:=⟨_,rfl⟩
   have hbl:b1.length=bs.length+1:=by rw [hb1];simp
   rw [<- hb1,<- hbl]
   refine⟨Nat.one_pos,?_,λp hp => ?_⟩
   ·rw [List.map_append,List.nodup_append]
    refine⟨uH _ _,by simp,λa ha b hb e => ?_⟩
    simp only [List.map_cons,List.map_nil,List.mem_singleton]at hb
    obtain ⟨p,hp,rfl⟩:=List.mem_map.1 ha
    obtain ⟨j,b',h1,h2⟩:=lD hp
    rw [h1,hb]at e
    simp only [au,Prod.mk.injEq,and_true]at e
    have:=(List.getElem?_eq_some_iff.1 h2).1
    omega
   ·rcases List.mem_append.1 hp with hp|hp
    ·obtain ⟨j,b,rfl,hb⟩:=lD hp
     refine⟨Nat.one_pos,λx hx => ?_⟩
     simp only [so_]at hx
     subst hx
     rw [jA,Nat.zero_add,List.getElem?_append_left (List.getElem?_eq_some_iff.1 hb).1];exact hb
    ·simp only [List.mem_singleton]at hp
     subst hp
     refine⟨Nat.one_pos,λx hx => ?_⟩
     rw [jA,List.getElem?_append_right (Nat.le_refl _),Nat.sub_self]
     cases xs with
     | nil=>cases hx
     | cons y ys=>exact hx
  obtain ⟨σ',hg,hw⟩:=h hok _ 1 hag
  refine⟨σ',hg,gL body (λe σ hq => ?_) hw⟩
  obtain ⟨H,ag,he,vs,n,j,h1,h2,h3,h4,h5,hcs,h6,h7,h8,h9⟩:=hq
  have hf1:vs.flatMap frz=[]:=by
   cases hx:vs.flatMap frz with
   | nil=>rfl
   | cons a b=>rw [hx]at h2;simp at h2
  have h8':k<j:=by rw [hkk];exact Nat.lt_of_lt_of_le (ls_ _) (Nat.le_of_ble_eq_true h8)
  have hget:∀i (h:i<os.length),H[i]? = some (au i,some os[i]):=λi hi=>by
   have:=rU os 0 i hi
   rw [Nat.zero_add,<- h6,List.getElem?_take,if_pos (by omega)]at this
   exact this
  have hne:∀i,i<=k->n≠au i:=λi hi e=>by
   have hi1:∃b,H[i]? = some (au i,b):=by
    by_cases h0:i<os.length
    ·exact⟨_,hget i h0⟩
    ·have:i=bs.length:=by omega
     rw [this];exact⟨_,h7⟩
   obtain ⟨b,hi2⟩:=hi1
   have ea:=List.getElem?_eq_some_iff.1 hi2
   have eb:=List.getElem?_eq_some_iff.1 h9
   have:=gG ag.nd i j (by simpa using ea.1) (by simpa using eb.1) (by simp [ea.2,eb.2,e])
   omega
  have fin:∃(tk:Nat) (n:Nm),(vs.flatMap frz=[])/\uT (vs.map co0)=r/\okV 0 r=true/\(∀b∈os,b.ok 0=true)/\okL 0 cs'=true/\(∀i (h:i<os.length),σ.store (au i)=some os[i])/\σ.store (au k)=some (.cells s (cs'++[gV n sz ys]))/\(ys ≠ []->σ.store n=some (bV sz enc ys))/\∀i,i<=k->n≠au i :=
   ⟨0,n,hf1,h3,h4,λb hb=>List.all_eq_true.1 h5 b hb,hcs,λi hi=>ag.get (hget i hi),by rw [hkk];exact ag.get h7,λhy=>ag.get (by rw [h9,FN hy]),hne⟩
  have hres:xC C σ fn.results.toList=some vs:=xE ag h1
  rcases he with rfl|rfl
  ·exact⟨vs,hres,fin⟩
  ·exact⟨vs,hres,fin⟩
theorem BH {C:Cfg} {sl:Nat->V} {H:Hp} {α:Type} {enc:α->List D} {sz s:Nat} {cs:List V} {o:Box} {rs:List ResultVar} {r:V} {e:Exit} {ys:List α} {n:Nm} (he:e = .normal\/e = .ret) (vs:List V) (h1:zI C sl H rs vs) (h2:(vs.flatMap frz).all (λ_=>false)=true) (h3:uT (vs.map co0)=r) (hr:okV 0 r=true)
  (ho:o.ok 0=true) (hcs:okL 0 cs=true) (h0:H[0]? = some (au 0,some o)) (h4:H[1]? = some (au 1,some (.cells s (cs++[gV n sz ys])))) (j:Nat) (hj:Nat.blt 1 j=true) (h5:H[j]? = some (n,gB sz enc ys)):Jb C rs 1 [o] s cs sz enc ys r e sl H:=by
 refine⟨he,vs,n,j,h1,h2,h3,hr,by simp [ho],hcs,?_,h4,hj,h5⟩
 cases H with
 | nil=>cases h0
 | cons p H =>
  simp only [List.getElem?_cons_zero,so_]at h0
  subst h0
  rfl
theorem FnM.of_wHs1 {P:Program} {f:FuncId} {fn:Func} {body:Code} (C:Cfg) (hP:C.P=P) (hf:P.funcs[f]? = some fn) (hb:fn.body=some body) (hn:C.n=fn.ntmps)
  {α:Type} {enc:α->List D} {sz:Nat} {xs ys:List α} {s:Nat} {cs cs':List V} {args:List V} {b0 o0:Box} {r:V} (hl:args.length<=fn.ntmps) (hok:j5 C body=true)
  (h:wH C body (Jb C fn.results.toList 1 [o0] s cs' sz enc ys r) (wQ args) [(au 0,some b0),(au 1,some (.cells s (cs++[gV (au 2) sz xs]))),(au 2,gB sz enc xs)]) :
  FnM P f args ([b0]++[.cells s (cs++[gV (au 2) sz xs])]++gI sz enc xs) r ([some o0]++[some (.cells s (cs'++[gV (au (2+(gI sz enc xs).length)) sz ys]))]++gT xs none++gO sz enc ys) :=
 FnM.of_wHs (bs:=[b0]) (os:=[o0]) (xs:=xs) C hP hf hb hn hl hok rfl h
theorem BV {k:Nat}:∀{a b:List V},okL k a=true->okL k b=true->okL k (a++b)=true
 | [],b,_,h=>h
 | v::a,b,h1,h2=>by
  simp only [okL,Bool.and_eq_true]at h1
  simp only [List.cons_append,okL,Bool.and_eq_true]
  exact⟨h1.1,BV h1.2 h2⟩
section
variable {C:Cfg} {sl:Nat->V} {H:Hp} {all rest:List Oper} {K:(Nat->V)->Hp->Prop}
variable {d:Nat} {ty:TypeId} {pos:String} {after:Array Edge} {g:Option (Nat×Bool)}
theorem Am {α:Type} {enc:α->List D} {sz s:Nat} {xs ys:List α} {cs cs':List V} {b0 o0:Box} {f:Operand} {args:List Operand} {ats:Array TypeId} {fn:FuncId} {caps args0:List V} {r:V} (i0 ic iv:Nat) {m0 c m:Nm}
  (hc:FnM C.P fn args0 ([b0]++[.cells s (cs++[gV (au 2) sz xs])]++gI sz enc xs) r ([some o0]++[some (.cells s (cs'++[gV (au (2+(gI sz enc xs).length)) sz ys]))]++gT xs none++gO sz enc ys))
  (hf:ev sl f = .fn fn caps) (hb:aB C.P fn=true) (hb0:b0.ok 0=true) (ho0:o0.ok 0=true) (hcs:okL 0 cs=true) (hcs':okL 0 cs'=true)
  (h0:H[i0]? = some (m0,some b0)) (hcl:H[ic]? = some (c,some (.cells s (cs++[gV m sz xs])))) (hv:H[iv]? = some (m,gB sz enc xs))
  (hn:((args.map (ev sl)++caps).flatMap frz).all (λn=>false)=true) (ha:(args.map (ev sl)++caps).map co0=renL [m0,c] args0) (hok:okL 2 args0=true) (hr:okV 0 r=true) (hi : [i0,ic,iv].Nodup)
  (hw:aG all sl ⟨some d,.call ⟨.value f,args.toArray,ats⟩,ty,pos,after,g⟩=some true)
  (H':Nm->Hp) (hH:∀n,((H.set i0 (m0,some o0)).set ic (c,some (.cells s (cs'++[gV n sz ys])))).set iv (m,none)=H' n)
  (h:∀n:Nm,aL none C all K rest (upd sl d r) (H' n++[(n,gB sz enc ys)])) :
  aL none C all K (⟨some d,.call ⟨.value f,args.toArray,ats⟩,ty,pos,after,g⟩::rest) sl H:=by
 have hi2 : [i0,ic].Nodup:=by
  simp only [List.nodup_cons,List.mem_cons,List.not_mem_nil,or_false,not_or,not_false_eq_true,List.nodup_nil,and_true]at hi ⊢
  exact hi.1.1
 have hne0:i0≠iv:=by
  simp only [List.nodup_cons,List.mem_cons,List.not_mem_nil,or_false,not_or]at hi
  exact hi.1.2
 have hnec:ic≠iv:=by
  simp only [List.nodup_cons,List.mem_cons,List.not_mem_nil,or_false,not_or]at hi
  exact hi.2.1
 have hok3:okL 3 args0=true:=kW (by omega) _ hok
 have ren0:∀ρ:List Nm,b0.ren ρ=b0:=λρ=>lK hb0
 have reno:∀ρ:List Nm,o0.ren ρ=o0:=λρ=>lK ho0
 have renc:∀(ρ:List Nm) (v:V),Box.ren ρ (.cells s (cs++[v])) = .cells s (cs++[ren ρ v]):=λρ v=>by simp only [Box.ren,qV,pM hcs,renL]
 have renc':∀(ρ:List Nm) (v:V),Box.ren ρ (.cells s (cs'++[v])) = .cells s (cs'++[ren ρ v]):=λρ v=>by simp only [Box.ren,qV,pM hcs',renL]
 have okc:∀(k:Nat) (v:V),okV k v=true->Box.ok k (.cells s (cs++[v]))=true:=λk v hv=>BV (kW (Nat.zero_le _) _ hcs) (by simp only [okL,hv,Bool.and_self])
 have okc':∀(k:Nat) (v:V),okV k v=true->Box.ok k (.cells s (cs'++[v]))=true:=λk v hv=>BV (kW (Nat.zero_le _) _ hcs') (by simp only [okL,hv,Bool.and_self])
 have ok0:∀k,b0.ok k=true:=λk=>Box.ok_mono (Nat.zero_le _) hb0
 have oko:∀k,o0.ok k=true:=λk=>Box.ok_mono (Nat.zero_le _) ho0
 have okv:∀(k z:Nat) (xs:List (List D)),Box.ok k (.vec z xs)=true:=λ_ _ _=>rfl
 have okG:∀(k i:Nat) (zs:List α),i<k->okV k (gV (au i) sz zs)=true:=λk i zs hik=>by
  cases zs with
  | nil=>rfl
  | cons z zs=>exact kT hik
 cases xs with
 | nil =>
  have hcl':H[ic]? = some (c,some (.cells s (cs++[.nil]))):=hcl
  have hv':∀(p q:Nm×Option Box),((H.set i0 p).set ic q).set iv (m,none)=(H.set i0 p).set ic q:=λp q=>oH (by rw [List.getElem?_set_ne hnec,List.getElem?_set_ne hne0];exact hv)
  have hl:iM H [i0,ic]=some [(m0,b0),(c,.cells s (cs++[.nil]))]:=by simp only [iM,h0,hcl']
  have hS : [b0,.cells s (cs++[.nil])].map (λb=>b.ren ([(m0,b0),(c,Box.cells s (cs++[.nil]))].map (·.1)))=[(m0,b0),(c,Box.cells s (cs++[.nil]))].map (·.2):=by
   simp only [List.map_cons,List.map_nil,ren0,renc];rfl
  have hSok : [b0,Box.cells s (cs++[.nil])].all (λb=>b.ok [i0,ic].length)=true:=by
   simp only [List.all_cons,List.all_nil,ok0,okc _ .nil rfl,Bool.and_self]
  cases ys with
  | nil =>
   refine vK (Sin:=[b0,.cells s (cs++[.nil])]) (Sout:=[some o0,some (.cells s (cs'++[.nil]))]) [i0,ic] 0 hc hf hb hl hS hSok hn ha hok (nY (Nat.zero_le _) r hr) rfl hi2 ?_ rfl hw (λν => ?_)
   ·simp only [okOut,oko,okc' _ .nil rfl,Bool.and_self]
   rw [mh hr]
   refine rC (λn => ?_)
   have e:=h n
   rw [<- hH n,hv']at e
   have e2:setH H (outs [m0,c] [i0,ic] [m0,c] [some o0,some (.cells s (cs'++[.nil]))])++news [m0,c] [] []=(H.set i0 (m0,some o0)).set ic (c,some (.cells s (cs'++[.nil]))):=by
    simp only [outs,setH,news,Option.map_some,reno,renc',List.append_nil];rfl
   show aL none C all K rest (upd sl d r) ((setH H (outs [m0,c] [i0,ic] [m0,c] [some o0,some (.cells s (cs'++[.nil]))])++news [m0,c] [] [])++[(n,none)])
   rw [e2];exact e
  | cons y ys =>
   refine vK (Sin:=[b0,.cells s (cs++[.nil])]) (Sout:=[some o0,some (.cells s (cs'++[gV (au 2) sz (y::ys)])),some (.vec sz ((y::ys).map enc))]) [i0,ic] 1 hc hf hb hl hS hSok hn ha hok (nY (Nat.zero_le _) r hr) rfl hi2 ?_ rfl hw (λν => ?_)
   ·show okOut 3 _=true
    simp only [okOut,oko,okc' 3 _ (okG 3 2 (y::ys) (by decide)),okv,Bool.and_self]
   rw [mh hr]
   have e:=h (ν 0)
   rw [<- hH (ν 0),hv']at e
   have e2:ren [m0,c,ν 0] (gV (au 2) sz (y::ys))=gV (ν 0) sz (y::ys):=by rw [EX,mQ (i:=2) (n:=ν 0) rfl]
   have e4:setH H (outs [m0,c,ν 0] [i0,ic] [m0,c] [some o0,some (.cells s (cs'++[gV (au 2) sz (y::ys)])),some (.vec sz ((y::ys).map enc))])++news [m0,c,ν 0] [ν 0] [some (Box.vec sz ((y::ys).map enc))]=(H.set i0 (m0,some o0)).set ic (c,some (.cells s (cs'++[gV (ν 0) sz (y::ys)])))++[(ν 0,gB sz enc (y::ys))]:=by
    simp only [outs,setH,news,Option.map_some,reno,renc',e2];rfl
   show aL none C all K rest (upd sl d r) (setH H (outs [m0,c,ν 0] [i0,ic] [m0,c] [some o0,some (.cells s (cs'++[gV (au 2) sz (y::ys)])),some (.vec sz ((y::ys).map enc))])++news [m0,c,ν 0] [ν 0] [some (Box.vec sz ((y::ys).map enc))])
   rw [e4];exact e
 | cons x xs =>
  have hl:iM H [i0,ic,iv]=some [(m0,b0),(c,.cells s (cs++[.vs m sz 0 (x::xs).length])),(m,.vec sz ((x::xs).map enc))]:=by simp only [iM,h0,hcl,hv];rfl
  have ha2:(args.map (ev sl)++caps).map co0=renL [m0,c,m] args0:=by
   rw [ha,show [m0,c,m]=[m0,c]++[m] from rfl]
   exact (wW (a:=[m0,c]) (b:=[m]) hok).symm
  have hS : [b0,.cells s (cs++[.vs (au 2) sz 0 (x::xs).length]),.vec sz ((x::xs).map enc)].map (λb=>b.ren ([(m0,b0),(c,Box.cells s (cs++[.vs m sz 0 (x::xs).length])),(m,Box.vec sz ((x::xs).map enc))].map (·.1)))=[(m0,b0),(c,Box.cells s (cs++[.vs m sz 0 (x::xs).length])),(m,Box.vec sz ((x::xs).map enc))].map (·.2):=by
   simp only [List.map_cons,List.map_nil,ren0,renc,ren]
   rw [mQ (i:=2) (n:=m) rfl];rfl
  have hSok : [b0,Box.cells s (cs++[.vs (au 2) sz 0 (x::xs).length]),.vec sz ((x::xs).map enc)].all (λb=>b.ok [i0,ic,iv].length)=true:=by
   have h3:okV 3 (.vs (au 2) sz 0 (x::xs).length)=true:=okG 3 2 (x::xs) (by decide)
   show List.all _ (λb:Box=>b.ok 3)=true
   simp only [List.all_cons,List.all_nil,ok0,okc 3 _ h3,okv,Bool.and_self]
  cases ys with
  | nil =>
   refine vK (Sin:=[b0,.cells s (cs++[.vs (au 2) sz 0 (x::xs).length]),.vec sz ((x::xs).map enc)]) (Sout:=[some o0,some (.cells s (cs'++[.nil])),none]) [i0,ic,iv] 0 hc hf hb hl hS hSok hn ha2 hok3 (nY (Nat.zero_le _) r hr) rfl hi ?_ rfl hw (λν => ?_)
   ·simp only [okOut,oko,okc' _ .nil rfl,Bool.and_self]
   rw [mh hr]
   refine rC (λn => ?_)
   have e:=h n
   rw [<- hH n]at e
   have e2:setH H (outs [m0,c,m] [i0,ic,iv] [m0,c,m] [some o0,some (.cells s (cs'++[.nil])),none])++news [m0,c,m] [] []=((H.set i0 (m0,some o0)).set ic (c,some (.cells s (cs'++[.nil])))).set iv (m,none):=by
    simp only [outs,setH,news,Option.map_some,Option.map_none,reno,renc',List.append_nil];rfl
   show aL none C all K rest (upd sl d r) ((setH H (outs [m0,c,m] [i0,ic,iv] [m0,c,m] [some o0,some (.cells s (cs'++[.nil])),none])++news [m0,c,m] [] [])++[(n,none)])
   rw [e2];exact e
  | cons y ys =>
   refine vK (Sin:=[b0,.cells s (cs++[.vs (au 2) sz 0 (x::xs).length]),.vec sz ((x::xs).map enc)]) (Sout:=[some o0,some (.cells s (cs'++[gV (au 3) sz (y::ys)])),none,some (.vec sz ((y::ys).map enc))]) [i0,ic,iv] 1 hc hf hb hl hS hSok hn ha2 hok3 (nY (Nat.zero_le _) r hr) rfl hi ?_ rfl hw (λν => ?_)
   ·show okOut 4 _=true
    simp only [okOut,oko,okc' 4 _ (okG 4 3 (y::ys) (by decide)),okv,Bool.and_self]
   rw [mh hr]
   have e:=h (ν 0)
   rw [<- hH (ν 0)]at e
   have e2:ren [m0,c,m,ν 0] (gV (au 3) sz (y::ys))=gV (ν 0) sz (y::ys):=by rw [EX,mQ (i:=3) (n:=ν 0) rfl]
   have e4:setH H (outs [m0,c,m,ν 0] [i0,ic,iv] [m0,c,m] [some o0,some (.cells s (cs'++[gV (au 3) sz (y::ys)])),none,some (.vec sz ((y::ys).map enc))])++news [m0,c,m,ν 0] [ν 0] [some (Box.vec sz ((y::ys).map enc))]=((H.set i0 (m0,some o0)).set ic (c,some (.cells s (cs'++[gV (ν 0) sz (y::ys)])))).set iv (m,none)++[(ν 0,gB sz enc (y::ys))]:=by
    simp only [outs,setH,news,Option.map_some,Option.map_none,reno,renc',e2];rfl
   show aL none C all K rest (upd sl d r) (setH H (outs [m0,c,m,ν 0] [i0,ic,iv] [m0,c,m] [some o0,some (.cells s (cs'++[gV (au 3) sz (y::ys)])),none,some (.vec sz ((y::ys).map enc))])++news [m0,c,m,ν 0] [ν 0] [some (Box.vec sz ((y::ys).map enc))])
   rw [e4];exact e
end
section
variable {C:Cfg} {sl:Nat->V} {H:Hp} {q:Qm} {all rest:List Oper} {K:(Nat->V)->Hp->Prop}
variable {dst:Option Tmp} {d:Nat} {t ty:TypeId} {pos:String} {after:Array Edge} {g:Option (Nat×Bool)}
theorem em_nil {α:Type} (xs:List α):xs=[]\/xs ≠ []:=by cases xs with
 | nil=>exact .inl rfl
 | cons x xs=>exact .inr (by simp)
theorem h_clip {α:Type} {enc:α->List D} {sz:Nat} {xs:List α} {e:TypeId} {x hi m:Operand} (hu:C.P.underlying t=some (.slice e)) (hs:szT C.P e=some sz) (hne:xs ≠ []) (hx:ev sl x=vL enc xs) (hh:ev sl hi=vI (xs.length:Int)) (hm:ev sl m=vI (xs.length:Int))
  (hw:aG all sl ⟨dst,.slice t x none (some hi) (some m),ty,pos,after,g⟩=some true) (h:aL q C all K rest (cK sl dst (vL enc xs)) H):aL q C all K (⟨dst,.slice t x none (some hi) (some m),ty,pos,after,g⟩::rest) sl H :=
 aH _ hw (by
  show gz C.P t (ev sl x) none (some (ev sl hi)) (some (ev sl m))=_
  rw [hx,hh,hm]
  have h0:0<xs.length:=List.length_pos_iff.2 hne
  have h1:decide ((xs.length:Int)=0)=false:=decide_eq_false (by omega)
  have h3:oN none (some (vI (xs.length:Int))) (some (vI (xs.length:Int)))=false:=by simp only [oN,is0,h1,Bool.false_and,Bool.and_false]
  have h4:Az none (some (vI (xs.length:Int))) (some (vI (xs.length:Int))) xs.length=true:=by simp [Az,Hu,isN]
  simp only [gz,hu,hs,List.length_map,h3,h4,cond_true,cond_false]) h
theorem h_clip0 {α:Type} {enc:α->List D} {sz:Nat} {e:TypeId} {x hi m:Operand} (hu:C.P.underlying t=some (.slice e)) (hs:szT C.P e=some sz) (hx:ev sl x=vL enc ([]:List α)) (hh:ev sl hi=vI 0) (hm:ev sl m=vI 0)
  (hw:aG all sl ⟨dst,.slice t x none (some hi) (some m),ty,pos,after,g⟩=some true) (h:aL q C all K rest (cK sl dst .nil) H):aL q C all K (⟨dst,.slice t x none (some hi) (some m),ty,pos,after,g⟩::rest) sl H :=
 aH _ hw (by
  show gz C.P t (ev sl x) none (some (ev sl hi)) (some (ev sl m))=_
  rw [hx,hh,hm]
  simp only [gz,hu,hs,List.map_nil]
  rfl) h
end
end Go.Eng

