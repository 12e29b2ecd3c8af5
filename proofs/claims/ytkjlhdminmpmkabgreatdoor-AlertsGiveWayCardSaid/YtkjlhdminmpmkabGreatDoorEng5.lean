/-
  The engine: what the machine does to data, shown once for all programs (part 5).
-/
import Derived.Test.YtkjlhdminmpmkabGreatDoorEng4
import Derived.Lib.LaidTab
import Derived.Lib.ItoaNum
import Derived.Deep.Draws
import Derived.Below
import Derived.Lib.IndexMore
import Derived.Lib.TrimByte
import Derived.Lib.Join
import Derived.Lib.Repeat
import Derived.Lib.TrailingZeros
import Derived.Lib.SlTrimSet
import Derived.Shelf.Strings.FuncGrows
import Derived.Shelf.Unicode.DecodeSlow
import Derived.Lib.ValidU
/-
  THE ENGINE: a slice that is cut in its own box and grows again; boxes of slices that may be empty; maps whose keys are structs.
-/
namespace Go.Eng
set_option linter.unusedSectionVars false
variable [DM]
set_option linter.unusedVariables false
set_option linter.unusedSimpArgs false
section
variable {C:Cfg} {Q:QH} {sl:Nat->V} {H:Hp} {c:Code}
end
section
variable {C:Cfg} {sl:Nat->V} {H:Hp} {q:Qm} {all rest:List Oper} {K:(Nat->V)->Hp->Prop}
variable {dst:Option Tmp} {d:Nat} {t ty:TypeId} {pos:String} {after:Array Edge} {g:Option (Nat×Bool)}
end
def cutG {β:Type} (env:β->List (Nat×V)) (Hs:β->Hp) (R:β->Prop):(Nat->V)->Hp->Prop:=λsl H =>
 ∀(C:Cfg) (b:Code) (Q:QH),(∀x,R x->∀sl' H',Eng.pick (env x) sl'=env x->Eng.pre (Hs x) H'->wH C b Q sl' H')->wH C b Q sl H
theorem Pe {C:Cfg} {c b:Code} {Q Q':QH} {sl:Nat->V} {H:Hp} {β:Type} (env:β->List (Nat×V)) (Hs:β->Hp) (R:β->Prop) (h1:wH C c (F4 (cutG env Hs R) (F4 (wH C b Q) Q')) sl H)
  (h2:∀x,R x->∀sl' H',Eng.pick (env x) sl'=env x->Eng.pre (Hs x) H'->wH C b Q sl' H'):wH C c (F4 (wH C b Q) Q') sl H:=by
 refine M8 (λe sl H h => ?_) h1
 cases e with
 | normal=>exact h C b Q h2
 | _=>exact h
end Go.Eng

/-
  THE ENGINE: rules for arrays of bytes in a box, and for bytes to a string and back.
-/
namespace Go.Eng
set_option linter.unusedSectionVars false
variable [DM]
open Go
set_option linter.unusedVariables false
set_option linter.unusedSimpArgs false
section
variable {C:Cfg} {sl:Nat->V} {H:Hp} {q:Qm} {all rest:List Oper} {K:(Nat->V)->Hp->Prop}
variable {dst:Option Tmp} {d:Nat} {t ty:TypeId} {pos:String} {after:Array Edge} {g:Option (Nat×Bool)}
section
variable {xs:List Int} {m:Nat} {nm:Nm} {x l hi:Operand} {k k':IntKind} {a b:Int} {u u':Unit}
end
end
end Go.Eng

/-
  THE ENGINE: strconv.Itoa, by its contract off the shelf; the table that it reads is known.
-/
namespace Go.Eng
set_option linter.unusedSectionVars false
variable [DM]
open Go.Sort
set_option linter.unusedVariables false
set_option linter.unusedSimpArgs false
theorem QG {P:Program} {G:Gh} {w:World} {name:String} {k:IntKind} {zs:List Int} (hl:∀w0,zx w0->Lib.TabIs P w0 name k zs) (hz:zs ≠ []) (h:Kn G w):Lib.TabIs P w name k zs:=by
 obtain ⟨w0,h1,h2⟩:=h
 have ht:=hl w0 h1
 unfold Lib.TabIs World.var? at ht ⊢
 cases hg:P.globalNamed name with
 | none=>rw [hg]at ht;simp at ht
 | some g =>
  rw [hg]at ht
  simp only [ob_]at ht ⊢
  have hlt:g<w0.heap.size:=by
   rcases Nat.lt_or_ge g w0.heap.size with h|h
   ·exact h
   ·rw [Array.getElem?_eq_none h]at ht;cases ht
  have hc:∀o,w.cell? ⟨g,o,Option.none⟩=w0.cell? ⟨g,o,Option.none⟩:=λo=>(h2 g o hlt).2
  cases hb:w0.heap[g]? with
  | none=>rw [hb]at ht;cases ht
  | some ob =>
   rw [hb]at ht
   cases ob with
   | cells cs t fr =>
    simp only [so_]at ht
    have e0:∀o,w0.cell? ⟨g,o,Option.none⟩=cs[o]? := λo=>by simp [World.cell?,hb]
    cases hw:w.heap[g]? with
    | none =>
     exfalso
     have:=hc 0
     rw [e0]at this
     simp only [World.cell?,hw]at this
     rw [ht]at this
     cases zs with
     | nil=>exact hz rfl
     | cons z zs=>simp at this
    | some ob' =>
     cases ob' with
     | cells cs' t' fr' =>
      have e1:∀o,w.cell? ⟨g,o,Option.none⟩=cs'[o]? := λo=>by simp [World.cell?,hw]
      have:cs'=cs:=Array.ext_getElem? (λo=>by rw [<- e1,<- e0,hc])
      rw [this,ht]
     | _ =>
      exfalso
      have:=hc 0
      rw [e0]at this
      simp only [World.cell?,hw]at this
      rw [ht]at this
      cases zs with
      | nil=>exact hz rfl
      | cons z zs=>simp at this
   | _=>cases ht
def Nf (n:Int):Option ByteArray:=if -9223372036854775808<=n/\n<=9223372036854775807 then some ⟨(Lib.itoa n).toArray⟩else none
theorem itoa_ok {P:Program} {f:FuncId}
  (hC : ∀ (n : Int), -9223372036854775808 ≤ n → n ≤ 9223372036854775807 → ∀ w : World, Lib.TabIs P w "internal/strconv.uint64pow10" .u64 Lib.pow10Tab →
   Calls P f #[.int .i64 n] w λe w'=>e = .returned (.string ⟨(Lib.itoa n).toArray⟩)/\∃k os,w'=grow (w.drewN k) os)
  (hl : ∀ w0, zx w0 → Lib.TabIs P w0 "internal/strconv.uint64pow10" .u64 Lib.pow10Tab) {n : Int} {r : ByteArray} (hF : Nf n = some r) : FnM P f [.d (.int .i64 n)] [] (.d (.str r)) [] := by
 unfold Nf at hF
 split at hF
 ·rename_i hn
  simp only [so_]at hF
  subst hF
  intro G w vargs hinv hargs
  obtain ⟨v,rfl,hv⟩:=hargs.alone
  have hv':RepD G.imm w v (.int .i64 n):=hv.d_inv
  cases hv' with
  | int =>
   refine (hC n hn.1 hn.2 w (QG hl (by decide) hinv.kn)).mono ?_
   rintro e w' ⟨rfl,k,os,rfl⟩
   obtain ⟨i2,e2⟩:=hinv.more (w':=grow (w.drewN k) os) (G':=G) (U':=λ_=>False) (λb' hb'=>by
    show (w.heap++os)[b']? = _
    rw [Array.getElem?_append_left hb']) (by simp [grow,World.drewN]) rfl rfl rfl (λ_ _ h=>h) (λ_ _ h => .inl h) rfl (λ_ h=>h) (λ_=>Nat.le_add_right w.drawn k)
   exact⟨_,G,_,1,_,[],rfl,i2,.d (.str _),rfl,List.nodup_nil,λi hi=>absurd hi (Nat.not_lt_zero i),λi bx hb=>by simp at hb⟩
 ·cases hF
end Go.Eng

/-
  THE ENGINE: functions over literals, by their contracts off the shelf.
-/
namespace Go.Eng
set_option linter.unusedSectionVars false
variable [DM]
open Go.RowKit (Below)
set_option linter.unusedVariables false
set_option linter.unusedSimpArgs false
def isLit:D->Bool
 | .int _ _ | .bool _ | .str _=>true
 | _=>false
def lv:D->Value
 | .int k n => .int k n
 | .bool b => .bool b
 | .str s => .string s
 | _=>undef
theorem lit_inv {I:Nat->Nat->Prop} {w:World} {v:Value} {d:D} (h:RepD I w v d) (hl:isLit d=true):v=lv d:=by
 cases h with
 | int k n=>rfl
 | bool b=>rfl
 | str s=>rfl
 | agg=>cases hl
 | sl0=>cases hl
 | sl=>cases hl
 | ptr=>cases hl
 | nilp=>cases hl
theorem KQ {G:Gh} {w:World}:∀{vs:List Value} {ds:List D},uq G w vs (ds.map V.d)->ds.all isLit=true->vs=ds.map lv
 | [],[],_,_=>rfl
 | [],d::ds,h,_=>by have:=h.1;simp at this
 | v::vs,[],h,_=>by have:=h.1;simp at this
 | v::vs,d::ds,h,hl=>by
  simp only [List.all_cons,Bool.and_eq_true]at hl
  obtain ⟨hlen,h⟩:=h
  have h0:RepV G w v (.d d):=h 0 (by simp) (by simp)
  have e:=lit_inv h0.d_inv hl.1
  have:uq G w vs (ds.map V.d):=⟨by simpa using hlen,λi h1 h2=>by
   have:=h (i+1) (by simpa using h1) (by simpa using h2)
   simpa using this⟩
  rw [e,KQ this hl.2];rfl
theorem Js {P:Program} {f:FuncId} (ds:List D) (v:Value) (r:V) (ha:ds.all isLit=true) (hr:∀G w,RepV G w v (ren [] r))
  (hC:∀(G:Gh) (w:World),Kn G w->Calls P f (ds.map lv).toArray w λe w'=>e = .returned v/\Below w.heap.size w w'/\(dmK=true->w.drawn<=w'.drawn)):FnM P f (ds.map V.d) [] r []:=by
 intro G w vargs hinv hargs
 rw [KQ hargs ha]
 refine (hC G w hinv.kn).mono ?_
 rintro e w' ⟨rfl,hb,hd⟩
 obtain ⟨i2,e2⟩:=hinv.more (w':=w') (G':=G) (U':=λ_=>False) (λb' hb'=>hb.block b' hb') hb.size hb.os hb.tape hb.output (λ_ _ h=>h) (λ_ _ h => .inl h) rfl (λ_ h=>h) hd
 exact⟨_,G,_,1,_,[],rfl,i2,hr _ _,rfl,List.nodup_nil,λi hi=>absurd hi (Nat.not_lt_zero i),λi bx hb=>by simp at hb⟩
def CB (s t:ByteArray):Option Bool:=if s.size<4294967281 then some (Lib.contains s.data.toList t.data.toList)else none
theorem Jq {P:Program} {f:FuncId} {g:Nat}
  (hC:∀(s t:ByteArray) (m:Int) (w:World),s.size<4294967281->w.cell? ⟨g,0,Option.none⟩=some (.int .i64 m)->Calls P f #[.string s,.string t] w λe w'=>e = .returned (.bool (Lib.contains s.data.toList t.data.toList))/\w'=w)
  (hl:∀w0,zx w0->∃m,w0.cell? ⟨g,0,Option.none⟩=some (.int .i64 m)) {s t:ByteArray} {r:Bool} (h:CB s t=some r):FnM P f [.d (.str s),.d (.str t)] [] (.d (.bool r)) []:=by
 unfold CB at h
 split at h
 ·rename_i hs
  simp only [so_]at h
  subst h
  refine Js [.str s,.str t] _ _ rfl (λG w => .d (.bool _)) (λG w hk => ?_)
  obtain ⟨w0,h1,h2⟩:=hk
  obtain ⟨m,hm⟩:=hl w0 h1
  have hb:g<w0.heap.size:=by
   rcases Nat.lt_or_ge g w0.heap.size with h|h
   ·exact h
   ·have e:w0.heap[g]? = none:=Array.getElem?_eq_none h
    simp only [World.cell?,e]at hm
    cases hm
  exact (hC s t m w hs (by rw [(h2 g 0 hb).2];exact hm)).mono (λe w' hw=>⟨hw.1,by rw [hw.2];exact⟨Below.refl _ _,λ_=>Nat.le_refl _⟩⟩)
 ·cases h
end Go.Eng

/-
  THE ENGINE: strings.Join, strings.Repeat, bits.TrailingZeros, by their contracts off the shelf.
-/
namespace Go.Eng
set_option linter.unusedSectionVars false
variable [DM]
open Go
open Go.RowKit (Below)
set_option linter.unusedVariables false
set_option linter.unusedSimpArgs false
def Mw (xs:List ByteArray) (sep:ByteArray):Option ByteArray :=
 if xs.length<=140737488355328/\(Lib.join (xs.map (·.data.toList)) sep.data.toList).length<=140737488355328 then some ⟨(Lib.join (xs.map (·.data.toList)) sep.data.toList).toArray⟩else none
theorem join_ok (hdm:dmK=false) {P:Program} {f:FuncId}
  (h0:∀(a:Option Addr) (c:Nat) (sep:ByteArray) (w:World),Calls P f #[.slice a 0 c,.string sep] w λe w'=>e = .returned (.string ⟨#[]⟩)/\w'=w)
  (hC:∀(bk o c:Nat) (xs:List ByteArray) (sep:ByteArray) (w:World),(∀(j:Nat) x,xs[j]? = some x->w.cell? ⟨bk,o+j,none⟩=some (.string x))->bk<w.heap.size->xs.length<=140737488355328->xs.length<=c ->
   (Lib.join (xs.map (·.data.toList)) sep.data.toList).length<=140737488355328 ->
   Calls P f #[.slice (some ⟨bk,o,none⟩) xs.length c,.string sep] w λe w'=>e = .returned (.string ⟨(Lib.join (xs.map (·.data.toList)) sep.data.toList).toArray⟩)/\Below w.heap.size w w')
  {xs:List ByteArray} {sep r:ByteArray} (hF:Mw xs sep=some r):FnM P f [vL eS xs,vS sep] [] (vS r) []:=by
 unfold Mw at hF
 split at hF
 ·rename_i hx
  simp only [so_]at hF
  subst hF
  intro G w vargs hinv hargs
  have hfin:∀w',Below w.heap.size w w'->∃v G' S' tk' U' ν,Ending.returned (.string ⟨(Lib.join (xs.map (·.data.toList)) sep.data.toList).toArray⟩) = .returned v/\Inv ⟨G,w,DZ G []⟩ G' w' S' tk' U'/\RepV G' w' v (ren ν (vS ⟨(Lib.join (xs.map (·.data.toList)) sep.data.toList).toArray⟩)) /\
    ν.length=([]:List (Option Box)).length/\ν.Nodup/\(∀i,i<([]:List Box).length->ν[i]? = some (aD i))/\∀(i:Nat) (bx:Box),([]:List (Option Box))[i]? = some (some bx)->∃n,ν[i]? = some n/\S' n=some (bx.ren ν):=by
   intro w' hb
   obtain ⟨i2,e2⟩:=hinv.more (w':=w') (G':=G) (U':=λ_=>False) (λb' hb'=>hb.block b' hb') hb.size hb.os hb.tape hb.output (λ_ _ h=>h) (λ_ _ h => .inl h) rfl (λ_ h=>h) (λh=>by rw [hdm]at h;cases h)
   exact⟨_,G,_,1,_,[],rfl,i2,.d (.str _),rfl,List.nodup_nil,λi hi=>absurd hi (Nat.not_lt_zero i),λi bx hb=>by simp at hb⟩
  obtain ⟨hl,ha⟩:=hargs
  obtain ⟨v0,v1,rfl⟩:∃v0 v1,vargs=[v0,v1]:=by
   match vargs,hl with
   | [v0,v1],_=>exact⟨v0,v1,rfl⟩
  have r0:RepV G w v0 (vL eS xs):=ha 0 (by simp) (by simp)
  have r1:RepV G w v1 (vS sep):=ha 1 (by simp) (by simp)
  rw [r1.d_inv.str_inv]
  have r0':=r0.d_inv
  generalize hys:xs.map eS=ys at r0'
  cases r0' with
  | sl0 a cap =>
   have hn:xs=[]:=by simpa using hys
   subst hn
   refine (h0 a cap sep w).mono ?_
   rintro e w' ⟨rfl,rfl⟩
   exact hfin _ (Below.refl _ _)
  | sl b off cap sz _ us hcap hsz hI hc ho hr =>
   have hlen:ys.length=xs.length:=by rw [<- hys];simp
   have hcell:∀(j:Nat) x,xs[j]? = some x->w.cell? ⟨b,off+j,none⟩=some (.string x):=by
    intro j x hj
    obtain ⟨hj1,hj2⟩:=List.getElem?_eq_some_iff.1 hj
    have hj':j<ys.length:=by omega
    have hy:ys[j]=[D.str x]:=by
     subst hys
     rw [List.getElem_map,hj2];rfl
    have hz:sz=1:=by rw [<- hsz j hj',hy];rfl
    subst hz
    have h2:=hc j 0 hj' (by omega)
    have h3:=hr j 0 hj' (by rw [hy];exact Nat.zero_lt_one)
    have h4:us j 0 = .string x:=by
     have:ys[j][0]'(by rw [hy];exact Nat.zero_lt_one)=D.str x:=by simp [hy]
     rw [this]at h3
     exact h3.str_inv
    rw [h4]at h2
    simpa using h2
   rw [hlen]
   cases xs with
   | nil =>
    refine (h0 (some ⟨b,off,none⟩) cap sep w).mono ?_
    rintro e w' ⟨rfl,rfl⟩
    exact hfin _ (Below.refl _ _)
   | cons x xs =>
    have hb:b<w.heap.size:=by
     rcases Nat.lt_or_ge b w.heap.size with h|h
     ·exact h
     ·have h1:=hcell 0 x rfl
      have e:w.heap[b]? = none:=Array.getElem?_eq_none h
      simp only [World.cell?,e]at h1
      cases h1
    refine (hC b off cap (x::xs) sep w hcell hb hx.1 (by omega) hx.2).mono ?_
    rintro e w' ⟨rfl,hbw⟩
    exact hfin _ hbw
 ·cases hF
end Go.Eng

/-
  THE ENGINE: results of which the first is a new slice and the others are data.
-/
namespace Go.Eng
set_option linter.unusedSectionVars false
variable [DM]
set_option linter.unusedVariables false
section
variable {C:Cfg} {sl:Nat->V} {H:Hp} {q:Qm} {all rest:List Oper} {K:(Nat->V)->Hp->Prop}
variable {dst:Option Tmp} {d:Nat} {t ty:TypeId} {pos:String} {after:Array Edge} {g:Option (Nat×Bool)}
end
end Go.Eng

/-
  THE ENGINE: strings.ContainsFunc by its contract off the shelf (only where draws are not counted).
-/
namespace Go.Eng
set_option linter.unusedSectionVars false
variable [DM]
open Go.Proofs
open Go.RowKit (Below)
set_option linter.unusedVariables false
set_option linter.unusedSimpArgs false
def KV (s:ByteArray):Option Bool:=if s.size<=9223372036854775807 then some (Lib.validD s.data.toList)else none
theorem tabs_kn {G:Gh} {w:World} {g3 g4:Nat} (h:Kn G w) (hl:∀w0,zx w0->Lib.Utf8Tabs g3 g4 w0):Lib.Utf8Tabs g3 g4 w:=by
 obtain ⟨w0,h1,h2⟩:=h
 obtain ⟨a1,a2⟩:=hl w0 h1
 have key:∀(b o:Nat) (v:Value),w0.cell? ⟨b,o,Option.none⟩=some v->w.cell? ⟨b,o,Option.none⟩=some v:=λb o v hv=>by
  have hb:b<w0.heap.size:=by
   rcases Nat.lt_or_ge b w0.heap.size with h|h
   ·exact h
   ·have e:w0.heap[b]? = none:=Array.getElem?_eq_none h
    simp only [World.cell?,e]at hv
    cases hv
  rw [(h2 b o hb).2];exact hv
 exact⟨λc hc=>key _ _ _ (a1 c hc),λi hi=>⟨key _ _ _ (a2 i hi).1,key _ _ _ (a2 i hi).2⟩⟩
theorem P6 (hdm:dmK=false) {P:Program} {f:FuncId} {g3 g4:Nat}
  (hC:∀(s:ByteArray) (w:World),s.size<=9223372036854775807->Lib.Utf8Tabs g3 g4 w->Calls P f #[.string s] w λe w'=>e = .returned (.bool (Lib.validD s.data.toList))/\Below w.heap.size w w')
  (hl:∀w0,zx w0->Lib.Utf8Tabs g3 g4 w0) {s:ByteArray} {r:Bool} (h:KV s=some r):FnM P f [.d (.str s)] [] (.d (.bool r)) []:=by
 unfold KV at h
 split at h
 ·rename_i hs
  simp only [so_]at h
  subst h
  exact Js [.str s] _ _ rfl (λG w => .d (.bool _)) (λG w hk=>(hC s w hs (tabs_kn hk hl)).mono (λe w' hw=>⟨hw.1,hw.2,λhd=>by rw [hdm]at hd;cases hd⟩))
 ·cases h
end Go.Eng

/-
  THE ENGINE: a function that reads a slice as data reads it out of its box, too: the box is as it was.
-/
namespace Go.Eng
set_option linter.unusedSectionVars false
variable [DM]
set_option linter.unusedVariables false
end Go.Eng

/-
  THE ENGINE: grids: slices of slices of which each row is a box of its own; the rows' boxes stand behind all others.
-/
namespace Go.Eng
set_option linter.unusedSectionVars false
variable [DM]
set_option linter.unusedVariables false
section rows
variable {α:Type} {enc:α->List D} {sz:Nat}
def uP (ns:Nat->Nm) (i:Nat) (m:Nm):Nat->Nm:=λj=>if j=i then m else ns j
theorem IZ (ns:Nat->Nm) (i:Nat) (m:Nm):uP ns i m i=m:=if_pos rfl
def eX (sz:Nat) (enc:α->List D) (ns:Nat->Nm) (rows:List (List α)):Hp:=rows.mapIdx λi r=>(ns i,gB sz enc r)
def dB (sz:Nat) (ns:Nat->Nm) (rows:List (List α)):List V:=rows.mapIdx λi r=>gV (ns i) sz r
theorem Mc {ns:Nat->Nm} {rows:List (List α)}:(dB sz ns rows).length=rows.length:=by simp [dB]
theorem NG {ns:Nat->Nm} {rows:List (List α)} {i:Nat} {r:List α} (hr:rows[i]? = some r):(eX sz enc ns rows)[i]? = some (ns i,gB sz enc r):=by
 unfold eX;rw [List.getElem?_mapIdx,hr];rfl
theorem KX {ns:Nat->Nm} {rows:List (List α)} {i:Nat} {r:List α} (hr:rows[i]? = some r):(dB sz ns rows)[i]? = some (gV (ns i) sz r):=by
 unfold dB;rw [List.getElem?_mapIdx,hr];rfl
theorem Eb {C0:Hp} {ns:Nat->Nm} {rows:List (List α)} {i:Nat} {r:List α} (hr:rows[i]? = some r):(C0++eX sz enc ns rows)[C0.length+i]? = some (ns i,gB sz enc r):=by
 rw [List.getElem?_append_right (by omega),show C0.length+i-C0.length=i by omega];exact NG hr
theorem Qr {β γ:Type} (f:Nat->β->γ) (g:Nat->β->γ) (l:List β) (i:Nat) (b:β) (h:∀j x,j≠i->g j x=f j x):(l.set i b).mapIdx g=(l.mapIdx f).set i (g i b):=by
 refine List.ext_getElem? (λj => ?_)
 rw [List.getElem?_mapIdx,List.getElem?_set,List.getElem?_set,List.getElem?_mapIdx,List.length_mapIdx]
 by_cases hj:i=j
 ·subst hj
  simp only [if_true]
  split <;> rfl
 ·rw [if_neg hj,if_neg hj]
  cases l[j]? with
  | none=>rfl
  | some x=>simp only [Option.map_some];rw [h j x (λe=>hj e.symm)]
theorem OA {ns:Nat->Nm} {rows:List (List α)} {i:Nat} {m:Nm} {r:List α}:(eX sz enc ns rows).set i (m,gB sz enc r)=eX sz enc (uP ns i m) (rows.set i r):=by
 unfold eX
 rw [Qr (λi r=>(ns i,gB sz enc r)) _ rows i r (λj x h=>by simp only [uP,if_neg h]),IZ]
theorem Mg {ns:Nat->Nm} {rows:List (List α)} {i:Nat} {m:Nm} {r:List α}:(dB sz ns rows).set i (gV m sz r)=dB sz (uP ns i m) (rows.set i r):=by
 unfold dB
 rw [Qr (λi r=>gV (ns i) sz r) _ rows i r (λj x h=>by simp only [uP,if_neg h]),IZ]
theorem Ox {C0:Hp} {ns:Nat->Nm} {rows:List (List α)} {i:Nat} {m:Nm} {r:List α}:(C0++eX sz enc ns rows).set (C0.length+i) (m,gB sz enc r)=C0++eX sz enc (uP ns i m) (rows.set i r):=by
 show List.set (C0++eX sz enc ns rows) _ _=_
 rw [List.set_append_right _ _ (by omega),show C0.length+i-C0.length=i by omega,OA]
theorem Oc {ns:Nat->Nm} {rows:List (List α)} {i:Nat} {r:List α} (hr:rows[i]? = some r):rdV false 1 ((dB sz ns rows).drop (i*1+0))=some (gV (ns i) sz r):=by
 have h:=KX (sz:=sz) (ns:=ns) hr
 obtain ⟨hi,e⟩:=List.getElem?_eq_some_iff.1 h
 rw [show i*1+0=i by omega,List.drop_eq_getElem_cons hi,e];rfl
theorem PK {m:Nm} {r:List α}:bA (gV m sz r)=[gV m sz r]/\jF (gV m sz r)=true:=by cases r <;> exact⟨rfl,rfl⟩
theorem EF {β:Type}:∀(l:List β) (i:Nat) (b:β),i<l.length->splice l [b] i=l.set i b
 | [],i,b,h=>by cases h
 | x::l,0,b,h=>rfl
 | x::l,i+1,b,h=>by
  have:=EF l i b (by simpa using h)
  unfold splice at this ⊢
  simp only [List.length_cons,List.length_nil,List.take_succ_cons,List.cons_append,List.set_cons_succ]at this ⊢
  rw [<- this]
  simp only [show i+1+(0+1)=(i+(0+1))+1 by omega,List.drop_succ_cons]
theorem Ou {ns:Nat->Nm} {rows:List (List α)} {i:Nat} {m:Nm} {r:List α} (hl:i<rows.length):stC 1 (dB sz ns rows) (i*1+0) (gV m sz r)=some (dB sz (uP ns i m) (rows.set i r)):=by
 have hl':i<(dB sz ns rows).length:=by rw [Mc];exact hl
 unfold stC
 rw [show i*1+0=i by omega,(PK (m:=m) (sz:=sz) (r:=r)).1]
 have h1:(Nat.beq [gV m sz r].length 1&&Nat.ble (i+1) (dB sz ns rows).length&&[gV m sz r].all jF)=true:=by
  simp only [List.length_cons,List.length_nil,List.all_cons,(PK (m:=m) (sz:=sz) (r:=r)).2,List.all_nil,Bool.and_true,Bool.and_eq_true,Nat.ble_eq]
  exact⟨rfl,by omega⟩
 rw [h1,cond_true,EF _ _ _ hl',Mg]
theorem Ol (ns:Nat->Nm) (n:Nat):eX sz enc ns (List.replicate n [])=(List.range n).map λi=>(ns i,none):=by
 refine List.ext_getElem? (λj => ?_)
 unfold eX
 rw [List.getElem?_mapIdx,List.getElem?_map,List.getElem?_replicate]
 by_cases hj:j<n
 ·rw [if_pos hj,List.getElem?_range hj];rfl
 ·rw [if_neg hj,List.getElem?_eq_none (by simpa using hj)];rfl
theorem Lc (ns:Nat->Nm) (n:Nat):dB (α:=α) sz ns (List.replicate n [])=List.replicate n .nil:=by
 refine List.ext_getElem? (λj => ?_)
 unfold dB
 rw [List.getElem?_mapIdx,List.getElem?_replicate,List.getElem?_replicate]
 by_cases hj:j<n
 ·rw [if_pos hj,if_pos hj];rfl
 ·rw [if_neg hj,if_neg hj];rfl
end rows
theorem Pm {H0 H:Hp} (hp:H0.Perm H):pre H0 H:=by
 induction hp with
 | nil=>exact⟨[],List.nodup_nil,rfl⟩
 | @cons x l1 l2 _ ih =>
  obtain ⟨is,h1,h2⟩:=ih
  refine⟨0::is.map (· + 1),?_,?_⟩
  ·refine List.nodup_cons.2 ⟨by simp,?_⟩
   exact List.Pairwise.map _ (λa b h e=>h (by omega)) h1
  ·simp only [List.map_cons,List.map_map,List.getElem?_cons_zero]
   congr 1
 | swap x y l =>
  refine⟨1::0::(List.range l.length).map (· + 2),?_,?_⟩
  ·refine List.nodup_cons.2 ⟨by simp,List.nodup_cons.2 ⟨by simp,?_⟩⟩
   exact List.Pairwise.map _ (λa b h e=>h (by omega)) List.nodup_range
  ·simp only [List.map_cons,List.map_map,List.getElem?_cons_zero,List.getElem?_cons_succ]
   congr 2
   refine List.ext_getElem (by simp) (λi h1 h2 => ?_)
   simp only [List.getElem_map,List.getElem_range,Function.comp_apply,List.getElem?_cons_succ]
   simp only [List.length_map,List.length_range]at h1
   rw [List.getElem?_eq_getElem h1]
 | trans _ _ ih1 ih2 =>
  obtain ⟨is,h1,h2⟩:=ih1
  obtain ⟨js,k1,k2⟩:=ih2
  obtain ⟨hl,hg⟩:=uH h2
  obtain ⟨kl,kg⟩:=uH k2
  have hb:∀i∈is,i<js.length:=λi hi=>by
   obtain ⟨j,hj,rfl⟩:=List.getElem_of_mem hi
   have:=(List.getElem?_eq_some_iff.1 (hg j hj (by omega))).1
   omega
  refine⟨is.map (λi=>js.getD i 0),?_,?_⟩
  ·rw [List.nodup_iff_pairwise_ne]at h1 k1 ⊢
   refine List.pairwise_map.2 ((List.Pairwise.and_mem.1 h1).imp (λ{a b} h e => ?_))
   obtain ⟨ha,hb',hne⟩:=h
   have la:=hb a ha
   have lb:=hb b hb'
   simp only [List.getD_eq_getElem?_getD,List.getElem?_eq_getElem la,List.getElem?_eq_getElem lb,Option.getD_some]at e
   rcases Nat.lt_or_gt_of_ne hne with h|h
   ·exact (List.pairwise_iff_getElem.1 k1) a b la lb h e
   ·exact (List.pairwise_iff_getElem.1 k1) b a lb la h e.symm
  ·rw [<- h2,List.map_map]
   refine List.map_congr_left (λi hi => ?_)
   have li:=hb i hi
   simp only [Function.comp_apply,List.getD_eq_getElem?_getD,List.getElem?_eq_getElem li,Option.getD_some]
   rw [kg i li (by omega),List.getElem?_eq_getElem (by omega)]
theorem Px {C0 C1 T:Hp} (h:pre C0 C1):pre (C0++T) (C1++T):=by
 obtain ⟨is,h1,h2⟩:=h
 obtain ⟨hl,hg⟩:=uH h2
 have hb:∀i∈is,i<C1.length:=λi hi=>by
  obtain ⟨j,hj,rfl⟩:=List.getElem_of_mem hi
  exact (List.getElem?_eq_some_iff.1 (hg j hj (by omega))).1
 refine⟨is++(List.range T.length).map (· + C1.length),?_,?_⟩
 ·refine List.nodup_append.2 ⟨h1,?_,λa ha b hb' e => ?_⟩
  ·exact List.Pairwise.map _ (λa b h e=>h (by omega)) List.nodup_range
  ·obtain ⟨j,_,rfl⟩:=List.mem_map.1 hb'
   have:=hb a ha
   omega
 ·rw [List.map_append,List.map_append]
  congr 1
  ·rw [<- h2]
   exact List.map_congr_left (λi hi=>List.getElem?_append_left (hb i hi))
  ·refine List.ext_getElem (by simp) (λi k1 k2 => ?_)
   simp only [List.length_map,List.length_range]at k1
   simp only [List.getElem_map,List.getElem_range]
   rw [List.getElem?_append_right (by omega),show i+C1.length-C1.length=i by omega,List.getElem?_eq_getElem k1]
theorem JS (C0 T X:Hp):(C0++X++T).Perm (C0++T++X):=by
 rw [List.append_assoc,List.append_assoc]
 exact List.Perm.append_left C0 List.perm_append_comm
section
variable {C:Cfg} {sl:Nat->V} {H H0:Hp} {q:Qm} {all rest:List Oper} {K:(Nat->V)->Hp->Prop}
theorem AgR.perm {S:Store} {t:Nat} {l:List Oper} (hp:H0.Perm H) (ag:AgR H S t l):AgR H0 S t l :=
 ⟨ag.pos,(hp.map (·.1)).nodup_iff.2 ag.nd,λp h=>ag.at_ p (hp.mem_iff.1 h)⟩
theorem h_perm (hp:H0.Perm H) (h:aV q C all K rest sl H0):aV q C all K rest sl H:=λS tk ok ag=>h S tk ok (ag.perm hp)
theorem PE (e:H0=H) (h:aV q C all K rest sl H0):aV q C all K rest sl H:=e ▸ h
theorem Ev:∀(n:Nat) {H:Hp},(∀ns:List Nm,ns.length=n->aV q C all K rest sl (H++ns.map λm=>(m,none)))->aV q C all K rest sl H
 | 0,H,h=>by have:=h [] rfl;simpa using this
 | n+1,H,h=>H8 (λm=>Ev n (λns hn=>by
   have:=h (m::ns) (by simp [hn])
   simpa using this))
theorem Oy {α:Type} {enc:α->List D} {sz:Nat} (n:Nat) (h:∀ns:Nat->Nm,aV q C all K rest sl (H++eX (α:=α) sz enc ns (List.replicate n []))):aV q C all K rest sl H :=
 Ev n (λns hn=>by
  have:=h (λi=>ns.getD i (0,0))
  rw [Ol]at this
  have e:(ns.map λm=>((m,none):Nm×Option Box))=(List.range n).map λi=>(ns.getD i (0,0),none):=by
   refine List.ext_getElem (by simp [hn]) (λi h1 h2 => ?_)
   simp only [List.length_map]at h1
   simp only [List.getElem_map,List.getElem_range,List.getD_eq_getElem?_getD,List.getElem?_eq_getElem h1,Option.getD_some]
  rw [e];exact this)
theorem Im {C0 T X:Hp} (h:aV q C all K rest sl (C0++X++T)):aV q C all K rest sl (C0++T++X):=h_perm (JS C0 T X) h
theorem AgR.pre {S:Store} {t:Nat} {l:List Oper} (h:Eng.pre H0 H) (ag:AgR H S t l):AgR H0 S t l:=by
 have ag1:Ag H S (t+1):=⟨Nat.succ_pos _,ag.nd,λp hp=>⟨by rcases (ag.at_ p hp).1 with h1 | ⟨h1,_⟩ <;> omega,(ag.at_ p hp).2⟩⟩
 refine⟨ag.pos,(ag1.pre h).nd,λp hp => ?_⟩
 obtain ⟨is,_,he⟩:=h
 obtain ⟨hl,hg⟩:=uH he
 obtain ⟨i,hi,rfl⟩:=List.getElem_of_mem hp
 exact ag.at_ _ (List.mem_of_getElem? (hg i (by omega) hi))
variable {dst:Option Tmp} {d:Nat} {t ty:TypeId} {pos:String} {after:Array Edge} {g:Option (Nat×Bool)}
theorem K9 {α:Type} {x:Operand} {n:Nm} {i sz:Nat} {ns:Nat->Nm} {rows:List (List α)} {r:List α} (p k:Nat) (hp:q=none\/Nat.beq all.length (p+(rest.length+1))=true) (hf:∀S tk,AgR H S tk (⟨dst,.load t x,ty,pos,after,g⟩::rest)->okQ q all p [n] false) (hs:szT C.P t=some 1) (ha:bX C.P t=false) (hx:ev sl x = .ref n i 0) (hH:H[k]? = some (n,some (.cells 1 (dB sz ns rows)))) (hr:rows[i]? = some r)
  (hw:aM all sl ⟨dst,.load t x,ty,pos,after,g⟩=some true) (h:aV (nW q p [n] false) C all K rest (dM sl dst (gV (ns i) sz r)) H):aV q C all K (⟨dst,.load t x,ty,pos,after,g⟩::rest) sl H :=
 aC p k hp hf hs ha hx hH _ (Oc hr) hw h
theorem h_gld {α:Type} {enc:α->List D} {C0:Hp} {x:Operand} {size:Nat} {agg:Bool} {i j o sz:Nat} {ns:Nat->Nm} {rows:List (List α)} {r:List α} {e:α} (p:Nat) (hp:q=none\/Nat.beq all.length (p+(rest.length+1))=true) (hf:∀S tk,AgR (C0++eX sz enc ns rows) S tk (⟨dst,.load t x,ty,pos,after,g⟩::rest)->okQ q all p [ns i] false) (hs:szT C.P t=some size) (ha:bX C.P t=agg) (hx:ev sl x = .ref (ns i) j o) (hr:rows[i]? = some r) (he:r[j]? = some e)
  (v:V) (hv:rdD agg size ((enc e).drop o)=some v) (hw:aM all sl ⟨dst,.load t x,ty,pos,after,g⟩=some true) (h:aV (nW q p [ns i] false) C all K rest (dM sl dst v) (C0++eX sz enc ns rows)):aV q C all K (⟨dst,.load t x,ty,pos,after,g⟩::rest) sl (C0++eX sz enc ns rows) :=
 jr p (C0.length+i) hp hf hs ha hx (Eb hr) he v hv hw h
theorem h_gst {α:Type} {x y:Operand} {n:Nm} {i sz:Nat} {ns:Nat->Nm} {rows:List (List α)} {m:Nm} {r:List α} (p k:Nat) (hp:q=none\/Nat.beq all.length (p+(rest.length+1))=true) (hf:∀S tk,AgR H S tk (⟨dst,.store t x y,ty,pos,after,g⟩::rest)->okQ q all p [n] true) (hs:szT C.P t=some 1) (hx:ev sl x = .ref n i 0) (hy:ev sl y=gV m sz r) (hH:H[k]? = some (n,some (.cells 1 (dB sz ns rows)))) (hi:i<rows.length)
  (hw:aM all sl ⟨dst,.store t x y,ty,pos,after,g⟩=some true) (h:aV (nW q p [n] true) C all K rest (dM sl dst .none) (H.set k (n,some (.cells 1 (dB sz (uP ns i m) (rows.set i r)))))):aV q C all K (⟨dst,.store t x y,ty,pos,after,g⟩::rest) sl H :=
 fB p hp hf k hs hx hH _ (by rw [hy];exact Ou hi) hw h
theorem QE {α:Type} {enc:α->List D} {C0:Hp} {x y:Operand} {t' e e':TypeId} {sz bytes i:Nat} {z:List V} {ns:Nat->Nm} {rows:List (List α)} {r ys zs:List α} (p:Nat) (hpp:q=none\/Nat.beq all.length (p+(rest.length+1))=true) (hf:∀S tk,AgR (C0++eX sz enc ns rows) S tk (⟨some d,.call ⟨.builtin .append,#[x,y],#[t,t']⟩,ty,pos,after,g⟩::rest)->okQ q all p [ns i] true) (he:bK C.P t=some e) (he':bK C.P t'=some e') (hs:szT C.P e=some sz) (hz:zeroCells C.P e=some z) (hzl:z.length=sz) (hp:0<sz) (hby:fJ C.P e=bytes) (hbb:bytes<=100000)
  (henc:∀y,(enc y).length=sz) (hx:ev sl x=gV (ns i) sz r) (hr:rows[i]? = some r) (hy:ev sl y=vL enc ys) (ha:jc r ys=some zs)
  (hw:aM all sl ⟨some d,.call ⟨.builtin .append,#[x,y],#[t,t']⟩,ty,pos,after,g⟩=some true)
  (h:∀m:Nm,aV (nW q p [ns i,m] true) C all K rest (upd sl d (gV m sz zs)) (C0++eX sz enc (uP ns i m) (rows.set i zs))):aV q C all K (⟨some d,.call ⟨.builtin .append,#[x,y],#[t,t']⟩,ty,pos,after,g⟩::rest) sl (C0++eX sz enc ns rows) :=
 jB (i:=C0.length+i) p hpp hf he he' hs hz hzl hp hby hbb henc hx (Eb hr) hy ha hw (λm=>by rw [Ox];exact h m)
theorem Pk {α:Type} {enc:α->List D} {x y:Operand} {k k':IntKind} {n:Int} {m e sz by_:Nat} (p:Nat) (hp:q=none\/Nat.beq all.length (p+(rest.length+1))=true)
  (he:bK C.P t=some e) (hs:szT C.P e=some 1) (hz:zeroCells C.P e=some [.nil]) (hb:fJ C.P e=by_)
  (hx:ev sl x = .d (.int k n)) (hy:ev sl y = .d (.int k' n)) (hn:mkN n by_=some m) (hn0:n≠0)
  (hw:aM all sl ⟨some d,.makeSlice t x y,ty,pos,after,g⟩=some true)
  (h:∀(nm:Nm) (ns:Nat->Nm),aV (nW q p [nm] true) C all K rest (upd sl d (.vs nm 1 0 m)) (H++[(nm,some (.cells 1 (dB (α:=α) sz ns (List.replicate m []))))]++eX sz enc ns (List.replicate m []))):aV q C all K (⟨some d,.makeSlice t x y,ty,pos,after,g⟩::rest) sl H:=by
 unfold mkN at hn
 split at hn
 ·rename_i hc
  simp only [so_]at hn;subst hn
  refine qA rfl p [] hp (λ_ _ _=>xy) (λm hm=>by cases hm) hw (λS tk K' ok ag hk=>ji (A:=⟨[],[((d,tk),some (.cells 1 (List.replicate n.toNat .nil)))],.vs (d,tk) 1 0 n.toNat⟩) (λc e=>by cases e) ?_
   (hk _ _ _ (.inl rfl) ⟨by simp,by simp⟩ (ag.new ok rfl _) (Oy (α:=α) (enc:=enc) (sz:=sz) n.toNat (λns=>by
    have:=h (d,tk) ns
    rw [Lc]at this
    exact this))))
  show oG C.P t (ev sl x) (ev sl y) d tk=_
  unfold oG
  rw [he,hx,hy]
  simp only [hs,hz,hb]
  rw [if_neg (λh=>hn0 h.1)]
  rw [if_pos ⟨hc.1,trivial,hc.2.1,hc.2.2,rfl,by omega,rfl⟩]
  rfl
 ·cases hn
end
end Go.Eng

/-
  THE ENGINE: queues: a slice that is shortened from its head and appended to.
-/
namespace Go.Eng
set_option linter.unusedSectionVars false
variable [DM]
set_option linter.unusedVariables false
abbrev qV {α:Type} (n:Nm) (sz:Nat) (xs:List α) (k:Nat):V := .vs n sz k (xs.length-k)
section
variable {C:Cfg} {sl:Nat->V} {H:Hp} {q:Qm} {all rest:List Oper} {K:(Nat->V)->Hp->Prop}
variable {dst:Option Tmp} {d:Nat} {t ty:TypeId} {pos:String} {after:Array Edge} {g:Option (Nat×Bool)}
variable {α:Type} {enc:α->List D} {xs ys zs:List α} {x y:Operand} {t' e e':TypeId} {sz bytes i k:Nat} {n:Nm} {z:List V}
theorem h_appq (p:Nat) (hpp:q=none\/Nat.beq all.length (p+(rest.length+1))=true) (hf:∀S tk,AgR H S tk (⟨some d,.call ⟨.builtin .append,#[x,y],#[t,t']⟩,ty,pos,after,g⟩::rest)->okQ q all p [n] true) (he:bK C.P t=some e) (he':bK C.P t'=some e') (hs:szT C.P e=some sz) (hz:zeroCells C.P e=some z) (hzl:z.length=sz) (hp:0<sz) (hby:fJ C.P e=bytes) (hbb:bytes<=100000)
  (henc:∀y,(enc y).length=sz) (hx:ev sl x=qV n sz xs k) (hk:k<=xs.length) (hH:H[i]? = some (n,some (bV sz enc xs))) (hy:ev sl y=vL enc ys) (hne:ys ≠ []) (ha:jc (xs.drop k) ys=some zs)
  (hw:aM all sl ⟨some d,.call ⟨.builtin .append,#[x,y],#[t,t']⟩,ty,pos,after,g⟩=some true)
  (h:∀n':Nm,aV (nW q p [n,n'] true) C all K rest (upd sl d (vV n' sz zs)) (H.set i (n',some (bV sz enc zs)))):aV q C all K (⟨some d,.call ⟨.builtin .append,#[x,y],#[t,t']⟩,ty,pos,after,g⟩::rest) sl H:=by
 unfold jc at ha
 split at ha
 case isFalse=>cases ha
 rename_i hle
 simp only [so_]at ha
 subst ha
 refine qA rfl p [n] hpp hf (xC hH) hw (λS tk K' ok ag hk' => ?_)
 have hall:=yZ (sz:=sz) henc ys
 have hzz:z.length=sz/\0<sz:=⟨hzl,hp⟩
 have hb1:∀m,m<=1000000000->(2*m+192)*fJ C.P e<=2 ^ 48/\m<=2 ^ 48:=λm hm=>by
  rw [hby]
  have:=Nat.mul_le_mul (show 2*m+192<=2000000192 by omega) hbb
  exact⟨by omega,by omega⟩
 have run:∀{A:Eff},jJ C.P t t' S (ev sl x) (ev sl y) d tk=some A->K' A->opD C ⟨some d,.call ⟨.builtin .append,#[x,y],#[t,t']⟩,ty,pos,after,g⟩ sl S tk K':=λha hk=>u6 (by show (bif ng C.P t' then _ else _)=_;rw [uC he',cond_false];exact ha) hk
 have hS:S n=some (.vec sz (xs.map enc)):=ag.get hH
 cases ys with
 | nil=>exact absurd rfl hne
 | cons y0 ys =>
  have hlen:(xs.length-k)+(y0::ys).length=(xs.drop k++(y0::ys)).length:=by simp
  refine run (A:=⟨[(n,.vec sz (xs.map enc))],[(n,none),((d,tk),some (.vec sz ((xs.drop k++(y0::ys)).map enc)))],.vs (d,tk) sz 0 (xs.drop k++(y0::ys)).length⟩) ?_ (hk' _ (H.set i ((d,tk),some (bV sz enc (xs.drop k++(y0::ys))))) (d,tk) (.inl rfl) ⟨by simp,by simp⟩ ?_ (h (d,tk)))
  ·rw [hx,hy]
   simp only [jJ,he,sD he',hs,hz,if_pos hzz,kI,oD,hall,if_true,hS]
   have hle':(xs.length-k)+((y0::ys).map enc).length<=1000000000:=by
    rw [List.length_drop]at hle;rw [List.length_map];exact hle
   rw [if_pos ⟨trivial,by rw [List.length_map];omega,hb1 _ hle'⟩]
   simp [List.map_drop]
  ·exact ag.swap ok rfl hH _ _ (λm h1 h2=>by simp [eY,supd,h2,h1]) (λx hx=>by simp only [eY,supd,if_true];exact hx)
theorem qpop (hu:C.P.underlying t=some (.slice e)) (hs:szT C.P e=some sz) (h1:k<xs.length):kX C.P t (qV n sz xs k) (some (.d (.int .i64 1))) none none=some (qV n sz xs (k+1)):=by
 unfold kX
 rw [hu]
 simp only [qV,hs,pW]
 show (if 1<=xs.length-k/\xs.length-k<=xs.length-k/\sz=sz then some (V.vs n sz (k+1) (xs.length-k-1))else none)=_
 rw [if_pos ⟨by omega,Nat.le_refl _,rfl⟩,Nat.sub_sub]
theorem h_qpop {α:Type} {xs:List α} (hu:C.P.underlying t=some (.slice e)) (hs:szT C.P e=some sz) (hx:ev sl x=qV n sz xs k) (h1:k<xs.length)
  (hw:aM all sl ⟨dst,.slice t x (some (.const (.int .i64 1))) none none,ty,pos,after,g⟩=some true) (h:aV q C all K rest (dM sl dst (qV n sz xs (k+1))) H):aV q C all K (⟨dst,.slice t x (some (.const (.int .i64 1))) none none,ty,pos,after,g⟩::rest) sl H :=
 aJ _ hw (by
  show kX C.P t (ev sl x) (some (.d (.int .i64 1))) none none=_
  rw [hx];exact qpop hu hs h1) h
end
end Go.Eng

/-
  THE ENGINE: structs with a grid: handed in, handed back, and made.
-/
namespace Go.Eng
set_option linter.unusedSectionVars false
variable [DM]
set_option linter.unusedVariables false
def ltN (k n:Nat):Option Unit:=if k<n then some ()else none
theorem ltN_lt {k n:Nat} {u:Unit} (h:ltN k n=some u):k<n:=by
 unfold ltN at h;split at h
 ·assumption
 ·cases h
def leN (k n:Nat):Option Unit:=if k<=n then some ()else none
theorem leN_le {k n:Nat} {u:Unit} (h:leN k n=some u):k<=n:=by
 unfold leN at h;split at h
 ·assumption
 ·cases h
def nzI (n:Int):Option Unit:=if n≠0 then some ()else none
theorem nzI_ne {n:Int} {u:Unit} (h:nzI n=some u):n≠0:=by
 unfold nzI at h;split at h
 ·assumption
 ·cases h
theorem OY {α:Type} {xs:List α} {i:Nat} {x:α} (h:xs[i]? = some x):i<xs.length:=(List.getElem?_eq_some_iff.1 h).1
theorem nL {C0 C1 T H:Hp} (is:List Nat) (hd:is.Nodup) (e:is.map (λi=>C1[i]?)=C0.map some) (h:H=C1++T):pre (C0++T) H:=by
 subst h;exact Px ⟨is,hd,e⟩
section
variable {C:Cfg} {Q:QH} {sl:Nat->V} {H:Hp} {c:Code}
theorem QF {C0 T X:Hp} (h:wH C c Q sl (C0++X++T)):wH C c Q sl (C0++T++X):=PX (Pm (JS C0 T X)) h
end
section rows
variable {α:Type} {enc:α->List D} {sz:Nat}
section
variable {C:Cfg} {sl:Nat->V} {H:Hp}
end
section
variable {C:Cfg} {sl:Nat->V} {C0:Hp} {q:Qm} {all rest:List Oper} {K:(Nat->V)->Hp->Prop}
variable {dst:Option Tmp} {d:Nat} {t ty:TypeId} {pos:String} {after:Array Edge} {g:Option (Nat×Bool)}
end
end rows
end Go.Eng

/-
  THE ENGINE: two rows of a grid that are appended to before either is put back.
-/
namespace Go.Eng
set_option linter.unusedSectionVars false
variable [DM]
set_option linter.unusedVariables false
def neN (i j:Nat):Option Unit:=if i=j then none else some ()
theorem neN_ne {i j:Nat} {u:Unit} (h:neN i j=some u):i≠j:=by
 unfold neN at h;split at h
 ·cases h
 ·assumption
theorem nset_ne {ns:Nat->Nm} {i j:Nat} {m:Nm} (h:i≠j):uP ns i m j=ns j:=if_neg (λe=>h e.symm)
theorem gV_row {α:Type} {ns:Nat->Nm} {i j sz:Nat} {m:Nm} {r:List α} (h:i≠j):gV (ns j) sz r=gV (uP ns i m j) sz r:=by rw [nset_ne h]
theorem row_set {α:Type} {rows:List (List α)} {i j:Nat} {z r:List α} (h:i≠j) (hr:rows[j]? = some r):(rows.set i z)[j]? = some r:=(List.getElem?_set_ne h).trans hr
theorem row_put {α:Type} {rows:List (List α)} {i:Nat} {z r:List α} (hr:rows[i]? = some r):(rows.set i z)[i]? = some z:=by
 rw [List.getElem?_set,if_pos rfl,if_pos (List.getElem?_eq_some_iff.1 hr).1]
section
variable {q:Qm} {C:Cfg} {all:List Oper} {K:(Nat->V)->Hp->Prop} {rest:List Oper} {sl:Nat->V} {H:Hp}
theorem nI {P:Prop} (hP:∀S tk,AgR H S tk rest->P) (h:P->aV q C all K rest sl H):aV q C all K rest sl H:=λS tk ok ag=>h (hP S tk ag) S tk ok ag
theorem Ls {α:Type} {enc:α->List D} {sz:Nat} {C0:Hp} {ns:Nat->Nm} {rows:List (List α)} {S:Store} {tk:Nat} {l:List Oper} (ag:AgR (C0++eX sz enc ns rows) S tk l) {j i:Nat} {n:Nm} {b:Option Box} {r:List α} (hj:C0[j]? = some (n,b)) (hr:rows[i]? = some r):n≠ns i:=by
 have h1:j<C0.length:=(List.getElem?_eq_some_iff.1 hj).1
 exact uf ag (i:=j) (j:=C0.length+i) (by rw [List.getElem?_append_left h1];exact hj) (Eb hr) (by omega)
theorem MW {α:Type} {enc:α->List D} {sz:Nat} {C0:Hp} {ns:Nat->Nm} {rows:List (List α)} {m:Nm} {z:List α} {S:Store} {tk:Nat} {l:List Oper} {j i:Nat} (ag:AgR (C0++eX sz enc (uP ns i m) (rows.set i z)) S tk l) {n:Nm} {b:Option Box} {r:List α} (hj:C0[j]? = some (n,b)) (hr:rows[i]? = some r):n≠m:=by
 have h:=Ls ag hj (row_put (z:=z) hr)
 rw [IZ]at h;exact h
theorem dis2 {n a b:Nm} (h1:n≠a) (h2:n≠b):∀x ∈ [n],x ∉ [a,b]:=λx hx hm=>by
 rw [List.mem_singleton]at hx
 subst hx
 simp only [List.mem_cons,List.not_mem_nil,or_false]at hm
 rcases hm with e|e
 ·exact h1 e
 ·exact h2 e
end
end Go.Eng

