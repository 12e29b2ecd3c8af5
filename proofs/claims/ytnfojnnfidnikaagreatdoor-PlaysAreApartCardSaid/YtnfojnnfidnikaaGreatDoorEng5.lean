/-
  The engine: what the machine does to data, shown once for all programs (part 5).
-/
import Derived.Test.YtnfojnnfidnikaaGreatDoorEng4
import Derived.Lib.LaidTab
import Derived.Lib.ItoaNum
import Derived.Deep.Draws
import Derived.Below
import Derived.Lib.IndexMore
import Derived.Lib.TrimByte
import Derived.Lib.Join
import Derived.Lib.Repeat
import Derived.Lib.TrailingZeros
import Derived.Lib.SlTrimSet
import Derived.Shelf.Strings.FuncGrows
import Derived.Shelf.Unicode.DecodeSlow
import Derived.Lib.ValidU
import Derived.Shelf.SlSortCmp.InsertionK
import Derived.Sort.AssemblyPlain
/-
  THE ENGINE: a slice that is cut in its own box and grows again; boxes of slices that may be empty; maps whose keys are structs.
-/
namespace Go.Eng
set_option linter.unusedSectionVars false
variable [DM]
set_option linter.unusedVariables false
set_option linter.unusedSimpArgs false
section
variable {C:Cfg} {Q:QH} {sl:Nat->V} {H:Hp} {c:Code}
end
section
variable {C:Cfg} {sl:Nat->V} {H:Hp} {q:Qm} {all rest:List Oper} {K:(Nat->V)->Hp->Prop}
variable {dst:Option Tmp} {d:Nat} {t ty:TypeId} {pos:String} {after:Array Edge} {g:Option (Nat×Bool)}
end
end Go.Eng

/-
  THE ENGINE: rules for arrays of bytes in a box, and for bytes to a string and back.
-/
namespace Go.Eng
set_option linter.unusedSectionVars false
variable [DM]
open Go
set_option linter.unusedVariables false
set_option linter.unusedSimpArgs false
section
variable {C:Cfg} {sl:Nat->V} {H:Hp} {q:Qm} {all rest:List Oper} {K:(Nat->V)->Hp->Prop}
variable {dst:Option Tmp} {d:Nat} {t ty:TypeId} {pos:String} {after:Array Edge} {g:Option (Nat×Bool)}
section
variable {xs:List Int} {m:Nat} {nm:Nm} {x l hi:Operand} {k k':IntKind} {a b:Int} {u u':Unit}
end
theorem Pf {P:Program} {e:TypeId} (h:P.underlying e=some (.int .u8)):uV P e=true:=by unfold uV;rw [h]
theorem h_convs {b:ByteArray} {x:Operand} {s e:TypeId} (hs:C.P.underlying s=some .string) (ht:C.P.underlying t=some (.slice e)) (he:C.P.underlying e=some (.int .u8)) (hx:ev sl x=vS b)
  (hw:aN all sl ⟨dst,.convert s t x,ty,pos,after,g⟩=some true) (h:aU q C all K rest (cO sl dst (vL (eK .u8) (dQ b))) H):aU q C all K (⟨dst,.convert s t x,ty,pos,after,g⟩::rest) sl H :=
 lV hw (λS tk K' _ hk=>iU (A:=⟨[],[],vL (eK .u8) (dQ b)⟩) (λc e=>by cases e) (by
  show orE ((yR C.P s t (ev sl x)).bind fu) (uM C.P s t S (ev sl x))=_
  have:yR C.P s t (vS b)=none:=by unfold yR;rw [hs,ht]
  rw [hx,this]
  show uM C.P s t S (vS b)=_
  simp only [uM,hs,ht,Pf he,cond_true];rfl) (hk _ rfl rfl rfl)) h
end
end Go.Eng

/-
  THE ENGINE: strconv.Itoa, by its contract off the shelf; the table that it reads is known.
-/
namespace Go.Eng
set_option linter.unusedSectionVars false
variable [DM]
open Go.Sort
set_option linter.unusedVariables false
set_option linter.unusedSimpArgs false
theorem Nt {P:Program} {G:Gh} {w:World} {name:String} {k:IntKind} {zs:List Int} (hl:∀w0,xB w0->Lib.TabIs P w0 name k zs) (hz:zs ≠ []) (h:Kn G w):Lib.TabIs P w name k zs:=by
 obtain ⟨w0,h1,h2⟩:=h
 have ht:=hl w0 h1
 unfold Lib.TabIs World.var? at ht ⊢
 cases hg:P.globalNamed name with
 | none=>rw [hg]at ht;simp at ht
 | some g =>
  rw [hg]at ht
  simp only [ob_]at ht ⊢
  have hlt:g<w0.heap.size:=by
   rcases Nat.lt_or_ge g w0.heap.size with h|h
   ·exact h
   ·rw [Array.getElem?_eq_none h]at ht;cases ht
  have hc:∀o,w.cell? ⟨g,o,Option.none⟩=w0.cell? ⟨g,o,Option.none⟩:=λo=>(h2 g o hlt).2
  cases hb:w0.heap[g]? with
  | none=>rw [hb]at ht;cases ht
  | some ob =>
   rw [hb]at ht
   cases ob with
   | cells cs t fr =>
    simp only [so_]at ht
    have e0:∀o,w0.cell? ⟨g,o,Option.none⟩=cs[o]? := λo=>by simp [World.cell?,hb]
    cases hw:w.heap[g]? with
    | none =>
     exfalso
     have:=hc 0
     rw [e0]at this
     simp only [World.cell?,hw]at this
     rw [ht]at this
     cases zs with
     | nil=>exact hz rfl
     | cons z zs=>simp at this
    | some ob' =>
     cases ob' with
     | cells cs' t' fr' =>
      have e1:∀o,w.cell? ⟨g,o,Option.none⟩=cs'[o]? := λo=>by simp [World.cell?,hw]
      have:cs'=cs:=Array.ext_getElem? (λo=>by rw [<- e1,<- e0,hc])
      rw [this,ht]
     | _ =>
      exfalso
      have:=hc 0
      rw [e0]at this
      simp only [World.cell?,hw]at this
      rw [ht]at this
      cases zs with
      | nil=>exact hz rfl
      | cons z zs=>simp at this
   | _=>cases ht
def LA (n:Int):Option ByteArray:=if -9223372036854775808<=n/\n<=9223372036854775807 then some ⟨(Lib.itoa n).toArray⟩else none
theorem itoa_ok {P:Program} {f:FuncId}
  (hC : ∀ (n : Int), -9223372036854775808 ≤ n → n ≤ 9223372036854775807 → ∀ w : World, Lib.TabIs P w "internal/strconv.uint64pow10" .u64 Lib.pow10Tab →
   Calls P f #[.int .i64 n] w λe w'=>e = .returned (.string ⟨(Lib.itoa n).toArray⟩)/\∃k os,w'=grow (w.drewN k) os)
  (hl : ∀ w0, xB w0 → Lib.TabIs P w0 "internal/strconv.uint64pow10" .u64 Lib.pow10Tab) {n : Int} {r : ByteArray} (hF : LA n = some r) : FnM P f [.d (.int .i64 n)] [] (.d (.str r)) [] := by
 unfold LA at hF
 split at hF
 ·rename_i hn
  simp only [so_]at hF
  subst hF
  intro G w vargs hinv hargs
  obtain ⟨v,rfl,hv⟩:=hargs.alone
  have hv':RepD G.imm w v (.int .i64 n):=hv.d_inv
  cases hv' with
  | int =>
   refine (hC n hn.1 hn.2 w (Nt hl (by decide) hinv.kn)).mono ?_
   rintro e w' ⟨rfl,k,os,rfl⟩
   obtain ⟨i2,e2⟩:=hinv.more (w':=grow (w.drewN k) os) (G':=G) (U':=λ_=>False) (λb' hb'=>by
    show (w.heap++os)[b']? = _
    rw [Array.getElem?_append_left hb']) (by simp [grow,World.drewN]) rfl rfl rfl (λ_ _ h=>h) (λ_ _ h => .inl h) rfl (λ_ h=>h) (λ_=>Nat.le_add_right w.drawn k)
   exact⟨_,G,_,1,_,[],rfl,i2,.d (.str _),rfl,List.nodup_nil,λi hi=>absurd hi (Nat.not_lt_zero i),λi bx hb=>by simp at hb⟩
 ·cases hF
end Go.Eng

/-
  THE ENGINE: functions over literals, by their contracts off the shelf.
-/
namespace Go.Eng
set_option linter.unusedSectionVars false
variable [DM]
open Go.RowKit (Below)
set_option linter.unusedVariables false
set_option linter.unusedSimpArgs false
def isLit:D->Bool
 | .int _ _ | .bool _ | .str _=>true
 | _=>false
def lv:D->Value
 | .int k n => .int k n
 | .bool b => .bool b
 | .str s => .string s
 | _=>undef
theorem lit_inv {I:Nat->Nat->Prop} {w:World} {v:Value} {d:D} (h:RepD I w v d) (hl:isLit d=true):v=lv d:=by
 cases h with
 | int k n=>rfl
 | bool b=>rfl
 | str s=>rfl
 | agg=>cases hl
 | sl0=>cases hl
 | sl=>cases hl
 | ptr=>cases hl
 | nilp=>cases hl
theorem Ie {G:Gh} {w:World}:∀{vs:List Value} {ds:List D},qR G w vs (ds.map V.d)->ds.all isLit=true->vs=ds.map lv
 | [],[],_,_=>rfl
 | [],d::ds,h,_=>by have:=h.1;simp at this
 | v::vs,[],h,_=>by have:=h.1;simp at this
 | v::vs,d::ds,h,hl=>by
  simp only [List.all_cons,Bool.and_eq_true]at hl
  obtain ⟨hlen,h⟩:=h
  have h0:RepV G w v (.d d):=h 0 (by simp) (by simp)
  have e:=lit_inv h0.d_inv hl.1
  have:qR G w vs (ds.map V.d):=⟨by simpa using hlen,λi h1 h2=>by
   have:=h (i+1) (by simpa using h1) (by simpa using h2)
   simpa using this⟩
  rw [e,Ie this hl.2];rfl
theorem Cg {P:Program} {f:FuncId} (ds:List D) (v:Value) (r:V) (ha:ds.all isLit=true) (hr:∀G w,RepV G w v (ren [] r))
  (hC:∀(G:Gh) (w:World),Kn G w->Calls P f (ds.map lv).toArray w λe w'=>e = .returned v/\Below w.heap.size w w'/\(dmK=true->w.drawn<=w'.drawn)):FnM P f (ds.map V.d) [] r []:=by
 intro G w vargs hinv hargs
 rw [Ie hargs ha]
 refine (hC G w hinv.kn).mono ?_
 rintro e w' ⟨rfl,hb,hd⟩
 obtain ⟨i2,e2⟩:=hinv.more (w':=w') (G':=G) (U':=λ_=>False) (λb' hb'=>hb.block b' hb') hb.size hb.os hb.tape hb.output (λ_ _ h=>h) (λ_ _ h => .inl h) rfl (λ_ h=>h) hd
 exact⟨_,G,_,1,_,[],rfl,i2,hr _ _,rfl,List.nodup_nil,λi hi=>absurd hi (Nat.not_lt_zero i),λi bx hb=>by simp at hb⟩
def Am (s t:ByteArray):Option Bool:=if s.size<4294967281 then some (Lib.contains s.data.toList t.data.toList)else none
theorem Jo {P:Program} {f:FuncId} {g:Nat}
  (hC:∀(s t:ByteArray) (m:Int) (w:World),s.size<4294967281->w.cell? ⟨g,0,Option.none⟩=some (.int .i64 m)->Calls P f #[.string s,.string t] w λe w'=>e = .returned (.bool (Lib.contains s.data.toList t.data.toList))/\w'=w)
  (hl:∀w0,xB w0->∃m,w0.cell? ⟨g,0,Option.none⟩=some (.int .i64 m)) {s t:ByteArray} {r:Bool} (h:Am s t=some r):FnM P f [.d (.str s),.d (.str t)] [] (.d (.bool r)) []:=by
 unfold Am at h
 split at h
 ·rename_i hs
  simp only [so_]at h
  subst h
  refine Cg [.str s,.str t] _ _ rfl (λG w => .d (.bool _)) (λG w hk => ?_)
  obtain ⟨w0,h1,h2⟩:=hk
  obtain ⟨m,hm⟩:=hl w0 h1
  have hb:g<w0.heap.size:=by
   rcases Nat.lt_or_ge g w0.heap.size with h|h
   ·exact h
   ·have e:w0.heap[g]? = none:=Array.getElem?_eq_none h
    simp only [World.cell?,e]at hm
    cases hm
  exact (hC s t m w hs (by rw [(h2 g 0 hb).2];exact hm)).mono (λe w' hw=>⟨hw.1,by rw [hw.2];exact⟨Below.refl _ _,λ_=>Nat.le_refl _⟩⟩)
 ·cases h
end Go.Eng

/-
  THE ENGINE: strings.Join, strings.Repeat, bits.TrailingZeros, by their contracts off the shelf.
-/
namespace Go.Eng
set_option linter.unusedSectionVars false
variable [DM]
open Go
open Go.RowKit (Below)
set_option linter.unusedVariables false
set_option linter.unusedSimpArgs false
def Gu (s t:ByteArray):Option ByteArray:=if s.size<=9223372036854775807/\t.size<4294967281/\t.data.toList.all (λb=>decide (b.toNat<128))=true then some ⟨(Lib.trimS s.data.toList t.data.toList).toArray⟩else none
theorem PP (hdm:dmK=false) {P:Program} {f:FuncId}
  (hC:∀(s t:ByteArray) (w:World),s.size<=9223372036854775807->t.size<4294967281->(∀(j:Nat) b,t.data.toList[j]? = some b->b.toNat<128) ->
   Calls P f #[.string s,.string t] w λe w'=>e = .returned (.string ⟨(Lib.trimS s.data.toList t.data.toList).toArray⟩)/\Below w.heap.size w w')
  {s t r:ByteArray} (hF:Gu s t=some r):FnM P f [.d (.str s),.d (.str t)] [] (.d (.str r)) []:=by
 unfold Gu at hF
 split at hF
 ·rename_i hx
  simp only [so_]at hF
  subst hF
  exact Cg [.str s,.str t] _ _ rfl (λG w => .d (.str _)) (λG w hk=>(hC s t w hx.1 hx.2.1 (λj b hb=>of_decide_eq_true (List.all_eq_true.1 hx.2.2 b (List.mem_of_getElem? hb)))).mono (λe w' hw=>⟨hw.1,hw.2,λh=>by rw [hdm]at h;cases h⟩))
 ·cases hF
def Lh (xs:List ByteArray) (sep:ByteArray):Option ByteArray :=
 if xs.length<=140737488355328/\(Lib.join (xs.map (·.data.toList)) sep.data.toList).length<=140737488355328 then some ⟨(Lib.join (xs.map (·.data.toList)) sep.data.toList).toArray⟩else none
theorem join_ok (hdm:dmK=false) {P:Program} {f:FuncId}
  (h0:∀(a:Option Addr) (c:Nat) (sep:ByteArray) (w:World),Calls P f #[.slice a 0 c,.string sep] w λe w'=>e = .returned (.string ⟨#[]⟩)/\w'=w)
  (hC:∀(bk o c:Nat) (xs:List ByteArray) (sep:ByteArray) (w:World),(∀(j:Nat) x,xs[j]? = some x->w.cell? ⟨bk,o+j,none⟩=some (.string x))->bk<w.heap.size->xs.length<=140737488355328->xs.length<=c ->
   (Lib.join (xs.map (·.data.toList)) sep.data.toList).length<=140737488355328 ->
   Calls P f #[.slice (some ⟨bk,o,none⟩) xs.length c,.string sep] w λe w'=>e = .returned (.string ⟨(Lib.join (xs.map (·.data.toList)) sep.data.toList).toArray⟩)/\Below w.heap.size w w')
  {xs:List ByteArray} {sep r:ByteArray} (hF:Lh xs sep=some r):FnM P f [vL eS xs,vS sep] [] (vS r) []:=by
 unfold Lh at hF
 split at hF
 ·rename_i hx
  simp only [so_]at hF
  subst hF
  intro G w vargs hinv hargs
  have hfin:∀w',Below w.heap.size w w'->∃v G' S' tk' U' ν,Ending.returned (.string ⟨(Lib.join (xs.map (·.data.toList)) sep.data.toList).toArray⟩) = .returned v/\Inv ⟨G,w,Aj G []⟩ G' w' S' tk' U'/\RepV G' w' v (ren ν (vS ⟨(Lib.join (xs.map (·.data.toList)) sep.data.toList).toArray⟩)) /\
    ν.length=([]:List (Option Box)).length/\ν.Nodup/\(∀i,i<([]:List Box).length->ν[i]? = some (aI i))/\∀(i:Nat) (bx:Box),([]:List (Option Box))[i]? = some (some bx)->∃n,ν[i]? = some n/\S' n=some (bx.ren ν):=by
   intro w' hb
   obtain ⟨i2,e2⟩:=hinv.more (w':=w') (G':=G) (U':=λ_=>False) (λb' hb'=>hb.block b' hb') hb.size hb.os hb.tape hb.output (λ_ _ h=>h) (λ_ _ h => .inl h) rfl (λ_ h=>h) (λh=>by rw [hdm]at h;cases h)
   exact⟨_,G,_,1,_,[],rfl,i2,.d (.str _),rfl,List.nodup_nil,λi hi=>absurd hi (Nat.not_lt_zero i),λi bx hb=>by simp at hb⟩
  obtain ⟨hl,ha⟩:=hargs
  obtain ⟨v0,v1,rfl⟩:∃v0 v1,vargs=[v0,v1]:=by
   match vargs,hl with
   | [v0,v1],_=>exact⟨v0,v1,rfl⟩
  have r0:RepV G w v0 (vL eS xs):=ha 0 (by simp) (by simp)
  have r1:RepV G w v1 (vS sep):=ha 1 (by simp) (by simp)
  rw [r1.d_inv.str_inv]
  have r0':=r0.d_inv
  generalize hys:xs.map eS=ys at r0'
  cases r0' with
  | sl0 a cap =>
   have hn:xs=[]:=by simpa using hys
   subst hn
   refine (h0 a cap sep w).mono ?_
   rintro e w' ⟨rfl,rfl⟩
   exact hfin _ (Below.refl _ _)
  | sl b off cap sz _ us hcap hsz hI hc ho hr =>
   have hlen:ys.length=xs.length:=by rw [<- hys];simp
   have hcell:∀(j:Nat) x,xs[j]? = some x->w.cell? ⟨b,off+j,none⟩=some (.string x):=by
    intro j x hj
    obtain ⟨hj1,hj2⟩:=List.getElem?_eq_some_iff.1 hj
    have hj':j<ys.length:=by omega
    have hy:ys[j]=[D.str x]:=by
     subst hys
     rw [List.getElem_map,hj2];rfl
    have hz:sz=1:=by rw [<- hsz j hj',hy];rfl
    subst hz
    have h2:=hc j 0 hj' (by omega)
    have h3:=hr j 0 hj' (by rw [hy];exact Nat.zero_lt_one)
    have h4:us j 0 = .string x:=by
     have:ys[j][0]'(by rw [hy];exact Nat.zero_lt_one)=D.str x:=by simp [hy]
     rw [this]at h3
     exact h3.str_inv
    rw [h4]at h2
    simpa using h2
   rw [hlen]
   cases xs with
   | nil =>
    refine (h0 (some ⟨b,off,none⟩) cap sep w).mono ?_
    rintro e w' ⟨rfl,rfl⟩
    exact hfin _ (Below.refl _ _)
   | cons x xs =>
    have hb:b<w.heap.size:=by
     rcases Nat.lt_or_ge b w.heap.size with h|h
     ·exact h
     ·have h1:=hcell 0 x rfl
      have e:w.heap[b]? = none:=Array.getElem?_eq_none h
      simp only [World.cell?,e]at h1
      cases h1
    refine (hC b off cap (x::xs) sep w hcell hb hx.1 (by omega) hx.2).mono ?_
    rintro e w' ⟨rfl,hbw⟩
    exact hfin _ hbw
 ·cases hF
end Go.Eng

/-
  THE ENGINE: results of which the first is a new slice and the others are data.
-/
namespace Go.Eng
set_option linter.unusedSectionVars false
variable [DM]
set_option linter.unusedVariables false
section
variable {C:Cfg} {sl:Nat->V} {H:Hp} {q:Qm} {all rest:List Oper} {K:(Nat->V)->Hp->Prop}
variable {dst:Option Tmp} {d:Nat} {t ty:TypeId} {pos:String} {after:Array Edge} {g:Option (Nat×Bool)}
end
end Go.Eng

/-
  THE ENGINE: strings.ContainsFunc by its contract off the shelf (only where draws are not counted).
-/
namespace Go.Eng
set_option linter.unusedSectionVars false
variable [DM]
open Go.Proofs
open Go.RowKit (Below)
set_option linter.unusedVariables false
set_option linter.unusedSimpArgs false
def KE (s:ByteArray):Option Bool:=if s.size<=9223372036854775807 then some (Lib.validD s.data.toList)else none
theorem tabs_kn {G:Gh} {w:World} {g3 g4:Nat} (h:Kn G w) (hl:∀w0,xB w0->Lib.Utf8Tabs g3 g4 w0):Lib.Utf8Tabs g3 g4 w:=by
 obtain ⟨w0,h1,h2⟩:=h
 obtain ⟨a1,a2⟩:=hl w0 h1
 have key:∀(b o:Nat) (v:Value),w0.cell? ⟨b,o,Option.none⟩=some v->w.cell? ⟨b,o,Option.none⟩=some v:=λb o v hv=>by
  have hb:b<w0.heap.size:=by
   rcases Nat.lt_or_ge b w0.heap.size with h|h
   ·exact h
   ·have e:w0.heap[b]? = none:=Array.getElem?_eq_none h
    simp only [World.cell?,e]at hv
    cases hv
  rw [(h2 b o hb).2];exact hv
 exact⟨λc hc=>key _ _ _ (a1 c hc),λi hi=>⟨key _ _ _ (a2 i hi).1,key _ _ _ (a2 i hi).2⟩⟩
theorem OC (hdm:dmK=false) {P:Program} {f:FuncId} {g3 g4:Nat}
  (hC:∀(s:ByteArray) (w:World),s.size<=9223372036854775807->Lib.Utf8Tabs g3 g4 w->Calls P f #[.string s] w λe w'=>e = .returned (.bool (Lib.validD s.data.toList))/\Below w.heap.size w w')
  (hl:∀w0,xB w0->Lib.Utf8Tabs g3 g4 w0) {s:ByteArray} {r:Bool} (h:KE s=some r):FnM P f [.d (.str s)] [] (.d (.bool r)) []:=by
 unfold KE at h
 split at h
 ·rename_i hs
  simp only [so_]at h
  subst h
  exact Cg [.str s] _ _ rfl (λG w => .d (.bool _)) (λG w hk=>(hC s w hs (tabs_kn hk hl)).mono (λe w' hw=>⟨hw.1,hw.2,λhd=>by rw [hdm]at hd;cases hd⟩))
 ·cases h
end Go.Eng

/-
  THE ENGINE: a sort by a comparison of the program's, by its contract off the shelf.
-/
namespace Go.Eng
set_option linter.unusedSectionVars false
variable [dM:DM]
open Go.Sort Go.Proofs
set_option linter.unusedVariables false
set_option linter.unusedSimpArgs false
theorem NJ {E:Env} {G:Gh} {w W:World} {S:Store} {tk:Nat} {U:Nat->Prop} (h:Inv E G w S tk U) {b:Nat} (hno:∀o,¬G.imm b o)
  (hh:∀b',b'≠b->b'<w.heap.size->W.heap[b']? = w.heap[b']?) (hs:w.heap.size<=W.heap.size) :
  Inv ⟨⟨G.imm,λ_=>none⟩,W,Aj ⟨G.imm,λ_=>none⟩ []⟩ ⟨G.imm,λ_=>none⟩ W (fE []) 1 (λ_=>False)/\∀b' o',G.imm b' o'->W.cell? ⟨b',o',none⟩=w.cell? ⟨b',o',none⟩:=by
 have hc:∀b' o',G.imm b' o'->W.cell? ⟨b',o',none⟩=w.cell? ⟨b',o',none⟩:=λb' o' hb=>xS (hh b' (λe=>by subst e;exact hno _ hb) (h.immB _ _ hb)) o'
 have hno':∀(n:Nm) (bx:Box),fE [] n=some bx->False:=λn bx hx=>by
  unfold fE at hx
  split at hx
  ·simp at hx
  ·cases hx
 have k1:Kn G w:=h.kn.ext h.ext.imm h.ext.cell
 have k2:Kn ⟨G.imm,λ_=>none⟩ W:=k1.ext (λ_ _ h=>h) hc
 refine⟨⟨Ext.refl _ _,λ_ _ h => .inl h,λ_ _ _=>rfl,Nat.le_refl _,rfl,rfl,rfl,λn bx hx=>(hno' n bx hx).elim,λn m bx _ _ _ _ _ _ hx=>(hno' n bx hx).elim,λn x hx => ?_,λn b o sz hx => ?_,λb' o' hb=>Nat.lt_of_lt_of_le (h.immB _ _ hb) hs,k2,λ_=>Nat.le_refl _⟩,hc⟩
 ·cases hx
 ·cases hx
theorem Inv.toT {E:Env} {G:Gh} {w:World} {S:Store} {tk:Nat} {U:Nat->Prop} (h:Inv E G w S tk U) (hd:E.w.drawn<=w.drawn) : @Inv dmT E G w S tk U :=
 @Inv.mk dmT E G w S tk U h.ext h.newI h.frame h.size h.os h.tape h.output h.box h.one h.tick h.bound h.immB h.kn (λ_=>hd)
theorem NT {α:Type} {E:α->List D} {P:Program} {g:FuncId} {F:α->α->Option Int} (hg:∀a b r,F a b=some r -> @FnM dmT P g [.d (.agg (E a)),.d (.agg (E b))] [] (vI r) [])
  {β:Type} [Inhabited β] (at_:β->α) (enc:β->List Value) {k:Nat} (cf:β->β->Int) (hcf:∀i j,F (at_ i) (at_ j)=some (cf i j))
  {Ev:Env} {G:Gh} {w:World} {S:Store} {tk:Nat} {U:Nat->Prop} (h:Inv Ev G w S tk U) {b o n:Nat} (hno:∀o',¬G.imm b o') (hblk:b<w.heap.size)
  (hl:∀i,(enc i).length=(E (at_ i)).length) (hr:∀i j (h1:j<(enc i).length) (h2:j<(E (at_ i)).length),RepD G.imm w (enc i)[j] (E (at_ i))[j]) :
  CmpLays P g #[] enc k cf b o n w:=by
 intro m os dk _ x y
 have hW:∀b',b'≠b->b'<w.heap.size->(sortWorldK enc k w b o m dk os).heap[b']? = w.heap[b']? := λb' h1 h2=>by
  show ((putRow id (Sort.ahead w m) b o (flatK enc k dk)).heap++os)[b']? = _
  have hsz:(putRow id (Sort.ahead w m) b o (flatK enc k dk)).heap.size=w.heap.size:=by simp [putRow,mapBlock,Sort.ahead]
  rw [Array.getElem?_append_left (by rw [hsz];exact h2),uG h1];rfl
 have hWs:w.heap.size<=(sortWorldK enc k w b o m dk os).heap.size:=by
  show w.heap.size<=((putRow id (Sort.ahead w m) b o (flatK enc k dk)).heap++os).size
  simp [putRow,mapBlock,Sort.ahead]
 generalize hWe:sortWorldK enc k w b o m dk os=W at hW hWs ⊢
 obtain ⟨i0,hc⟩:=NJ (W:=W) h hno hW hWs
 have i1:=i0.toT (Nat.le_refl _)
 have rep:∀i,RepV ⟨G.imm,λ_=>none⟩ W (.agg (enc i).toArray) (.d (.agg (E (at_ i)))):=λi => .d (.agg _ _ (hl i) (λj h1 h2=>(hr i j h1 h2).ext (λ_ _ h=>h) hc))
 have hargs:qR ⟨G.imm,λ_=>none⟩ W [.agg (enc x).toArray,.agg (enc y).toArray] [.d (.agg (E (at_ x))),.d (.agg (E (at_ y)))]:=by
  refine⟨rfl,λi h1 h2 => ?_⟩
  match i with
  | 0=>exact rep x
  | 1=>exact rep y
  | i+2=>exact absurd h1 (by simp)
 refine (hg _ _ _ (hcf x y) _ W [.agg (enc x).toArray,.agg (enc y).toArray] i1 hargs).mono ?_
 rintro e w' ⟨v,G',S',tk',U',ν,rfl,i2,rv,_,_,_,_⟩
 have hv:v = .int .i64 (cf x y):=by
  have:RepV G' w' v (.d (.int .i64 (cf x y))):=rv
  exact this.int_inv
 refine⟨by rw [hv],w'.drawn-W.drawn,w'.heap.extract W.heap.size,?_⟩
 have hM:∀k',¬Aj ⟨G.imm,λ_=>none⟩ [] k':=λk' ⟨i,bx,_,_,hx,_⟩=>by simp at hx
 have hheap:w'.heap=W.heap++w'.heap.extract W.heap.size:=by
  have hsz:=(@Inv.size dmT _ _ _ _ _ _ i2)
  have hfr:=λk' hk=>(@Inv.frame dmT _ _ _ _ _ _ i2) k' hk (hM k')
  refine Array.ext_getElem? (λj => ?_)
  by_cases hj:j<W.heap.size
  ·rw [Array.getElem?_append_left hj];exact hfr j hj
  ·rw [Array.getElem?_append_right (by omega),Array.getElem?_extract]
   split
   ·rw [show W.heap.size+(j-W.heap.size)=j by omega]
   ·rename_i hx
    simp only [Nat.not_lt]at hx
    have:w'.heap.size<=j:=by have h1:W.heap.size<=w'.heap.size:=hsz;omega
    simp [this]
 have hd:W.drawn+(w'.drawn-W.drawn)=w'.drawn:=by have:W.drawn<=w'.drawn:=(@Inv.dr dmT _ _ _ _ _ _ i2) rfl;omega
 have e1:w'.tape=W.tape:=(@Inv.tape dmT _ _ _ _ _ _ i2)
 have e2:w'.os=W.os:=(@Inv.os dmT _ _ _ _ _ _ i2)
 have e3:w'.output=W.output:=(@Inv.output dmT _ _ _ _ _ _ i2)
 unfold grow World.drewN
 show w' = { heap:=W.heap++w'.heap.extract W.heap.size,tape:=W.tape,drawn:=W.drawn+(w'.drawn-W.drawn),os:=W.os,output:=W.output }
 rw [hd,<- hheap,<- e1,<- e2,<- e3]
section
variable {α:Type}
def qW (F:α->α->Option Int) (x:α) (l:List α) (i j:Fin (l.length+1)):Int:=(F ((x::l).get i) ((x::l).get j)).getD 0
def vE {n:Nat} (lt:Fin (n+1)->Fin (n+1)->Bool):List (Fin (n+1)):=(pdq lt (Array.ofFn λi=>i) 0 (n+1) (Lib.bitLen (n+1)) true true).toList
open Classical in
noncomputable def xD (F:α->α->Option Int):List α->Option (List α)
 | []=>some []
 | x::l=>if l.length+1<4611686018427387904/\(∀i j:Fin (l.length+1),(F ((x::l).get i) ((x::l).get j)).isSome=true)/\SWO (ltOf (qW F x l))then
   some ((vE (ltOf (qW F x l))).map (x::l).get)else none
theorem Ng {F:α->α->Option Int} {x:α} {l r:List α} (h:xD F (x::l)=some r) :
  (l.length+1<4611686018427387904/\(∀i j:Fin (l.length+1),(F ((x::l).get i) ((x::l).get j)).isSome=true)/\SWO (ltOf (qW F x l)))/\(vE (ltOf (qW F x l))).map (x::l).get=r:=by
 by_cases hc:l.length+1<4611686018427387904/\(∀i j:Fin (l.length+1),(F ((x::l).get i) ((x::l).get j)).isSome=true)/\SWO (ltOf (qW F x l))
 ·have e:xD F (x::l)=some ((vE (ltOf (qW F x l))).map (x::l).get):=if_pos hc
  rw [e]at h
  exact⟨hc,Option.some.inj h⟩
 ·have e:xD F (x::l)=none:=if_neg hc
  rw [e]at h
  cases h
theorem extract_all {β:Type} (d:Array β) {m:Nat} (h:d.size=m):d.extract 0 m=d:=by subst h;exact Array.extract_size
theorem Cq {n:Nat} {lt:Fin (n+1)->Fin (n+1)->Bool} (hO:SWO lt) :
  (vE lt).Perm (List.finRange (n+1))/\(vE lt).Pairwise (λa b=>lt b a=false)/\(vE lt).length=n+1/\(pdq lt (Array.ofFn λi=>i) 0 (n+1) (Lib.bitLen (n+1)) true true).size=n+1:=by
 have hs:(Array.ofFn λi:Fin (n+1)=>i).size=n+1:=by simp
 obtain ⟨⟨h1,_,h2⟩,h3⟩:=pdq_sorts lt hO (Array.ofFn λi=>i) 0 (n+1) (Lib.bitLen (n+1)) true true (Nat.zero_le _) (by rw [hs];exact Nat.le_refl _) (Or.inl rfl)
 have hsz:(pdq lt (Array.ofFn λi=>i) 0 (n+1) (Lib.bitLen (n+1)) true true).size=n+1:=h1.trans hs
 refine⟨?_,?_,?_,hsz⟩
 ·unfold vE
  generalize pdq lt (Array.ofFn λi=>i) 0 (n+1) (Lib.bitLen (n+1)) true true=d' at *
  have e1:d'.extract 0 (n+1)=d':=extract_all d' hsz
  have e2:(Array.ofFn λi:Fin (n+1)=>i).extract 0 (n+1)=Array.ofFn λi:Fin (n+1)=>i:=extract_all _ hs
  rw [e1,e2]at h2
  refine h2.trans (List.Perm.of_eq ?_)
  rw [Array.toList_ofFn];rfl
 ·unfold vE
  generalize pdq lt (Array.ofFn λi=>i) 0 (n+1) (Lib.bitLen (n+1)) true true=d' at *
  refine List.pairwise_iff_getElem.2 (λi j hi hj hij => ?_)
  have:=h3 i j (Nat.zero_le _) hij (by rw [<- hsz];simpa using hj)
  have a1:i<d'.size:=by simpa using hi
  have a2:j<d'.size:=by simpa using hj
  simpa [getElem!_pos d' i a1,getElem!_pos d' j a2]using this
 ·unfold vE;simpa using hsz
theorem J2 {F:α->α->Option Int} (c:α->α->Int) {xs:List α} (hl:xs.length<4611686018427387904) (hF:∀a∈xs,∀b∈xs,F a b=some (c a b))
  (hi:∀a∈xs,¬c a a<0) (ht:∀a∈xs,∀b∈xs,∀d∈xs,c a b<0->c b d<0->c a d<0) (hn:∀a∈xs,∀b∈xs,∀d∈xs,¬c a b<0->¬c b d<0->¬c a d<0) :
  ∃r,xD F xs=some r/\r.Perm xs/\r.Pairwise (λa b=>¬c b a<0):=by
 cases xs with
 | nil=>exact⟨[],rfl,.refl _,.nil⟩
 | cons x l =>
  have hm:∀i:Fin (l.length+1),(x::l).get i∈x::l:=λi=>List.get_mem (x::l) i
  have hc:∀i j,qW F x l i j=c ((x::l).get i) ((x::l).get j):=λi j=>by unfold qW;rw [hF _ (hm i) _ (hm j)];rfl
  have hO:SWO (ltOf (qW F x l)):=by
   constructor
   ·intro i;unfold ltOf;rw [hc];exact decide_eq_false (hi _ (hm i))
   ·intro i j k h1 h2
    unfold ltOf at *;rw [hc]at *
    exact decide_eq_true (ht _ (hm i) _ (hm j) _ (hm k) (of_decide_eq_true h1) (of_decide_eq_true h2))
   ·intro i j k h1 h2
    unfold ltOf at *;rw [hc]at *
    exact decide_eq_false (hn _ (hm i) _ (hm j) _ (hm k) (of_decide_eq_false h1) (of_decide_eq_false h2))
  obtain ⟨p1,p2,p3,_⟩:=Cq hO
  refine⟨(vE (ltOf (qW F x l))).map (x::l).get,?_,?_,?_⟩
  ·exact if_pos ⟨hl,λi j=>by rw [hF _ (hm i) _ (hm j)];rfl,hO⟩
  ·refine (p1.map _).trans (List.Perm.of_eq ?_)
   exact List.ext_getElem (by simp) (λi h1 h2=>by simp)
  ·rw [List.pairwise_map]
   exact p2.imp (λ{i j} h=>by unfold ltOf at h;rw [hc]at h;exact of_decide_eq_false h)
end
theorem Cb {α:Type} (E:α->List D) (k:Nat) (hE:∀x,(E x).length=k) (xs:List α):(Box.vec k (xs.map E)).all.length=xs.length*k:=by
 induction xs with
 | nil=>simp [Box.all]
 | cons x xs ih =>
  simp only [Box.all,List.map_cons,List.flatten_cons,List.length_append,List.length_map,List.length_cons,hE]at ih ⊢
  rw [ih,Nat.add_mul];omega
theorem Nn {α:Type} {E:α->List D} {k:Nat} (hE:∀x,(E x).length=k) {P:Program} {f g:FuncId} {F:α->α->Option Int}
  (hg:∀a b r,F a b=some r -> @FnM dmT P g [.d (.agg (E a)),.d (.agg (E b))] [] (vI r) []) (hb:aL P g=true)
  (hC:∀(β:Type) [Inhabited β] (enc:β->List Value) (hk:∀x,(enc x).length=k) (h1:∀x,∀v∈enc x,v.oneCell'=true) (cf:β->β->Int) (hO:SWO (ltOf cf)) (g:Nat) (cb:Array Value) (blk off cap:Nat) (d:Array β) (w:World)
   (eg:∀args w,(callFunc g args).run P w = .ok (.enter g args) w) (hcmp:CmpLays P g cb enc k cf blk off d.size w) (hH:HoldsK enc k w blk off d) (hblk:blk<w.heap.size) (hsz:d.size<4611686018427387904),
   Calls P f #[.slice (some ⟨blk,off,none⟩) d.size cap,.func (.func g) #[] cb] w λe w'=>e = .returned (.tuple #[])/\∃n os,w'=sortWorldK enc k w blk off n (pdq (ltOf cf) d 0 d.size (Lib.bitLen d.size) true true) os)
  (h0:∀(p:Option Addr) (cap:Nat) (fv:Value) (w:World),Calls P f #[.slice p 0 cap,fv] w λe w'=>e = .returned (.tuple #[])/\w'=w)
  {xs r:List α} (hF:xD F xs=some r) :
  FnM P f [dV (aI 0) k xs,.fn g []] (([]:List Box)++gI k E xs) (.tup []) (([]:List Box).map some++gT xs (gB k E r)):=by
 have unit:∀G w,RepV G w (.tuple #[]) (.tup []):=λG w => .tup [] [] rfl (λi h1=>absurd h1 (Nat.not_lt_zero i))
 intro G w vargs hinv hargs
 obtain ⟨v,v2,rfl,hv,hf⟩:=hargs.two
 obtain rfl:v2 = .func (.func g) #[] #[]:=by
  cases hf with
  | fn _ arr _ hl _ =>
   obtain rfl:arr=[]:=List.eq_nil_of_length_eq_zero hl
   rfl
 cases xs with
 | nil =>
  have hv':RepD G.imm w v (.sl []):=hv.d_inv
  obtain ⟨p,cap,rfl⟩:∃p cap,v = .slice p 0 cap:=by
   cases hv' with
   | sl0 a cap=>exact⟨_,_,rfl⟩
   | sl b off cap sz xs us=>exact⟨_,_,rfl⟩
  refine (h0 p cap _ w).mono ?_
  rintro e w' ⟨rfl,rfl⟩
  exact⟨_,G,fE [],1,_,[],rfl,hinv,unit _ _,rfl,List.nodup_nil,λi hi=>absurd hi (Nat.not_lt_zero i),λi bx hb=>by simp [gT]at hb⟩
 | cons x l =>
  obtain ⟨⟨hlen,hsome,hO⟩,hF⟩:=Ng hF
  ·skip
   obtain ⟨p1,p2,p3,p4⟩:=Cq hO
   have hrl:r.length=l.length+1:=by rw [<- hF,List.length_map,p3]
   have hB:gB k E r=some (.vec k (r.map E)):=by
    cases r with
    | nil=>simp at hrl
    | cons a b=>rfl
   have hI:(([]:List Box)++gI k E (x::l))=[.vec k ((x::l).map E)]:=rfl
   have hT:(([]:List Box).map some++gT (x::l) (gB k E r))=[some (.vec k (r.map E))]:=by rw [hB];rfl
   rw [hI]at hinv ⊢
   rw [hT]
   have hS:fE [.vec k ((x::l).map E)] (aI 0)=some (.vec k ((x::l).map E)):=by rw [yT];rfl
   obtain ⟨b,o,sz,hmu,hst,hEv⟩:=hinv.box _ _ hS
   have hst':Stands G w (.vec k ((x::l).map E)) b o sz:=hst
   obtain rfl:sz=k:=hst'.sz
   have hv':RepV G w v (.vs (aI 0) sz 0 (l.length+1)):=hv
   generalize hk:l.length+1=n at hv'
   cases hv' with
   | vs0=>omega
   | @vs _ b2 o2 _ _ _ cap hm hcap hb2 =>
    rw [hmu]at hm
    simp only [so_,Prod.mk.injEq]at hm
    obtain ⟨rfl,rfl,_⟩:=hm
    subst hk
    obtain ⟨⟨arr,elem,harr⟩,hnoimm⟩:=hst'.free rfl
    have hgl:∀i:Fin (l.length+1),i.1<((x::l).map E).length:=λi=>by rw [List.length_map];exact i.2
    have hex:∀i:Fin (l.length+1),∃us:Nat->Value,(∀j,j<sz->w.cell? ⟨b,o+i.1*sz+j,none⟩=some (us j)/\(us j).oneCell'=true)/\∀j (hj:j<(E ((x::l).get i)).length),RepD G.imm w (us j) (E ((x::l).get i))[j]:=λi=>by
     obtain ⟨hl,us,u1,u2⟩:=hst'.elem (.inl rfl) i.1 (hgl i)
     have e:((x::l).map E)[i.1]'(hgl i)=E ((x::l).get i):=by rw [List.getElem_map];rfl
     rw [e]at hl
     refine⟨us,λj hj=>u1 j (by rw [e,hl];exact hj),λj hj => ?_⟩
     have:=u2 j (by rw [e];exact hj)
     simp only [e]at this
     exact this
    let enc:Fin (l.length+1)->List Value:=λi=>(List.range sz).map λj=>(w.cell? ⟨b,o+i.1*sz+j,none⟩).getD undef
    have henc:∀i,(enc i).length=sz:=λi=>by simp [enc]
    have hencj:∀i j (hj:j<(enc i).length),∃u,(enc i)[j]=u/\w.cell? ⟨b,o+i.1*sz+j,none⟩=some u/\u.oneCell'=true/\∀(h2:j<(E ((x::l).get i)).length),RepD G.imm w u (E ((x::l).get i))[j]:=λi j hj=>by
     obtain ⟨us,u1,u2⟩:=hex i
     have hj':j<sz:=by rw [henc]at hj;exact hj
     refine⟨us j,?_,(u1 j hj').1,(u1 j hj').2,λh2=>u2 j h2⟩
     simp [enc,(u1 j hj').1]
    have h1:∀i,∀v∈enc i,v.oneCell'=true:=λi v hv=>by
     obtain ⟨j,hj,rfl⟩:=List.getElem_of_mem hv
     obtain ⟨u,e,_,h,_⟩:=hencj i j hj
     rw [e];exact h
    have hds:(Array.ofFn λi:Fin (l.length+1)=>i).size=l.length+1:=by simp
    have hdg:∀t (h:t<l.length+1),(Array.ofFn λi:Fin (l.length+1)=>i)[t]! = ⟨t,h⟩:=λt h=>by
     rw [getElem!_pos _ t (by simpa using h)];simp
    have hget:∀(i:Fin (l.length+1)) c,c<sz->w.cell? ⟨b,o+i.1*sz+c,none⟩=some (enc i)[c]! := λi c hc=>by
     obtain ⟨u,e,h,_⟩:=hencj i c (by rw [henc];exact hc)
     rw [getElem!_pos _ c (by rw [henc];exact hc),e];exact h
    have hH:HoldsK enc sz w b o (Array.ofFn λi:Fin (l.length+1)=>i):=λt ht=>by
     have ht':t<(l.length+1)*sz:=by simpa using ht
     have hk0:0<sz:=by
      rcases Nat.eq_zero_or_pos sz with h|h
      ·rw [h]at ht';omega
      ·exact h
     have htd:t / sz<l.length+1:=Nat.div_lt_of_lt_mul (by rw [Nat.mul_comm];exact ht')
     refine⟨?_,by simp only [World.frozen?,harr];simp⟩
     rw [get_flatK _ _ _ _ (by rw [hds];exact ht'),hdg _ htd]
     have:=hget ⟨t / sz,htd⟩ (t % sz) (Nat.mod_lt _ hk0)
     have e:o+t / sz*sz+t % sz=o+t:=by have:=Nat.div_add_mod t sz;rw [Nat.mul_comm]at this;omega
     simp only [e]at this
     exact this
    have hcf:∀i j,F ((x::l).get i) ((x::l).get j)=some (qW F x l i j):=λi j=>by
     have:=hsome i j
     unfold qW
     cases hx:F ((x::l).get i) ((x::l).get j)with
     | none=>rw [hx]at this;cases this
     | some a=>rfl
    have hcmp:=NT (E:=E) (P:=P) (g:=g) hg (x::l).get enc (k:=sz) (qW F x l) hcf hinv (b:=b) (o:=o) (n:=l.length+1) hnoimm (hinv.bound _ _ _ _ hmu) (λi=>by rw [henc,hE]) (λi j k1 k2=>by
     obtain ⟨u,e,_,_,h⟩:=hencj i j k1
     rw [e];exact h k2)
    have hadr:(⟨b,o+0*sz,none⟩:Addr)=⟨b,o,none⟩:=by simp
    show Calls P f #[.slice (some ⟨b,o+0*sz,none⟩) (l.length+1) cap,.func (.func g) #[] #[]] w _
    rw [hadr]
    have hcall:=hC (Fin (l.length+1)) enc henc h1 (qW F x l) hO g #[] b o cap (Array.ofFn λi=>i) w (λargs w=>DX (C:=⟨P,0,[],[]⟩) hb w) (by rw [hds];exact hcmp) hH (hinv.bound _ _ _ _ hmu) (by rw [hds];exact hlen)
    rw [hds]at hcall
    refine hcall.mono ?_
    rintro e w' ⟨rfl,m,os,rfl⟩
    generalize hd':pdq (ltOf (qW F x l)) (Array.ofFn λi=>i) 0 (l.length+1) (Lib.bitLen (l.length+1)) true true=d' at *
    have hrd:r=d'.toList.map (x::l).get:=by rw [<- hF];unfold vE;rw [hd']
    have hput:=Cf (ev:=(id:Value->Value)) (o:=o) (d:=flatK enc sz d') (w:=Sort.ahead w m) (b:=b) (arr:=arr) (t:=elem) (fr:=(0,0)) harr
    have hpsz:(putCells (id:Value->Value) o (flatK enc sz d') arr).size=arr.size:=by simp [putCells]
    have hHp:HoldsK enc sz (putRowK enc sz (Sort.ahead w m) b o d') b o d':=holdsK_putRowK enc sz (Sort.ahead w m) b o (Array.ofFn λi=>i) d' (holdsK_ahead enc sz w m b o _ hH) (by rw [p4,hds])
    have hroom0:=hst'.room
    rw [Cb E sz hE,bn harr]at hroom0
    obtain ⟨i1,e1⟩:=hinv.write (w':=putRowK enc sz (Sort.ahead w m) b o d') hS rfl hmu (λb' hb'=>uG hb') (by simp [putRowK,putRow,mapBlock,Sort.ahead]) (by rw [bn harr];show _<=bsize (putRow id (Sort.ahead w m) b o (flatK enc sz d')) b;rw [bn hput,hpsz];exact Nat.le_refl _) (λe he=>by rw [kJ harr]at he;show elemAt (putRow id (Sort.ahead w m) b o (flatK enc sz d')) b=_;rw [kJ hput];exact he) hnoimm rfl rfl rfl (.vec sz (r.map E)) (λex=>by
     show Stands _ _ _ _ _ _
     refine { sz:=rfl,even:=λy hy=>by obtain ⟨z,_,rfl⟩:=List.mem_map.1 hy;exact hE z,room := ?_,cell:=λj hj => ?_,free:=λ_=>⟨⟨_,_,hput⟩,hnoimm⟩,froz:=λe=>by cases e }
     ·rw [Cb E sz hE]
      show _<=bsize (putRow id (Sort.ahead w m) b o (flatK enc sz d')) b
      rw [bn hput,hpsz,hrl];simpa using hroom0
     ·have hj':j<(l.length+1)*sz:=by rw [Cb E sz hE,hrl]at hj;exact hj
      have hk0:0<sz:=by
       rcases Nat.eq_zero_or_pos sz with h|h
       ·rw [h]at hj';omega
       ·exact h
      have htd:j / sz<d'.size:=by rw [p4];exact Nat.div_lt_of_lt_mul (by rw [Nat.mul_comm];exact hj')
      have hmod:=Nat.mod_lt j hk0
      obtain ⟨c1,_⟩:=hHp.cell htd hmod
      have ej:o+j / sz*sz+j % sz=o+j:=by have:=Nat.div_add_mod j sz;rw [Nat.mul_comm]at this;omega
      rw [ej]at c1
      obtain ⟨u,e,_,h,hrep⟩:=hencj d'[j / sz]! (j % sz) (by rw [henc];exact hmod)
      have hel:(E ((x::l).get d'[j / sz]!)).length=sz:=hE _
      have hrep':=hrep (by rw [hel];exact hmod)
      refine⟨u,?_,h,?_⟩
      ·rw [c1,getElem!_pos _ (j % sz) (by rw [henc];exact hmod),e]
      ·have hev:∀y∈(r.map E).map (λx=>x.map V.d),y.length=sz:=λy hy=>by
        obtain ⟨z,hz,rfl⟩:=List.mem_map.1 hy
        obtain ⟨z',_,rfl⟩:=List.mem_map.1 hz
        rw [List.length_map];exact hE z'
       have hri:j / sz<r.length:=by rw [hrl,<- p4];exact htd
       have hrg:r[j / sz]=(x::l).get d'[j / sz]! := by
        have:r[j / sz]? = some ((x::l).get d'[j / sz]!):=by
         rw [hrd,List.getElem?_map,Array.getElem?_toList,Array.getElem?_eq_getElem htd,getElem!_pos d' _ htd];rfl
        rw [List.getElem?_eq_getElem hri]at this
        exact Option.some.inj this
       obtain ⟨g1,g2⟩:=flat_get sz _ hev (j / sz) (j % sz) (by simpa using hri) (by simpa [hE]using hmod)
       have ei:j / sz*sz+j % sz=j:=by have:=Nat.div_add_mod j sz;rw [Nat.mul_comm]at this;omega
       have eall:(Box.vec sz (r.map E)).all[j]'hj=V.d ((E (r[j / sz]))[j % sz]'(by rw [hE];exact hmod)):=by
        have:(Box.vec sz (r.map E)).all[j]? = some (V.d ((E (r[j / sz]))[j % sz]'(by rw [hE];exact hmod))):=by
         show ((r.map E).map λx=>x.map V.d).flatten[j]? = _
         have g1':j / sz*sz+j % sz<((r.map E).map λx=>x.map V.d).flatten.length:=g1
         rw [ei]at g1'
         rw [List.getElem?_eq_getElem g1']
         have g2':=g2
         simp only [ei]at g2'
         rw [g2'];simp
        rw [List.getElem?_eq_getElem hj]at this
        exact Option.some.inj this
       rw [eall]
       refine .d ?_
       simp only [hrg]
       exact hrep'.ext ex.imm ex.cell) (λ_=>Nat.le_add_right _ _)
    obtain ⟨i2,e2⟩:=i1.more (w':=sortWorldK enc sz w b o m d' os) (λb' hb'=>by
     show ((putRowK enc sz (Sort.ahead w m) b o d').heap++os)[b']? = _
     rw [Array.getElem?_append_left hb']) (by simp [sortWorldK,grow]) rfl rfl rfl (λ_ _ h=>h) (λ_ _ h => .inl h) rfl (λ_ h=>h)
    refine⟨_,G,_,1,_,[aI 0],rfl,i2,unit _ _,rfl,by simp,λi hi => ?_,λi bx hb => ?_⟩
    ·have:i=0:=by simpa using hi
     subst this;rfl
    ·cases i with
     | zero =>
      simp only [List.getElem?_cons_zero,so_]at hb
      subst hb
      exact⟨aI 0,rfl,by simp [supd,Box.ren]⟩
     | succ i=>simp at hb
end Go.Eng

/-
  THE ENGINE: grids: slices of slices of which each row is a box of its own; the rows' boxes stand behind all others.
-/
namespace Go.Eng
set_option linter.unusedSectionVars false
variable [DM]
set_option linter.unusedVariables false
section rows
variable {α:Type} {enc:α->List D} {sz:Nat}
def yZ (ns:Nat->Nm) (i:Nat) (m:Nm):Nat->Nm:=λj=>if j=i then m else ns j
theorem La (ns:Nat->Nm) (i:Nat) (m:Nm):yZ ns i m i=m:=if_pos rfl
theorem O9 {β γ:Type} (f:Nat->β->γ) (g:Nat->β->γ) (l:List β) (i:Nat) (b:β) (h:∀j x,j≠i->g j x=f j x):(l.set i b).mapIdx g=(l.mapIdx f).set i (g i b):=by
 refine List.ext_getElem? (λj => ?_)
 rw [List.getElem?_mapIdx,List.getElem?_set,List.getElem?_set,List.getElem?_mapIdx,List.length_mapIdx]
 by_cases hj:i=j
 ·subst hj
  simp only [if_true]
  split <;> rfl
 ·rw [if_neg hj,if_neg hj]
  cases l[j]? with
  | none=>rfl
  | some x=>simp only [Option.map_some];rw [h j x (λe=>hj e.symm)]
end rows
theorem Nv {H0 H:Hp} (hp:H0.Perm H):pre H0 H:=by
 induction hp with
 | nil=>exact⟨[],List.nodup_nil,rfl⟩
 | @cons x l1 l2 _ ih =>
  obtain ⟨is,h1,h2⟩:=ih
  refine⟨0::is.map (· + 1),?_,?_⟩
  ·refine List.nodup_cons.2 ⟨by simp,?_⟩
   exact List.Pairwise.map _ (λa b h e=>h (by omega)) h1
  ·simp only [List.map_cons,List.map_map,List.getElem?_cons_zero]
   congr 1
 | swap x y l =>
  refine⟨1::0::(List.range l.length).map (· + 2),?_,?_⟩
  ·refine List.nodup_cons.2 ⟨by simp,List.nodup_cons.2 ⟨by simp,?_⟩⟩
   exact List.Pairwise.map _ (λa b h e=>h (by omega)) List.nodup_range
  ·simp only [List.map_cons,List.map_map,List.getElem?_cons_zero,List.getElem?_cons_succ]
   congr 2
   refine List.ext_getElem (by simp) (λi h1 h2 => ?_)
   simp only [List.getElem_map,List.getElem_range,Function.comp_apply,List.getElem?_cons_succ]
   simp only [List.length_map,List.length_range]at h1
   rw [List.getElem?_eq_getElem h1]
 | trans _ _ ih1 ih2 =>
  obtain ⟨is,h1,h2⟩:=ih1
  obtain ⟨js,k1,k2⟩:=ih2
  obtain ⟨hl,hg⟩:=wL h2
  obtain ⟨kl,kg⟩:=wL k2
  have hb:∀i∈is,i<js.length:=λi hi=>by
   obtain ⟨j,hj,rfl⟩:=List.getElem_of_mem hi
   have:=(List.getElem?_eq_some_iff.1 (hg j hj (by omega))).1
   omega
  refine⟨is.map (λi=>js.getD i 0),?_,?_⟩
  ·rw [List.nodup_iff_pairwise_ne]at h1 k1 ⊢
   refine List.pairwise_map.2 ((List.Pairwise.and_mem.1 h1).imp (λ{a b} h e => ?_))
   obtain ⟨ha,hb',hne⟩:=h
   have la:=hb a ha
   have lb:=hb b hb'
   simp only [List.getD_eq_getElem?_getD,List.getElem?_eq_getElem la,List.getElem?_eq_getElem lb,Option.getD_some]at e
   rcases Nat.lt_or_gt_of_ne hne with h|h
   ·exact (List.pairwise_iff_getElem.1 k1) a b la lb h e
   ·exact (List.pairwise_iff_getElem.1 k1) b a lb la h e.symm
  ·rw [<- h2,List.map_map]
   refine List.map_congr_left (λi hi => ?_)
   have li:=hb i hi
   simp only [Function.comp_apply,List.getD_eq_getElem?_getD,List.getElem?_eq_getElem li,Option.getD_some]
   rw [kg i li (by omega),List.getElem?_eq_getElem (by omega)]
theorem NC {C0 C1 T:Hp} (h:pre C0 C1):pre (C0++T) (C1++T):=by
 obtain ⟨is,h1,h2⟩:=h
 obtain ⟨hl,hg⟩:=wL h2
 have hb:∀i∈is,i<C1.length:=λi hi=>by
  obtain ⟨j,hj,rfl⟩:=List.getElem_of_mem hi
  exact (List.getElem?_eq_some_iff.1 (hg j hj (by omega))).1
 refine⟨is++(List.range T.length).map (· + C1.length),?_,?_⟩
 ·refine List.nodup_append.2 ⟨h1,?_,λa ha b hb' e => ?_⟩
  ·exact List.Pairwise.map _ (λa b h e=>h (by omega)) List.nodup_range
  ·obtain ⟨j,_,rfl⟩:=List.mem_map.1 hb'
   have:=hb a ha
   omega
 ·rw [List.map_append,List.map_append]
  congr 1
  ·rw [<- h2]
   exact List.map_congr_left (λi hi=>List.getElem?_append_left (hb i hi))
  ·refine List.ext_getElem (by simp) (λi k1 k2 => ?_)
   simp only [List.length_map,List.length_range]at k1
   simp only [List.getElem_map,List.getElem_range]
   rw [List.getElem?_append_right (by omega),show i+C1.length-C1.length=i by omega,List.getElem?_eq_getElem k1]
theorem HV (C0 T X:Hp):(C0++X++T).Perm (C0++T++X):=by
 rw [List.append_assoc,List.append_assoc]
 exact List.Perm.append_left C0 List.perm_append_comm
section
variable {C:Cfg} {sl:Nat->V} {H H0:Hp} {q:Qm} {all rest:List Oper} {K:(Nat->V)->Hp->Prop}
theorem AgR.perm {S:Store} {t:Nat} {l:List Oper} (hp:H0.Perm H) (ag:AgR H S t l):AgR H0 S t l :=
 ⟨ag.pos,(hp.map (·.1)).nodup_iff.2 ag.nd,λp h=>ag.at_ p (hp.mem_iff.1 h)⟩
theorem h_perm (hp:H0.Perm H) (h:aU q C all K rest sl H0):aU q C all K rest sl H:=λS tk ok ag=>h S tk ok (ag.perm hp)
theorem FC (e:H0=H) (h:aU q C all K rest sl H0):aU q C all K rest sl H:=e ▸ h
theorem GL {C0 T X:Hp} (h:aU q C all K rest sl (C0++X++T)):aU q C all K rest sl (C0++T++X):=h_perm (HV C0 T X) h
theorem AgR.pre {S:Store} {t:Nat} {l:List Oper} (h:Eng.pre H0 H) (ag:AgR H S t l):AgR H0 S t l:=by
 have ag1:Ag H S (t+1):=⟨Nat.succ_pos _,ag.nd,λp hp=>⟨by rcases (ag.at_ p hp).1 with h1 | ⟨h1,_⟩ <;> omega,(ag.at_ p hp).2⟩⟩
 refine⟨ag.pos,(ag1.pre h).nd,λp hp => ?_⟩
 obtain ⟨is,_,he⟩:=h
 obtain ⟨hl,hg⟩:=wL he
 obtain ⟨i,hi,rfl⟩:=List.getElem_of_mem hp
 exact ag.at_ _ (List.mem_of_getElem? (hg i (by omega) hi))
variable {dst:Option Tmp} {d:Nat} {t ty:TypeId} {pos:String} {after:Array Edge} {g:Option (Nat×Bool)}
end
end Go.Eng

/-
  THE ENGINE: queues: a slice that is shortened from its head and appended to.
-/
namespace Go.Eng
set_option linter.unusedSectionVars false
variable [DM]
set_option linter.unusedVariables false
section
variable {C:Cfg} {sl:Nat->V} {H:Hp} {q:Qm} {all rest:List Oper} {K:(Nat->V)->Hp->Prop}
variable {dst:Option Tmp} {d:Nat} {t ty:TypeId} {pos:String} {after:Array Edge} {g:Option (Nat×Bool)}
variable {α:Type} {enc:α->List D} {xs ys zs:List α} {x y:Operand} {t' e e':TypeId} {sz bytes i k:Nat} {n:Nm} {z:List V}
end
end Go.Eng

/-
  THE ENGINE: structs with a grid: handed in, handed back, and made.
-/
namespace Go.Eng
set_option linter.unusedSectionVars false
variable [DM]
set_option linter.unusedVariables false
theorem wI {C0 C1 T H:Hp} (is:List Nat) (hd:is.Nodup) (e:is.map (λi=>C1[i]?)=C0.map some) (h:H=C1++T):pre (C0++T) H:=by
 subst h;exact NC ⟨is,hd,e⟩
section
variable {C:Cfg} {Q:QH} {sl:Nat->V} {H:Hp} {c:Code}
theorem N7 {C0 T X:Hp} (h:wH C c Q sl (C0++X++T)):wH C c Q sl (C0++T++X):=Ox (Nv (HV C0 T X)) h
end
section rows
variable {α:Type} {enc:α->List D} {sz:Nat}
section
variable {C:Cfg} {sl:Nat->V} {H:Hp}
end
section
variable {C:Cfg} {sl:Nat->V} {C0:Hp} {q:Qm} {all rest:List Oper} {K:(Nat->V)->Hp->Prop}
variable {dst:Option Tmp} {d:Nat} {t ty:TypeId} {pos:String} {after:Array Edge} {g:Option (Nat×Bool)}
end
end rows
end Go.Eng

/-
  THE ENGINE: ranges over maps, in any order; maps of pointers to cells of their own (the cells' boxes stand behind all others).
-/
namespace Go.Eng
set_option linter.unusedSectionVars false
variable [DM]
set_option linter.unusedVariables false
def yH {α σ ρ:Type} (body:α->σ->Option (Ctl σ ρ)):List α->σ->Option (Ctl σ ρ)
 | [],s=>some (.go s)
 | x::xs,s=>(body x s).bind λc=>match c with
  | .go s'=>yH body xs s'
  | .brk s'=>some (.go s')
  | .ret r=>some (.ret r)
open Classical in
noncomputable def Iw {α β:Type} (l:List α) (f:List α->Option β):Option β:=if h:∃r,∀l',l'.Perm l->f l'=some r then some h.choose else none
theorem Kk {α β:Type} {l:List α} {f:List α->Option β} {r:β} (h:Iw l f=some r):∀l',l'.Perm l->f l'=some r:=by
 unfold Iw at h
 split at h
 ·rename_i hx
  simp only [so_]at h
  rw [<- h];exact hx.choose_spec
 ·cases h
theorem OV {α β:Type} {l:List α} {f:List α->Option β} {r:β} (h:∀l',l'.Perm l->f l'=some r):Iw l f=some r:=by
 have hx:∃r,∀l',l'.Perm l->f l'=some r:=⟨r,h⟩
 unfold Iw
 rw [dif_pos hx]
 have h1:=hx.choose_spec l (List.Perm.refl _)
 rw [h l (List.Perm.refl _)]at h1
 exact h1.symm
theorem xX {α:Type}:∀{l:List α} {i:Nat} (h:i<l.length),(l[i]::l.eraseIdx i).Perm l
 | _::_,0,_=>List.Perm.refl _
 | a::l,i+1,h=>by
  simp only [List.getElem_cons_succ,List.eraseIdx_cons_succ]
  exact (List.Perm.swap _ _ _).trans ((xX (by simpa using h)).cons a)
theorem M5 {α σ ρ β:Type} {body:α->σ->Option (Ctl σ ρ)} {K:Ctl σ ρ->Option β} {r:β} {left:List α} {s:σ} {i:Nat} {x:α} (h:∀l',l'.Perm left->(yH body l' s).bind K=some r) (hi:left[i]? = some x) :
  ∃c,body x s=some c/\∀s',c = .go s'->∀l',l'.Perm (left.eraseIdx i)->(yH body l' s').bind K=some r:=by
 have hp:∀l',l'.Perm (left.eraseIdx i)->(x::l').Perm left:=λl' hl=>by
  obtain ⟨hlt,rfl⟩:=List.getElem?_eq_some_iff.1 hi
  exact (hl.cons _).trans (xX hlt)
 have h0:=h _ (hp _ (List.Perm.refl _))
 simp only [yH,Option.bind_assoc,Option.bind_eq_some_iff]at h0
 obtain ⟨c,hc,-⟩:=h0
 refine⟨c,hc,λs' e l' hl => ?_⟩
 subst e
 have:=h _ (hp l' hl)
 simpa only [yH,hc,ob_]using this
theorem NF {α:Type} {left:List α} {i:Nat} {x:α} (hi:left[i]? = some x):(left.eraseIdx i).length<left.length:=by
 obtain ⟨hlt,_⟩:=List.getElem?_eq_some_iff.1 hi
 rw [List.length_eraseIdx,if_pos hlt];omega
abbrev iB {α:Type} (f:α->D×V) (cur:Option α) (left:List α):Box := .iter (cur.map f) (left.map f)
section
variable {C:Cfg} {Q:QH} {sl:Nat->V} {H:Hp} {c:Code}
theorem NY {id:Nat} {σ ρ N α β:Type} (envo:(σ×N)->List (Nat×V)) (HsO:(σ×N)->Hp) (env:(σ×N)->List (Nat×V)) (HsI:List α->Option α->(σ×N)->Hp) (body:α->σ->Option (Ctl σ ρ)) (Kf:Ctl σ ρ->Option β) (r:β) (xs:List α) (b0:σ×N)
  (hj:∀l',l'.Perm xs->(yH body l' b0.1).bind Kf=some r) (he:Eng.pick (env b0) sl=env b0) (hp:Eng.pre (HsI xs none b0) H)
  (h1:∀x:List α×Option α×(σ×N),(∀l',l'.Perm x.1->(yH body l' x.2.2.1).bind Kf=some r)->wH C c (FD (λp:List α×Option α×(σ×N)=>env p.2.2) (λp=>HsI p.1 p.2.1 p.2.2) (λp=>∀l',l'.Perm p.1->(yH body l' p.2.2.1).bind Kf=some r) (λp=>p.1.length) x (Kv id (Ip (G7 envo HsO (λp=>Kf (.go p.1)=some r)) Q))) (envS (env x.2.2)) (HsI x.1 x.2.1 x.2.2))
  (h2:∀x,Kf (.go x.1)=some r->∀sl' H',Eng.pick (envo x) sl'=envo x->Eng.pre (HsO x) H'->Q .normal sl' H'):wH C (.block id (.loop c)) Q sl H :=
 jU envo HsO (λp=>Kf (.go p.1)=some r) (aQ (zi (β:=List α×Option α×(σ×N)) (λp=>env p.2.2) (λp=>HsI p.1 p.2.1 p.2.2) (λp=>∀l',l'.Perm p.1->(yH body l' p.2.2.1).bind Kf=some r) (λp=>p.1.length) (xs,none,b0) hj he hp h1)) h2
end
section
variable {C:Cfg} {sl:Nat->V} {H:Hp} {q:Qm} {all rest:List Oper} {K:(Nat->V)->Hp->Prop}
variable {dst:Option Tmp} {d:Nat} {t ty:TypeId} {pos:String} {after:Array Edge} {g:Option (Nat×Bool)}
theorem h_range {α:Type} {f:α->D×V} {left:List α} {x:Operand} {n:Nm} {bx:Box} (j:Nat) (hm:(xW C.P t).isSome=true) (hx:ev sl x = .map n) (hH:H[j]? = some (n,some bx)) (hes:D9 bx=some (left.map f))
  (hw:aN all sl ⟨some d,.range t x,ty,pos,after,g⟩=some true)
  (h:∀m:Nm,aU none C all K rest (upd sl d (.ref m 0 0)) (H.set j (m,some (iB f none left)))):aU none C all K (⟨some d,.range t x,ty,pos,after,g⟩::rest) sl H:=λS tk ok ag=>by
 refine⟨sl,S,.refl _,?_⟩
 simp only [hw]
 refine .inr ⟨d,n,bx,left.map f,rfl,hx,ag.get hH,hes,hm,?_⟩
 refine h (d,tk) _ tk ok.tail (ag.swap ok rfl hH _ _ (λm h1 h2 => ?_) (λb hb => ?_))
 ·simp only [dE,supd,if_neg h1,if_neg h2]
 ·simp only [dE,supd,if_true];exact hb
theorem h_next {α:Type} {f:α->D×V} {cur:Option α} {left:List α} {x:Operand} {n:Nm} (j:Nat) (hx:ev sl x = .ref n 0 0) (hH:H[j]? = some (n,some (iB f cur left)))
  (hw:aN all sl ⟨some d,.next x false,ty,pos,after,g⟩=some true)
  (h0:left=[]->aU none C all K rest (upd sl d (.tup [vB false])) H)
  (h1:∀(i:Nat) (e:α),left[i]? = some e->aU none C all K rest (upd sl d (.tup [vB true,.any,.any])) (H.set j (n,some (iB f (some e) (left.eraseIdx i))))):aU none C all K (⟨some d,.next x false,ty,pos,after,g⟩::rest) sl H:=λS tk ok ag=>by
 refine⟨sl,S,.refl _,?_⟩
 simp only [hw]
 refine .inr ⟨n,cur.map f,left.map f,hx,ag.get hH,λhl => ?_,λi e he => ?_⟩
 ·exact h0 (List.map_eq_nil_iff.1 hl) S tk ok.tail ag.tail
 ·rw [List.getElem?_map,Option.map_eq_some_iff]at he
  obtain ⟨a,ha,rfl⟩:=he
  refine h1 i a ha _ tk ok.tail ?_
  have e:(left.map f).eraseIdx i=(left.eraseIdx i).map f:=(Go.ChangeMaps.map_eraseIdx f left i).symm
  rw [e]
  exact ag.tail.set hH (λx hx=>hx)
theorem h_entry {α:Type} {f:α->D×V} {e:α} {left:List α} {x:Operand} {n:Nm} (j:Nat) (hx:ev sl x = .ref n 0 0) (hH:H[j]? = some (n,some (iB f (some e) left))) (v:V) (hv:V.tup [.d (f e).1,(f e).2]=v)
  (hw:aN all sl ⟨some d,.entry x,ty,pos,after,g⟩=some true)
  (h:aU none C all K rest (upd sl d v) H):aU none C all K (⟨some d,.entry x,ty,pos,after,g⟩::rest) sl H:=λS tk ok ag=>by
 subst hv
 refine⟨sl,S,.refl _,?_⟩
 simp only [hw]
 exact .inr ⟨n,f e,left.map f,hx,ag.get hH,h S tk ok.tail ag.tail⟩
end
section
variable {Kt X:Type} {kD:Kt->D} {enc:X->List D} {sz:Nat}
def pmE (kD:Kt->D) (ns:Nat->Nm) (es:List (Kt×X)):List (D×V):=es.mapIdx λi e=>(kD e.1,V.ref (ns i) 0 0)
abbrev pmB (kD:Kt->D) (ns:Nat->Nm) (es:List (Kt×X)):Box := .pmap (pmE kD ns es)
def pmT (sz:Nat) (enc:X->List D) (ns:Nat->Nm) (es:List (Kt×X)):Hp:=es.mapIdx λi e=>(ns i,some (.cells sz ((enc e.2).map .d)))
def pV (ns:Nat->Nm):Option Nat->V
 | some i => .ref (ns i) 0 0
 | none => .d .nilp
def ns0:Nat->Nm:=λ_=>(0,0)
theorem pmT_get {ns:Nat->Nm} {es:List (Kt×X)} {i:Nat} {e:Kt×X} (h:es[i]? = some e):(pmT sz enc ns es)[i]? = some (ns i,some (.cells sz ((enc e.2).map .d))):=by
 unfold pmT;rw [List.getElem?_mapIdx,h];rfl
theorem Pe {C0:Hp} {ns:Nat->Nm} {es:List (Kt×X)} {i:Nat} {e:Kt×X} (h:es[i]? = some e):(C0++pmT sz enc ns es)[C0.length+i]? = some (ns i,some (.cells sz ((enc e.2).map .d))):=by
 rw [List.getElem?_append_right (by omega),show C0.length+i-C0.length=i by omega];exact pmT_get h
theorem pmT_set {ns:Nat->Nm} {es:List (Kt×X)} {i:Nat} {k:Kt} {x:X}:(pmT sz enc ns es).set i (ns i,some (.cells sz ((enc x).map .d)))=pmT sz enc ns (es.set i (k,x)):=by
 unfold pmT
 rw [O9 (λi (e:Kt×X)=>((ns i,some (Box.cells sz ((enc e.2).map .d))):Nm×Option Box)) _ es i (k,x) (λ_ _ _=>rfl)]
theorem pmT_put {C0:Hp} {ns:Nat->Nm} {es:List (Kt×X)} {i:Nat} {k:Kt} {x:X}:(C0++pmT sz enc ns es).set (C0.length+i) (ns i,some (.cells sz ((enc x).map .d)))=C0++pmT sz enc ns (es.set i (k,x)):=by
 show List.set (C0++pmT sz enc ns es) _ _=_
 rw [List.set_append_right _ _ (by omega),show C0.length+i-C0.length=i by omega,pmT_set]
theorem pmE_set {ns:Nat->Nm} {es:List (Kt×X)} {i:Nat} {k:Kt} {x x':X} (h:es[i]? = some (k,x)):pmE kD ns (es.set i (k,x'))=pmE kD ns es:=by
 unfold pmE
 rw [O9 (λi (e:Kt×X)=>((kD e.1,V.ref (ns i) 0 0):D×V)) _ es i (k,x') (λ_ _ _=>rfl)]
 refine List.ext_getElem? (λj => ?_)
 rw [List.getElem?_set]
 split
 ·rename_i hj;subst hj
  have hlt:=(List.getElem?_eq_some_iff.1 h).1
  simp only [List.length_mapIdx,hlt,if_true,List.getElem?_mapIdx,h,Option.map_some]
 ·rfl
theorem OY {ns:Nat->Nm} {es:List (Kt×X)} {m:Nm} {k:Kt} {x:X}:pmE kD (yZ ns es.length m) (es++[(k,x)])=pmE kD ns es++[(kD k,.ref m 0 0)]:=by
 unfold pmE
 rw [List.mapIdx_append]
 congr 1
 ·refine List.ext_getElem (by simp) (λi h1 h2 => ?_)
  simp only [List.length_mapIdx]at h1
  simp only [List.getElem_mapIdx,yZ]
  rw [if_neg (by omega)]
 ·simp only [List.mapIdx_cons,List.mapIdx_nil,Nat.zero_add,La]
theorem Pi {ns:Nat->Nm} {es:List (Kt×X)} {m:Nm} {k:Kt} {x:X}:pmT sz enc (yZ ns es.length m) (es++[(k,x)])=pmT sz enc ns es++[(m,some (.cells sz ((enc x).map .d)))]:=by
 unfold pmT
 rw [List.mapIdx_append]
 congr 1
 ·refine List.ext_getElem (by simp) (λi h1 h2 => ?_)
  simp only [List.length_mapIdx]at h1
  simp only [List.getElem_mapIdx,yZ]
  rw [if_neg (by omega)]
 ·simp only [List.mapIdx_cons,List.mapIdx_nil,Nat.zero_add,La]
theorem Ig {eq:Kt->Kt->Bool} {k:Kt} {ns:Nat->Nm} (he:∀a b,qp (kD a) (kD b)=some (eq a b)) (es:List (Kt×X)):Dn (kD k) (pmE kD ns es)=some (rz eq k es):=by
 unfold Dn pmE
 rw [<- uK (vD:=λ_=>D.nilp) he es]
 congr 1
 refine List.ext_getElem (by simp) (λi h1 h2 => ?_)
 simp only [List.getElem_map,List.getElem_mapIdx]
def Pj {α:Type}:Option α->Option Unit
 | none=>some ()
 | some _=>none
theorem O6 {α:Type} {o:Option α} {u:Unit} (h:Pj o=some u):o=none:=by
 cases o with
 | none=>rfl
 | some x=>cases h
theorem Lb {ns:Nat->Nm} {o:Option Nat} {i:Nat} (h:o=some i):pV ns o = .ref (ns i) 0 0:=by subst h;rfl
def LZ (P:Program) (t:TypeId):Bool:=match P.underlying t with | some (.pointer _)=>true | _=>false
theorem Nl {P:Program} {t:TypeId} (h:LZ P t=true):∃e,P.underlying t=some (.pointer e):=by
 unfold LZ at h
 split at h
 ·rename_i e hu;exact⟨e,hu⟩
 ·cases h
end
section
variable {C:Cfg} {Q:QH} {sl:Nat->V} {H:Hp} {c:Code}
theorem wH_pm {Kt X:Type} {kD:Kt->D} {enc:X->List D} {sz:Nat} {n:Nm} (j:Nat) (hH:H[j]? = some (n,some (.map []))) (hw:wH C c Q sl (H.set j (n,some (pmB kD ns0 ([]:List (Kt×X))))++pmT sz enc ns0 ([]:List (Kt×X)))):wH C c Q sl H:=by
 have e:(H.set j (n,some (pmB kD ns0 ([]:List (Kt×X))))++pmT sz enc ns0 ([]:List (Kt×X)))=H.set j (n,some (.pmap [])):=by simp [pmT,pmB,pmE]
 rw [e]at hw
 exact si hw (λS t ag=>⟨supd S n (some (.pmap [])),Gst.pm ⟨sl,S,t⟩ n (ag.get hH),ag.set hH (λx hx=>hx)⟩)
end
section
variable {C:Cfg} {sl:Nat->V} {H:Hp} {q:Qm} {all rest:List Oper} {K:(Nat->V)->Hp->Prop}
variable {dst:Option Tmp} {d:Nat} {t ty:TypeId} {pos:String} {after:Array Edge} {g:Option (Nat×Bool)}
variable {Kt X:Type} {kD:Kt->D} {enc:X->List D} {sz:Nat}
theorem Ah {eq:Kt->Kt->Bool} {es:List (Kt×X)} {k:Kt} {x i:Operand} {kt et:TypeId} {n:Nm} {ns:Nat->Nm} (p j:Nat) (hp:q=none\/Nat.beq all.length (p+(rest.length+1))=true)
  (hf:∀S tk,AgR H S tk (⟨dst,.lookup t x i false,ty,pos,after,g⟩::rest)->okQ q all p [n] false) (he:∀a b,qp (kD a) (kD b)=some (eq a b)) (hm:xW C.P t=some (kt,et)) (hkk:qm C.P kt (kD k)=true) (hz:zeroV C.P et=some (.d .nilp))
  (hx:ev sl x = .map n) (hi:ev sl i = .d (kD k)) (hH:H[j]? = some (n,some (pmB kD ns es)))
  (hw:aN all sl ⟨dst,.lookup t x i false,ty,pos,after,g⟩=some true) (h:aU (o6 q p [n] false) C all K rest (cO sl dst (pV ns (rz eq k es))) H):aU q C all K (⟨dst,.lookup t x i false,ty,pos,after,g⟩::rest) sl H:=by
 refine nR p [n] false hp hf (uS hH) hw (λS tk K' ok' ag hk=>iU (A:=⟨[(n,pmB kD ns es)],[],pV ns (rz eq k es)⟩) (λc e=>by cases e) ?_ (hk _ H ⟨by simp,by simp⟩ (λ_=>rfl) ag.tail h))
 show qz C.P t S (ev sl x) (ev sl i) false=_
 unfold qz
 rw [hm,hi,hx]
 simp only [hkk,cond_true,ag.get hH,Ig he]
 cases hj:rz eq k es with
 | none=>simp only [hz,Option.map_some,yM,cond_false,pV]
 | some j =>
  have hlt:=Ha hj
  have:(pmE kD ns es)[j]? = some (kD es[j].1,.ref (ns j) 0 0):=by unfold pmE;rw [List.getElem?_mapIdx,List.getElem?_eq_getElem hlt];rfl
  simp only [this,yM,cond_false,pV]
theorem h_peq {x y:Operand} {e e':TypeId} {ns:Nat->Nm} {o:Option Nat} (hu:LZ C.P e=true) (hx:ev sl x=pV ns o) (hy:ev sl y = .d .nilp) (hw:aN all sl ⟨dst,.binOp .eql e x y e',ty,pos,after,g⟩=some true)
  (h:aU q C all K rest (cO sl dst (vB o.isNone)) H):aU q C all K (⟨dst,.binOp .eql e x y e',ty,pos,after,g⟩::rest) sl H:=by
 obtain ⟨e1,hu⟩:=Nl hu
 refine aJ _ hw ?_ h
 show zw C.P .eql e x y (ev sl x) (ev sl y)=_
 rw [hx,hy]
 cases o with
 | none=>simp only [pV,zw,ol,Ez,NL,Py,Cj,hu,Option.isNone_none]
 | some i=>simp only [pV,zw,ol,Ez,NL,Py,Cj,hu,Option.isNone_some]
theorem h_pset {eq:Kt->Kt->Bool} {C0 C1:Hp} {es:List (Kt×X)} {k:Kt} {v:X} {m i x:Operand} {kt et:TypeId} {n nm:Nm} {ns:Nat->Nm} {cs:List V} (j jc:Nat)
  (he:∀a b,qp (kD a) (kD b)=some (eq a b)) (hm:xW C.P t=some (kt,et)) (hkk:qm C.P kt (kD k)=true)
  (hx:ev sl m = .map n) (hi:ev sl i = .d (kD k)) (hd:ev sl x = .ref nm 0 0) (hH:C0[j]? = some (n,some (pmB kD ns es))) (hc:C0[jc]? = some (nm,some (.cells sz cs))) (hcs:(enc v).map V.d=cs) (hjc:jc≠j) (hn:rz eq k es=none)
  (hC1:(C0.set j (n,some (pmB kD (yZ ns es.length nm) (es++[(k,v)])))).eraseIdx jc=C1)
  (hw:aN all sl ⟨dst,.mapUpdate t m i x,ty,pos,after,g⟩=some true) (h:aU none C all K rest (cO sl dst .none) (C1++pmT sz enc (yZ ns es.length nm) (es++[(k,v)]))) :
  aU none C all K (⟨dst,.mapUpdate t m i x,ty,pos,after,g⟩::rest) sl (C0++pmT sz enc ns es):=by
 have hjl:j<C0.length:=(List.getElem?_eq_some_iff.1 hH).1
 have hcl:jc<C0.length:=(List.getElem?_eq_some_iff.1 hc).1
 have hH':(C0++pmT sz enc ns es)[j]? = some (n,some (pmB kD ns es)):=by rw [List.getElem?_append_left hjl];exact hH
 refine nR 0 [n] true (.inl rfl) (λ_ _ _=>trivial) (uS hH') hw (λS tk K' ok' ag hk=>iU (A:=⟨[(n,pmB kD ns es)],[(n,some (pmB kD (yZ ns es.length nm) (es++[(k,v)])))],.none⟩) (λc e=>by cases e) ?_ (hk _ _ ⟨by simp,by simp⟩ (λe=>by cases e) ((ag.tail.set hH' (b:=some (pmB kD (yZ ns es.length nm) (es++[(k,v)]))) (λx hx=>hx)).perm ?_) h))
 ·show iR C.P t S (ev sl m) (ev sl i) (ev sl x)=_
  rw [hx,hi,hd]
  unfold iR ng Dl
  simp only [hm,cond_true,hkk,ag.get hH',Ig he,hn,pmB,OY]
 ·subst hC1
  rw [Pi,hcs,List.set_append_left _ _ hjl]
  have hget:(C0.set j (n,some (pmB kD (yZ ns es.length nm) (es++[(k,v)]))))[jc]? = some (nm,some (.cells sz cs)):=by
   rw [List.getElem?_set_ne (Ne.symm hjc)];exact hc
  obtain ⟨hl2,hg2⟩:=List.getElem?_eq_some_iff.1 hget
  have p1:=xX hl2
  rw [hg2]at p1
  refine List.Perm.trans ?_ (p1.append_right _)
  rw [<- List.append_assoc]
  exact List.perm_append_comm (l₁:=_++_) (l₂:=[_]) |>.trans (List.Perm.of_eq rfl)
theorem PL {C0:Hp} {x:Operand} {size:Nat} {agg:Bool} {i o:Nat} {ns:Nat->Nm} {es:List (Kt×X)} {e:Kt×X} (p:Nat) (hp:q=none\/Nat.beq all.length (p+(rest.length+1))=true) (hf:∀S tk,AgR (C0++pmT sz enc ns es) S tk (⟨dst,.load t x,ty,pos,after,g⟩::rest)->okQ q all p [ns i] false) (hs:szT C.P t=some size) (ha:bJ C.P t=agg) (hx:ev sl x = .ref (ns i) 0 o) (he:es[i]? = some e)
  (v:V) (hv:rdV agg size (((enc e.2).map V.d).drop (0*sz+o))=some v) (hw:aN all sl ⟨dst,.load t x,ty,pos,after,g⟩=some true) (h:aU (o6 q p [ns i] false) C all K rest (cO sl dst v) (C0++pmT sz enc ns es)):aU q C all K (⟨dst,.load t x,ty,pos,after,g⟩::rest) sl (C0++pmT sz enc ns es) :=
 aG p (C0.length+i) hp hf hs ha hx (Pe he) v hv hw h
theorem h_pst {C0:Hp} {x y:Operand} {size:Nat} {i o:Nat} {ns:Nat->Nm} {es:List (Kt×X)} {e:Kt×X} (p:Nat) (hp:q=none\/Nat.beq all.length (p+(rest.length+1))=true) (hf:∀S tk,AgR (C0++pmT sz enc ns es) S tk (⟨dst,.store t x y,ty,pos,after,g⟩::rest)->okQ q all p [ns i] true) (hs:szT C.P t=some size) (hx:ev sl x = .ref (ns i) 0 o) (he:es[i]? = some e) (e':X)
  (hv:stC size ((enc e.2).map V.d) (0*sz+o) (ev sl y)=some ((enc e').map V.d)) (hw:aN all sl ⟨dst,.store t x y,ty,pos,after,g⟩=some true) (h:aU (o6 q p [ns i] true) C all K rest (cO sl dst .none) (C0++pmT sz enc ns (es.set i (e.1,e')))) (ht:Nat.blt sz 1048576=true:=by rfl):aU q C all K (⟨dst,.store t x y,ty,pos,after,g⟩::rest) sl (C0++pmT sz enc ns es) :=
 gu p hp hf (C0.length+i) hs hx (Pe he) _ hv hw (by rw [pmT_put (k:=e.1)];exact h) ht
theorem Lg {ns:Nat->Nm} {es:List (Kt×X)} {i:Nat} {e:Kt×X} {x':X} (h:es[i]? = some e):(some (pmB kD ns es):Option Box)=some (pmB kD ns (es.set i (e.1,x'))):=by
 obtain ⟨k,x⟩:=e
 unfold pmB;rw [pmE_set h]
def pmL (es:List (Kt×X)):List (Nat×Kt):=es.mapIdx λi e=>(i,e.1)
theorem Oq {ns:Nat->Nm} (es:List (Kt×X)):D9 (pmB kD ns es)=some ((pmL es).map λe=>(kD e.2,V.ref (ns e.1) 0 0)):=by
 show some (pmE kD ns es)=_
 congr 1
 unfold pmE pmL
 refine List.ext_getElem (by simp) (λi h1 h2 => ?_)
 simp only [List.getElem_map,List.getElem_mapIdx]
end
end Go.Eng

