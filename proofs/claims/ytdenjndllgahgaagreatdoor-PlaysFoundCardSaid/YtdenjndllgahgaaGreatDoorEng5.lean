/-
  The engine: what the machine does to data, shown once for all programs (part 5).
-/
import Derived.Test.YtdenjndllgahgaaGreatDoorEng4
import Derived.Lib.LaidTab
import Derived.Lib.ItoaNum
import Derived.Deep.Draws
import Derived.Below
import Derived.Lib.IndexMore
import Derived.Lib.TrimByte
import Derived.Lib.Join
import Derived.Lib.Repeat
import Derived.Lib.TrailingZeros
import Derived.Lib.SlTrimSet
/-
  THE ENGINE: a slice that is cut in its own box and grows again; boxes of slices that may be empty; maps whose keys are structs.
-/
namespace Go.Eng
set_option linter.unusedSectionVars false
variable [DM]
set_option linter.unusedVariables false
set_option linter.unusedSimpArgs false
section
variable {C:Cfg} {Q:QH} {sl:Nat->V} {H:Hp} {c:Code}
end
section
variable {C:Cfg} {sl:Nat->V} {H:Hp} {q:Qm} {all rest:List Oper} {K:(Nat->V)->Hp->Prop}
variable {dst:Option Tmp} {d:Nat} {t ty:TypeId} {pos:String} {after:Array Edge} {g:Option (Nat×Bool)}
end
end Go.Eng

/-
  THE ENGINE: rules for arrays of bytes in a box, and for bytes to a string and back.
-/
namespace Go.Eng
set_option linter.unusedSectionVars false
variable [DM]
open Go
set_option linter.unusedVariables false
set_option linter.unusedSimpArgs false
section
variable {C:Cfg} {sl:Nat->V} {H:Hp} {q:Qm} {all rest:List Oper} {K:(Nat->V)->Hp->Prop}
variable {dst:Option Tmp} {d:Nat} {t ty:TypeId} {pos:String} {after:Array Edge} {g:Option (Nat×Bool)}
section
variable {xs:List Int} {m:Nat} {nm:Nm} {x l hi:Operand} {k k':IntKind} {a b:Int} {u u':Unit}
end
theorem GN {P:Program} {e:TypeId} (h:P.underlying e=some (.int .u8)):oV P e=true:=by unfold oV;rw [h]
theorem h_convs {b:ByteArray} {x:Operand} {s e:TypeId} (hs:C.P.underlying s=some .string) (ht:C.P.underlying t=some (.slice e)) (he:C.P.underlying e=some (.int .u8)) (hx:ev sl x=vS b)
  (hw:aM all sl ⟨dst,.convert s t x,ty,pos,after,g⟩=some true) (h:aV q C all K rest (dE sl dst (vL (eK .u8) (di b))) H):aV q C all K (⟨dst,.convert s t x,ty,pos,after,g⟩::rest) sl H :=
 jv hw (λS tk K' _ hk=>iZ (A:=⟨[],[],vL (eK .u8) (di b)⟩) (λc e=>by cases e) (by
  show orE ((sF C.P s t (ev sl x)).bind eD) (oG C.P s t S (ev sl x))=_
  have:sF C.P s t (vS b)=none:=by unfold sF;rw [hs,ht]
  rw [hx,this]
  show oG C.P s t S (vS b)=_
  simp only [oG,hs,ht,GN he,cond_true];rfl) (hk _ rfl rfl rfl)) h
end
end Go.Eng

/-
  THE ENGINE: strconv.Itoa, by its contract off the shelf; the table that it reads is known.
-/
namespace Go.Eng
set_option linter.unusedSectionVars false
variable [DM]
open Go.Sort
set_option linter.unusedVariables false
set_option linter.unusedSimpArgs false
theorem E5 {P:Program} {G:Gh} {w:World} {name:String} {k:IntKind} {zs:List Int} (hl:∀w0,Ba w0->Lib.TabIs P w0 name k zs) (hz:zs ≠ []) (h:Kn G w):Lib.TabIs P w name k zs:=by
 obtain ⟨w0,h1,h2⟩:=h
 have ht:=hl w0 h1
 unfold Lib.TabIs World.var? at ht ⊢
 cases hg:P.globalNamed name with
 | none=>rw [hg]at ht;simp at ht
 | some g =>
  rw [hg]at ht
  simp only [ob_]at ht ⊢
  have hlt:g<w0.heap.size:=by
   rcases Nat.lt_or_ge g w0.heap.size with h|h
   ·exact h
   ·rw [Array.getElem?_eq_none h]at ht;cases ht
  have hc:∀o,w.cell? ⟨g,o,Option.none⟩=w0.cell? ⟨g,o,Option.none⟩:=λo=>(h2 g o hlt).2
  cases hb:w0.heap[g]? with
  | none=>rw [hb]at ht;cases ht
  | some ob =>
   rw [hb]at ht
   cases ob with
   | cells cs t fr =>
    simp only [so_]at ht
    have e0:∀o,w0.cell? ⟨g,o,Option.none⟩=cs[o]? := λo=>by simp [World.cell?,hb]
    cases hw:w.heap[g]? with
    | none =>
     exfalso
     have:=hc 0
     rw [e0]at this
     simp only [World.cell?,hw]at this
     rw [ht]at this
     cases zs with
     | nil=>exact hz rfl
     | cons z zs=>simp at this
    | some ob' =>
     cases ob' with
     | cells cs' t' fr' =>
      have e1:∀o,w.cell? ⟨g,o,Option.none⟩=cs'[o]? := λo=>by simp [World.cell?,hw]
      have:cs'=cs:=Array.ext_getElem? (λo=>by rw [<- e1,<- e0,hc])
      rw [this,ht]
     | _ =>
      exfalso
      have:=hc 0
      rw [e0]at this
      simp only [World.cell?,hw]at this
      rw [ht]at this
      cases zs with
      | nil=>exact hz rfl
      | cons z zs=>simp at this
   | _=>cases ht
def DI (n:Int):Option ByteArray:=if -9223372036854775808<=n/\n<=9223372036854775807 then some ⟨(Lib.itoa n).toArray⟩else none
theorem itoa_ok {P:Program} {f:FuncId}
  (hC : ∀ (n : Int), -9223372036854775808 ≤ n → n ≤ 9223372036854775807 → ∀ w : World, Lib.TabIs P w "internal/strconv.uint64pow10" .u64 Lib.pow10Tab →
   Calls P f #[.int .i64 n] w λe w'=>e = .returned (.string ⟨(Lib.itoa n).toArray⟩)/\∃k os,w'=grow (w.drewN k) os)
  (hl : ∀ w0, Ba w0 → Lib.TabIs P w0 "internal/strconv.uint64pow10" .u64 Lib.pow10Tab) {n : Int} {r : ByteArray} (hF : DI n = some r) : FnM P f [.d (.int .i64 n)] [] (.d (.str r)) [] := by
 unfold DI at hF
 split at hF
 ·rename_i hn
  simp only [so_]at hF
  subst hF
  intro G w vargs hinv hargs
  obtain ⟨v,rfl,hv⟩:=hargs.alone
  have hv':RepD G.imm w v (.int .i64 n):=hv.d_inv
  cases hv' with
  | int =>
   refine (hC n hn.1 hn.2 w (E5 hl (by decide) hinv.kn)).mono ?_
   rintro e w' ⟨rfl,k,os,rfl⟩
   obtain ⟨i2,e2⟩:=hinv.more (w':=grow (w.drewN k) os) (G':=G) (U':=λ_=>False) (λb' hb'=>by
    show (w.heap++os)[b']? = _
    rw [Array.getElem?_append_left hb']) (by simp [grow,World.drewN]) rfl rfl rfl (λ_ _ h=>h) (λ_ _ h => .inl h) rfl (λ_ h=>h) (λ_=>Nat.le_add_right w.drawn k)
   exact⟨_,G,_,1,_,[],rfl,i2,.d (.str _),rfl,List.nodup_nil,λi hi=>absurd hi (Nat.not_lt_zero i),λi bx hb=>by simp at hb⟩
 ·cases hF
end Go.Eng

/-
  THE ENGINE: functions over literals, by their contracts off the shelf.
-/
namespace Go.Eng
set_option linter.unusedSectionVars false
variable [DM]
open Go.RowKit (Below)
set_option linter.unusedVariables false
set_option linter.unusedSimpArgs false
def isLit:D->Bool
 | .int _ _ | .bool _ | .str _=>true
 | _=>false
def lv:D->Value
 | .int k n => .int k n
 | .bool b => .bool b
 | .str s => .string s
 | _=>undef
theorem lit_inv {I:Nat->Nat->Prop} {w:World} {v:Value} {d:D} (h:RepD I w v d) (hl:isLit d=true):v=lv d:=by
 cases h with
 | int k n=>rfl
 | bool b=>rfl
 | str s=>rfl
 | agg=>cases hl
 | sl0=>cases hl
 | sl=>cases hl
 | ptr=>cases hl
 | nilp=>cases hl
theorem BS {G:Gh} {w:World}:∀{vs:List Value} {ds:List D},mM G w vs (ds.map V.d)->ds.all isLit=true->vs=ds.map lv
 | [],[],_,_=>rfl
 | [],d::ds,h,_=>by have:=h.1;simp at this
 | v::vs,[],h,_=>by have:=h.1;simp at this
 | v::vs,d::ds,h,hl=>by
  simp only [List.all_cons,Bool.and_eq_true]at hl
  obtain ⟨hlen,h⟩:=h
  have h0:RepV G w v (.d d):=h 0 (by simp) (by simp)
  have e:=lit_inv h0.d_inv hl.1
  have:mM G w vs (ds.map V.d):=⟨by simpa using hlen,λi h1 h2=>by
   have:=h (i+1) (by simpa using h1) (by simpa using h2)
   simpa using this⟩
  rw [e,BS this hl.2];rfl
theorem Ff {P:Program} {f:FuncId} (ds:List D) (v:Value) (r:V) (ha:ds.all isLit=true) (hr:∀G w,RepV G w v (ren [] r))
  (hC:∀(G:Gh) (w:World),Kn G w->Calls P f (ds.map lv).toArray w λe w'=>e = .returned v/\Below w.heap.size w w'/\(dmK=true->w.drawn<=w'.drawn)):FnM P f (ds.map V.d) [] r []:=by
 intro G w vargs hinv hargs
 rw [BS hargs ha]
 refine (hC G w hinv.kn).mono ?_
 rintro e w' ⟨rfl,hb,hd⟩
 obtain ⟨i2,e2⟩:=hinv.more (w':=w') (G':=G) (U':=λ_=>False) (λb' hb'=>hb.block b' hb') hb.size hb.os hb.tape hb.output (λ_ _ h=>h) (λ_ _ h => .inl h) rfl (λ_ h=>h) hd
 exact⟨_,G,_,1,_,[],rfl,i2,hr _ _,rfl,List.nodup_nil,λi hi=>absurd hi (Nat.not_lt_zero i),λi bx hb=>by simp at hb⟩
end Go.Eng

/-
  THE ENGINE: strings.Join, strings.Repeat, bits.TrailingZeros, by their contracts off the shelf.
-/
namespace Go.Eng
set_option linter.unusedSectionVars false
variable [DM]
open Go
open Go.RowKit (Below)
set_option linter.unusedVariables false
set_option linter.unusedSimpArgs false
def zk (s t:ByteArray):Option ByteArray:=if s.size<=9223372036854775807/\t.size<4294967281/\t.data.toList.all (λb=>decide (b.toNat<128))=true then some ⟨(Lib.trimS s.data.toList t.data.toList).toArray⟩else none
theorem FQ (hdm:dmK=false) {P:Program} {f:FuncId}
  (hC:∀(s t:ByteArray) (w:World),s.size<=9223372036854775807->t.size<4294967281->(∀(j:Nat) b,t.data.toList[j]? = some b->b.toNat<128) ->
   Calls P f #[.string s,.string t] w λe w'=>e = .returned (.string ⟨(Lib.trimS s.data.toList t.data.toList).toArray⟩)/\Below w.heap.size w w')
  {s t r:ByteArray} (hF:zk s t=some r):FnM P f [.d (.str s),.d (.str t)] [] (.d (.str r)) []:=by
 unfold zk at hF
 split at hF
 ·rename_i hx
  simp only [so_]at hF
  subst hF
  exact Ff [.str s,.str t] _ _ rfl (λG w => .d (.str _)) (λG w hk=>(hC s t w hx.1 hx.2.1 (λj b hb=>of_decide_eq_true (List.all_eq_true.1 hx.2.2 b (List.mem_of_getElem? hb)))).mono (λe w' hw=>⟨hw.1,hw.2,λh=>by rw [hdm]at h;cases h⟩))
 ·cases hF
def Dx (xs:List ByteArray) (sep:ByteArray):Option ByteArray :=
 if xs.length<=140737488355328/\(Lib.join (xs.map (·.data.toList)) sep.data.toList).length<=140737488355328 then some ⟨(Lib.join (xs.map (·.data.toList)) sep.data.toList).toArray⟩else none
theorem join_ok (hdm:dmK=false) {P:Program} {f:FuncId}
  (h0:∀(a:Option Addr) (c:Nat) (sep:ByteArray) (w:World),Calls P f #[.slice a 0 c,.string sep] w λe w'=>e = .returned (.string ⟨#[]⟩)/\w'=w)
  (hC:∀(bk o c:Nat) (xs:List ByteArray) (sep:ByteArray) (w:World),(∀(j:Nat) x,xs[j]? = some x->w.cell? ⟨bk,o+j,none⟩=some (.string x))->bk<w.heap.size->xs.length<=140737488355328->xs.length<=c ->
   (Lib.join (xs.map (·.data.toList)) sep.data.toList).length<=140737488355328 ->
   Calls P f #[.slice (some ⟨bk,o,none⟩) xs.length c,.string sep] w λe w'=>e = .returned (.string ⟨(Lib.join (xs.map (·.data.toList)) sep.data.toList).toArray⟩)/\Below w.heap.size w w')
  {xs:List ByteArray} {sep r:ByteArray} (hF:Dx xs sep=some r):FnM P f [vL eS xs,vS sep] [] (vS r) []:=by
 unfold Dx at hF
 split at hF
 ·rename_i hx
  simp only [so_]at hF
  subst hF
  intro G w vargs hinv hargs
  have hfin:∀w',Below w.heap.size w w'->∃v G' S' tk' U' ν,Ending.returned (.string ⟨(Lib.join (xs.map (·.data.toList)) sep.data.toList).toArray⟩) = .returned v/\Inv ⟨G,w,wY G []⟩ G' w' S' tk' U'/\RepV G' w' v (ren ν (vS ⟨(Lib.join (xs.map (·.data.toList)) sep.data.toList).toArray⟩)) /\
    ν.length=([]:List (Option Box)).length/\ν.Nodup/\(∀i,i<([]:List Box).length->ν[i]? = some (au i))/\∀(i:Nat) (bx:Box),([]:List (Option Box))[i]? = some (some bx)->∃n,ν[i]? = some n/\S' n=some (bx.ren ν):=by
   intro w' hb
   obtain ⟨i2,e2⟩:=hinv.more (w':=w') (G':=G) (U':=λ_=>False) (λb' hb'=>hb.block b' hb') hb.size hb.os hb.tape hb.output (λ_ _ h=>h) (λ_ _ h => .inl h) rfl (λ_ h=>h) (λh=>by rw [hdm]at h;cases h)
   exact⟨_,G,_,1,_,[],rfl,i2,.d (.str _),rfl,List.nodup_nil,λi hi=>absurd hi (Nat.not_lt_zero i),λi bx hb=>by simp at hb⟩
  obtain ⟨hl,ha⟩:=hargs
  obtain ⟨v0,v1,rfl⟩:∃v0 v1,vargs=[v0,v1]:=by
   match vargs,hl with
   | [v0,v1],_=>exact⟨v0,v1,rfl⟩
  have r0:RepV G w v0 (vL eS xs):=ha 0 (by simp) (by simp)
  have r1:RepV G w v1 (vS sep):=ha 1 (by simp) (by simp)
  rw [r1.d_inv.str_inv]
  have r0':=r0.d_inv
  generalize hys:xs.map eS=ys at r0'
  cases r0' with
  | sl0 a cap =>
   have hn:xs=[]:=by simpa using hys
   subst hn
   refine (h0 a cap sep w).mono ?_
   rintro e w' ⟨rfl,rfl⟩
   exact hfin _ (Below.refl _ _)
  | sl b off cap sz _ us hcap hsz hI hc ho hr =>
   have hlen:ys.length=xs.length:=by rw [<- hys];simp
   have hcell:∀(j:Nat) x,xs[j]? = some x->w.cell? ⟨b,off+j,none⟩=some (.string x):=by
    intro j x hj
    obtain ⟨hj1,hj2⟩:=List.getElem?_eq_some_iff.1 hj
    have hj':j<ys.length:=by omega
    have hy:ys[j]=[D.str x]:=by
     subst hys
     rw [List.getElem_map,hj2];rfl
    have hz:sz=1:=by rw [<- hsz j hj',hy];rfl
    subst hz
    have h2:=hc j 0 hj' (by omega)
    have h3:=hr j 0 hj' (by rw [hy];exact Nat.zero_lt_one)
    have h4:us j 0 = .string x:=by
     have:ys[j][0]'(by rw [hy];exact Nat.zero_lt_one)=D.str x:=by simp [hy]
     rw [this]at h3
     exact h3.str_inv
    rw [h4]at h2
    simpa using h2
   rw [hlen]
   cases xs with
   | nil =>
    refine (h0 (some ⟨b,off,none⟩) cap sep w).mono ?_
    rintro e w' ⟨rfl,rfl⟩
    exact hfin _ (Below.refl _ _)
   | cons x xs =>
    have hb:b<w.heap.size:=by
     rcases Nat.lt_or_ge b w.heap.size with h|h
     ·exact h
     ·have h1:=hcell 0 x rfl
      have e:w.heap[b]? = none:=Array.getElem?_eq_none h
      simp only [World.cell?,e]at h1
      cases h1
    refine (hC b off cap (x::xs) sep w hcell hb hx.1 (by omega) hx.2).mono ?_
    rintro e w' ⟨rfl,hbw⟩
    exact hfin _ hbw
 ·cases hF
end Go.Eng

