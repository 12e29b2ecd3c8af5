/-
  The engine: what the machine does to data, shown once for all programs (part 5).
-/
import Derived.Test.YtljhfffghjclfaaGreatDoorEng4
import Derived.Lib.LaidTab
import Derived.Lib.ItoaNum
import Derived.Deep.Draws
import Derived.Below
import Derived.Lib.IndexMore
import Derived.Lib.TrimByte
import Derived.Lib.Join
import Derived.Lib.Repeat
import Derived.Lib.TrailingZeros
import Derived.Lib.SlTrimSet
import Derived.Sort.KeysCollected
import Derived.Laws.AppendOwn
import Derived.Shelf.Strings.FuncGrows
import Derived.Shelf.Unicode.DecodeSlow
import Derived.Lib.ValidU
import Derived.Lib.SplitLaws
import Derived.Lib.Atoi
import Derived.Lib.AtoiErrMem
import Derived.Shelf.Strings.Builder1
import Derived.Lib.Replace
/-
  THE ENGINE: a slice that is cut in its own box and grows again; boxes of slices that may be empty; maps whose keys are structs.
-/
namespace Go.Eng
set_option linter.unusedSectionVars false
variable [DM]
set_option linter.unusedVariables false
set_option linter.unusedSimpArgs false
section
variable {C:Cfg} {Q:QH} {sl:Nat->V} {H:Hp} {c:Code}
end
section
variable {C:Cfg} {sl:Nat->V} {H:Hp} {q:Qm} {all rest:List Oper} {K:(Nat->V)->Hp->Prop}
variable {dst:Option Tmp} {d:Nat} {t ty:TypeId} {pos:String} {after:Array Edge} {g:Option (Nat×Bool)}
end
def cutG {β:Type} (env:β->List (Nat×V)) (Hs:β->Hp) (R:β->Prop):(Nat->V)->Hp->Prop:=λsl H =>
 ∀(C:Cfg) (b:Code) (Q:QH),(∀x,R x->∀sl' H',Eng.pick (env x) sl'=env x->Eng.pre (Hs x) H'->wH C b Q sl' H')->wH C b Q sl H
theorem GL {C:Cfg} {c b:Code} {Q Q':QH} {sl:Nat->V} {H:Hp} {β:Type} (env:β->List (Nat×V)) (Hs:β->Hp) (R:β->Prop) (h1:wH C c (Cf (cutG env Hs R) (Cf (wH C b Q) Q')) sl H)
  (h2:∀x,R x->∀sl' H',Eng.pick (env x) sl'=env x->Eng.pre (Hs x) H'->wH C b Q sl' H'):wH C c (Cf (wH C b Q) Q') sl H:=by
 refine D8 (λe sl H h => ?_) h1
 cases e with
 | normal=>exact h C b Q h2
 | _=>exact h
end Go.Eng

/-
  THE ENGINE: rules for arrays of bytes in a box, and for bytes to a string and back.
-/
namespace Go.Eng
set_option linter.unusedSectionVars false
variable [DM]
open Go
set_option linter.unusedVariables false
set_option linter.unusedSimpArgs false
section
variable {C:Cfg} {sl:Nat->V} {H:Hp} {q:Qm} {all rest:List Oper} {K:(Nat->V)->Hp->Prop}
variable {dst:Option Tmp} {d:Nat} {t ty:TypeId} {pos:String} {after:Array Edge} {g:Option (Nat×Bool)}
section
variable {xs:List Int} {m:Nat} {nm:Nm} {x l hi:Operand} {k k':IntKind} {a b:Int} {u u':Unit}
end
end
end Go.Eng

/-
  THE ENGINE: strconv.Itoa, by its contract off the shelf; the table that it reads is known.
-/
namespace Go.Eng
set_option linter.unusedSectionVars false
variable [DM]
open Go.Sort
set_option linter.unusedVariables false
set_option linter.unusedSimpArgs false
theorem L9 {P:Program} {G:Gh} {w:World} {name:String} {k:IntKind} {zs:List Int} (hl:∀w0,tu w0->Lib.TabIs P w0 name k zs) (hz:zs ≠ []) (h:Kn G w):Lib.TabIs P w name k zs:=by
 obtain ⟨w0,h1,h2⟩:=h
 have ht:=hl w0 h1
 unfold Lib.TabIs World.var? at ht ⊢
 cases hg:P.globalNamed name with
 | none=>rw [hg]at ht;simp at ht
 | some g =>
  rw [hg]at ht
  simp only [ob_]at ht ⊢
  have hlt:g<w0.heap.size:=by
   rcases Nat.lt_or_ge g w0.heap.size with h|h
   ·exact h
   ·rw [Array.getElem?_eq_none h]at ht;cases ht
  have hc:∀o,w.cell? ⟨g,o,Option.none⟩=w0.cell? ⟨g,o,Option.none⟩:=λo=>(h2 g o hlt).2
  cases hb:w0.heap[g]? with
  | none=>rw [hb]at ht;cases ht
  | some ob =>
   rw [hb]at ht
   cases ob with
   | cells cs t fr =>
    simp only [so_]at ht
    have e0:∀o,w0.cell? ⟨g,o,Option.none⟩=cs[o]? := λo=>by simp [World.cell?,hb]
    cases hw:w.heap[g]? with
    | none =>
     exfalso
     have:=hc 0
     rw [e0]at this
     simp only [World.cell?,hw]at this
     rw [ht]at this
     cases zs with
     | nil=>exact hz rfl
     | cons z zs=>simp at this
    | some ob' =>
     cases ob' with
     | cells cs' t' fr' =>
      have e1:∀o,w.cell? ⟨g,o,Option.none⟩=cs'[o]? := λo=>by simp [World.cell?,hw]
      have:cs'=cs:=Array.ext_getElem? (λo=>by rw [<- e1,<- e0,hc])
      rw [this,ht]
     | _ =>
      exfalso
      have:=hc 0
      rw [e0]at this
      simp only [World.cell?,hw]at this
      rw [ht]at this
      cases zs with
      | nil=>exact hz rfl
      | cons z zs=>simp at this
   | _=>cases ht
def JH (n:Int):Option ByteArray:=if -9223372036854775808<=n/\n<=9223372036854775807 then some ⟨(Lib.itoa n).toArray⟩else none
theorem itoa_ok {P:Program} {f:FuncId}
  (hC : ∀ (n : Int), -9223372036854775808 ≤ n → n ≤ 9223372036854775807 → ∀ w : World, Lib.TabIs P w "internal/strconv.uint64pow10" .u64 Lib.pow10Tab →
   Calls P f #[.int .i64 n] w λe w'=>e = .returned (.string ⟨(Lib.itoa n).toArray⟩)/\∃k os,w'=grow (w.drewN k) os)
  (hl : ∀ w0, tu w0 → Lib.TabIs P w0 "internal/strconv.uint64pow10" .u64 Lib.pow10Tab) {n : Int} {r : ByteArray} (hF : JH n = some r) : FnM P f [.d (.int .i64 n)] [] (.d (.str r)) [] := by
 unfold JH at hF
 split at hF
 ·rename_i hn
  simp only [so_]at hF
  subst hF
  intro G w vargs hinv hargs
  obtain ⟨v,rfl,hv⟩:=hargs.alone
  have hv':RepD G.imm w v (.int .i64 n):=hv.d_inv
  cases hv' with
  | int =>
   refine (hC n hn.1 hn.2 w (L9 hl (by decide) hinv.kn)).mono ?_
   rintro e w' ⟨rfl,k,os,rfl⟩
   obtain ⟨i2,e2⟩:=hinv.more (w':=grow (w.drewN k) os) (G':=G) (U':=λ_=>False) (λb' hb'=>by
    show (w.heap++os)[b']? = _
    rw [Array.getElem?_append_left hb']) (by simp [grow,World.drewN]) rfl rfl rfl (λ_ _ h=>h) (λ_ _ h => .inl h) rfl (λ_ h=>h) (λ_=>Nat.le_add_right w.drawn k)
   exact⟨_,G,_,1,_,[],rfl,i2,.d (.str _),rfl,List.nodup_nil,λi hi=>absurd hi (Nat.not_lt_zero i),λi bx hb=>by simp at hb⟩
 ·cases hF
end Go.Eng

/-
  THE ENGINE: functions over literals, by their contracts off the shelf.
-/
namespace Go.Eng
set_option linter.unusedSectionVars false
variable [DM]
open Go.RowKit (Below)
set_option linter.unusedVariables false
set_option linter.unusedSimpArgs false
def isLit:D->Bool
 | .int _ _ | .bool _ | .str _=>true
 | _=>false
def lv:D->Value
 | .int k n => .int k n
 | .bool b => .bool b
 | .str s => .string s
 | _=>undef
theorem Ej {I:Nat->Nat->Prop} {w:World} {v:Value} {d:D} (h:RepD I w v d) (hl:isLit d=true):v=lv d:=by
 cases h with
 | int k n=>rfl
 | bool b=>rfl
 | str s=>rfl
 | agg=>cases hl
 | sl0=>cases hl
 | sl=>cases hl
 | ptr=>cases hl
 | nilp=>cases hl
 | nils=>cases hl
 | wild0=>cases hl
 | wild=>cases hl
 | wildp=>cases hl
theorem AX {G:Gh} {w:World}:∀{vs:List Value} {ds:List D},mR G w vs (ds.map V.d)->ds.all isLit=true->vs=ds.map lv
 | [],[],_,_=>rfl
 | [],d::ds,h,_=>by have:=h.1;simp at this
 | v::vs,[],h,_=>by have:=h.1;simp at this
 | v::vs,d::ds,h,hl=>by
  simp only [List.all_cons,Bool.and_eq_true]at hl
  obtain ⟨hlen,h⟩:=h
  have h0:RepV G w v (.d d):=h 0 (by simp) (by simp)
  have e:=Ej h0.d_inv hl.1
  have:mR G w vs (ds.map V.d):=⟨by simpa using hlen,λi h1 h2=>by
   have:=h (i+1) (by simpa using h1) (by simpa using h2)
   simpa using this⟩
  rw [e,AX this hl.2];rfl
theorem xM {P:Program} {f:FuncId} (ds:List D) (v:Value) (r:V) (ha:ds.all isLit=true) (hr:∀G w,RepV G w v (ren [] r))
  (hC:∀(G:Gh) (w:World),Kn G w->Calls P f (ds.map lv).toArray w λe w'=>e = .returned v/\Below w.heap.size w w'/\(dmK=true->w.drawn<=w'.drawn)):FnM P f (ds.map V.d) [] r []:=by
 intro G w vargs hinv hargs
 rw [AX hargs ha]
 refine (hC G w hinv.kn).mono ?_
 rintro e w' ⟨rfl,hb,hd⟩
 obtain ⟨i2,e2⟩:=hinv.more (w':=w') (G':=G) (U':=λ_=>False) (λb' hb'=>hb.block b' hb') hb.size hb.os hb.tape hb.output (λ_ _ h=>h) (λ_ _ h => .inl h) rfl (λ_ h=>h) hd
 exact⟨_,G,_,1,_,[],rfl,i2,hr _ _,rfl,List.nodup_nil,λi hi=>absurd hi (Nat.not_lt_zero i),λi bx hb=>by simp at hb⟩
def qP (s t:ByteArray):Option Bool:=if s.size<4294967281 then some (Lib.contains s.data.toList t.data.toList)else none
theorem Gl {P:Program} {f:FuncId} {g:Nat}
  (hC:∀(s t:ByteArray) (m:Int) (w:World),s.size<4294967281->w.cell? ⟨g,0,Option.none⟩=some (.int .i64 m)->Calls P f #[.string s,.string t] w λe w'=>e = .returned (.bool (Lib.contains s.data.toList t.data.toList))/\w'=w)
  (hl:∀w0,tu w0->∃m,w0.cell? ⟨g,0,Option.none⟩=some (.int .i64 m)) {s t:ByteArray} {r:Bool} (h:qP s t=some r):FnM P f [.d (.str s),.d (.str t)] [] (.d (.bool r)) []:=by
 unfold qP at h
 split at h
 ·rename_i hs
  simp only [so_]at h
  subst h
  refine xM [.str s,.str t] _ _ rfl (λG w => .d (.bool _)) (λG w hk => ?_)
  obtain ⟨w0,h1,h2⟩:=hk
  obtain ⟨m,hm⟩:=hl w0 h1
  have hb:g<w0.heap.size:=by
   rcases Nat.lt_or_ge g w0.heap.size with h|h
   ·exact h
   ·have e:w0.heap[g]? = none:=Array.getElem?_eq_none h
    simp only [World.cell?,e]at hm
    cases hm
  exact (hC s t m w hs (by rw [(h2 g 0 hb).2];exact hm)).mono (λe w' hw=>⟨hw.1,by rw [hw.2];exact⟨Below.refl _ _,λ_=>Nat.le_refl _⟩⟩)
 ·cases h
end Go.Eng

/-
  THE ENGINE: strings.Join, strings.Repeat, bits.TrailingZeros, by their contracts off the shelf.
-/
namespace Go.Eng
set_option linter.unusedSectionVars false
variable [DM]
open Go
open Go.RowKit (Below)
set_option linter.unusedVariables false
set_option linter.unusedSimpArgs false
def Av (s t:ByteArray):Option ByteArray:=if s.size<=9223372036854775807/\t.size<4294967281/\t.data.toList.all (λb=>decide (b.toNat<128))=true then some ⟨(Lib.trimS s.data.toList t.data.toList).toArray⟩else none
theorem MP (hdm:dmK=false) {P:Program} {f:FuncId}
  (hC:∀(s t:ByteArray) (w:World),s.size<=9223372036854775807->t.size<4294967281->(∀(j:Nat) b,t.data.toList[j]? = some b->b.toNat<128) ->
   Calls P f #[.string s,.string t] w λe w'=>e = .returned (.string ⟨(Lib.trimS s.data.toList t.data.toList).toArray⟩)/\Below w.heap.size w w')
  {s t r:ByteArray} (hF:Av s t=some r):FnM P f [.d (.str s),.d (.str t)] [] (.d (.str r)) []:=by
 unfold Av at hF
 split at hF
 ·rename_i hx
  simp only [so_]at hF
  subst hF
  exact xM [.str s,.str t] _ _ rfl (λG w => .d (.str _)) (λG w hk=>(hC s t w hx.1 hx.2.1 (λj b hb=>of_decide_eq_true (List.all_eq_true.1 hx.2.2 b (List.mem_of_getElem? hb)))).mono (λe w' hw=>⟨hw.1,hw.2,λh=>by rw [hdm]at h;cases h⟩))
 ·cases hF
def I1 (xs:List ByteArray) (sep:ByteArray):Option ByteArray :=
 if xs.length<=140737488355328/\(Lib.join (xs.map (·.data.toList)) sep.data.toList).length<=140737488355328 then some ⟨(Lib.join (xs.map (·.data.toList)) sep.data.toList).toArray⟩else none
theorem join_ok (hdm:dmK=false) {P:Program} {f:FuncId}
  (h0:∀(a:Option Addr) (c:Nat) (sep:ByteArray) (w:World),Calls P f #[.slice a 0 c,.string sep] w λe w'=>e = .returned (.string ⟨#[]⟩)/\w'=w)
  (hC:∀(bk o c:Nat) (xs:List ByteArray) (sep:ByteArray) (w:World),(∀(j:Nat) x,xs[j]? = some x->w.cell? ⟨bk,o+j,none⟩=some (.string x))->bk<w.heap.size->xs.length<=140737488355328->xs.length<=c ->
   (Lib.join (xs.map (·.data.toList)) sep.data.toList).length<=140737488355328 ->
   Calls P f #[.slice (some ⟨bk,o,none⟩) xs.length c,.string sep] w λe w'=>e = .returned (.string ⟨(Lib.join (xs.map (·.data.toList)) sep.data.toList).toArray⟩)/\Below w.heap.size w w')
  {xs:List ByteArray} {sep r:ByteArray} (hF:I1 xs sep=some r):FnM P f [vL eS xs,vS sep] [] (vS r) []:=by
 unfold I1 at hF
 split at hF
 ·rename_i hx
  simp only [so_]at hF
  subst hF
  intro G w vargs hinv hargs
  have hfin:∀w',Below w.heap.size w w'->∃v G' S' tk' U' ν,Ending.returned (.string ⟨(Lib.join (xs.map (·.data.toList)) sep.data.toList).toArray⟩) = .returned v/\Inv ⟨G,w,uH G []⟩ G' w' S' tk' U'/\RepV G' w' v (ren ν (vS ⟨(Lib.join (xs.map (·.data.toList)) sep.data.toList).toArray⟩)) /\
    ν.length=([]:List (Option Box)).length/\ν.Nodup/\(∀i,i<([]:List Box).length->ν[i]? = some (ak i))/\∀(i:Nat) (bx:Box),([]:List (Option Box))[i]? = some (some bx)->∃n,ν[i]? = some n/\S' n=some (bx.ren ν):=by
   intro w' hb
   obtain ⟨i2,e2⟩:=hinv.more (w':=w') (G':=G) (U':=λ_=>False) (λb' hb'=>hb.block b' hb') hb.size hb.os hb.tape hb.output (λ_ _ h=>h) (λ_ _ h => .inl h) rfl (λ_ h=>h) (λh=>by rw [hdm]at h;cases h)
   exact⟨_,G,_,1,_,[],rfl,i2,.d (.str _),rfl,List.nodup_nil,λi hi=>absurd hi (Nat.not_lt_zero i),λi bx hb=>by simp at hb⟩
  obtain ⟨hl,ha⟩:=hargs
  obtain ⟨v0,v1,rfl⟩:∃v0 v1,vargs=[v0,v1]:=by
   match vargs,hl with
   | [v0,v1],_=>exact⟨v0,v1,rfl⟩
  have r0:RepV G w v0 (vL eS xs):=ha 0 (by simp) (by simp)
  have r1:RepV G w v1 (vS sep):=ha 1 (by simp) (by simp)
  rw [r1.d_inv.str_inv]
  have r0':=r0.d_inv
  generalize hys:xs.map eS=ys at r0'
  cases r0' with
  | sl0 a cap =>
   have hn:xs=[]:=by simpa using hys
   subst hn
   refine (h0 a cap sep w).mono ?_
   rintro e w' ⟨rfl,rfl⟩
   exact hfin _ (Below.refl _ _)
  | sl b off cap sz _ us hcap hsz hI hc ho hr =>
   have hlen:ys.length=xs.length:=by rw [<- hys];simp
   have hcell:∀(j:Nat) x,xs[j]? = some x->w.cell? ⟨b,off+j,none⟩=some (.string x):=by
    intro j x hj
    obtain ⟨hj1,hj2⟩:=List.getElem?_eq_some_iff.1 hj
    have hj':j<ys.length:=by omega
    have hy:ys[j]=[D.str x]:=by
     subst hys
     rw [List.getElem_map,hj2];rfl
    have hz:sz=1:=by rw [<- hsz j hj',hy];rfl
    subst hz
    have h2:=hc j 0 hj' (by omega)
    have h3:=hr j 0 hj' (by rw [hy];exact Nat.zero_lt_one)
    have h4:us j 0 = .string x:=by
     have:ys[j][0]'(by rw [hy];exact Nat.zero_lt_one)=D.str x:=by simp [hy]
     rw [this]at h3
     exact h3.str_inv
    rw [h4]at h2
    simpa using h2
   rw [hlen]
   cases xs with
   | nil =>
    refine (h0 (some ⟨b,off,none⟩) cap sep w).mono ?_
    rintro e w' ⟨rfl,rfl⟩
    exact hfin _ (Below.refl _ _)
   | cons x xs =>
    have hb:b<w.heap.size:=by
     rcases Nat.lt_or_ge b w.heap.size with h|h
     ·exact h
     ·have h1:=hcell 0 x rfl
      have e:w.heap[b]? = none:=Array.getElem?_eq_none h
      simp only [World.cell?,e]at h1
      cases h1
    refine (hC b off cap (x::xs) sep w hcell hb hx.1 (by omega) hx.2).mono ?_
    rintro e w' ⟨rfl,hbw⟩
    exact hfin _ hbw
 ·cases hF
end Go.Eng

/-
  THE ENGINE: rows of strings that a function of the library makes; slices.Sorted(maps.Keys(m)), by the contracts off the shelf.
-/
namespace Go.Eng
set_option linter.unusedSectionVars false
variable [DM]
open Go
open Go.RowKit (Below)
open Go.WideElems (Fit rd rg)
set_option linter.unusedVariables false
set_option linter.unusedSimpArgs false
theorem row_rep {G:Gh} {w w':World} {t:TypeId} {v:Value} {xs:List ByteArray} (h:w'.ownsRow w.heap.size t 1 v xs.length (xs.map Value.string)) :
    ∃I':Nat->Nat->Prop,(∀b o,G.imm b o->I' b o)/\(∀b o,I' b o->G.imm b o\/(w.heap.size<=b/\b<w'.heap.size))/\RepD I' w' v (.sl (xs.map eS)):=by
  rcases h.2 with⟨rfl,h0⟩|⟨g,cap,cur,rfl,h1,h2,h3,h4,h5,h6⟩
  · have:xs=[]:=List.eq_nil_of_length_eq_zero h0
    subst this
    exact⟨G.imm,λ_ _ h=>h,λ_ _ h => .inl h,.sl0 _ _⟩
  · have hlt:g<w'.heap.size:=(Array.getElem?_eq_some_iff.1 h2).1
    refine⟨λb o=>G.imm b o\/(b=g/\o<xs.length),λ_ _ h => .inl h,λb o h=>h.imp id (λh=>by rw [h.1];exact⟨h1,hlt⟩),?_⟩
    have hl:(xs.map eS).length=xs.length:=by simp
    have hc:∀i (hi:i<xs.length),w'.cell? ⟨g,0+i*1+0,none⟩=some (.string xs[i]):=λi hi=>by
      have e1:cur.toList[i]? = some (.string xs[i]):=by
        have:=congrArg (λl=>l[i]?) h6
        simp only [List.getElem?_map,List.getElem?_eq_getElem hi,Option.map_some,Nat.mul_one]at this
        rwa [List.getElem?_take,if_pos hi]at this
      have e2:cur[i]? = some (.string xs[i]):=by simpa using e1
      simp [World.cell?,h2,e2]
    have:=RepD.sl (I:=λb o=>G.imm b o\/(b=g/\o<xs.length)) (w:=w') g 0 cap 1 (xs.map eS) (λi _ => .string (xs.getD i ⟨#[]⟩)) (by rw [hl];exact h3) (λi hi=>by rw [List.getElem_map];rfl)
      (λi j hi hj => .inr ⟨rfl,by rw [hl]at hi;omega⟩)
      (λi j hi hj=>by
        rw [hl]at hi
        obtain rfl:j=0:=by omega
        rw [hc i hi];simp [List.getD,List.getElem?_eq_getElem hi])
      (λi j hi hj=>rfl)
      (λi j hi hj=>by
        have hi':i<xs.length:=by rw [hl]at hi;exact hi
        have e:(xs.map eS)[i]=[D.str xs[i]]:=by rw [List.getElem_map];rfl
        have hj0:j=0:=by
          have:((xs.map eS)[i]).length=1:=by rw [e];rfl
          omega
        subst hj0
        have e2:(xs.map eS)[i][0]=D.str xs[i]:=by simp [eS]
        rw [e2]
        simp only [List.getD,List.getElem?_eq_getElem hi',Option.getD_some]
        exact .str _)
    rw [hl]at this
    exact this
theorem FnM.ofRow (hdm:dmK=false) {P:Program} {f:FuncId} {args:List V} {Sin:List Box} (xs:List ByteArray) (hok:∀b∈Sin,b.ok Sin.length=true)
    (h:∀(G:Gh) (w:World) (vargs:List Value),Inv ⟨G,w,uH G Sin⟩ G w (bG Sin) 1 (λ_=>False)->mR G w vargs args ->
      Calls P f vargs.toArray w λe w'=>∃v t,e = .returned v/\w'.ownsRow w.heap.size t 1 v xs.length (xs.map Value.string)/\Below w.heap.size w w'):FnM P f args Sin (vL eS xs) (Sin.map some):=by
  intro G w vargs hinv hargs
  refine (h G w vargs hinv hargs).mono ?_
  rintro e w' ⟨v,t,rfl,hrow,hb⟩
  obtain ⟨I',h1,h2,h3⟩:=row_rep (G:=G) hrow
  obtain ⟨i2,e2⟩:=hinv.more (w':=w') (G':=⟨I',G.mu⟩) (U':=λ_=>False) (λb' hb'=>hb.block b' hb') hb.size hb.os hb.tape hb.output h1 h2 rfl (λ_ h=>h) (λh=>by rw [hdm]at h;cases h)
  refine⟨_,_,_,1,_,(List.range Sin.length).map ak,rfl,i2,.d h3,by simp,?_,λi hi=>by simp [hi],λi bx hb => ?_⟩
  · refine List.pairwise_map.2 (List.nodup_range.imp (λ{a b} hab he=>hab ?_))
    have:=congrArg qo he
    rw [fU,fU,so_]at this
    exact this
  · rw [List.getElem?_map,Option.map_eq_some_iff]at hb
    obtain ⟨b',hb1,hb2⟩:=hb
    obtain rfl:b'=bx:=by simpa using hb2
    have hi:i<Sin.length:=(List.getElem?_eq_some_iff.1 hb1).1
    refine⟨ak i,by simp [hi],?_⟩
    rw [vE (hok _ (List.mem_of_getElem? hb1)),jC]
    exact hb1
end Go.Eng

/-
  THE ENGINE: results of which the first is a new slice and the others are data.
-/
namespace Go.Eng
set_option linter.unusedSectionVars false
variable [DM]
set_option linter.unusedVariables false
section
variable {C:Cfg} {sl:Nat->V} {H:Hp} {q:Qm} {all rest:List Oper} {K:(Nat->V)->Hp->Prop}
variable {dst:Option Tmp} {d:Nat} {t ty:TypeId} {pos:String} {after:Array Edge} {g:Option (Nat×Bool)}
end
end Go.Eng

/-
  THE ENGINE: strings.ContainsFunc by its contract off the shelf (only where draws are not counted).
-/
namespace Go.Eng
set_option linter.unusedSectionVars false
variable [DM]
open Go.Proofs
open Go.RowKit (Below)
set_option linter.unusedVariables false
set_option linter.unusedSimpArgs false
theorem KP {E:Env} {G:Gh} {w W:World} {S:Store} {tk:Nat} {U:Nat->Prop} (h:Inv E G w S tk U) (hb:Below w.heap.size w W):Inv ⟨G.whole,W,uH G.whole []⟩ G.whole W (bG []) 1 (λ_=>False):=by
 have hc:∀b' o',G.imm b' o'->W.cell? ⟨b',o',none⟩=w.cell? ⟨b',o',none⟩:=λb' o' hb'=>rH (hb.block b' (h.immB _ _ hb')) o'
 have hno':∀(n:Nm) (bx:Box),bG [] n=some bx->False:=λn bx hx=>by
  unfold bG at hx
  split at hx
  ·simp at hx
  ·cases hx
 have k1:Kn G w:=h.kn.ext h.ext.imm h.ext.cell
 have k2:Kn G.whole W:=k1.ext (λ_ o h=>⟨o,h⟩) hc
 exact⟨Ext.refl _ _,λ_ _ h => .inl h,λ_ _ _ _=>rfl,Nat.le_refl _,rfl,rfl,rfl,λn bx hx=>(hno' n bx hx).elim,λn m bx _ _ _ _ _ _ hx=>(hno' n bx hx).elim,λn x hx=>(by cases hx),λn b o sz hx=>(by cases hx),λb' o' ⟨m,hb'⟩=>Nat.lt_of_lt_of_le (h.immB _ m hb') hb.size,k2,λ_=>Nat.le_refl _⟩
open Classical in
noncomputable def o8 (F:Int->Option Bool) (s:ByteArray):Option Bool :=
 if ∀n:Nat,n<=1114111->(F n).isSome=true then some (decide (0<=Lib.idxFunc (λn=>(F n).getD false) true s))else none
theorem Cv {F:Int->Option Bool} {p:Nat->Bool} (h:∀n:Nat,F n=some (p n)) (s:ByteArray):o8 F s=some (decide (0<=Lib.idxFunc p true s)):=by
 unfold o8
 rw [if_pos (λn _=>by rw [h];rfl)]
 have:(λn:Nat=>(F n).getD false)=p:=by funext n;rw [h];rfl
 rw [this]
theorem CB (hdm:dmK=false) {P:Program} {f g:FuncId} {F:Int->Option Bool} (hg:∀a b,F a=some b->FnM P g [.d (.int .i32 a)] [] (.d (.bool b)) []) (hb:aF P g=true)
  (hC:∀(s:ByteArray) (p:Nat->Bool) (w:World) (eg:∀args w,(callFunc g args).run P w = .ok (.enter g args) w) (hp:PredGrows P g #[] p w),Calls P f #[.string s,.func (.func g) #[] #[]] w λe w'=>e = .returned (.bool (decide (0<=Lib.idxFunc p true s)))/\Below w.heap.size w w')
  {s:ByteArray} {r:Bool} (h:o8 F s=some r):FnM P f [.d (.str s),.fn g []] [] (.d (.bool r)) []:=by
 unfold o8 at h
 split at h
 ·rename_i hF
  simp only [so_]at h
  subst h
  intro G w vargs hinv hargs
  obtain ⟨v,v2,rfl,hv,hf⟩:=hargs.two
  obtain rfl:v2 = .func (.func g) #[] #[]:=by
   cases hf with
   | fn _ arr _ hl _ =>
    obtain rfl:arr=[]:=List.eq_nil_of_length_eq_zero hl
    rfl
  obtain rfl:v = .string s:=Ej hv.d_inv rfl
  have eg:∀args w,(callFunc g args).run P w = .ok (.enter g args) w:=λargs w=>Ah (C:=⟨P,0,[],[]⟩) hb w
  have hp:PredGrows P g #[] (λn=>(F n).getD false) w:=λW x hx hbw=>by
   have i1:=KP hinv hbw
   have hs:=hF x hx
   obtain ⟨b,hb2⟩:=Option.isSome_iff_exists.1 hs
   have hargs1:mR G.whole W [.int .i32 x] [.d (.int .i32 x)]:=by
    refine⟨rfl,λi h1 h2 => ?_⟩
    match i with
    | 0=>exact .d (.int _ _)
    | i+1=>exact absurd h1 (by simp)
   refine (hg x b hb2 _ W [.int .i32 x] i1 hargs1).mono ?_
   rintro e w' ⟨v,G',S',tk',U',ν,rfl,i2,rv,_,_,_,_⟩
   have hv2:v = .bool b:=by
    have:RepV G' w' v (.d (.bool b)):=rv
    exact Ej this.d_inv rfl
   refine⟨by rw [hv2];show _=Ending.returned (.bool ((F (x:Int)).getD false));rw [hb2];rfl,⟨i2.os,i2.tape,i2.output,i2.size,λk hk=>i2.frame k hk (fun⟨i,bx,_,_,hx,_⟩=>by simp at hx) (LJ _ _ _)⟩⟩
  refine (hC s _ w eg hp).mono ?_
  rintro e w' ⟨rfl,hbw⟩
  obtain ⟨i2,e2⟩:=hinv.more (w':=w') (G':=G) (U':=λ_=>False) (λb' hb'=>hbw.block b' hb') hbw.size hbw.os hbw.tape hbw.output (λ_ _ h=>h) (λ_ _ h => .inl h) rfl (λ_ h=>h) (λhd=>by rw [hdm]at hd;cases hd)
  exact⟨_,G,_,1,_,[],rfl,i2,.d (.bool _),rfl,List.nodup_nil,λi hi=>absurd hi (Nat.not_lt_zero i),λi bx hb=>by simp at hb⟩
 ·cases h
def wR (s:ByteArray):Option Bool:=if s.size<=9223372036854775807 then some (Lib.validD s.data.toList)else none
theorem tabs_kn {G:Gh} {w:World} {g3 g4:Nat} (h:Kn G w) (hl:∀w0,tu w0->Lib.Utf8Tabs g3 g4 w0):Lib.Utf8Tabs g3 g4 w:=by
 obtain ⟨w0,h1,h2⟩:=h
 obtain ⟨a1,a2⟩:=hl w0 h1
 have key:∀(b o:Nat) (v:Value),w0.cell? ⟨b,o,Option.none⟩=some v->w.cell? ⟨b,o,Option.none⟩=some v:=λb o v hv=>by
  have hb:b<w0.heap.size:=by
   rcases Nat.lt_or_ge b w0.heap.size with h|h
   ·exact h
   ·have e:w0.heap[b]? = none:=Array.getElem?_eq_none h
    simp only [World.cell?,e]at hv
    cases hv
  rw [(h2 b o hb).2];exact hv
 exact⟨λc hc=>key _ _ _ (a1 c hc),λi hi=>⟨key _ _ _ (a2 i hi).1,key _ _ _ (a2 i hi).2⟩⟩
theorem Ld (hdm:dmK=false) {P:Program} {f:FuncId} {g3 g4:Nat}
  (hC:∀(s:ByteArray) (w:World),s.size<=9223372036854775807->Lib.Utf8Tabs g3 g4 w->Calls P f #[.string s] w λe w'=>e = .returned (.bool (Lib.validD s.data.toList))/\Below w.heap.size w w')
  (hl:∀w0,tu w0->Lib.Utf8Tabs g3 g4 w0) {s:ByteArray} {r:Bool} (h:wR s=some r):FnM P f [.d (.str s)] [] (.d (.bool r)) []:=by
 unfold wR at h
 split at h
 ·rename_i hs
  simp only [so_]at h
  subst h
  exact xM [.str s] _ _ rfl (λG w => .d (.bool _)) (λG w hk=>(hC s w hs (tabs_kn hk hl)).mono (λe w' hw=>⟨hw.1,hw.2,λhd=>by rw [hdm]at hd;cases hd⟩))
 ·cases h
end Go.Eng

/-
  THE ENGINE: strings.Split at a separator that is not empty, by its contract off the shelf.
-/
namespace Go.Eng
set_option linter.unusedSectionVars false
variable [DM]
open Go
open Go.RowKit (Below)
set_option linter.unusedVariables false
set_option linter.unusedSimpArgs false
theorem kn_some {G:Gh} {w:World} {g:Nat} (h:Kn G w) (hl:∀w0,tu w0->∃m,w0.cell? ⟨g,0,Option.none⟩=some (.int .i64 m)):∃m,w.cell? ⟨g,0,Option.none⟩=some (.int .i64 m):=by
 obtain ⟨w0,h1,h2⟩:=h
 obtain ⟨m,hm⟩:=hl w0 h1
 have hb:g<w0.heap.size:=by
  rcases Nat.lt_or_ge g w0.heap.size with h|h
  ·exact h
  ·have e:w0.heap[g]? = none:=Array.getElem?_eq_none h
   simp only [World.cell?,e]at hm
   cases hm
 exact⟨m,by rw [(h2 g 0 hb).2];exact hm⟩
theorem Ha (w:World) (o:Obj):Below w.heap.size w (w.alloc o) :=
 ⟨rfl,rfl,rfl,by show w.heap.size<=(w.heap.push o).size;simp,λb hb=>by show (w.heap.push o)[b]? = _;rw [Array.getElem?_push,if_neg (by omega)]⟩
def BN (s sep:ByteArray):Option (List ByteArray):=if s.size<4294967281/\1<=sep.size then some (Lib.splitB sep 0 (Lib.countB s sep) s)else none
theorem M4 (hdm:dmK=false) {P:Program} {f:FuncId} {g:Nat} {t:TypeId}
  (hC:∀(s sep:ByteArray) (m:Int) (w:World),s.size<4294967281->w.cell? ⟨g,0,Option.none⟩=some (.int .i64 m)->1<=sep.size ->
   Calls P f #[.string s,.string sep] w λe w'=>e = .returned (.slice (some ⟨w.heap.size,0,none⟩) (Lib.countB s sep+1) (Lib.countB s sep+1))/\w'=w.alloc (.cells ((Lib.splitB sep 0 (Lib.countB s sep) s).map Value.string).toArray t))
  (hl:∀w0,tu w0->∃m,w0.cell? ⟨g,0,Option.none⟩=some (.int .i64 m)) {s sep:ByteArray} {r:List ByteArray} (hF:BN s sep=some r):FnM P f [.d (.str s),.d (.str sep)] [] (vL eS r) []:=by
 unfold BN at hF
 split at hF
 ·rename_i hx
  simp only [so_]at hF
  subst hF
  refine FnM.ofRow hdm _ (λb hb=>by cases hb) (λG w vargs hinv hargs => ?_)
  rw [AX (ds:=[.str s,.str sep]) hargs rfl]
  obtain ⟨m,hm⟩:=kn_some hinv.kn hl
  refine (hC s sep m w hx.1 hm hx.2).mono ?_
  rintro e w' ⟨rfl,rfl⟩
  have h1:=Lib.splitB_all sep hx.2 0 _ s rfl
  have h2:=Lib.countB_le sep hx.2 _ s (Nat.le_refl _)
  refine⟨_,t,rfl,?_,Ha w _⟩
  refine⟨by simp,.inr ⟨w.heap.size,_,((Lib.splitB sep 0 (Lib.countB s sep) s).map Value.string).toArray,by rw [h1],Nat.le_refl _,fI w _,by omega,by unfold maxLen;omega,by simp [h1],?_⟩⟩
  rw [Nat.mul_one]
  exact List.take_of_length_le (by simp)
 ·cases hF
end Go.Eng

/-
  THE ENGINE: strconv.Atoi at a text of at most 18 bytes that is a number, by its contract off the shelf.
-/
namespace Go.Eng
set_option linter.unusedSectionVars false
variable [DM]
open Go
open Go.RowKit (Below)
set_option linter.unusedVariables false
set_option linter.unusedSimpArgs false
def GX (s:ByteArray):Option Int:=if s.size<=18 then Lib.atoi s.data.toList else none
theorem atoi_ok (hdm:dmK=false) {P:Program} {f:FuncId} {T:TypeId}
  (hC:∀(s:ByteArray) (n:Int),s.size<=18->Lib.atoi s.data.toList=some n->∀w:World,
   Calls P f #[.string s] w λe w'=>e = .returned (.tuple #[.int .i64 n,.nilIface])/\∃t,w'=Lib.bytesWorld w T t)
  {s:ByteArray} {r:Int} (hF:GX s=some r):FnM P f [.d (.str s)] [] (.tup [.d (.int .i64 r),.nili]) []:=by
 unfold GX at hF
 split at hF
 ·rename_i hx
  refine xM [.str s] (.tuple [.int .i64 r,.nilIface].toArray) _ rfl (λG w => ?_) (λG w hk => ?_)
  ·exact .tup _ _ rfl (λi h1 h2=>by
    match i,h1 with
    | 0,_=>exact .d (.int _ _)
    | 1,_=>exact .nili)
  ·refine (hC s r hx hF w).mono ?_
   rintro e w' ⟨h1,t,rfl⟩
   exact⟨h1,Lib.bytesWorld_below w T t,λh=>by rw [hdm]at h;cases h⟩
 ·cases hF
end Go.Eng

/-
  THE ENGINE: strings.Builder: a box of a known type, and the box of its bytes.
-/
namespace Go.Eng
set_option linter.unusedSectionVars false
variable [DM]
open Go
set_option linter.unusedVariables false
set_option linter.unusedSimpArgs false
def wM (w:World) (v:Value):Prop:=v = .slice none 0 0\/∃g n cap,v = .slice (some ⟨g,0,none⟩) n cap/\0<cap/\elemAt w g=some byteK
theorem IJ {P:Program} {t t' e ty:TypeId} (hu:P.underlying t=some (.slice e)) (hu':P.underlying t'=some .string) {size:Nat} (hsz:szT P e=some size) {base:Option Addr} {n cap:Nat} {v':Value} {s:ByteArray} {w w1:World}
    (hfit:n+s.size<=cap) (hrun:(Builtin.append_ #[t,t'] ty #[.slice base n cap,.string s]).run P w = .ok v' w1):v' = .slice base (n+s.size) cap:=by
  simp only [Builtin.append_,List.getElem?_toArray,List.getElem?_cons_zero,List.getElem?_cons_succ,Sem.run_bind,aQ hu,aQ hu',Result.andThen_ok,run_sizeOf hsz,Sem.run_pure,
      Bool.false_eq_true,if_false,Builtin.lenOf,Bool.not_false,if_true,hfit,Builtin.firstCells]at hrun
  cases base with
  | none =>
    simp only [Sem.run_pure,Result.ok.injEq]at hrun
    exact hrun.1.symm
  | some a =>
    simp only [Sem.run_bind]at hrun
    generalize hst:Sem.run P (storeCells _ _) w=r at hrun
    cases r with
    | ok u w2 =>
      simp only [Result.andThen_ok,Sem.run_pure,Result.ok.injEq]at hrun
      exact hrun.1.symm
    | _=>simp [Result.andThen]at hrun
theorem mf {w:World} {b o:Nat} {cs:Array Value} {t:TypeId} (h:w.heap[b]? = some (.cells cs t (0,0))) (x:Value):(w.setCell ⟨b,o,none⟩ x).heap[b]? = some (.cells (cs.setIfInBounds o x) t (0,0)):=by
  simp [World.setCell,Array.getElem?_modify,h]
theorem nJ {w:World} {b o:Nat} (x:Value) {b':Nat} (h:b'≠b):(w.setCell ⟨b,o,none⟩ x).heap[b']? = w.heap[b']? := by
  simp [World.setCell,Array.getElem?_modify,Ne.symm h]
theorem uA {w:World} {b o:Nat} {cs:Array Value} {t:TypeId} (h:w.heap[b]? = some (.cells cs t (0,0))) (x:Value) (g:Nat):elemAt (w.setCell ⟨b,o,none⟩ x) g=elemAt w g:=by
  by_cases hg:g=b
  · subst hg;rw [fJ (mf h x),fJ h]
  · exact uf (nJ x hg)
theorem wM.mono {w w':World} {v:Value} (h:wM w v) (he:∀g e,elemAt w g=some e->elemAt w' g=some e):wM w' v:=h.imp id fun⟨g,n,c,h1,h2,h3⟩=>⟨g,n,c,h1,h2,he _ _ h3⟩
theorem xu {w:World} {b o:Nat} (x:Value):(w.setCell ⟨b,o,none⟩ x).heap.size=w.heap.size:=by simp [World.setCell]
section
variable {P:Program} {f:FuncId} {tB tS tStr e:TypeId}
def qQ (P:Program) (f:FuncId) (tB tS tStr:TypeId):Prop:=∀(b:Nat) (s:ByteArray) (w w1:World) (p v v' p1 v1:Value),w.heap[b]? = some (.cells #[p,v] tB (0,0))->(p = .pointer none\/p = .pointer (some ⟨b,0,none⟩)) ->
  (Builtin.append_ #[tS,tStr] tS #[v,.string s]).run P (w.setCell ⟨b,0,none⟩ (.pointer (some ⟨b,0,none⟩))) = .ok v' w1->w1.heap[b]? = some (.cells #[p1,v1] tB (0,0))->(∃ao n cap,v' = .slice ao n cap) ->
  Calls P f #[.pointer (some ⟨b,0,none⟩),.string s] w λe w'=>e = .returned (.tuple #[.int .i64 s.size,.nilIface])/\w'=w1.setCell ⟨b,1,none⟩ v'
theorem rY {E:Env} {G:Gh} {w:World} {S:Store} {tk:Nat} {U:Nat->Prop} (h:Inv E G w S tk U) {n:Nm} {x:V} (hS:S n=some (.cells (1048576+tB) [.any,x])) {b o sz:Nat} (hmu:G.mu n=some (b,o,sz)) :
    o=0/\sz=1048576+tB/\(∀o',¬G.imm b o')/\∃p v,w.heap[b]? = some (.cells #[p,v] tB (0,0))/\(p = .pointer none\/p = .pointer (some ⟨b,0,none⟩))/\wM w v/\RepV G w v x/\v.oneCell'=true:=by
  have hst:Stands G w (.cells (1048576+tB) [.any,x]) b o sz:=(h.stands hS hmu).1
  obtain ⟨ho0,hty⟩:=hst.cel
  have ho:=ho0 (.inr (by omega))
  obtain ⟨p,v,h1,h2,h3⟩:=hty (Nat.le_add_right _ _)
  rw [Nat.add_sub_cancel_left]at h1
  refine⟨ho,hst.sz,(hst.free rfl).2,p,v,h1,h2,h3,?_⟩
  obtain ⟨u,c1,c2,c3⟩:=hst.cell 1 (by show 1<2;omega)
  rw [cell_of_row h1,ho]at c1
  have:v=u:=by simpa using c1
  rw [this]
  exact⟨c3,c2⟩
theorem I7 {E:Env} {G:Gh} {w w':World} {S:Store} {tk:Nat} {U:Nat->Prop} (h:Inv E G w S tk U) {n:Nm} {x x':V} (hS:S n=some (.cells (1048576+tB) [.any,x])) {b:Nat} (hmu:G.mu n=some (b,0,1048576+tB))
    (hh:∀b',b'≠b->w'.heap[b']? = w.heap[b']?) (hsz:w'.heap.size=w.heap.size) {p v:Value} (hb:w'.heap[b]? = some (.cells #[p,v] tB (0,0))) (hp:p = .pointer none\/p = .pointer (some ⟨b,0,none⟩)) (hv:wM w' v) (hr:RepV G w v x') (ho:v.oneCell'=true)
    (hos:w'.os=w.os) (ht:w'.tape=w.tape) (hout:w'.output=w.output) (hdr:dmK=true->w.drawn<=w'.drawn):Inv E G w' (supd S n (some (.cells (1048576+tB) [.any,x']))) tk U/\Ext G w G w':=by
  obtain ⟨_,_,himm,p0,v0,h1,_⟩:=rY h hS hmu
  refine h.write hS rfl hmu hh hsz (by rw [aZ h1,aZ hb];exact Nat.le_refl _) (λe he=>by rw [fJ h1]at he;rw [fJ hb];exact he) himm hos ht hout _ (λe => ?_) hdr
  have hs:Stands G w' (.cells (1048576+tB) [.any,x']) b 0 (1048576+tB) :=
    { sz:=rfl,even:=trivial
      room:=by rw [aZ hb];show 0+2<=2;omega
      cell:=λj hj=>by
        have hj':j<2:=hj
        match j,hj' with
        | 0,_=>exact⟨p,by rw [cell_of_row hb];rfl,by rcases hp with rfl | rfl <;> rfl,.any _⟩
        | 1,_=>exact⟨v,by rw [cell_of_row hb];rfl,ho,hr.ext e⟩
      free:=λ_=>⟨⟨_,_,hb⟩,himm⟩
      froz:=λhx=>by simp [Box.mut]at hx
      cel:=⟨λ_=>rfl,λ_=>⟨p,v,by rw [Nat.add_sub_cancel_left];exact hb,hp,hv⟩⟩ }
  exact hs
theorem Ko {S:Store} {n:Nm} {b:Option Box} (h:S n=b):supd S n b=S:=by
  funext m
  simp only [supd]
  split
  · rename_i e;rw [e,h]
  · rfl
theorem Ad {n:Nm}:∀(l:List (Nm×Option Box)) (S:Store),(∀p∈l,p.1≠n)->dn S l n=S n
  | [],S,_=>rfl
  | (m,b)::l,S,h=>by
    show dn (supd S m b) l n=S n
    rw [Ad l _ (λp hp=>h p (List.mem_cons_of_mem _ hp)),supd,if_neg (λe=>h (m,b) (by simp) e.symm)]
theorem zL (hW:qQ P f tB tS tStr) {E:Env} {G:Gh} {w:World} {S:Store} (h:Inv E G w S 1 (λ_=>False)) {n:Nm} {x:V} (hS:S n=some (.cells (1048576+tB) [.any,x])) {b:Nat} (hmu:G.mu n=some (b,0,1048576+tB))
    {s:ByteArray} {A:Eff} (hA:jB P tS tStr S x (vS s) 0 1=some A) (hA0:∀p∈A.upd,p.1≠n) (hone:iq A.val=true)
    (hsh:∀(w0 w1:World) (v v':Value),Inv E G w0 S 1 (λ_=>False)->RepV G w0 v x->wM w0 v->(∀g k,elemAt w0 g=some k->elemAt w1 g=some k)->(Builtin.append_ #[tS,tStr] tS #[v,.string s]).run P w0 = .ok v' w1->wM w1 v') :
    Calls P f #[.pointer (some ⟨b,0,none⟩),.string s] w λe w'=>e = .returned (.tuple #[.int .i64 s.size,.nilIface]) /\
      ∃G',Ext G w G' w'/\Inv E G' w' (supd (dn S A.upd) n (some (.cells (1048576+tB) [.any,A.val]))) 1 (λm=>False\/some 0=some (m % 100000)):=by
  obtain ⟨_,_,himm,p,v,h1,h2,h3,h4,h5⟩:=rY h hS hmu
  have hb0:=mf (o:=0) h1 (.pointer (some ⟨b,0,none⟩))
  have hb0':(w.setCell ⟨b,0,none⟩ (.pointer (some ⟨b,0,none⟩))).heap[b]? = some (.cells #[.pointer (some ⟨b,0,none⟩),v] tB (0,0)):=by rw [hb0];rfl
  obtain ⟨i0,e0⟩:=I7 (w':=w.setCell ⟨b,0,none⟩ (.pointer (some ⟨b,0,none⟩))) h hS hmu (λb' hb'=>nJ _ hb') (xu _) hb0' (.inr rfl) (h3.mono λg k hk=>by rw [uA h1];exact hk) h4 h5 rfl rfl rfl (λ_=>Nat.le_refl _)
  rw [Ko hS]at i0
  obtain ⟨nx,u,w1,G1,hrun,hnx,e1,i1,r1⟩:=Az (P:=P) (ty:=tS) i0 (by decide:0<100000) (λh=>h) (h4.ext e0) (.d (.str s)) hA
  have hrun':(Builtin.append_ #[tS,tStr] tS #[v,.string s]).run P (w.setCell ⟨b,0,none⟩ (.pointer (some ⟨b,0,none⟩))) = .ok u w1:=by
    simp only [Sem.run_bind]at hrun
    generalize Sem.run P (Builtin.append_ #[tS,tStr] tS #[v,.string s]) _=r at hrun ⊢
    cases r with
    | ok u' w' =>
      simp only [Result.andThen_ok,Sem.run_pure,Result.ok.injEq]at hrun
      obtain ⟨rfl,rfl⟩:=hrun
      rcases hnx with hnx|⟨hnx,_⟩
      · simp only [Next.value.injEq]at hnx;rw [hnx]
      · cases hnx
    | _=>simp [Result.andThen]at hrun
  have hbuf:wM w1 u:=hsh _ _ _ _ i0 (h4.ext e0) (h3.mono e0.elem) e1.elem hrun'
  have hS1:dn S A.upd n=some (.cells (1048576+tB) [.any,x]):=by rw [Ad _ _ hA0];exact hS
  have hmu1:=(e0.trans e1).mu _ _ hmu
  obtain ⟨_,_,_,p1,v1,q1,q2,q3,q4,q5⟩:=rY i1 hS1 hmu1
  have hb2:(w1.setCell ⟨b,1,none⟩ u).heap[b]? = some (.cells #[p1,u] tB (0,0)):=by rw [mf q1];rfl
  obtain ⟨i2,e2⟩:=I7 (w':=w1.setCell ⟨b,1,none⟩ u) (x':=A.val) i1 hS1 hmu1 (λb' hb'=>nJ _ hb') (xu _) hb2 q2 (hbuf.mono λg k hk=>by rw [uA q1];exact hk) r1 (r1.oneCell hone) rfl rfl rfl (λ_=>Nat.le_refl _)
  refine (hW b s w w1 p v u p1 v1 h1 h2 hrun' q1 ?_).mono ?_
  · rcases hbuf with rfl | ⟨g,m,cap,rfl,_⟩ <;> exact⟨_,_,_,rfl⟩
  · rintro en w' ⟨rfl,rfl⟩
    exact⟨rfl,G1,(e0.trans e1).trans e2,i2⟩
abbrev bB (s:ByteArray):List (List D):=(bf s).map (eK .u8)
theorem LP (s:ByteArray):(bB s).length=s.size:=by simp [bB,bf]
theorem C9 (S:Store) (s:ByteArray):kP S 1 (vS s)=some (bB s,[]):=by
  simp only [kP,if_true,bB,bf,List.map_map]
  rfl
structure BldT (P:Program) (tS tStr e:TypeId):Prop where
  el:elemT P tS=some e
  str:P.underlying tStr=some .string
  sz:szT P e=some 1
  z:zeroCells P e=some [.d (.int .u8 0)]
  by_:bytesT P e=1
  bt:e=byteK
theorem BldT.arg (h:BldT P tS tStr e):EQ P tStr=some ():=by simp only [EQ,h.str]
theorem app_nil (h:BldT P tS tStr e) (S:Store) (s:ByteArray) (hs:s.size<=1000000000):jB P tS tStr S .nil (vS s) 0 1=match bB s with
    | []=>some ⟨[],[],.nil⟩
    | y::ys=>some ⟨[],[((0,1),some (.vec 1 (y::ys)))],.vs (0,1) 1 0 (y::ys).length⟩:=by
  have hl:=LP s
  simp only [jB,h.el,h.arg,h.sz,h.z,List.length_singleton,Nat.zero_lt_one,and_self,if_true,C9,h.by_,Nat.mul_one]
  rw [if_pos ⟨by omega,by omega⟩]
  cases bB s <;> rfl
theorem app_vs (h:BldT P tS tStr e) (S:Store) (s:ByteArray) {n:Nm} {xs:List (List D)} (hS:S n=some (.vec 1 xs)) (hs:xs.length+s.size<=1000000000):jB P tS tStr S (.vs n 1 0 xs.length) (vS s) 0 1=match bB s with
    | []=>some ⟨[(n,.vec 1 xs)],[],.vs n 1 0 xs.length⟩
    | y::ys=>some ⟨[(n,.vec 1 xs)],[(n,none),((0,1),some (.vec 1 (xs++(y::ys))))],.vs (0,1) 1 0 (xs.length+(y::ys).length)⟩:=by
  have hl:=LP s
  simp only [jB,h.el,h.arg,h.sz,h.z,List.length_singleton,Nat.zero_lt_one,and_self,if_true,C9,h.by_,Nat.mul_one,hS]
  rw [if_pos ⟨trivial,by omega,by omega,by omega⟩]
  cases bB s <;> simp
def lenVs:V->Nat
  | .vs _ _ _ l=>l
  | _=>0
theorem Dh (h:BldT P tS tStr e) {E:Env} {G:Gh} {w0 w1:World} {S:Store} (hi:Inv E G w0 S 1 (λ_=>False)) {x:V} (hx:x = .nil\/∃n xs,S n=some (.vec 1 xs)/\x = .vs n 1 0 xs.length) {s:ByteArray} {v v':Value} (hr:RepV G w0 v x) (hv:wM w0 v) (helem:∀g k,elemAt w0 g=some k->elemAt w1 g=some k)
    (hb:lenVs x+s.size<=1000000000) (hrun:(Builtin.append_ #[tS,tStr] tS #[v,.string s]).run P w0 = .ok v' w1):wM w1 v':=by
  have hu:=iE h.el
  obtain ⟨zv,hzv,hzc⟩:=iH h.z
  have hlx:∀W:World,(Builtin.lenOf (.string s)).run P W = .ok s.size W:=λW=>rfl
  have hfx:∀W:World,(Builtin.firstCells 1 s.size (.string s)).run P W = .ok ((s.extract 0 s.size).data.map λb => .int .u8 b.toNat) W:=λW=>rfl
  have done:∀{b o:Option Addr} {n cap newCap:Nat} {w2:World} {g:Nat},0<newCap->elemAt w2 g=some byteK->Result.ok (Value.slice (some ⟨g,0,none⟩) n newCap) w2=Result.ok v' w1->wM w1 v':=λhc hk he=>by
    simp only [Result.ok.injEq]at he
    rw [<- he.1,<- he.2];exact .inr ⟨_,_,_,rfl,hc,hk⟩
  obtain ⟨base,n,cap,rfl,hbase,hold⟩:∃base n cap,v = .slice base n cap/\n=lenVs x/\∃old,∀w',w'.heap=w0.heap->(Builtin.firstCells 1 n (.slice base n cap)).run P w' = .ok old w':=by
    rcases hx with rfl|⟨n,xs,hS,rfl⟩
    · cases hr with
      | nil a=>exact⟨a,0,0,rfl,rfl,#[],λw' _=>by cases a <;> simp [Builtin.firstCells,loadCells,loadCellsFrom]⟩
    · have hle:(xs.drop 0).take xs.length=xs:=by simp
      obtain ⟨⟨a,cap,rfl⟩,_,old,o1,_⟩:=yH (P:=P) (size:=1) (ys:=xs) (req:=[(n,.vec 1 xs)]) hi hr (by simp only [pg,hS];rw [if_pos ⟨trivial,by omega⟩,hle])
      exact⟨a,xs.length,cap,rfl,rfl,old,o1⟩
  obtain ⟨old,hold⟩:=hold
  by_cases hfit:n+s.size<=cap
  · rw [IJ hu h.str h.sz hfit hrun]
    rcases hv with hv|⟨g,m,c,hv,hc⟩
    · simp only [Value.slice.injEq]at hv
      obtain ⟨rfl,rfl,rfl⟩:=hv
      have:s.size=0:=by omega
      rw [this];exact .inl rfl
    · simp only [Value.slice.injEq]at hv
      obtain ⟨rfl,rfl,rfl⟩:=hv
      exact .inr ⟨_,_,_,rfl,hc.1,helem _ _ hc.2⟩
  · obtain ⟨newCap,k1,k2⟩:=mX (P:=P) (ty:=tS) (w:=w0) (base:=base) hu h.str (.inr rfl) h.sz hzv hlx (show cap<n+s.size by omega) (by rw [h.by_];omega) (by omega) (hold _ rfl) (hfx _)
    rw [k2]at hrun
    exact done (b:=none) (o:=none) (n:=n+s.size) (cap:=0) (by omega) (by rw [<- h.bt];exact fJ (fI w0.drew _)) hrun
theorem zP {i j:Nat} (h:i≠j):ak i≠ak j:=λe=>by
  have:=congrArg qo e
  rw [fU,fU,so_]at this
  exact h this
theorem DF (i:Nat):ak i≠((0,1):Nm):=λe=>by
  have:=congrArg Prod.snd e
  simp [ak]at this
section fnm
variable (hW:qQ P f tB tS tStr) (hT:BldT P tS tStr e)
include hW hT
theorem fnm_bw0 {s:ByteArray} (hs:s.size<=1000000000):FnM P f [.ref (ak 0) 0 0,vS s] [.cells (1048576+tB) [.any,.nil]] (.tup [vI s.size,.any])
    (match bB s with | []=>[some (.cells (1048576+tB) [.any,.nil])] | y::ys=>[some (.cells (1048576+tB) [.any,.vs (ak 1) 1 0 (y::ys).length]),some (.vec 1 (y::ys))]):=by
  intro G w vargs hinv hargs
  obtain ⟨v0,v1,rfl,r0,r1⟩:=hargs.two
  obtain rfl:=r1.d_inv.str_inv
  cases r0 with
  | ref _ _ hm =>
    rename_i b o sz
    have hS:bG [Box.cells (1048576+tB) [.any,.nil]] (ak 0)=some (.cells (1048576+tB) [.any,.nil]):=by rw [jC];rfl
    obtain ⟨rfl,rfl,_⟩:=rY hinv hS hm
    have e0:(⟨b,0+0*(1048576+tB)+0,none⟩:Addr)=⟨b,0,none⟩:=by simp
    rw [e0]
    have hA:=app_nil hT (bG [Box.cells (1048576+tB) [.any,.nil]]) s hs
    have hsh:∀(w0 w1:World) (v v':Value),Inv ⟨G,w,uH G [Box.cells (1048576+tB) [.any,.nil]]⟩ G w0 (bG [Box.cells (1048576+tB) [.any,.nil]]) 1 (λ_=>False)->RepV G w0 v .nil->wM w0 v->(∀g k,elemAt w0 g=some k->elemAt w1 g=some k)->(Builtin.append_ #[tS,tStr] tS #[v,.string s]).run P w0 = .ok v' w1->wM w1 v' :=
      λw0 w1 v v' hi hr hv he hrun=>Dh hT hi (.inl rfl) hr hv he (by show 0+s.size<=_;omega) hrun
    have hres:∀{G':Gh} {w':World} {ρ:List Nm},RepV G' w' (.tuple #[.int .i64 s.size,.nilIface]) (ren ρ (.tup [vI s.size,.any])):=λ{G' w' ρ} =>
      .tup [_,_] _ rfl (λi h1 h2=>by
        match i,h1 with
        | 0,_=>exact .d (.int _ _)
        | 1,_=>exact .any _)
    cases hbs:bB s with
    | nil =>
      rw [hbs]at hA
      refine (zL hW hinv hS hm hA (λp hp=>by cases hp) rfl hsh).mono ?_
      rintro en w' ⟨rfl,G',ee,ii⟩
      refine⟨_,G',_,1,_,[ak 0],rfl,ii,hres,rfl,List.pairwise_singleton _ _,λi hi => ?_,λi bx hb => ?_⟩
      · have hi0:i=0:=by simpa using hi
        subst hi0;rfl
      · match i,hb with
        | 0,hb =>
          simp only [List.getElem?_cons_zero,so_]at hb
          subst hb
          exact⟨ak 0,rfl,by simp [supd,Box.ren,renL,ren]⟩
        | i+1,hb=>simp at hb
    | cons y ys =>
      rw [hbs]at hA
      refine (zL hW hinv hS hm hA (λp hp=>by simp only [List.mem_singleton]at hp;subst hp;exact (DF 0).symm) rfl hsh).mono ?_
      rintro en w' ⟨rfl,G',ee,ii⟩
      refine⟨_,G',_,1,_,[ak 0,(0,1)],rfl,ii,hres,rfl,by simp [DF],λi hi => ?_,λi bx hb => ?_⟩
      · have hi0:i=0:=by simpa using hi
        subst hi0;rfl
      · match i,hb with
        | 0,hb =>
          simp only [List.getElem?_cons_zero,so_]at hb
          subst hb
          exact⟨ak 0,rfl,by simp [supd,Box.ren,renL,ren,sD]⟩
        | 1,hb =>
          simp only [List.getElem?_cons_succ,List.getElem?_cons_zero,so_]at hb
          subst hb
          refine⟨(0,1),rfl,?_⟩
          simp [dn,supd,(DF 0).symm,Box.ren]
        | i+2,hb=>simp at hb
theorem fnm_bw1 {s:ByteArray} {xs:List (List D)} (hs:xs.length+s.size<=1000000000):FnM P f [.ref (ak 0) 0 0,vS s] [.cells (1048576+tB) [.any,.vs (ak 1) 1 0 xs.length],.vec 1 xs] (.tup [vI s.size,.any])
    (match bB s with | []=>[some (.cells (1048576+tB) [.any,.vs (ak 1) 1 0 xs.length]),some (.vec 1 xs)] | y::ys=>[some (.cells (1048576+tB) [.any,.vs (ak 2) 1 0 (xs.length+(y::ys).length)]),none,some (.vec 1 (xs++(y::ys)))]):=by
  intro G w vargs hinv hargs
  obtain ⟨v0,v1,rfl,r0,r1⟩:=hargs.two
  obtain rfl:=r1.d_inv.str_inv
  cases r0 with
  | ref _ _ hm =>
    rename_i b o sz
    generalize hSin : [Box.cells (1048576+tB) [.any,.vs (ak 1) 1 0 xs.length],Box.vec 1 xs]=Sin at hinv
    have hS:bG Sin (ak 0)=some (.cells (1048576+tB) [.any,.vs (ak 1) 1 0 xs.length]):=by subst hSin;rw [jC];rfl
    have hS1:bG Sin (ak 1)=some (.vec 1 xs):=by subst hSin;rw [jC];rfl
    obtain ⟨rfl,rfl,_⟩:=rY hinv hS hm
    have e0:(⟨b,0+0*(1048576+tB)+0,none⟩:Addr)=⟨b,0,none⟩:=by simp
    rw [e0]
    have hA:=app_vs hT (bG Sin) s hS1 hs
    have hsh:∀(w0 w1:World) (v v':Value),Inv ⟨G,w,uH G Sin⟩ G w0 (bG Sin) 1 (λ_=>False)->RepV G w0 v (.vs (ak 1) 1 0 xs.length)->wM w0 v->(∀g k,elemAt w0 g=some k->elemAt w1 g=some k)->(Builtin.append_ #[tS,tStr] tS #[v,.string s]).run P w0 = .ok v' w1->wM w1 v' :=
      λw0 w1 v v' hi hr hv he hrun=>Dh hT hi (.inr ⟨_,_,hS1,rfl⟩) hr hv he hs hrun
    have hres:∀{G':Gh} {w':World} {ρ:List Nm},RepV G' w' (.tuple #[.int .i64 s.size,.nilIface]) (ren ρ (.tup [vI s.size,.any])):=λ{G' w' ρ} =>
      .tup [_,_] _ rfl (λi h1 h2=>by
        match i,h1 with
        | 0,_=>exact .d (.int _ _)
        | 1,_=>exact .any _)
    have h01:(ak 0:Nm)≠ak 1:=zP (by decide)
    cases hbs:bB s with
    | nil =>
      rw [hbs]at hA
      refine (zL hW hinv hS hm hA (λp hp=>by cases hp) rfl hsh).mono ?_
      rintro en w' ⟨rfl,G',ee,ii⟩
      refine⟨_,G',_,1,_,[ak 0,ak 1],rfl,ii,hres,rfl,by simp [h01],λi hi => ?_,λi bx hb => ?_⟩
      · match i,hi with
        | 0,_=>rfl
        | 1,_=>rfl
        | i+2,hi=>exact absurd hi (by rw [<- hSin];simp)
      · match i,hb with
        | 0,hb =>
          simp only [List.getElem?_cons_zero,so_]at hb
          subst hb
          exact⟨ak 0,rfl,by simp [supd,Box.ren,renL,ren,sD]⟩
        | 1,hb =>
          simp only [List.getElem?_cons_succ,List.getElem?_cons_zero,so_]at hb
          subst hb
          refine⟨ak 1,rfl,?_⟩
          simp only [dn,supd,if_neg h01.symm,hS1,Box.ren]
        | i+2,hb=>simp at hb
    | cons y ys =>
      rw [hbs]at hA
      refine (zL hW hinv hS hm hA (λp hp=>by
        simp only [List.mem_cons,List.not_mem_nil,or_false]at hp
        rcases hp with rfl|rfl
        · exact h01.symm
        · exact (DF 0).symm) rfl hsh).mono ?_
      rintro en w' ⟨rfl,G',ee,ii⟩
      refine⟨_,G',_,1,_,[ak 0,ak 1,(0,1)],rfl,ii,hres,rfl,by simp [h01,DF],λi hi => ?_,λi bx hb => ?_⟩
      · match i,hi with
        | 0,_=>rfl
        | 1,_=>rfl
        | i+2,hi=>exact absurd hi (by rw [<- hSin];simp)
      · match i,hb with
        | 0,hb =>
          simp only [List.getElem?_cons_zero,so_]at hb
          subst hb
          refine⟨ak 0,rfl,?_⟩
          have e2:nR [ak 0,ak 1,((0,1):Nm)] (ak 2)=(0,1):=by simp only [nR,fU];rfl
          simp only [supd,if_true,Box.ren,renL,ren,e2]
        | 1,hb=>simp at hb
        | 2,hb =>
          simp only [List.getElem?_cons_succ,List.getElem?_cons_zero,so_]at hb
          subst hb
          refine⟨(0,1),rfl,?_⟩
          simp only [dn,supd,if_neg (DF 0).symm,if_true,Box.ren]
        | i+3,hb=>simp at hb
end fnm
end
def xG (P:Program) (f:FuncId) (tB:TypeId):Prop:=∀(b n cap:Nat) (a:Option Addr) (w:World) (p:Value),w.heap[b]? = some (.cells #[p,.slice a n cap] tB (0,0)) ->
  Calls P f #[.pointer (some ⟨b,0,none⟩)] w λe w'=>e = .returned (.int .i64 n)/\w'=w
def uV (P:Program) (f:FuncId) (tB:TypeId):Prop :=
  (∀(b:Nat) (w:World) (p:Value),w.heap[b]? = some (.cells #[p,.slice none 0 0] tB (0,0))->Calls P f #[.pointer (some ⟨b,0,none⟩)] w λe w'=>e = .returned (.string ⟨#[]⟩)/\w'=w.drew) /\
  (∀(b g cap:Nat) (l:List UInt8) (cur:Array Value) (w:World) (p:Value),w.heap[b]? = some (.cells #[p,.slice (some ⟨g,0,none⟩) l.length cap] tB (0,0))->w.heap[g]? = some (.cells cur byteK (0,0))->l ≠ []->l.length<=1000000000->l.length<=cap->0<cap->cap<=cur.size ->
    (∀(j:Nat) x,l[j]? = some x->cur[j]? = some (.int .u8 x.toNat))->Calls P f #[.pointer (some ⟨b,0,none⟩)] w λe w'=>e = .returned (.string ⟨l.toArray⟩)/\w'=w.drew.freeze ⟨g,0,none⟩ l.length)
section two
variable {P:Program} {f:FuncId} {tB:TypeId}
theorem KE (hL:xG P f tB):FnM P f [.ref (ak 0) 0 0] [.cells (1048576+tB) [.any,.nil]] (vI 0) [some (.cells (1048576+tB) [.any,.nil])]:=by
  intro G w vargs hinv hargs
  obtain ⟨v0,rfl,r0⟩:=hargs.alone
  cases r0 with
  | ref _ _ hm =>
    rename_i b o sz
    have hS:bG [Box.cells (1048576+tB) [.any,.nil]] (ak 0)=some (.cells (1048576+tB) [.any,.nil]):=by rw [jC];rfl
    obtain ⟨rfl,rfl,_,p,v,h1,_,_,h4,_⟩:=rY hinv hS hm
    have e0:(⟨b,0+0*(1048576+tB)+0,none⟩:Addr)=⟨b,0,none⟩:=by simp
    rw [e0]
    cases h4 with
    | nil a =>
      refine (hL b 0 0 a w p h1).mono ?_
      rintro en w' ⟨rfl,rfl⟩
      refine⟨_,G,_,1,_,[ak 0],rfl,hinv,.d (.int _ _),rfl,List.pairwise_singleton _ _,λi hi => ?_,λi bx hb => ?_⟩
      · have hi0:i=0:=by simpa using hi
        subst hi0;rfl
      · match i,hb with
        | 0,hb =>
          simp only [List.getElem?_cons_zero,so_]at hb
          subst hb
          exact⟨ak 0,rfl,by rw [hS];simp [Box.ren,renL,ren]⟩
        | i+1,hb=>simp at hb
theorem K3 (hL:xG P f tB) {xs:List (List D)}:FnM P f [.ref (ak 0) 0 0] [.cells (1048576+tB) [.any,.vs (ak 1) 1 0 xs.length],.vec 1 xs] (vI xs.length) [some (.cells (1048576+tB) [.any,.vs (ak 1) 1 0 xs.length]),some (.vec 1 xs)]:=by
  intro G w vargs hinv hargs
  obtain ⟨v0,rfl,r0⟩:=hargs.alone
  cases r0 with
  | ref _ _ hm =>
    rename_i b o sz
    have hS:bG [Box.cells (1048576+tB) [.any,.vs (ak 1) 1 0 xs.length],.vec 1 xs] (ak 0)=some (.cells (1048576+tB) [.any,.vs (ak 1) 1 0 xs.length]):=by rw [jC];rfl
    have hS1:bG [Box.cells (1048576+tB) [.any,.vs (ak 1) 1 0 xs.length],.vec 1 xs] (ak 1)=some (.vec 1 xs):=by rw [jC];rfl
    obtain ⟨rfl,rfl,_,p,v,h1,_,_,h4,_⟩:=rY hinv hS hm
    have e0:(⟨b,0+0*(1048576+tB)+0,none⟩:Addr)=⟨b,0,none⟩:=by simp
    rw [e0]
    obtain ⟨a,cap,rfl⟩:∃a cap,v = .slice a xs.length cap:=by
      generalize hl:xs.length=m at h4
      cases h4 with
      | vs0 _ _ _ a=>exact⟨a,0,rfl⟩
      | vs _ _ cap _ _ _=>exact⟨_,cap,rfl⟩
    refine (hL b _ cap a w p h1).mono ?_
    rintro en w' ⟨rfl,rfl⟩
    refine⟨_,G,_,1,_,[ak 0,ak 1],rfl,hinv,.d (.int _ _),rfl,by simp [zP (show 0≠1 by decide)],λi hi => ?_,λi bx hb => ?_⟩
    · match i,hi with
      | 0,_=>rfl
      | 1,_=>rfl
      | i+2,hi=>exact absurd hi (by simp)
    · match i,hb with
      | 0,hb =>
        simp only [List.getElem?_cons_zero,so_]at hb
        subst hb
        exact⟨ak 0,rfl,by rw [hS];simp [Box.ren,renL,ren,sD]⟩
      | 1,hb =>
        simp only [List.getElem?_cons_succ,List.getElem?_cons_zero,so_]at hb
        subst hb
        exact⟨ak 1,rfl,by rw [hS1];rfl⟩
      | i+2,hb=>simp at hb
theorem J8 (hL:uV P f tB):FnM P f [.ref (ak 0) 0 0] [.cells (1048576+tB) [.any,.nil]] (vS ⟨#[]⟩) [none]:=by
  intro G w vargs hinv hargs
  obtain ⟨v0,rfl,r0⟩:=hargs.alone
  cases r0 with
  | ref _ _ hm =>
    rename_i b o sz
    have hS:bG [Box.cells (1048576+tB) [.any,.nil]] (ak 0)=some (.cells (1048576+tB) [.any,.nil]):=by rw [jC];rfl
    obtain ⟨rfl,rfl,_,p,v,h1,_,h3,h4,_⟩:=rY hinv hS hm
    have e0:(⟨b,0+0*(1048576+tB)+0,none⟩:Addr)=⟨b,0,none⟩:=by simp
    rw [e0]
    obtain rfl:v = .slice none 0 0:=by
      cases h4 with
      | nil a =>
        rcases h3 with h3|⟨g,n,cap,h3,hc⟩
        · exact h3
        · simp only [Value.slice.injEq]at h3;omega
    obtain ⟨i1,e1⟩:=hinv.drew
    refine (hL.1 b w p h1).mono ?_
    rintro en w' ⟨rfl,rfl⟩
    refine⟨_,G,_,1,_,[ak 0],rfl,i1,.d (.str _),rfl,List.pairwise_singleton _ _,λi hi => ?_,λi bx hb => ?_⟩
    · have hi0:i=0:=by simpa using hi
      subst hi0;rfl
    · match i,hb with
      | 0,hb=>simp at hb
      | i+1,hb=>simp at hb
theorem J7 (hL:uV P f tB) {s:ByteArray} (hsz:s.size<=1000000000) (hs:bf s ≠ []):FnM P f [.ref (ak 0) 0 0] [.cells (1048576+tB) [.any,.vs (ak 1) 1 0 (bf s).length],.vec 1 ((bf s).map (eK .u8))] (vS s) [none,none]:=by
  intro G w vargs hinv hargs
  obtain ⟨v0,rfl,r0⟩:=hargs.alone
  cases r0 with
  | ref _ _ hm =>
    rename_i b o sz
    generalize hSin : [Box.cells (1048576+tB) [.any,.vs (ak 1) 1 0 (bf s).length],.vec 1 ((bf s).map (eK .u8))]=Sin at hinv
    have hS:bG Sin (ak 0)=some (.cells (1048576+tB) [.any,.vs (ak 1) 1 0 (bf s).length]):=by subst hSin;rw [jC];rfl
    have hS1:bG Sin (ak 1)=some (.vec 1 ((bf s).map (eK .u8))):=by subst hSin;rw [jC];rfl
    obtain ⟨rfl,rfl,_,p,v,h1,_,h3,h4,_⟩:=rY hinv hS hm
    have e0:(⟨b,0+0*(1048576+tB)+0,none⟩:Addr)=⟨b,0,none⟩:=by simp
    rw [e0]
    have hlen:(bf s).length=s.data.toList.length:=by simp [bf]
    have hpos:0<(bf s).length:=List.length_pos_iff.2 hs
    generalize hl:(bf s).length=m at h4
    cases h4 with
    | vs0=>omega
    | vs _ _ cap hmu hc hbd =>
      rename_i b' o' _
      rcases h3 with h3|⟨g,n,cap',h3,hc'⟩
      · simp at h3
      · simp only [Value.slice.injEq,so_,Addr.mk.injEq]at h3
        obtain ⟨⟨rfl,ho,_⟩,rfl,rfl⟩:=h3
        have ho':o'=0:=by omega
        subst ho'
        obtain ⟨q1,q2⟩:=hinv.stands hS1 hmu
        have hst:Stands G w (.vec 1 ((bf s).map (eK .u8))) b' 0 1:=q1
        obtain ⟨⟨cur,t,hcur⟩,himm⟩:=hst.free rfl
        have hbs:=aZ hcur
        have hall:(Box.vec 1 ((bf s).map (eK .u8))).all=(bf s).map λn=>V.d (.int .u8 n):=by
          simp only [Box.all,List.map_map]
          induction bf s with
          | nil=>rfl
          | cons a l ih=>simp only [List.map_cons,List.flatten_cons,ih];rfl
        have hcell:∀(j:Nat) x,s.data.toList[j]? = some x->cur[j]? = some (.int .u8 x.toNat):=λj x hj=>by
          have hj1:(Box.vec 1 ((bf s).map (eK .u8))).all[j]? = some (V.d (.int .u8 x.toNat)):=by
            rw [hall,List.getElem?_map,bf,List.getElem?_map,hj];rfl
          obtain ⟨hj2,hj3⟩:=List.getElem?_eq_some_iff.1 hj1
          obtain ⟨u,u1,_,u3⟩:=hst.cell j hj2
          rw [hj3]at u3
          rw [cell_of_row hcur,Nat.zero_add]at u1
          have:=u3.d_inv
          cases this
          exact u1
        have e2:(⟨b',0+0*1,none⟩:Addr)=⟨b',0,none⟩:=by simp
        rw [e2]at h1
        rw [<- hl,hlen]at h1
        rw [hbs]at hbd
        have hne:b'≠b:=λe=>by
          subst e
          exact zP (show 1≠0 by decide) (hinv.one (ak 1) (ak 0) _ _ b' 0 1 0 (1048576+tB) hS1 hS rfl hmu hm)
        obtain ⟨i1,e1⟩:=hinv.drew
        have hfr:(w.drew.freeze ⟨b',0,none⟩ s.data.toList.length).heap[b']? = some (.cells cur t (0,0+s.data.toList.length)):=by
          have hc0:w.drew.heap[b']? = some (.cells cur t (0,0)):=hcur
          have hn:s.data.toList.length≠0:=by omega
          simp only [World.freeze,if_neg hn,Array.getElem?_modify,hc0,if_true,Option.map_some]
          rfl
        have hso:∀k,k≠b'->(w.drew.freeze ⟨b',0,none⟩ s.data.toList.length).heap[k]? = w.drew.heap[k]? := λk hk=>by
          simp only [World.freeze]
          split
          · rfl
          · simp [Array.getElem?_modify,Ne.symm hk]
        have hbz:bsize w.drew b'=bsize (w.drew.freeze ⟨b',0,none⟩ s.data.toList.length) b':=by
          rw [show bsize w.drew b'=cur.size from hbs]
          simp only [bsize,hfr]
        obtain ⟨i2,e3⟩:=i1.write (w':=w.drew.freeze ⟨b',0,none⟩ s.data.toList.length) hS1 rfl hmu hso (by simp only [World.freeze];split <;> simp) (by rw [hbz];exact Nat.le_refl _) (λe he=>by rw [fJ (show w.drew.heap[b']? = some (.cells cur t (0,0)) from hcur)]at he;rw [fJ hfr];exact he) himm (by simp only [World.freeze];split <;> rfl) (by simp only [World.freeze];split <;> rfl) (by simp only [World.freeze];split <;> rfl) (.froz 1 []) (λe=>by
          have hs':Stands G (w.drew.freeze ⟨b',0,none⟩ s.data.toList.length) (.froz 1 []) b' 0 1 :=
            { sz:=rfl,even:=λx hx=>by cases hx
              room:=Nat.zero_le _
              cell:=λj hj=>absurd hj (Nat.not_lt_zero j)
              free:=λhx=>by cases hx
              froz:=λ_ j hj=>absurd hj (Nat.not_lt_zero j) }
          exact hs') (λ_=>by simp only [World.freeze];split <;> exact Nat.le_refl _)
        have htk:t=byteK:=by
          have:=hc'.2
          rw [fJ hcur,so_]at this
          exact this
        refine (hL.2 b b' cap s.data.toList cur w p h1 (by rw [<- htk];exact hcur) (λe=>by rw [e]at hlen;rw [hlen]at hpos;exact Nat.lt_irrefl _ hpos) (by rw [<- Lib.size_eq];exact hsz) (by omega) hc'.1 (by omega) hcell).mono ?_
        rintro en w' ⟨rfl,rfl⟩
        refine⟨_,G,_,1,_,[ak 0,ak 1],rfl,i2,.d (.str _),rfl,by simp [zP (show 0≠1 by decide)],λi hi => ?_,λi bx hb => ?_⟩
        · match i,hi with
          | 0,_=>rfl
          | 1,_=>rfl
          | i+2,hi=>exact absurd hi (by rw [<- hSin];simp)
        · match i,hb with
          | 0,hb=>simp at hb
          | 1,hb=>simp at hb
          | i+2,hb=>simp at hb
end two
section
variable {C:Cfg} {sl:Nat->V} {H:Hp} {q:Qm} {all rest:List Oper} {K:(Nat->V)->Hp->Prop}
variable {dst:Option Tmp} {d:Nat} {t ty:TypeId} {pos:String} {after:Array Edge} {g:Option (Nat×Bool)}
theorem ry {α:Type} {l:List α} {i:Nat} {a:α} (h:l[i]? = some a):l.set i a=l:=by
  obtain ⟨h1,h2⟩:=List.getElem?_eq_some_iff.1 h
  rw [<- h2,List.set_getElem_self]
theorem bOK {P:Program} {f:FuncId} {ρ:List Nm} {args0 vs:List V} {Sin:List Box} {r:V} {Sout:List (Option Box)} {S:Store} {tk:Nat} (hc:FnM P f args0 Sin r Sout) (hvs:vs.map (co S)=renL ρ args0) (okA:okL ρ.length args0=true) (nd:ρ.Nodup)
    (hi:insOK S ρ ρ Sin) (hl:Sin.length<=Sout.length) (okR:okV Sout.length r=true) (okO:okOut Sout.length Sout=true) (hm:mutOut (Sout.drop Sin.length)=true) (cov:∀n∈vs.flatMap frz,n∈ρ):CallData.OK ⟨[],ρ,args0,Sin,r,Sout,false⟩ P f vs S tk :=
  { does:=hc,args:=ArgsOK.of_map hvs,okA:=okA,nodup:=nd,ins:=hi,len:=hl,okR:=okR,okO:=okO,mutN:=hm
    roOK:=(λe=>by cases e),have_:=(λn hn=>nomatch hn),cov:=(λn h' => .inr (cov n h')),dis:=(λn _ hn=>nomatch hn) }
theorem bEff {ρ:List Nm} {args0:List V} {Sin:List Box} {r:V} {Sout:List (Option Box)} {S:Store} {d tk:Nat} {ns:List Nm} (hn:ρ++jq d tk (Sout.length-Sin.length)=ns) :
    CallData.eff ⟨[],ρ,args0,Sin,r,Sout,false⟩ S d tk=⟨(ρ.zip Sin).map (λp=>(p.1,p.2.ren ρ)),bJ ns ns Sout,ren ns r⟩:=by
  simp only [CallData.eff,dW,dX,CallData.names,hn,cond_false,List.nil_append]
theorem renN_2 (a b n:Nm) (l:List Nm):nR (a::b::n::l) (ak 2)=n:=by simp only [nR,fU];rfl
theorem h_bstr {tB:TypeId} {bb:ByteArray} {nb nf:Nm} {f x:Operand} {ats:Array TypeId} {fn:FuncId} (p i j:Nat) (hp:q=none\/Nat.beq all.length (p+(rest.length+1))=true)
    (hf:∀S tk,AgR H S tk (⟨some d,.call ⟨.value f,#[x],ats⟩,ty,pos,after,g⟩::rest)->okQ q all p [nb,nf] true) (hL:uV C.P fn tB)
    (hff:ev sl f = .fn fn []) (hbd:aF C.P fn=true) (hx:ev sl x = .ref nb 0 0) (hHi:H[i]? = some (nb,some (.cells (1048576+tB) [.any,gV nf 1 (bf bb)]))) (hHj:H[j]? = some (nf,gB 1 (eK .u8) (bf bb))) (hij:i≠j) (hsz:bb.size<=1000000000)
    (hw:aJ all sl ⟨some d,.call ⟨.value f,#[x],ats⟩,ty,pos,after,g⟩=some true)
    (h:aV (lK q p [nb,nf] true) C all K rest (upd sl d (vS bb)) ((H.set i (nb,none)).set j (nf,none))) :
    aV q C all K (⟨some d,.call ⟨.value f,#[x],ats⟩,ty,pos,after,g⟩::rest) sl H:=by
  have hargs:([x].map (ev sl)++[])=[.ref nb 0 0]:=by simp [hx]
  have hfz:∀n∈([x].map (ev sl)++[]).flatMap frz,n=nb:=λn hn=>by
    rw [hargs]at hn
    simp [frz,xg]at hn
    try exact hn
  have hco:∀S:Store,([x].map (ev sl)++[]).map (co S)=[.ref nb 0 0]:=λS=>by rw [hargs];simp [co,co1]
  cases hX:bf bb with
  | nil =>
    rw [hX]at hHi hHj
    have hz:bb=⟨#[]⟩:=by
      apply ByteArray.ext
      have:bb.data.toList=[]:=by simpa [bf]using hX
      exact Array.toList_inj.1 this
    have hHj2:(H.set i (nb,none))[j]? = some (nf,none):=by rw [List.getElem?_set_ne hij];exact hHj
    refine vv (args:=[x]) p [i] (l:=[(nb,.cells (1048576+tB) [.any,.nil])]) hp (λS tk ag=>zY (λm hm=>by simp at hm;simp [hm]) (hf S tk ag)) (J8 hL) hff hbd (by simp only [gp,hHi];rfl) (by simp [Box.ren,renL,ren]) (by simp [Box.ok,okL,okV]) (λn hn=>by rw [hfz n hn];simp) (λS tk _=>ArgsOK.of_map (by rw [hco];simp [renL,ren,uJ])) (by simp [okL,okV,jR]) rfl rfl (List.pairwise_singleton _ _) rfl hw (vS ⟨#[]⟩) rfl (H.set i (nb,none)) rfl ?_
    rw [ry hHj2,hz]at h
    refine Jf (T':=[nb,nf]) (λm hm=>by simp at hm;simp [hm]) (λm hm => ?_) h
    simp only [List.mem_cons,List.not_mem_nil,or_false]at hm
    rcases hm with rfl|rfl
    · exact .inl (by simp)
    · exact .inr (List.mem_map.2 ⟨_,List.mem_of_getElem? hHj2,rfl⟩)
  | cons x0 xs =>
    have hc:=J7 hL (s:=bb) hsz (by rw [hX];simp)
    refine vv (args:=[x]) p [i,j] (l:=[(nb,.cells (1048576+tB) [.any,gV nf 1 (bf bb)]),(nf,.vec 1 ((bf bb).map (eK .u8)))]) hp hf hc hff hbd (by simp only [gp,hHi,hHj,hX];rfl) (by rw [hX];simp [Box.ren,renL,ren,sD,gV]) (by simp [Box.ok,okL,okV,jR]) (λn hn=>by rw [hfz n hn];simp) (λS tk _=>ArgsOK.of_map (by rw [hco];simp [renL,ren,uJ])) (by simp [okL,okV,jR]) rfl rfl (by simp [hij]) rfl hw (vS bb) rfl _ rfl h
end
end Go.Eng

/-
  THE ENGINE: what strings.Builder's methods do, step by step, walked over the library's text.
-/
set_option linter.unusedVariables false
set_option linter.unusedSimpArgs false
namespace Go.Eng
open Go.Shelf Go.RowKit Go.Proofs
variable {P:Program} {ρ:Ren}
theorem wpList_append_run {ops:Array Oper} {rest:List Oper} {o:Oper} {a:Go.Act} {Q:Exit->Go.Act->World->Prop} {w w':World} (hgd:o.guard=none) (sl x:Operand) (t u:TypeId)
  (ho:o.op = .call { callee := .builtin .append,args := #[sl,x],argTypes := #[t,u] }) {v v' y:Value} (hs:a.eval sl=v) (hx:a.eval x=y)
  (hr:(Builtin.append_ #[t,u] o.type #[v,y]).run P w = .ok v' w') (h:wpList P ops Q rest (a.put o.dst v') w'):wpList P ops Q (o::rest) a w:=by
 refine wpList_plain hgd λK hK => ?_
 unfold Oper.wp execOp
 simp only [ho,resolve,invoke,builtin,Sem.run_bind,Sem.run_pure,Result.andThen_ok,List.map_toArray,List.map_cons,List.map_nil,hs,hx,hr]
 exact hK _ _ h
set_option maxHeartbeats 2000000 in
set_option maxRecDepth 100000 in
theorem Il (L:Lays.n166 P ρ) (X:Builder.Extra P ρ) (b:Nat) (s:ByteArray) (w w0 w1:World) (v v' p0 p1 v1:Value)
  (hcc:Calls P (ρ.f 240) #[.pointer (some ⟨b,0,none⟩)] w λe w'=>e = .returned (.tuple #[])/\w'=w0)
  (hb0:w0.heap[b]? = some (.cells #[p0,v] (ρ.t 72) (0,0)))
  (hrun:(Builtin.append_ #[ρ.t 37,ρ.t 9] (ρ.t 37) #[v,.string s]).run P w0 = .ok v' w1)
  (hb1:w1.heap[b]? = some (.cells #[p1,v1] (ρ.t 72) (0,0)))
  (hv:∃ao n cap,v' = .slice ao n cap) :
  Calls P (ρ.f 166) #[.pointer (some ⟨b,0,none⟩),.string s] w λe w'=>e = .returned (.tuple #[.int .i64 s.size,.nilIface])/\w'=w1.setCell ⟨b,1,none⟩ v':=by
 obtain ⟨ao,n',cap,rfl⟩:=hv
 have d0:w1.cell? ⟨b,0,none⟩=some p1:=by rw [Lib.cell_of_heap hb1];rfl
 have d1:w1.cell? ⟨b,1,none⟩=some v1:=by rw [Lib.cell_of_heap hb1];rfl
 have f1:w1.frozen? ⟨b,1,none⟩=false:=Lib.frozen_of_heap hb1 1
 have mixed:=L.mixed
 have t72:=L.t72;have a72:=L.a72;have z72:=L.z72;have v72:=L.v72;have u72:=run_underlying L.t72
 have t70:=L.t70;have a70:=L.a70;have z70:=L.z70;have v70:=L.v70;have u70:=run_underlying L.t70
 have t37:=L.t37;have a37:=L.a37;have z37:=L.z37;have v37:=L.v37;have u37:=run_underlying L.t37
 have t3:=L.t3;have a3:=L.a3;have z3:=L.z3;have v3:=L.v3;have u3:=run_underlying L.t3
 have t9:=L.t9;have a9:=L.a9;have z9:=L.z9;have v9:=L.v9;have u9:=run_underlying L.t9
 have t4:=L.t4;have a4:=L.a4;have z4:=L.z4;have v4:=L.v4;have u4:=run_underlying L.t4
 have t5:=X.t5;have a5:=X.a5;have z5:=X.z5;have v5:=X.v5;have u5:=run_underlying X.t5
 have e240:∀args w,(callFunc (ρ.f 240) args).run P w = .ok (.enter (ρ.f 240) args) w:=enters_of L.f240 (by kernel_rfl) rfl
 go_enter L.f166,Body.n166_ntmps ρ
 go_wp2_with (go_at_fn (ρ.f 240);refine hcc.mono ?_)
 rintro e w0' ⟨rfl,rfl⟩
 have c0:w0'.cell? ⟨b,0,none⟩=some p0:=by rw [Lib.cell_of_heap hb0];rfl
 have c1:w0'.cell? ⟨b,1,none⟩=some v:=by rw [Lib.cell_of_heap hb0];rfl
 go_wp2_with (at_builtin;refine wpList_append_run rfl _ _ (ρ.t 37) (ρ.t 9) rfl rfl rfl hrun ?_)
 go_wp2
 go_ret2
 exact⟨rfl,rfl⟩
theorem DZ {w:World} {b:Nat} {cs:Array Value} {t:TypeId} {x:Value} (h:w.heap[b]? = some (.cells cs t (0,0))) (hx:cs[0]? = some x):w.setCell ⟨b,0,none⟩ x=w:=by
 have e:∀k,(w.setCell ⟨b,0,none⟩ x).heap[k]? = w.heap[k]? := λk=>by
  by_cases hk:k=b
  ·subst hk
   rw [mf h,h]
   have:cs.setIfInBounds 0 x=cs:=by
    apply Array.ext_getElem?
    intro j
    rw [Array.getElem?_setIfInBounds]
    split
    ·rename_i h0
     subst h0
     split
     ·exact hx.symm
     ·rename_i h1;rw [Array.getElem?_eq_none (by omega)]
    ·rfl
   rw [this]
  ·exact nJ x hk
 have h1:(w.setCell ⟨b,0,none⟩ x).heap=w.heap:=Array.ext_getElem? e
 show ({ w with heap:=(w.setCell ⟨b,0,none⟩ x).heap }:World)=w
 rw [h1]
theorem KX (L:Lays.n166 P ρ) (X:Builder.Extra P ρ):qQ P (ρ.f 166) (ρ.t 72) (ρ.t 37) (ρ.t 9):=by
 intro b s w w1 p v v' p1 v1 hb hp hrun hb1 hv
 have hlt:b<w.heap.size:=(Array.getElem?_eq_some_iff.1 hb).1
 have hb0:(w.setCell ⟨b,0,none⟩ (.pointer (some ⟨b,0,none⟩))).heap[b]? = some (.cells #[.pointer (some ⟨b,0,none⟩),v] (ρ.t 72) (0,0)):=by rw [mf hb];rfl
 refine Il L X b s w _ w1 v v' _ p1 v1 ?_ hb0 hrun hb1 hv
 rcases hp with rfl|rfl
 ·refine Any.Builder_copyCheck_fresh { L with } X.toX72 b w (by rw [Lib.cell_of_heap hb];rfl) ?_ (Lib.frozen_of_heap hb 0)
  simp [World.shape?,hb]
 ·refine (Any.Builder_copyCheck_used { L with } X.toX72 b w (by rw [Lib.cell_of_heap hb];rfl)).mono ?_
  rintro e w' ⟨rfl,rfl⟩
  exact⟨rfl,(DZ hb rfl).symm⟩
set_option maxHeartbeats 1000000 in
set_option maxRecDepth 100000 in
theorem lenDoes (L:Lays.n170 P ρ):xG P (ρ.f 170) (ρ.t 72):=by
 intro b n cap a w p hb
 have c1:w.cell? ⟨b,1,none⟩=some (.slice a n cap):=by rw [Lib.cell_of_heap hb];rfl
 have mixed:=L.mixed
 have t72:=L.t72;have a72:=L.a72;have z72:=L.z72;have v72:=L.v72;have u72:=run_underlying L.t72
 have t70:=L.t70;have a70:=L.a70;have z70:=L.z70;have v70:=L.v70;have u70:=run_underlying L.t70
 have t37:=L.t37;have a37:=L.a37;have z37:=L.z37;have v37:=L.v37;have u37:=run_underlying L.t37
 have t3:=L.t3;have a3:=L.a3;have z3:=L.z3;have v3:=L.v3;have u3:=run_underlying L.t3
 go_enter L.f170,Body.n170_ntmps ρ
 go_wp2
 go_ret
 exact⟨rfl,rfl⟩
set_option maxHeartbeats 2000000 in
set_option maxRecDepth 100000 in
theorem strDoes (L:Lays.n169 P ρ) (X:Builder.Extra P ρ) (h5:ρ.t 5=byteK):uV P (ρ.f 169) (ρ.t 72):=by
 refine⟨λb w p hbk => ?_,λb g cap l cur w p hbk hg h0 hl9 hnc hc0 hcs hcell => ?_⟩
 ·have hUS:=Any.unsafeString_none L X
  have c1:w.drew.cell? ⟨b,1,none⟩=some (.slice none 0 0):=by
   have:w.drew.heap[b]? = some (.cells #[p,.slice none 0 0] (ρ.t 72) (0,0)):=hbk
   rw [Lib.cell_of_heap this];rfl
  have hSD:(Builtin.unsafeSliceData_ #[(ρ.t 37)] (ρ.t 127) #[.slice none 0 0]).run P w.drew = .ok (.pointer none) w.drew:=rfl
  have mixed:=L.mixed
  have t72:=L.t72;have a72:=L.a72;have z72:=L.z72;have v72:=L.v72;have u72:=run_underlying L.t72
  have t70:=L.t70;have a70:=L.a70;have z70:=L.z70;have v70:=L.v70;have u70:=run_underlying L.t70
  have t37:=L.t37;have a37:=L.a37;have z37:=L.z37;have v37:=L.v37;have u37:=run_underlying L.t37
  have t127:=L.t127;have a127:=L.a127;have z127:=L.z127;have v127:=L.v127;have u127:=run_underlying L.t127
  have t3:=L.t3;have a3:=L.a3;have z3:=L.z3;have v3:=L.v3;have u3:=run_underlying L.t3
  have t9:=L.t9;have a9:=L.a9;have z9:=L.z9;have v9:=L.v9;have u9:=run_underlying L.t9
  have t5:=X.t5;have a5:=X.a5;have z5:=X.z5;have v5:=X.v5;have u5:=run_underlying X.t5
  go_enter L.f169,Body.n169_ntmps ρ
  go_wp2
  go_region_o
  all_goals (go_wp2;go_ret;exact⟨rfl,rfl⟩)
 ·have hl0:l.length≠0:=by simpa using h0
  have c1:w.drew.cell? ⟨b,1,none⟩=some (.slice (some ⟨g,0,none⟩) l.length cap):=by
   have:w.drew.heap[b]? = some (.cells #[p,.slice (some ⟨g,0,none⟩) l.length cap] (ρ.t 72) (0,0)):=hbk
   rw [Lib.cell_of_heap this];rfl
  have hSD:(Builtin.unsafeSliceData_ #[(ρ.t 37)] (ρ.t 127) #[.slice (some ⟨g,0,none⟩) l.length cap]).run P w.drew = .ok (.pointer (some ⟨g,0,none⟩)) w.drew :=
   Lib.run_unsafeSliceData_row _ _ _ _ _ _ (by omega)
  have hUS:(Builtin.unsafeString_ #[(ρ.t 127),(ρ.t 3)] (ρ.t 9) #[.pointer (some ⟨g,0,none⟩),.int .i64 l.length]).run P w.drew = .ok (.string ⟨l.toArray⟩) (w.drew.freeze ⟨g,0,none⟩ l.length):=by
   refine Lib.run_unsafeString_row w.drew (ρ.t 127) (ρ.t 3) (ρ.t 9) (ρ.t 5) L.t127 X.cellsByte g cur.size (by have hg':w.drew.heap[g]? = some (.cells cur byteK (0,0)):=hg;simp [World.shape?,hg',h5]) l h0 (by omega) (by omega) (λj x hj => ?_)
   have hg':w.drew.heap[g]? = some (.cells cur byteK (0,0)):=hg
   have:=hcell j x hj
   have ea:((⟨g,0,none⟩:Addr).add j)=⟨g,j,none⟩:=by
    unfold Addr.add
    split
    ·rename_i h;rw [h]
    ·simp
   rw [ea,Lib.cell_of_heap hg'];exact this
  have mixed:=L.mixed
  have t72:=L.t72;have a72:=L.a72;have z72:=L.z72;have v72:=L.v72;have u72:=run_underlying L.t72
  have t70:=L.t70;have a70:=L.a70;have z70:=L.z70;have v70:=L.v70;have u70:=run_underlying L.t70
  have t37:=L.t37;have a37:=L.a37;have z37:=L.z37;have v37:=L.v37;have u37:=run_underlying L.t37
  have t127:=L.t127;have a127:=L.a127;have z127:=L.z127;have v127:=L.v127;have u127:=run_underlying L.t127
  have t3:=L.t3;have a3:=L.a3;have z3:=L.z3;have v3:=L.v3;have u3:=run_underlying L.t3
  have t9:=L.t9;have a9:=L.a9;have z9:=L.z9;have v9:=L.v9;have u9:=run_underlying L.t9
  have t5:=X.t5;have a5:=X.a5;have z5:=X.z5;have v5:=X.v5;have u5:=run_underlying X.t5
  go_enter L.f169,Body.n169_ntmps ρ
  go_wp2
  go_region_o
  all_goals (go_wp2;go_ret;exact⟨rfl,rfl⟩)
end Go.Eng

/-
  THE ENGINE: strings.Builder, its bytes as a list of numbers: the rules by which dec.py prints.
-/
namespace Go.Eng
set_option linter.unusedSectionVars false
variable [DM]
open Go
set_option linter.unusedVariables false
set_option linter.unusedSimpArgs false
def Ec (xs:List Int) (s:ByteArray):Option (List Int):=if xs.length+s.size<=1000000000 then some (xs++bf s)else none
def yE (xs:List Int):Option ByteArray:=if xs.length<=1000000000/\xs.all (λn=>decide (0<=n)&&decide (n<=255))=true then some (Go.strOfNums xs)else none
theorem Fz {xs:List Int} {bb:ByteArray} (h:yE xs=some bb):xs=bf bb/\bb.size<=1000000000:=by
 unfold yE at h
 split at h
 ·rename_i hx
  simp only [so_]at h
  subst h
  have e:bf (Go.strOfNums xs)=xs:=by
   unfold bf Go.strOfNums
   refine List.ext_getElem (by simp) (λi h1 h2 => ?_)
   have:=List.all_eq_true.1 hx.2 _ (List.getElem_mem h2)
   simp only [Bool.and_eq_true,decide_eq_true_eq]at this
   simp
   omega
  refine⟨e.symm,?_⟩
  have:(bf (Go.strOfNums xs)).length=(Go.strOfNums xs).size:=by simp [bf]
  rw [e]at this
  omega
 ·cases h
section
variable {C:Cfg} {sl:Nat->V} {H:Hp} {q:Qm} {all rest:List Oper} {K:(Nat->V)->Hp->Prop}
variable {dst:Option Tmp} {d:Nat} {t ty:TypeId} {pos:String} {after:Array Edge} {g:Option (Nat×Bool)}
theorem Mk {e:TypeId} (p:Nat) (hp:q=none\/Nat.beq all.length (p+(rest.length+1))=true) (hz:zeroCells C.P e=some [.d .nilp,.nil]) (hw:aJ all sl ⟨some d,.alloc e,ty,pos,after,g⟩=some true)
  (h:∀n:Nm,aV (lK q p [n] true) C all K rest (upd sl d (.ref n 0 0)) (H++[(n,some (.cells (1048576+e) [.any,.nil]))])) (hb:Bg C.P e=none:=by kernel_rfl) (hvm:C.vm.contains d=true:=by rfl):aV q C all K (⟨some d,.alloc e,ty,pos,after,g⟩::rest) sl H :=
 u7 rfl p [] hp (λ_ _ _=>zV) (λm hm=>by cases hm) hw (λS tk K' ok ag hk=>iO (A:=⟨[],[((d,tk),some (.cells (1048576+e) [.any,.nil]))],.ref (d,tk) 0 0⟩) (λc e=>by cases e) (by
  show (bif (Bg C.P e).isSome then r9 C.P e d tk else bif C.vm.contains d then ql C.P e d tk else uC C.P e d tk)=_
  rw [hb,hvm]
  simp only [Option.isSome_none,cond_false,cond_true,ql,hz]) (hk _ _ _ (.inl rfl) ⟨by simp,by simp⟩ (ag.new ok rfl _) (h (d,tk))))
theorem u6 {tB tS tStr e:TypeId} {bb z:List Int} {s:ByteArray} {nb nf:Nm} {f x y:Operand} {ats:Array TypeId} {fn:FuncId} (p i j:Nat) (hp:q=none\/Nat.beq all.length (p+(rest.length+1))=true)
  (hf:∀S tk,AgR H S tk (⟨some d,.call ⟨.value f,#[x,y],ats⟩,ty,pos,after,g⟩::rest)->okQ q all p [nb,nf] true) (hW:qQ C.P fn tB tS tStr) (hT:BldT C.P tS tStr e)
  (hff:ev sl f = .fn fn []) (hbd:aF C.P fn=true) (hx:ev sl x = .ref nb 0 0) (hy:ev sl y=vS s) (hHi:H[i]? = some (nb,some (.cells (1048576+tB) [.any,gV nf 1 (bb)]))) (hHj:H[j]? = some (nf,gB 1 (eK .u8) (bb))) (hij:i≠j) (ha:Ec bb s=some z)
  (hw:aJ all sl ⟨some d,.call ⟨.value f,#[x,y],ats⟩,ty,pos,after,g⟩=some true)
  (h:∀n':Nm,aV (lK q p [nb,nf,n'] true) C all K rest (upd sl d (.tup [vI s.size,.any])) ((H.set i (nb,some (.cells (1048576+tB) [.any,gV n' 1 (z)]))).set j (n',gB 1 (eK .u8) (z)))) :
  aV q C all K (⟨some d,.call ⟨.value f,#[x,y],ats⟩,ty,pos,after,g⟩::rest) sl H:=by
 unfold Ec at ha
 split at ha
 case isFalse=>cases ha
 rename_i hle
 simp only [so_]at ha
 subst ha
 have hHj':∀a:Nm×Option Box,(H.set i a)[j]? = some (nf,gB 1 (eK .u8) (bb)):=λa=>by rw [List.getElem?_set_ne hij];exact hHj
 refine u7 rfl p [nb,nf] hp hf (λm hm => ?_) hw (λS tk K' ok ag hk=>mO hff ?_)
 ·simp only [List.mem_cons,List.not_mem_nil,or_false]at hm
  rcases hm with rfl|rfl
  ·exact List.mem_map.2 ⟨_,List.mem_of_getElem? hHi,rfl⟩
  ·exact List.mem_map.2 ⟨_,List.mem_of_getElem? hHj,rfl⟩
 have hne:nb≠nf:=CJ ag hHi hHj hij
 have hSb:S nb=some (.cells (1048576+tB) [.any,gV nf 1 (bb)]):=ag.get hHi
 have hargs:([x,y].map (ev sl)++[])=[.ref nb 0 0,vS s]:=by simp [hx,hy]
 have hfz:∀n∈([x,y].map (ev sl)++[]).flatMap frz,n=nb:=λn hn=>by
  rw [hargs]at hn
  simp [frz,xg]at hn
  try exact hn
 have hco:∀S:Store,([x,y].map (ev sl)++[]).map (co S)=[.ref nb 0 0,vS s]:=λS=>by rw [hargs];simp [co,co1]
 have hargs2:(#[x,y].toList.map (ev sl)++[])=([x,y].map (ev sl)++[]):=rfl
 have hres:∀ns:List Nm,ren ns (.tup [vI s.size,.any]) = .tup [vI s.size,.any]:=λns=>by simp [ren,renL]
 cases bb with
 | nil =>
  have hc:=fnm_bw0 hW hT (s:=s) (by simp only [List.length_nil]at hle;omega)
  have hins:insOK S [nb] [nb] [.cells (1048576+tB) [.any,.nil]]:=⟨⟨by simp [Box.ok,okL,okV],by show S nb=some _;rw [hSb];simp [Box.ren,renL,ren,gV]⟩,trivial⟩
  cases hY:bf s with
  | nil =>
   have hbs:bB s=[]:=by rw [bB,hY];rfl
   rw [hbs]at hc
   refine .inl ⟨hbd,⟨[],[nb],[.ref (ak 0) 0 0,vS s],[.cells (1048576+tB) [.any,.nil]],.tup [vI s.size,.any],[some (.cells (1048576+tB) [.any,.nil])],false⟩,?_,(λe=>by cases e),?_⟩
   ·exact bOK hc (by rw [hargs2,hco];simp [renL,ren,uJ]) (by simp [okL,okV,jR]) (List.pairwise_singleton _ _) hins (Nat.le_refl _) (by simp [okV,okL]) (by simp [okOut,Box.ok,okL,okV]) rfl (λn hn=>by rw [hfz n hn];simp)
   ·rw [bEff (ns:=[nb]) (by simp [jq])]
    rw [hY]at h
    have hag:=(ag.set hHi (b:=some (.cells (1048576+tB) [.any,gV nf 1 ([]:List Int)])) (b':=some (.cells (1048576+tB) [.any,gV nf 1 ([]:List Int)])) (λx hx=>hx)).tail
    refine hk _ (H.set i (nb,some (.cells (1048576+tB) [.any,gV nf 1 ([]:List Int)]))) nf (.inr (by simp)) ⟨by simp,by simp [bJ]⟩ ?_ ?_
    ·simpa [dn,bJ,Box.ren,renL,ren,gV]using hag
    ·have:=h nf
     first | rw [List.append_nil,ry (hHj' _)]at this | (simp only [List.nil_append]at this;rw [ry (hHj' _)]at this)
     rw [hres];exact this
  | cons y0 ys =>
   have hbs:bB s=eK .u8 y0::ys.map (eK .u8):=by rw [bB,hY];rfl
   rw [hbs]at hc
   rw [hY]at h
   refine .inl ⟨hbd,⟨[],[nb],[.ref (ak 0) 0 0,vS s],[.cells (1048576+tB) [.any,.nil]],.tup [vI s.size,.any],[some (.cells (1048576+tB) [.any,.vs (ak 1) 1 0 (eK .u8 y0::ys.map (eK .u8)).length]),some (.vec 1 (eK .u8 y0::ys.map (eK .u8)))],false⟩,?_,(λe=>by cases e),?_⟩
   ·exact bOK hc (by rw [hargs2,hco];simp [renL,ren,uJ]) (by simp [okL,okV,jR]) (List.pairwise_singleton _ _) hins (by simp) (by simp [okV,okL]) (by simp [okOut,Box.ok,okL,okV,jR]) rfl (λn hn=>by rw [hfz n hn];simp)
   ·rw [bEff (ns:=[nb,(d,tk)]) (by simp [jq])]
    have ag1:=ag.set hHi (b:=some (.cells (1048576+tB) [.any,gV (d,tk) 1 (y0::ys)])) (b':=some (.cells (1048576+tB) [.any,gV (d,tk) 1 (y0::ys)])) (λx hx=>hx)
    have hnd:((d,tk):Nm)≠nb:=λe=>new_ne ok ag rfl 0 _ (List.mem_of_getElem? hHi) (by rw [Nat.mul_zero];exact e.symm)
    refine hk _ ((H.set i (nb,some (.cells (1048576+tB) [.any,gV (d,tk) 1 (y0::ys)]))).set j ((d,tk),gB 1 (eK .u8) (y0::ys))) (d,tk) (.inl rfl) ⟨by simp,by simp [bJ]⟩ ?_ ?_
    ·refine ag1.swap ok rfl (hHj' _) _ _ (λm h1 h2 => ?_) (λx hx => ?_)
     ·simp [dn,bJ,supd,h2,Box.ren,renL,ren,sD,gV]
     ·simp only [bJ,dn,Option.map_some,supd,if_true,Box.ren]
      exact hx
    ·rw [hres];exact h (d,tk)
 | cons x0 xs =>
  have hSf:S nf=some (.vec 1 ((x0::xs).map (eK .u8))):=ag.get hHj
  have hlx:((x0::xs).map (eK .u8)).length=(x0::xs).length:=List.length_map _
  have hc:=fnm_bw1 hW hT (s:=s) (xs:=(x0::xs).map (eK .u8)) (by rw [hlx];exact hle)
  rw [hlx]at hc
  have hins:insOK S [nb,nf] [nb,nf] [.cells (1048576+tB) [.any,.vs (ak 1) 1 0 (x0::xs).length],.vec 1 ((x0::xs).map (eK .u8))] :=
   ⟨⟨by simp [Box.ok,okL,okV,jR],by show S nb=some _;rw [hSb];simp [Box.ren,renL,ren,gV,sD]⟩,⟨rfl,hSf⟩,trivial⟩
  have hokA:okL [nb,nf].length [V.ref (ak 0) 0 0,vS s]=true:=by simp [okL,okV,jR]
  have hnd2 : [nb,nf].Nodup:=by simp [hne]
  cases hY:bf s with
  | nil =>
   have hbs:bB s=[]:=by rw [bB,hY];rfl
   rw [hbs]at hc
   rw [hY]at h
   refine .inl ⟨hbd,⟨[],[nb,nf],[.ref (ak 0) 0 0,vS s],[.cells (1048576+tB) [.any,.vs (ak 1) 1 0 (x0::xs).length],.vec 1 ((x0::xs).map (eK .u8))],.tup [vI s.size,.any],[some (.cells (1048576+tB) [.any,.vs (ak 1) 1 0 (x0::xs).length]),some (.vec 1 ((x0::xs).map (eK .u8)))],false⟩,?_,(λe=>by cases e),?_⟩
   ·exact bOK hc (by rw [hargs2,hco];simp [renL,ren,uJ]) hokA hnd2 hins (Nat.le_refl _) (by simp [okV,okL]) (by simp [okOut,Box.ok,okL,okV,jR]) rfl (λn hn=>by rw [hfz n hn];simp)
   ·rw [bEff (ns:=[nb,nf]) (by simp [jq])]
    have ag1:=ag.set hHi (b:=some (.cells (1048576+tB) [.any,gV nf 1 (x0::xs)])) (b':=some (.cells (1048576+tB) [.any,gV nf 1 (x0::xs)])) (λx hx=>hx)
    have ag2:=(ag1.set (hHj' _) (b:=gB 1 (eK .u8) (x0::xs)) (b':=some (.vec 1 ((x0::xs).map (eK .u8)))) (λx hx=>hx)).tail
    refine hk _ ((H.set i (nb,some (.cells (1048576+tB) [.any,gV nf 1 (x0::xs)]))).set j (nf,gB 1 (eK .u8) (x0::xs))) nf (.inr (by simp)) ⟨by simp,by simp [bJ]⟩ ?_ ?_
    ·simpa [dn,bJ,Box.ren,renL,ren,gV,sD]using ag2
    ·have:=h nf
     rw [List.append_nil]at this
     rw [hres];exact this
  | cons y0 ys =>
   have hbs:bB s=eK .u8 y0::ys.map (eK .u8):=by rw [bB,hY];rfl
   rw [hbs]at hc
   rw [hY]at h
   have hll:(x0::xs).length+(eK .u8 y0::ys.map (eK .u8)).length=((x0::xs)++(y0::ys)).length:=by simp;omega
   dsimp only at hc
   rw [hll]at hc
   refine .inl ⟨hbd,⟨[],[nb,nf],[.ref (ak 0) 0 0,vS s],[.cells (1048576+tB) [.any,.vs (ak 1) 1 0 (x0::xs).length],.vec 1 ((x0::xs).map (eK .u8))],.tup [vI s.size,.any],[some (.cells (1048576+tB) [.any,.vs (ak 2) 1 0 ((x0::xs)++(y0::ys)).length]),none,some (.vec 1 ((x0::xs).map (eK .u8)++(eK .u8 y0::ys.map (eK .u8))))],false⟩,?_,(λe=>by cases e),?_⟩
   ·exact bOK hc (by rw [hargs2,hco];simp [renL,ren,uJ]) hokA hnd2 hins (by simp) (by simp [okV,okL]) (by simp [okOut,Box.ok,okL,okV,jR]) rfl (λn hn=>by rw [hfz n hn];simp)
   ·rw [bEff (ns:=[nb,nf,(d,tk)]) (by simp [jq])]
    have ag1:=ag.set hHi (b:=some (.cells (1048576+tB) [.any,gV (d,tk) 1 ((x0::xs)++(y0::ys))])) (b':=some (.cells (1048576+tB) [.any,gV (d,tk) 1 ((x0::xs)++(y0::ys))])) (λx hx=>hx)
    refine hk _ ((H.set i (nb,some (.cells (1048576+tB) [.any,gV (d,tk) 1 ((x0::xs)++(y0::ys))]))).set j ((d,tk),gB 1 (eK .u8) ((x0::xs)++(y0::ys)))) (d,tk) (.inl rfl) ⟨by simp,by simp [bJ]⟩ ?_ ?_
    ·refine ag1.swap ok rfl (hHj' _) _ _ (λm h1 h2 => ?_) (λx hx => ?_)
     ·simp [dn,bJ,supd,h1,h2,Box.ren,renL,ren,renN_2,gV]
     ·simp only [bJ,dn,Option.map_some,supd,if_true,Box.ren]
      rw [<- hx];simp [gB]
    ·rw [hres];exact h (d,tk)
theorem h_blenL {tB:TypeId} {bb:List Int} {nb nf:Nm} {f x:Operand} {ats:Array TypeId} {fn:FuncId} (p i j:Nat) (hp:q=none\/Nat.beq all.length (p+(rest.length+1))=true)
  (hf:∀S tk,AgR H S tk (⟨some d,.call ⟨.value f,#[x],ats⟩,ty,pos,after,g⟩::rest)->okQ q all p [nb,nf] true) (hL:xG C.P fn tB)
  (hff:ev sl f = .fn fn []) (hbd:aF C.P fn=true) (hx:ev sl x = .ref nb 0 0) (hHi:H[i]? = some (nb,some (.cells (1048576+tB) [.any,gV nf 1 (bb)]))) (hHj:H[j]? = some (nf,gB 1 (eK .u8) (bb))) (hij:i≠j)
  (hw:aJ all sl ⟨some d,.call ⟨.value f,#[x],ats⟩,ty,pos,after,g⟩=some true)
  (h:aV (lK q p [nb,nf] true) C all K rest (upd sl d (vI bb.length)) H) :
  aV q C all K (⟨some d,.call ⟨.value f,#[x],ats⟩,ty,pos,after,g⟩::rest) sl H:=by
 have hargs:([x].map (ev sl)++[])=[.ref nb 0 0]:=by simp [hx]
 have hfz:∀n∈([x].map (ev sl)++[]).flatMap frz,n=nb:=λn hn=>by
  rw [hargs]at hn
  simp [frz,xg]at hn
  try exact hn
 have hco:∀S:Store,([x].map (ev sl)++[]).map (co S)=[.ref nb 0 0]:=λS=>by rw [hargs];simp [co,co1]
 cases bb with
 | nil =>
  refine vv (args:=[x]) p [i] (l:=[(nb,.cells (1048576+tB) [.any,.nil])]) hp (λS tk ag=>zY (λm hm=>by simp at hm;simp [hm]) (hf S tk ag)) (KE hL) hff hbd (by simp only [gp,hHi];rfl) (by simp [Box.ren,renL,ren]) (by simp [Box.ok,okL,okV]) (λn hn=>by rw [hfz n hn];simp) (λS tk _=>ArgsOK.of_map (by rw [hco];simp [renL,ren,uJ])) (by simp [okL,okV,jR]) rfl rfl (List.pairwise_singleton _ _) (by simp [okOut,Box.ok,okL,okV]) hw (vI 0) rfl H ?_ ?_
  ·simp only [outs,setH,List.map_cons,List.map_nil,Option.map_some,Box.ren,renL,ren]
   exact ry hHi
  ·refine Jf (T':=[nb,nf]) (λm hm=>by simp at hm;simp [hm]) (λm hm => ?_) (by exact h)
   simp only [List.mem_cons,List.not_mem_nil,or_false]at hm
   rcases hm with rfl|rfl
   ·exact .inl (by simp)
   ·exact .inr (List.mem_map.2 ⟨_,List.mem_of_getElem? hHj,rfl⟩)
 | cons x0 xs =>
  have hlx:((x0::xs).map (eK .u8)).length=(x0::xs).length:=List.length_map _
  have hc:=K3 hL (xs:=(x0::xs).map (eK .u8))
  rw [hlx]at hc
  refine vv (args:=[x]) p [i,j] (l:=[(nb,.cells (1048576+tB) [.any,gV nf 1 (x0::xs)]),(nf,.vec 1 ((x0::xs).map (eK .u8)))]) hp hf hc hff hbd (by simp only [gp,hHi,hHj];rfl) (by simp [Box.ren,renL,ren,sD,gV]) (by simp [Box.ok,okL,okV,jR]) (λn hn=>by rw [hfz n hn];simp) (λS tk _=>ArgsOK.of_map (by rw [hco];simp [renL,ren,uJ])) (by simp [okL,okV,jR]) rfl rfl (by simp [hij]) (by simp [okOut,Box.ok,okL,okV,jR]) hw (vI (x0::xs).length) rfl H ?_ ?_
  ·simp only [outs,setH,List.map_cons,List.map_nil,Option.map_some,Box.ren,renL,ren,sD]
   have e1:(.cells (1048576+tB) [.any,.vs nf 1 0 (x0::xs).length]:Box) = .cells (1048576+tB) [.any,gV nf 1 (x0::xs)]:=rfl
   rw [e1,ry hHi]
   exact ry hHj
  ·exact h
theorem h_bstrL {tB:TypeId} {xs:List Int} {bb:ByteArray} {nb nf:Nm} {f x:Operand} {ats:Array TypeId} {fn:FuncId} (p i j:Nat) (hp:q=none\/Nat.beq all.length (p+(rest.length+1))=true)
  (hf:∀S tk,AgR H S tk (⟨some d,.call ⟨.value f,#[x],ats⟩,ty,pos,after,g⟩::rest)->okQ q all p [nb,nf] true) (hL:uV C.P fn tB)
  (hff:ev sl f = .fn fn []) (hbd:aF C.P fn=true) (hx:ev sl x = .ref nb 0 0) (hHi:H[i]? = some (nb,some (.cells (1048576+tB) [.any,gV nf 1 xs]))) (hHj:H[j]? = some (nf,gB 1 (eK .u8) xs)) (hij:i≠j) (hb:yE xs=some bb)
  (hw:aJ all sl ⟨some d,.call ⟨.value f,#[x],ats⟩,ty,pos,after,g⟩=some true)
  (h:aV (lK q p [nb,nf] true) C all K rest (upd sl d (vS bb)) ((H.set i (nb,none)).set j (nf,none))) :
  aV q C all K (⟨some d,.call ⟨.value f,#[x],ats⟩,ty,pos,after,g⟩::rest) sl H:=by
 obtain ⟨hxs,hsz⟩:=Fz hb
 subst hxs
 exact h_bstr p i j hp hf hL hff hbd hx hHi hHj hij hsz hw h
end
end Go.Eng

/-
  THE ENGINE: functions that hand a slice through: it is handed in with its box, and handed back (or nil), with data behind it.
-/
namespace Go.Eng
set_option linter.unusedSectionVars false
variable [DM]
set_option linter.unusedVariables false
section
variable {C:Cfg} {sl:Nat->V} {H:Hp} {q:Qm} {all rest:List Oper} {K:(Nat->V)->Hp->Prop}
variable {dst:Option Tmp} {d:Nat} {t ty:TypeId} {pos:String} {after:Array Edge} {g:Option (Nat×Bool)}
end
end Go.Eng

/-
  THE ENGINE: a slice that a closure holds and appends to: a cell with a slice whose box the cell alone has.
-/
namespace Go.Eng
set_option linter.unusedSectionVars false
variable [DM]
set_option linter.unusedVariables false
theorem BL {i j:Nat} (h:ak i=ak j):i=j:=by
 simp only [ak,Prod.mk.injEq,and_true]at h
 omega
section
variable {C:Cfg} {sl:Nat->V} {H:Hp} {all rest:List Oper} {K:(Nat->V)->Hp->Prop}
variable {d:Nat} {ty:TypeId} {pos:String} {after:Array Edge} {g:Option (Nat×Bool)}
end
end Go.Eng

/-
  THE ENGINE: a function that reads a slice as data reads it out of its box, too: the box is as it was.
-/
namespace Go.Eng
set_option linter.unusedSectionVars false
variable [DM]
set_option linter.unusedVariables false
end Go.Eng

/-
  THE ENGINE: strings.Replace of a text that is not empty, by its contract off the shelf.
-/
namespace Go.Eng
set_option linter.unusedSectionVars false
variable [DM]
open Go
open Go.RowKit (Below)
set_option linter.unusedVariables false
set_option linter.unusedSimpArgs false
end Go.Eng

/-
  THE ENGINE: grids: slices of slices of which each row is a box of its own; the rows' boxes stand behind all others.
-/
namespace Go.Eng
set_option linter.unusedSectionVars false
variable [DM]
set_option linter.unusedVariables false
section rows
variable {α:Type} {enc:α->List D} {sz:Nat}
end rows
theorem Gt {H0 H:Hp} (hp:H0.Perm H):pre H0 H:=by
 induction hp with
 | nil=>exact⟨[],List.nodup_nil,rfl⟩
 | @cons x l1 l2 _ ih =>
  obtain ⟨is,h1,h2⟩:=ih
  refine⟨0::is.map (· + 1),?_,?_⟩
  ·refine List.nodup_cons.2 ⟨by simp,?_⟩
   exact List.Pairwise.map _ (λa b h e=>h (by omega)) h1
  ·simp only [List.map_cons,List.map_map,List.getElem?_cons_zero]
   congr 1
 | swap x y l =>
  refine⟨1::0::(List.range l.length).map (· + 2),?_,?_⟩
  ·refine List.nodup_cons.2 ⟨by simp,List.nodup_cons.2 ⟨by simp,?_⟩⟩
   exact List.Pairwise.map _ (λa b h e=>h (by omega)) List.nodup_range
  ·simp only [List.map_cons,List.map_map,List.getElem?_cons_zero,List.getElem?_cons_succ]
   congr 2
   refine List.ext_getElem (by simp) (λi h1 h2 => ?_)
   simp only [List.getElem_map,List.getElem_range,Function.comp_apply,List.getElem?_cons_succ]
   simp only [List.length_map,List.length_range]at h1
   rw [List.getElem?_eq_getElem h1]
 | trans _ _ ih1 ih2 =>
  obtain ⟨is,h1,h2⟩:=ih1
  obtain ⟨js,k1,k2⟩:=ih2
  obtain ⟨hl,hg⟩:=rM h2
  obtain ⟨kl,kg⟩:=rM k2
  have hb:∀i∈is,i<js.length:=λi hi=>by
   obtain ⟨j,hj,rfl⟩:=List.getElem_of_mem hi
   have:=(List.getElem?_eq_some_iff.1 (hg j hj (by omega))).1
   omega
  refine⟨is.map (λi=>js.getD i 0),?_,?_⟩
  ·rw [List.nodup_iff_pairwise_ne]at h1 k1 ⊢
   refine List.pairwise_map.2 ((List.Pairwise.and_mem.1 h1).imp (λ{a b} h e => ?_))
   obtain ⟨ha,hb',hne⟩:=h
   have la:=hb a ha
   have lb:=hb b hb'
   simp only [List.getD_eq_getElem?_getD,List.getElem?_eq_getElem la,List.getElem?_eq_getElem lb,Option.getD_some]at e
   rcases Nat.lt_or_gt_of_ne hne with h|h
   ·exact (List.pairwise_iff_getElem.1 k1) a b la lb h e
   ·exact (List.pairwise_iff_getElem.1 k1) b a lb la h e.symm
  ·rw [<- h2,List.map_map]
   refine List.map_congr_left (λi hi => ?_)
   have li:=hb i hi
   simp only [Function.comp_apply,List.getD_eq_getElem?_getD,List.getElem?_eq_getElem li,Option.getD_some]
   rw [kg i li (by omega),List.getElem?_eq_getElem (by omega)]
section
variable {C:Cfg} {sl:Nat->V} {H H0:Hp} {q:Qm} {all rest:List Oper} {K:(Nat->V)->Hp->Prop}
theorem Lx (e:H0=H) (h:aV q C all K rest sl H0):aV q C all K rest sl H:=e ▸ h
theorem AgR.pre {S:Store} {t:Nat} {l:List Oper} (h:Eng.pre H0 H) (ag:AgR H S t l):AgR H0 S t l:=by
 have ag1:Ag H S (t+1):=⟨Nat.succ_pos _,ag.nd,λp hp=>⟨by rcases (ag.at_ p hp).1 with h1 | ⟨h1,_⟩ <;> omega,(ag.at_ p hp).2⟩⟩
 refine⟨ag.pos,(ag1.pre h).nd,λp hp => ?_⟩
 obtain ⟨is,_,he⟩:=h
 obtain ⟨hl,hg⟩:=rM he
 obtain ⟨i,hi,rfl⟩:=List.getElem_of_mem hp
 exact ag.at_ _ (List.mem_of_getElem? (hg i (by omega) hi))
theorem h_pre (hp:Eng.pre H0 H) (h:aV q C all K rest sl H0):aV q C all K rest sl H:=λS tk ok ag=>h S tk ok (ag.pre hp)
variable {dst:Option Tmp} {d:Nat} {t ty:TypeId} {pos:String} {after:Array Edge} {g:Option (Nat×Bool)}
end
end Go.Eng

/-
  THE ENGINE: a function's end at which boxes get fresh names.
-/
namespace Go.Eng
set_option linter.unusedSectionVars false
variable [DM]
set_option linter.unusedVariables false
def look:List Nm->List Nm->Nm->Option Nm
 | m::ν,n::ρ,x=>if x=m then some n else look ν ρ x
 | _,_,_=>none
def uL:List Nm->List (Option Box)->Nm->Option Box
 | m::ν,b::bs,x=>if x=m then b else uL ν bs x
 | _,_,_=>none
theorem Ar:∀{ν ρ:List Nm} {x n:Nm},look ν ρ x=some n->∃i:Nat,ν[i]? = some x/\ρ[i]? = some n
 | [],_,_,_,h=>by simp [look]at h
 | _::_,[],_,_,h=>by simp [look]at h
 | m::ν,k::ρ,x,n,h=>by
  simp only [look]at h
  split at h
  ·rename_i e
   simp only [so_]at h
   exact⟨0,by rw [e];rfl,by rw [<- h];rfl⟩
  ·obtain ⟨i,h1,h2⟩:=Ar h
   exact⟨i+1,h1,h2⟩
theorem CG:∀{ν:List Nm} {bs:List (Option Box)} {x:Nm} {b:Box},uL ν bs x=some b->∃i:Nat,ν[i]? = some x/\bs[i]? = some (some b)
 | [],_,_,_,h=>by simp [uL]at h
 | _::_,[],_,_,h=>by simp [uL]at h
 | m::ν,k::bs,x,b,h=>by
  simp only [uL]at h
  split at h
  ·rename_i e
   exact⟨0,by rw [e];rfl,by rw [h];rfl⟩
  ·obtain ⟨i,h1,h2⟩:=CG h
   exact⟨i+1,h1,h2⟩
theorem Jm:∀{ν ρ:List Nm} {i:Nat} {x n:Nm},ν.Nodup->ν[i]? = some x->ρ[i]? = some n->look ν ρ x=some n
 | [],_,i,_,_,_,h,_=>by simp at h
 | _::_,[],i,_,_,_,_,h=>by simp at h
 | m::ν,k::ρ,0,x,n,_,h1,h2=>by
  simp only [List.getElem?_cons_zero,so_]at h1 h2
  simp [look,h1,h2]
 | m::ν,k::ρ,i+1,x,n,hn,h1,h2=>by
  simp only [List.getElem?_cons_succ]at h1 h2
  rw [List.nodup_cons]at hn
  have:x≠m:=λe=>hn.1 (e ▸ List.mem_of_getElem? h1)
  simp only [look,if_neg this]
  exact Jm hn.2 h1 h2
theorem Fw:∀{ν:List Nm} {bs:List (Option Box)} {i:Nat} {x:Nm} {b:Option Box},ν.Nodup->ν[i]? = some x->bs[i]? = some b->uL ν bs x=b
 | [],_,i,_,_,_,h,_=>by simp at h
 | _::_,[],i,_,_,_,_,h=>by simp at h
 | m::ν,k::bs,0,x,b,_,h1,h2=>by
  simp only [List.getElem?_cons_zero,so_]at h1 h2
  simp [uL,h1,h2]
 | m::ν,k::bs,i+1,x,b,hn,h1,h2=>by
  simp only [List.getElem?_cons_succ]at h1 h2
  rw [List.nodup_cons]at hn
  have:x≠m:=λe=>hn.1 (e ▸ List.mem_of_getElem? h1)
  simp only [uL,if_neg this]
  exact Fw hn.2 h1 h2
theorem Inv.renames {E:Env} {G:Gh} {w:World} {S:Store} {tk:Nat} (h:Inv E G w S tk (λ_=>False)) (ρ ν:List Nm) (bxs:List (Option Box)) (hl1:ρ.length=bxs.length) (hl2:ν.length=bxs.length) (hν:ν.Nodup)
  (hkeep:∀(i:Nat) (n m:Nm),ρ[i]? = some n->ν[i]? = some m->m=n\/m.2=tk+1)
  (hS:∀(i:Nat) (bx:Box),bxs[i]? = some (some bx)->bx.ok ρ.length=true/\∃n,ρ[i]? = some n/\S n=some (bx.ren ρ))
  (hinj:∀(i i':Nat) (n:Nm) (b b':Box),ρ[i]? = some n->ρ[i']? = some n->bxs[i]? = some (some b)->bxs[i']? = some (some b')->i=i') :
  ∃(G':Gh) (S':Store),Inv E G' w S' (tk+2) (λ_=>False)/\(∀u y,okV ρ.length y=true->RepV G w u (ren ρ y)->RepV G' w u (ren ν y)) /\
   ∀(i:Nat) (bx:Box),bxs[i]? = some (some bx)->∃n,ν[i]? = some n/\S' n=some (bx.ren ν):=by
 obtain ⟨G',hG⟩:∃G':Gh,G'=⟨G.imm,λx=>match look ν ρ x with|some n=>G.mu n|none=>G.mu x⟩:=⟨_,rfl⟩
 have hGi:G'.imm=G.imm:=by rw [hG]
 have hlr:∀(i:Nat) (m:Nm),ν[i]? = some m->∃n,ρ[i]? = some n:=λi m hm=>by
  have:=(List.getElem?_eq_some_iff.1 hm).1
  exact⟨_,List.getElem?_eq_getElem (by omega)⟩
 have hGm:∀(i:Nat) (n m:Nm),ρ[i]? = some n->ν[i]? = some m->G'.mu m=G.mu n:=λi n m hn hm=>by
  rw [hG];simp only [Jm hν hm hn]
 have hfresh:∀m:Nm,m.2=tk+1->G.mu m=none:=λm hm=>by
  cases hx:G.mu m with
  | none=>rfl
  | some x =>
   rcases h.tick m x hx with k|k
   ·omega
   ·exact k.2.elim
 have hGx:∀(x:Nm) (y:Nat×Nat×Nat),G'.mu x=some y->(G.mu x=some y\/x.2=tk+1)/\∃n,G.mu n=some y:=λx y hx=>by
  rw [hG]at hx
  simp only at hx
  split at hx
  ·rename_i n hn
   obtain ⟨i,h1,h2⟩:=Ar hn
   rcases hkeep i n x h2 h1 with e|e
   ·rw [e];exact⟨.inl hx,n,hx⟩
   ·exact⟨.inr e,n,hx⟩
  ·exact⟨.inl hx,x,hx⟩
 have e:Ext G w G' w:=tX (λb o k=>by rw [hGi];exact k) h.immB (λx y k=>by
   rw [hG]
   simp only
   split
   ·rename_i n hn
    obtain ⟨i,h1,h2⟩:=Ar hn
    rcases hkeep i n x h2 h1 with e|e
    ·rw [<- e];exact k
    ·rw [hfresh x e]at k;cases k
   ·exact k) (λ_ _ => .inl rfl) (λb o m _ k=>by rw [hGi]at k;exact k)
 have hmu:∀(i:Nat) (n m:Nm) (x:Nat×Nat×Nat),ρ[i]? = some n->ν[i]? = some m->G.mu n=some x->G'.mu m=some x:=λi n m x hn hm hx=>by rw [hGm i n m hn hm];exact hx
 have hi:∀b o,G.imm b o↔G'.imm b o:=λb o=>by rw [hGi]
 have key:∀(x:Nm) (bx:Box),(uL ν bxs x).map (·.ren ν)=some bx->∃(i:Nat) (n:Nm) (b0:Box),ν[i]? = some x/\ρ[i]? = some n/\bxs[i]? = some (some b0)/\bx=b0.ren ν/\S n=some (b0.ren ρ)/\b0.ok ρ.length=true:=λx bx hx=>by
  obtain ⟨b0,h1,rfl⟩:=Option.map_eq_some_iff.1 hx
  obtain ⟨i,h2,h3⟩:=CG h1
  obtain ⟨h4,n,h5,h6⟩:=hS i b0 h3
  exact⟨i,n,b0,h2,h5,h3,rfl,h6,h4⟩
 refine⟨G',λx=>(uL ν bxs x).map (·.ren ν),⟨h.ext.trans e,λb o k=>h.newI b o ((hi b o).2 k),h.frame,h.size,h.os,h.tape,h.output,λx bx hx => ?_,λx y bx by' b o z o' z' hx hy hmt h1 h2 => ?_,λx y k => ?_,λx b o z k => ?_,λb o k=>h.immB b o ((hi b o).2 k),h.kn,h.dr⟩,λu y hy hr=>hr.transfer hi hmu (by omega) rfl hy,λi bx hb => ?_⟩
 ·obtain ⟨i,n,b0,a1,a2,a3,rfl,a5,a6⟩:=key x bx hx
  obtain ⟨b,o,z,k1,k2,k3⟩:=h.box n _ a5
  exact⟨b,o,z,hmu i n x _ a2 a1 k1,StandsBox.transfer hi hmu (by omega) a6 k2,λhm=>k3 (by rw [Box.ren_mut]at hm ⊢;exact hm)⟩
 ·obtain ⟨i,n,b0,a1,a2,a3,rfl,a5,_⟩:=key x bx hx
  obtain ⟨i',n',b0',c1,c2,c3,rfl,c5,_⟩:=key y by' hy
  rw [hGm i n x a2 a1]at h1
  rw [hGm i' n' y c2 c1]at h2
  have:=h.one n n' _ _ b o z o' z' a5 c5 (by rw [Box.ren_mut]at hmt ⊢;exact hmt) h1 h2
  subst this
  have:=hinj i i' n b0 b0' a2 c2 a3 c3
  subst this
  rw [a1]at c1
  exact Option.some.inj c1
 ·rcases (hGx x y k).1 with k|k
  ·rcases h.tick x y k with q|q
   ·exact .inl (by omega)
   ·exact q.2.elim
  ·exact .inl (by omega)
 ·obtain ⟨n,hn⟩:=(hGx x _ k).2
  exact h.bound n b o z hn
 ·have hil:i<ν.length:=by have:=(List.getElem?_eq_some_iff.1 hb).1;omega
  refine⟨ν[i],List.getElem?_eq_getElem hil,?_⟩
  show (uL ν bxs ν[i]).map (·.ren ν)=_
  rw [Fw hν (List.getElem?_eq_getElem hil) hb];rfl
theorem FnM.of_wpDr {P:Program} {f:FuncId} {fn:Func} {body:Code} {C:Cfg} (hf:P.funcs[f]? = some fn) (hb:fn.body=some body) (hP:C.P=P) (hn:C.n=fn.ntmps)
  {args:List V} {Sin:List Box} {r:V} {Sout:List (Option Box)} {Fin:List V->Store->Prop} (hl:args.length<=fn.ntmps)
  (hx:∀(E:Env) (G':Gh) (w':World) (S:Store) (tk:Nat) (vs:List V),Inv E G' w' S tk (λ_=>False)->Fin vs S->∃(G'':Gh) (S'':Store) (tk'':Nat) (U'':Nat->Prop) (ν:List Nm),Inv E G'' w' S'' tk'' U'' /\
   (∀u,RepV G' w' u (wF vs)->RepV G'' w' u (ren ν r))/\ν.length=Sout.length/\ν.Nodup/\(∀i,i<Sin.length->ν[i]? = some (ak i))/\∀(i:Nat) (bx:Box),Sout[i]? = some (some bx)->∃n,ν[i]? = some n/\S'' n=some (bx.ren ν))
  (h:∃σ',Gst ⟨y7 args,bG Sin,1⟩ σ'/\wpD C body (MH C fn.results.toList (Fin)) σ'):FnM P f args Sin r Sout:=by
 subst hP
 intro G w vargs hinv hargs
 refine calls_of_wp hf hb ?_
 have hc:Cs C ⟨G,w,uH G Sin⟩ G w { tmps:=vargs.toArray++Array.replicate (fn.ntmps-vargs.toArray.size) undef,defers:=[] } ⟨y7 args,bG Sin,1⟩:=by
  refine⟨?_,rfl,λi => ?_,hinv⟩
  ·have:=hargs.1
   simp;omega
  ·have hl:=hargs.1
   show RepV G w _ (args.getD i .none)
   by_cases hi:i<args.length
   ·have h1:=hargs.2 i (by omega) hi
    simp only [Array.getD_eq_getD_getElem?,List.getD_eq_getElem?_getD]
    rw [List.getElem?_eq_getElem hi,Array.getElem?_append_left (by simp;omega)]
    simp [show i<vargs.length by omega]
    exact h1
   ·have e2:args.getD i .none = .none:=by simp [List.getD_eq_getElem?_getD,List.getElem?_eq_none (Nat.le_of_not_lt hi)]
    have e1:(vargs.toArray++Array.replicate (fn.ntmps-vargs.toArray.size) undef).getD i undef=undef:=by
     simp only [Array.getD_eq_getD_getElem?]
     rw [Array.getElem?_append_right (by simp;omega)]
     simp only [Array.getElem?_replicate]
     split <;> rfl
    rw [e1,e2]
    exact .none
 obtain ⟨σ0,hg0,h⟩:=h
 obtain ⟨G0,hc0⟩:=hg0.ok hc
 refine lX body _ _ _ _ _ _ hc0 (λe a w' G' σ' hq hc' => ?_) h
 have fin:MH C fn.results.toList (Fin) .ret σ'->a.defers=[]/\∃v,(results fn a.tmps).run C.P w' = .ok v w'/\∃v' G' S' tk' U' ν,Ending.returned v = .returned v'/\Inv ⟨G,w,uH G Sin⟩ G' w' S' tk' U'/\RepV G' w' v' (ren ν r) /\
   ν.length=Sout.length/\ν.Nodup/\(∀i,i<Sin.length->ν[i]? = some (ak i))/\∀(i:Nat) (bx:Box),Sout[i]? = some (some bx)->∃n,ν[i]? = some n/\S' n=some (bx.ren ν):=by
  rintro ⟨vs,h1,hfin⟩
  obtain ⟨G'',S'',tk'',U'',ν,hinv2,hconv,f2,f3,f4,f5⟩:=hx _ _ _ _ _ _ hc'.inv hfin
  obtain ⟨us,u1,u2⟩:=zO hc' _ vs h1
  have hres:∃v,(results fn a.tmps).run C.P w' = .ok v w'/\RepV G' w' v (wF vs):=by
   have hm:(fn.results.mapM (fun | .tmp t=>pure (a.tmps.getD t undef) | .cell b t=>do loadVar t (<- asAddr (a.tmps.getD b undef)):ResultVar->Sem Value)).run C.P w' = .ok us.toArray w':=by
    rw [Array.mapM_eq_mapM_toList]
    simp only [Sem.run_map]
    exact (congrArg (λx=>Result.andThen x _) u2).trans rfl
   have hrun:(results fn a.tmps).run C.P w' = .ok (if h:us.toArray.size=1 then us.toArray[0]else .tuple us.toArray) w':=by
    unfold results
    simp only [Sem.run_bind,Sem.run_pure]
    exact (congrArg (λx=>Result.andThen x (λ(a:Array Value) w'=>Result.ok (if h:a.size=1 then a[0]else Value.tuple a) w')) hm).trans rfl
   refine⟨_,hrun,?_⟩
   have hl1:=u1.1
   clear u2 hm hrun hconv hfin h1
   match vs,us,u1,hl1 with
   | [v],[u],u1,_=>exact u1.2 0 (by simp) (by simp)
   | [],[],u1,_=>exact .tup [] [] u1.1 u1.2
   | v1::v2::vs,x1::x2::us,u1,_ =>
    rw [dif_neg (by simp)]
    exact .tup _ _ u1.1 u1.2
  obtain ⟨v,hv,rv⟩:=hres
  exact⟨hc'.df,v,hv,v,G'',_,_,_,ν,rfl,hinv2,hconv v rv,f2,f3,f4,f5⟩
 cases e with
 | normal=>exact fin hq
 | ret=>exact fin hq
 | exit id=>exact hq.elim
 | goto l=>exact hq.elim
 | panic ch=>exact hq.elim
 | outgrown=>exact hq.elim
def finR (C:Cfg) (rs:List ResultVar) (kin:Nat) (r:V) (Sout:List (Option Box)):QH:=λe sl H=>(e = .normal\/e = .ret) /\
 ∃(vs:List V) (ρ:List Nm) (js:List Nat),zD C sl H rs vs/\wF vs=ren ρ r/\okV Sout.length r=true/\ρ.length=Sout.length/\(∀i,i<kin->ρ[i]? = some (ak i)) /\
  (∀(i:Nat) (bx:Box),Sout[i]? = some (some bx)->bx.ok Sout.length=true/\∃n j,ρ[i]? = some n/\js[i]? = some j/\H[j]? = some (n,some (bx.ren ρ))) /\
  ∀(i i' j:Nat) (b b':Box),Sout[i]? = some (some b)->Sout[i']? = some (some b')->js[i]? = some j->js[i']? = some j->i=i'
theorem FnM.of_wHr {P:Program} {f:FuncId} {fn:Func} {body:Code} (C:Cfg) (hP:C.P=P) (hf:P.funcs[f]? = some fn) (hb:fn.body=some body) (hn:C.n=fn.ntmps)
  {args:List V} {Sin:List Box} {r:V} {Sout:List (Option Box)} {H0:Hp} (hl:args.length<=fn.ntmps) (hok:lV C body=true) (hag:Ag H0 (bG Sin) 1)
  (h:wH C body (finR C fn.results.toList Sin.length r Sout) (y7 args) H0):FnM P f args Sin r Sout:=by
 refine FnM.of_wpDr (Fin:=λvs S=>∃ρ:List Nm,wF vs=ren ρ r/\okV Sout.length r=true/\ρ.length=Sout.length/\(∀i,i<Sin.length->ρ[i]? = some (ak i)) /\
  (∀(i:Nat) (bx:Box),Sout[i]? = some (some bx)->bx.ok Sout.length=true/\∃n,ρ[i]? = some n/\S n=some (bx.ren ρ)) /\
  ∀(i i':Nat) (n:Nm) (b b':Box),ρ[i]? = some n->ρ[i']? = some n->Sout[i]? = some (some b)->Sout[i']? = some (some b')->i=i') hf hb hP hn hl ?_ ?_
 ·rintro E G' w' S tk vs hinv ⟨ρ,f1,f2,f3,f4,f5,f6⟩
  obtain ⟨ν,hν⟩:∃ν:List Nm,ν=(List.range Sout.length).map (λi=>if i<Sin.length then ak i else (i,tk+1)):=⟨_,rfl⟩
  have hνl:ν.length=Sout.length:=by rw [hν];simp
  have hνg:∀i,i<Sout.length->ν[i]? = some (if i<Sin.length then ak i else (i,tk+1)):=λi hi=>by rw [hν,List.getElem?_map,List.getElem?_range hi];rfl
  have hνd:ν.Nodup:=by
   rw [hν,List.nodup_iff_pairwise_ne,List.pairwise_map]
   refine List.nodup_range.imp (λ{a b} hab e=>hab ?_)
   split at e <;> split at e
   ·exact BL e
   ·have:=congrArg Prod.snd e;simp [ak]at this
   ·have:=congrArg Prod.snd e;simp [ak]at this
   ·exact congrArg Prod.fst e
  obtain ⟨G2,S2,i2,hc,hb2⟩:=hinv.renames ρ ν Sout f3 hνl hνd (λi n m hn hm=>by
   have hi:=(List.getElem?_eq_some_iff.1 hm).1
   rw [hνg i (by omega)]at hm
   by_cases hk:i<Sin.length
   ·rw [if_pos hk,so_]at hm
    have:=f4 i hk
    rw [hn,so_]at this
    exact .inl (hm.symm.trans this.symm)
   ·rw [if_neg hk,so_]at hm
    exact .inr (by rw [<- hm])) (λi bx hbx=>by rw [f3];exact f5 i bx hbx) f6
  refine⟨G2,S2,_,_,ν,i2,λu hu=>hc u r (by rw [f3];exact f2) (by rw [<- f1];exact hu),hνl,hνd,λi hi => ?_,hb2⟩
  have hρ:=(List.getElem?_eq_some_iff.1 (f4 i hi)).1
  rw [hνg i (by omega),if_pos hi]
 ·obtain ⟨σ',hg,hw⟩:=h hok _ 1 hag
  refine⟨σ',hg,ja body (λe σ hq => ?_) hw⟩
  obtain ⟨H,ag,he,vs,ρ,js,h1,h2,h3,h4,h5,h6,h7⟩:=hq
  have fin:∃ρ:List Nm,wF vs=ren ρ r/\okV Sout.length r=true/\ρ.length=Sout.length/\(∀i,i<Sin.length->ρ[i]? = some (ak i)) /\
    (∀(i:Nat) (bx:Box),Sout[i]? = some (some bx)->bx.ok Sout.length=true/\∃n,ρ[i]? = some n/\σ.store n=some (bx.ren ρ)) /\
    ∀(i i':Nat) (n:Nm) (b b':Box),ρ[i]? = some n->ρ[i']? = some n->Sout[i]? = some (some b)->Sout[i']? = some (some b')->i=i':=by
   refine⟨ρ,h2,h3,h4,h5,λi bx hb => ?_,λi i' n b b' hn hn' hb hb' => ?_⟩
   ·obtain ⟨k1,n,j,k2,_,k4⟩:=h6 i bx hb
    exact⟨k1,n,k2,ag.get k4⟩
   ·obtain ⟨_,n1,j,k2,k3,k4⟩:=h6 i b hb
    obtain ⟨_,n2,j',q2,q3,q4⟩:=h6 i' b' hb'
    rw [hn,so_]at k2
    rw [hn',so_]at q2
    subst k2 q2
    have ea:=List.getElem?_eq_some_iff.1 k4
    have eb:=List.getElem?_eq_some_iff.1 q4
    have:=iC ag.nd j j' (by simpa using ea.1) (by simpa using eb.1) (by simp [ea.2,eb.2])
    subst this
    exact h7 i i' j b b' hb hb' k3 q3
  have hres:zC C σ fn.results.toList=some vs:=zT ag h1
  rcases he with rfl|rfl
  ·exact⟨vs,hres,fin⟩
  ·exact⟨vs,hres,fin⟩
end Go.Eng

/-
  THE ENGINE: a slice of structs of which the last one holds two slices that are appended to.
-/
namespace Go.Eng
set_option linter.unusedSectionVars false
variable [DM]
set_option linter.unusedVariables false
structure AlK where
 A:Type
 R1:Type
 R2:Type
 enc:A->List D
 encN:A->List D
 lc:V->V->A->List V
 f1:A->List R1
 f2:A->List R2
 e1:R1->List D
 e2:R2->List D
 sz:Nat
 s1:Nat
 s2:Nat
 len:∀a,(enc a).length=sz
 lenN:∀a,(encN a).length=sz
 lcd:∀a,lc (vL e1 (f1 a)) (vL e2 (f2 a)) a=(enc a).map .d
 lcl:∀u v a,(lc u v a).length=sz
 ren:∀ρ u v a,renL ρ (lc u v a)=lc (ren ρ u) (ren ρ v) a
 ok:∀k u v a,okV k u=true->okV k v=true->okL k (lc u v a)=true
 co:∀S u v a,(lc u v a).map (co1 S)=lc (co1 S u) (co1 S v) a
 nild:∀a,f1 a=[]->f2 a=[]->NilD (lc .nil .nil a) ((encN a).map .d)
 sz1:1<sz
 sz2:sz<1048576
def iM {α:Type} (l:List α) (i:Int):Option α:=if i=(l.length:Int)-1 then l.getLast? else none
def setLast {α:Type} (l:List α) (a:α):List α:=l.dropLast++[a]
theorem vk {α:Type} {l:List α} {i:Int} {a:α} (h:iM l i=some a):∃l0,l=l0++[a]/\i=(l0.length:Int):=by
 unfold iM at h
 split at h
 ·rename_i e
  obtain ⟨l0,rfl⟩:=List.getLast?_eq_some_iff.1 h
  exact⟨l0,rfl,by simp at e;omega⟩
 ·cases h
def aY {α β:Type} (f:α->List β) (l:List α):List β:=match l.getLast? with
 | some a=>f a
 | none=>[]
theorem fH {α β:Type} (f:α->List β) (l:List α) (a:α):aY f (l++[a])=f a:=by simp [aY]
theorem iV {α β:Type} (f:α->List β) (l:List α) (a:α):aY f (setLast l a)=f a:=fH f _ a
theorem qp {α β:Type} {l:List α} {i:Int} {a:α} (f:α->List β) (h:iM l i=some a):aY f l=f a:=by
 obtain ⟨l0,rfl,_⟩:=vk h
 exact fH f _ a
theorem eG {α:Type} {l:List α} {i:Int} {a:α} (b:α) (h:iM l i=some a):l.length=(setLast l b).length:=by
 obtain ⟨l0,rfl,_⟩:=vk h
 simp [setLast]
theorem kH {α:Type} (l:List α) (a b:α):setLast (l++[a]) b=l++[b]:=by simp [setLast]
namespace AlK
variable (K:AlK)
def r1 (l:List K.A):List K.R1:=aY K.f1 l
def r2 (l:List K.A):List K.R2:=aY K.f2 l
def lst (n1 n2:Nm) (a:K.A):List V:=K.lc (gV n1 K.s1 (K.f1 a)) (gV n2 K.s2 (K.f2 a)) a
def cells (l:List K.A) (n1 n2:Nm):List V:=(l.dropLast.flatMap K.enc).map .d++match l.getLast? with
 | some a=>K.lst n1 n2 a
 | none=>[]
def box (l:List K.A) (n1 n2:Nm):Option Box:=match l with
 | []=>none
 | _::_=>some (.cells K.sz (K.cells l n1 n2))
theorem box_app (l:List K.A) (a:K.A) (n1 n2:Nm):K.box (l++[a]) n1 n2=some (.cells K.sz ((l.flatMap K.enc).map .d++K.lst n1 n2 a)):=by
 have:K.box (l++[a]) n1 n2=some (.cells K.sz (K.cells (l++[a]) n1 n2)):=by cases l <;> rfl
 rw [this];simp [cells]
theorem pre_len (l:List K.A):((l.flatMap K.enc).map V.d).length=l.length*K.sz:=by
 rw [List.length_map,List.length_flatMap]
 induction l with
 | nil=>simp
 | cons a l ih=>rw [List.map_cons,List.sum_cons,List.length_cons,ih,K.len,Nat.add_mul,Nat.one_mul,Nat.add_comm]
end AlK
theorem stC_app {size:Nat} {p c c':List V} {j:Nat} {x:V} (h:stC size c j x=some c'):stC size (p++c) (p.length+j) x=some (p++c'):=by
 unfold stC at h ⊢
 cases hb:(Nat.beq (aW x).length size&&Nat.ble (j+size) c.length&&(aW x).all iq)with
 | false=>rw [hb]at h;cases h
 | true =>
  rw [hb]at h
  simp only [cond_true,so_]at h
  simp only [Bool.and_eq_true]at hb
  have h2:Nat.ble (p.length+j+size) (p++c).length=true:=Nat.ble_eq_true_of_le (by have:=Nat.le_of_ble_eq_true hb.1.2;simp;omega)
  rw [hb.1.1,h2,hb.2]
  simp only [Bool.and_self,cond_true,so_]
  subst h
  simp only [splice]
  rw [List.take_length_add_append,Nat.add_assoc,List.drop_length_add_append]
  simp
section
variable {C:Cfg} {sl:Nat->V} {H:Hp} {q:Qm} {all rest:List Oper} {K:(Nat->V)->Hp->Prop} {Q:QH} {c:Code}
variable {dst:Option Tmp} {d:Nat} {t ty:TypeId} {pos:String} {after:Array Edge} {g:Option (Nat×Bool)}
theorem Bw (A:AlK) {l:List A.A} {a:A.A} {x:Operand} {size:Nat} {agg:Bool} {n n1 n2:Nm} {i:Int} {j:Nat} (p k:Nat) (hp:q=none\/Nat.beq all.length (p+(rest.length+1))=true) (hf:∀S tk,AgR H S tk (⟨dst,.load t x,ty,pos,after,g⟩::rest)->okQ q all p [n] false) (hs:szT C.P t=some size) (ha:cO C.P t=agg) (hx:ev sl x = .ref n (0+i.toNat) j) (hH:H[k]? = some (n,A.box l n1 n2)) (hl:iM l i=some a) (v:V) (hv:rdV agg size ((A.lc (gV n1 A.s1 (A.r1 l)) (gV n2 A.s2 (A.r2 l)) a).drop j)=some v)
  (hw:aJ all sl ⟨dst,.load t x,ty,pos,after,g⟩=some true) (h:aV (lK q p [n] false) C all K rest (dI sl dst v) H):aV q C all K (⟨dst,.load t x,ty,pos,after,g⟩::rest) sl H:=by
 obtain ⟨l0,rfl,rfl⟩:=vk hl
 rw [A.box_app]at hH
 have e1:A.r1 (l0++[a])=A.f1 a:=fH _ _ _
 have e2:A.r2 (l0++[a])=A.f2 a:=fH _ _ _
 rw [e1,e2]at hv
 refine aI p k hp hf hs ha hx hH v ?_ hw h
 rw [show (0+(l0.length:Int).toNat)*A.sz+j=((l0.flatMap A.enc).map V.d).length+j by rw [A.pre_len];simp,List.drop_length_add_append]
 exact hv
theorem Dy (A:AlK) {l:List A.A} {a:A.A} {x y:Operand} {size:Nat} {n n1 n2:Nm} {i:Int} {j:Nat} (p:Nat) (hp:q=none\/Nat.beq all.length (p+(rest.length+1))=true) (hf:∀S tk,AgR H S tk (⟨dst,.store t x y,ty,pos,after,g⟩::rest)->okQ q all p [n] true) (k:Nat) (hs:szT C.P t=some size) (hx:ev sl x = .ref n (0+i.toNat) j) (hH:H[k]? = some (n,A.box l n1 n2)) (hl:iM l i=some a) (a':A.A) (m1 m2:Nm) (hv:stC size (A.lst n1 n2 a) j (ev sl y)=some (A.lst m1 m2 a'))
  (hw:aJ all sl ⟨dst,.store t x y,ty,pos,after,g⟩=some true) (h:aV (lK q p [n] true) C all K rest (dI sl dst .none) (H.set k (n,A.box (setLast l a') m1 m2))):aV q C all K (⟨dst,.store t x y,ty,pos,after,g⟩::rest) sl H:=by
 obtain ⟨l0,rfl,rfl⟩:=vk hl
 rw [A.box_app]at hH
 rw [kH,A.box_app]at h
 refine fe p hp hf k hs hx hH _ ?_ hw h (by have:=A.sz2;exact Nat.ble_eq_true_of_le this)
 rw [show (0+(l0.length:Int).toNat)*A.sz+j=((l0.flatMap A.enc).map V.d).length+j by rw [A.pre_len];simp]
 exact stC_app hv
theorem jM {H:Hp} {i:Nat} {x:Nm×Option Box} (h:H[i]? = some x):H.set i x=H:=by
 refine List.ext_getElem? (λj => ?_)
 rw [List.getElem?_set]
 split
 ·rename_i e;subst e
  obtain ⟨h1,h2⟩:=List.getElem?_eq_some_iff.1 h
  rw [if_pos h1,List.getElem?_eq_getElem h1,h2]
 ·rfl
theorem EY (A:AlK) {l:List A.A} {n n1 n2:Nm} (i i1 i2:Nat) (h0:H[i]? = some (n,A.box l n1 n2)) (h1:H[i1]? = some (n1,gB A.s1 A.e1 (A.r1 l))) (h2:H[i2]? = some (n2,gB A.s2 A.e2 (A.r2 l))) (hd:i≠i1/\i≠i2/\i1≠i2)
  (hw:wH C c Q sl (((H.set i1 (n1,none)).set i2 (n2,none)).set i (n,gB A.sz A.enc l))):wH C c Q sl H:=by
 rcases List.eq_nil_or_concat l with rfl|⟨l0,a,rfl⟩
 ·have e1:gB A.s1 A.e1 (A.r1 ([]:List A.A))=none:=rfl
  have e2:gB A.s2 A.e2 (A.r2 ([]:List A.A))=none:=rfl
  have e0:A.box [] n1 n2=none:=rfl
  rw [e1]at h1;rw [e2]at h2;rw [e0]at h0
  rw [jM h1,jM h2,show gB A.sz A.enc []=none from rfl,jM h0]at hw
  exact hw
 ·rw [List.concat_eq_append]at *
  have er1:A.r1 (l0++[a])=A.f1 a:=fH _ _ _
  have er2:A.r2 (l0++[a])=A.f2 a:=fH _ _ _
  rw [er1]at h1;rw [er2]at h2;rw [A.box_app]at h0
  have hg:gB A.sz A.enc (l0++[a])=some (.vec A.sz ((l0++[a]).map A.enc)):=by cases l0 <;> rfl
  rw [hg]at hw
  obtain ⟨d1,d2,d3⟩:=hd
  have hlt:=(List.getElem?_eq_some_iff.1 h0).1
  have hlt1:=(List.getElem?_eq_some_iff.1 h1).1
  have hlt2:=(List.getElem?_eq_some_iff.1 h2).1
  refine iW i1 h1 (iW i2 (by rw [List.getElem?_set_ne d3];exact h2) ?_)
  generalize hH2:(H.set i1 (n1,gF A.s1 A.e1 (A.f1 a))).set i2 (n2,gF A.s2 A.e2 (A.f2 a))=H2
  have g1:H2[i1]? = some (n1,gF A.s1 A.e1 (A.f1 a)):=by rw [<- hH2,List.getElem?_set_ne d3.symm,List.getElem?_set_self hlt1]
  have g2:H2[i2]? = some (n2,gF A.s2 A.e2 (A.f2 a)):=by rw [<- hH2,List.getElem?_set_self (by simpa using hlt2)]
  have g0:H2[i]? = some (n,some (.cells A.sz ((l0.flatMap A.enc).map .d++A.lst n1 n2 a))):=by rw [<- hH2,List.getElem?_set_ne d2.symm,List.getElem?_set_ne d1.symm];exact h0
  have hfin:wH C c Q sl (((H2.set i (n,some (.vec A.sz ((l0++[a]).map A.enc)))))):=by
   have k1:(H2.set i (n,some (Box.vec A.sz ((l0++[a]).map A.enc))))[i1]? = some (n1,gF A.s1 A.e1 (A.f1 a)):=by rw [List.getElem?_set_ne d1];exact g1
   have k2:((H2.set i (n,some (Box.vec A.sz ((l0++[a]).map A.enc)))).set i1 (n1,none))[i2]? = some (n2,gF A.s2 A.e2 (A.f2 a)):=by rw [List.getElem?_set_ne d3,List.getElem?_set_ne d2];exact g2
   refine I6 k1 (I6 k2 ?_)
   have e:((H2.set i (n,some (Box.vec A.sz ((l0++[a]).map A.enc)))).set i1 (n1,none)).set i2 (n2,none)=((H.set i1 (n1,none)).set i2 (n2,none)).set i (n,some (.vec A.sz ((l0++[a]).map A.enc))):=by
    rw [<- hH2]
    refine List.ext_getElem? (λj => ?_)
    simp only [List.getElem?_set,List.length_set]
    by_cases a0:i=j <;> by_cases a1:i1=j <;> by_cases a2:i2=j <;> simp_all
   rw [e];exact hw
  refine oh (c:=c) hfin λS t ag => ?_
  have hS0:=ag.get g0
  have co_f:∀{α:Type} {enc:α->List D} {s:Nat} {m:Nm} {xs:List α} (k:Nat),H2[k]? = some (m,gF s enc xs)->co1 S (gV m s xs)=vL enc xs:=by
   intro α enc s m xs k hk
   cases xs with
   | nil=>rfl
   | cons x xs =>
    have hm:S m=some (.froz s ((x::xs).map enc)):=ag.get hk
    show (match S m with
     | some (.froz sz' ys)=>bif Nat.beq s sz'&&Nat.ble (0+(x::xs).length) ys.length then V.d (.sl ((ys.drop 0).take (x::xs).length))else .vs m s 0 (x::xs).length
     | _ => .vs m s 0 (x::xs).length)=_
    rw [hm]
    have e1:Nat.beq s s=true:=Nat.beq_refl s
    have e2:Nat.ble (0+(x::xs).length) ((x::xs).map enc).length=true:=Nat.ble_eq_true_of_le (by simp)
    simp only [e1,e2,Bool.and_self,cond_true,List.drop_zero]
    rw [List.take_of_length_le (by simp)]
  have hmap:((l0.flatMap A.enc).map V.d++A.lst n1 n2 a).map (co1 S)=(((l0++[a]).map A.enc).flatten).map .d:=by
   rw [List.map_append,AlK.lst,A.co,co_f i1 g1,co_f i2 g2,A.lcd]
   simp [List.flatMap,Function.comp_def,co1]
  refine⟨_,(Gst.coB ⟨sl,S,t⟩ n A.sz _ hS0).trans (Gst.c2v _ n A.sz ((l0++[a]).map A.enc) ?_ ?_),?_⟩
  ·show supd S n _ n=_
   simp only [supd,if_true]
   rw [hmap]
  ·intro x hx
   obtain ⟨y,_,rfl⟩:=List.mem_map.1 hx
   exact A.len y
  ·have a1:=ag.set g0 (b:=some (.vec A.sz ((l0++[a]).map A.enc))) (b':=some (.vec A.sz ((l0++[a]).map A.enc))) (λx hx=>hx)
   have e:supd (supd S n (some (.cells A.sz (((l0.flatMap A.enc).map V.d++A.lst n1 n2 a).map (co1 S))))) n (some (.vec A.sz ((l0++[a]).map A.enc)))=supd S n (some (.vec A.sz ((l0++[a]).map A.enc))):=by
    funext m;simp only [supd];split <;> rfl
   rw [e];exact a1
theorem LX (A:AlK) {l:List A.A} {a:A.A} {n:Nm} (m1 m2:Nm) (i:Nat) (h0:H[i]? = some (n,some (.vec A.sz (l.map A.enc++[A.encN a])))) (h1:A.f1 a=[]) (h2:A.f2 a=[]) {l':List A.A} (ha:kM l [a]=some l')
  (hw:wH C c Q sl (H.set i (n,A.box l' m1 m2))):wH C c Q sl H:=by
 obtain rfl:l++[a]=l':=by
  unfold kM at ha
  split at ha
  ·exact Option.some.inj ha
  ·cases ha
 rw [A.box_app,AlK.lst,h1,h2]at hw
 refine oh (c:=c) hw λS t ag=>⟨_,.v2c _ n A.sz _ _ (ag.get h0) A.sz1 A.sz2 ?_,ag.set h0 (λx hx=>hx)⟩
 have:(l.map A.enc++[A.encN a]).flatten.map V.d=(l.flatMap A.enc).map .d++(A.encN a).map .d:=by simp [List.flatMap]
 rw [this]
 have app:∀(p:List V) {a b:List V},NilD a b->NilD (p++a) (p++b):=by
  intro p
  induction p with
  | nil=>exact λh=>h
  | cons x p ih=>exact λh => .same x (ih h)
 exact app _ (A.nild a h1 h2)
theorem Lh {len size:Nat} {parts:List (Nat×Operand)} (xs:List (List D)) (hT:(elemT C.P t).bind (szT C.P)=some size) (hz:((elemT C.P t).bind (zeroCells C.P)).isSome=true)
  (hx:mE size 0 (parts.map λp=>(p.1,Md (ev sl p.2)))=some xs) (hl:Nat.beq parts.length len=true) (hle:Nat.ble (len*size) 16777216=true) (h0:Nat.beq len 0=false)
  (hw:aJ all sl ⟨some d,.buildSlice t len parts.toArray,ty,pos,after,g⟩=some true) (h:aV q C all K rest (upd sl d (.d (.sl xs))) H) (hq:C.vm.contains (d+100000)=true:=by rfl):aV q C all K (⟨some d,.buildSlice t len parts.toArray,ty,pos,after,g⟩::rest) sl H :=
 mD hw (λS tk K' _ hk=>iO (A:=⟨[],[],.d (.sl xs)⟩) (λc e=>by cases e) (by
  show (bif C.vm.contains (d+100000)then GV C t len (parts.toArray.toList.map λp=>(p.1,ev sl p.2)) d tk else _)=_
  have hl2:Nat.beq ((parts.map λp=>(p.1,ev sl p.2)).map λp=>(p.1,Md p.2)).length len=true:=by rw [List.length_map,List.length_map];exact hl
  have hx2:mE size 0 ((parts.map λp=>(p.1,ev sl p.2)).map λp=>(p.1,Md p.2))=some xs:=by rw [List.map_map];exact hx
  rw [hq,cond_true,List.toList_toArray]
  simp only [GV,jy,hT,hx2,hl2,hle,hz,h0,Bool.and_self,cond_true,cond_false,eF]) (hk _ rfl rfl rfl)) h
theorem IZ {α β:Type} {n:Nm} {sz:Nat} {xs:List α} {ys:List β} (h:xs.length=ys.length):gV n sz xs=gV n sz ys:=by
 cases xs <;> cases ys
 ·rfl
 ·simp at h
 ·simp at h
 ·simp only [gV,h]
theorem Ll (A:AlK) {l l':List A.A} {a:A.A} {x y:Operand} {t' e e':TypeId} {sz bytes i:Nat} {n:Nm} {z:List V} (hsz:A.sz=sz) (p:Nat) (hpp:q=none\/Nat.beq all.length (p+(rest.length+1))=true) (hf:∀S tk,AgR H S tk (⟨some d,.call ⟨.builtin .append,#[x,y],#[t,t']⟩,ty,pos,after,g⟩::rest)->okQ q all p [n] true) (he:elemT C.P t=some e) (he':elemT C.P t'=some e') (hs:szT C.P e=some sz) (hz:zeroCells C.P e=some z) (hzl:z.length=sz) (hby:bytesT C.P e=bytes) (hbb:bytes<=100000)
  (hx:ev sl x=gV n A.sz l) (hH:H[i]? = some (n,gB A.sz A.enc l)) (hy:ev sl y = .d (.sl [A.encN a])) (ha:kM l [a]=some l')
  (hw:aJ all sl ⟨some d,.call ⟨.builtin .append,#[x,y],#[t,t']⟩,ty,pos,after,g⟩=some true)
  (h:∀n':Nm,aV (lK q p [n,n'] true) C all K rest (upd sl d (gV n' A.sz l')) (H.set i (n',some (.vec A.sz (l.map A.enc++[A.encN a]))))):aV q C all K (⟨some d,.call ⟨.builtin .append,#[x,y],#[t,t']⟩,ty,pos,after,g⟩::rest) sl H:=by
 subst hsz
 have ha2:l.length+1<=1000000000/\l++[a]=l':=by
  unfold kM at ha
  split at ha
  ·rename_i hle;exact⟨by simpa using hle,Option.some.inj ha⟩
  ·cases ha
 refine lS (i:=i) (enc:=λs:A.A ⊕ A.A=>s.elim A.enc A.encN) (xs:=l.map .inl) (ys:=[.inr a]) (zs:=l.map .inl++[.inr a]) p hpp hf he he' hs hz hzl (Nat.lt_trans Nat.zero_lt_one A.sz1) hby hbb ?_ ?_ ?_ hy ?_ hw ?_
 ·intro y
  cases y with
  | inl y=>exact A.len y
  | inr y=>exact A.lenN y
 ·rw [hx];exact IZ (List.length_map _).symm
 ·rw [hH]
  cases l with
  | nil=>rfl
  | cons b l=>simp [gB,Function.comp_def]
 ·unfold kM
  rw [if_pos (by simpa using ha2.1)]
 ·intro n'
  have e1:gV n' A.sz (l.map Sum.inl++[Sum.inr a]:List (A.A ⊕ A.A))=gV n' A.sz l':=by rw [<- ha2.2];exact IZ (by simp)
  have e2:gB A.sz (λs:A.A ⊕ A.A=>s.elim A.enc A.encN) (l.map Sum.inl++[Sum.inr a])=some (.vec A.sz (l.map A.enc++[A.encN a])):=by
   cases l with
   | nil=>rfl
   | cons b l=>simp [gB,Function.comp_def]
  rw [e1,e2]
  exact h n'
theorem cd_fn {f:Operand} {args:List Operand} {ats:Array TypeId} {fn:FuncId} {caps:List V} (hf:ev sl f = .fn fn caps) (hb:aF C.P fn=true):∀S tk (K':Eff->Prop),(∃c:CallData,c.OK C.P fn (args.map (ev sl)++caps) S tk/\(some d=none->c.outs.length=c.ins.length)/\K' (c.eff S d tk))->opD C ⟨some d,.call ⟨.value f,args.toArray,ats⟩,ty,pos,after,g⟩ sl S tk K' :=
 λS tk K' h=>mO hf (.inl ⟨hb,h⟩)
theorem cd_fnb {f:Operand} {args:List Operand} {ats:Array TypeId} {fn:FuncId} {v:V} (hf:ev sl f = .fn (fn+1000000000) [v]) (hb:aF C.P fn=true):∀S tk (K':Eff->Prop),(∃c:CallData,c.OK C.P fn (v::args.map (ev sl)) S tk/\(some d=none->c.outs.length=c.ins.length)/\K' (c.eff S d tk))->opD C ⟨some d,.call ⟨.value f,args.toArray,ats⟩,ty,pos,after,g⟩ sl S tk K' :=
 λS tk K' h=>mO hf (.inr (.inr ⟨fn,v,rfl,rfl,hb,h⟩))
theorem h_callY {f:Operand} {args:List Operand} {ats:Array TypeId} {fn:FuncId} {vals args0:List V} {r:V} {Sin:List Box} {Sout:List (Option Box)} (is:List Nat) (m:Nat) {l:List (Nm×Box)} (hc:FnM C.P fn args0 Sin r Sout)
  (hcd:∀S tk (K':Eff->Prop),(∃c:CallData,c.OK C.P fn vals S tk/\(some d=none->c.outs.length=c.ins.length)/\K' (c.eff S d tk))->opD C ⟨some d,.call ⟨.value f,args.toArray,ats⟩,ty,pos,after,g⟩ sl S tk K') (hl:gp H is=some l) (hS:Sin.map (λb=>b.ren (l.map (·.1)))=l.map (·.2)) (hSok:Sin.all (λb=>b.ok is.length)=true)
  (hn:∀n∈vals.flatMap frz,n∈l.map (·.1)) (ha:vals=renL (l.map (·.1)) args0) (hok:okL is.length args0=true) (hr:okV Sout.length r=true)
  (hlen:Sout.length=is.length+m) (hi:is.Nodup) (hO:okOut Sout.length Sout=true) (hmu:mutOut (Sout.drop is.length)=true)
  (hw:aJ all sl ⟨some d,.call ⟨.value f,args.toArray,ats⟩,ty,pos,after,g⟩=some true)
  (h:∀ν:Nat->Nm,aV none C all K rest (upd sl d (ren (l.map (·.1)++(List.range m).map ν) r))
   (setH H (outs (l.map (·.1)++(List.range m).map ν) is (l.map (·.1)) Sout)++news (l.map (·.1)++(List.range m).map ν) ((List.range m).map ν) (Sout.drop is.length))) :
  aV none C all K (⟨some d,.call ⟨.value f,args.toArray,ats⟩,ty,pos,after,g⟩::rest) sl H:=by
 obtain ⟨hll,hlg⟩:=kW hl
 have hsl:Sin.length=l.length:=by have:=congrArg List.length hS;simpa using this
 refine Hg hw (λS tk K' ok ag hk=>hcd S tk K' ?_)
 have h:=h (λj=>(d+100000*j,tk))
 have hnd:=rO ag hi hl
 have same:∀vs:List V,ArgsOK S vs vs:=by
  intro vs
  induction vs with
  | nil=>exact .nil
  | cons v vs ih=>exact .cons (.inl rfl) ih
 refine⟨⟨[],l.map (·.1),args0,Sin,r,Sout,false⟩,?_,(λe=>by cases e),?_⟩
 ·refine⟨hc,?_,?_,hnd,?_,?_,hr,hO,?_,(λn hn=>nomatch hn),(λn h' => .inr (hn n h')),(λn _ hn=>nomatch hn),(λe=>by cases e)⟩
  ·show ArgsOK S vals _
   rw [ha];exact same _
  ·simp only [List.length_map,hll];exact hok
  ·refine qI (by simp [hsl]) (λj h1 h2=>⟨?_,?_⟩)
   ·simp only [List.length_map,hll]
    exact List.all_eq_true.1 hSok _ (List.getElem_mem h2)
   ·simp only [List.length_map]at h1
    have e:=hlg j (by omega) h1
    have e2:l[j].2=Sin[j].ren (l.map (·.1)):=by
     have:=congrArg (λx=>x[j]?) hS
     simp only [List.getElem?_map,List.getElem?_eq_getElem h2,List.getElem?_eq_getElem h1,Option.map_some,so_]at this
     exact this.symm
    simp only [List.getElem_map]
    show S l[j].1=_
    rw [ag.get e,e2]
  ·show Sin.length<=Sout.length
   rw [hsl,hlen,hll];omega
  ·show mutOut (List.drop Sin.length Sout)=true
   rw [hsl,hll];exact hmu
 ·have hdm:Sout.length-Sin.length=m:=by omega
  have e1:CallData.eff ⟨[],l.map (·.1),args0,Sin,r,Sout,false⟩ S d tk=⟨((l.map (·.1)).zip Sin).map (λp=>(p.1,p.2.ren (l.map (·.1)))),bJ (l.map (·.1)++jq d tk m) (l.map (·.1)++jq d tk m) Sout,ren (l.map (·.1)++jq d tk m) r⟩:=by
   simp only [CallData.eff,cond_false,CallData.names,hdm,dW,dX,List.nil_append]
  show K' (CallData.eff _ S d tk)
  rw [e1]
  refine hk _ _ ?_ h
  have e2:(List.range m).map (λj=>(d+100000*j,tk))=jq d tk m:=rfl
  rw [e2]
  show AgR _ (dn S (bJ _ (l.map (·.1)++jq d tk m) Sout)) tk rest
  rw [wP,ul]
  have e3:(l.map (·.1)).length=is.length:=by simp [hll]
  rw [e3]
  have ag1:=xD (ν:=l.map (·.1)++jq d tk m) ag hi hnd (bs:=Sout) (λj h1 h2=>by
   simp only [List.length_map]at h2
   exact⟨_,by simp only [List.getElem_map];exact hlg j h1 h2⟩)
  rw [List.take_of_length_le (by omega)]at ag1
  have e4:jq d tk m=(List.range' 0 m).map λj=>(d+100000*j,tk):=by rw [<- e2,De]
  rw [e4]at ag1 ⊢
  exact AgR.news ok rfl m 0 ⟨ag1.nd,ag1.pos⟩ (λp hp=>⟨.inl (ag1.at_ p hp).1,(ag1.at_ p hp).2⟩)
end
namespace AlK
variable (K:AlK)
def exA (b:Nat) (l:List K.A):Nm:=match K.r1 l with
 | []=>ak (b+5)
 | _::_=>ak (b+1)
def exB (b:Nat) (l:List K.A):Nm:=match K.r1 l with
 | []=>ak (b+1)
 | _::_=>ak (b+2)
def hp (n0 n1 n2:Nm) (l:List K.A):Hp:=[(n0,K.box l n1 n2),(n1,gB K.s1 K.e1 (K.r1 l)),(n2,gB K.s2 K.e2 (K.r2 l))]
def ins (b:Nat) (l:List K.A):List Box:=match K.box l (K.exA b l) (K.exB b l)with
 | none=>[]
 | some bx=>bx::(gI K.s1 K.e1 (K.r1 l)++gI K.s2 K.e2 (K.r2 l))
def nms {β:Type} (l:List K.A) (n0 n1 n2:β):List β:=match l with
 | []=>[]
 | _::_=>n0::((match K.r1 l with
  | []=>[]
  | _::_=>[n1])++match K.r2 l with
  | []=>[]
  | _::_=>[n2])
theorem nms_len {β:Type} (l:List K.A) (b:Nat) (n0 n1 n2:β):(K.nms l n0 n1 n2).length=(K.ins b l).length:=by
 cases l with
 | nil=>rfl
 | cons x l =>
  simp only [nms,ins,box,List.length_cons,List.length_append]
  congr 1
  congr 1
  ·cases K.r1 (x::l) <;> rfl
  ·cases K.r2 (x::l) <;> rfl
theorem nms_mem {β:Type} {l:List K.A} {n0 n1 n2 x:β} (h:x∈K.nms l n0 n1 n2):x=n0\/x=n1\/x=n2:=by
 cases l with
 | nil=>cases h
 | cons y l =>
  simp only [nms]at h
  cases h1:K.r1 (y::l) <;> cases h2:K.r2 (y::l) <;> simp only [h1,h2,List.nil_append,List.append_nil,List.cons_append,List.mem_cons,List.not_mem_nil,or_false]at h
  ·exact .inl h
  ·rcases h with h|h
   ·exact .inl h
   ·exact .inr (.inr h)
  ·rcases h with h|h
   ·exact .inl h
   ·exact .inr (.inl h)
  ·exact h
theorem nms_nodup {β:Type} {l:List K.A} {n0 n1 n2:β} (h1:n0≠n1) (h2:n0≠n2) (h3:n1≠n2):(K.nms l n0 n1 n2).Nodup:=by
 cases l with
 | nil=>exact List.nodup_nil
 | cons y l =>
  simp only [nms]
  cases K.r1 (y::l) <;> cases K.r2 (y::l) <;> simp [h1,h2,h3]
theorem ins_ren {b:Nat} {l:List K.A} {ρ p:List Nm} {n0 n1 n2:Nm} (hb:p.length=b) (hρ:ρ=p++K.nms l n0 n1 n2) :
  Eng.ren ρ (gV (ak b) K.sz l)=gV n0 K.sz l/\(K.ins b l).map (λx=>x.ren ρ)=((K.hp n0 n1 n2 l).filterMap (·.2))/\(K.ins b l).all (λx=>x.ok (b+(K.ins b l).length))=true:=by
 rcases List.eq_nil_or_concat l with rfl|⟨l0,a,rfl⟩
 ·exact⟨rfl,rfl,rfl⟩
 ·rw [List.concat_eq_append]at *
  have hne:∃x l',l0++[a]=x::l':=by cases l0 <;> exact⟨_,_,rfl⟩
  have e1:K.r1 (l0++[a])=K.f1 a:=fH _ _ _
  have e2:K.r2 (l0++[a])=K.f2 a:=fH _ _ _
  have hn:K.nms (l0++[a]) n0 n1 n2=n0::((match K.f1 a with
   | []=>[]
   | _::_=>[n1])++match K.f2 a with
   | []=>[]
   | _::_=>[n2]):=by
   rw [<- e1,<- e2]
   obtain ⟨x,l',e⟩:=hne
   rw [e];rfl
  have h0:ρ[b]? = some n0:=by rw [hρ,List.getElem?_append_right (by omega),hb,Nat.sub_self,hn];rfl
  have hpre:∀s:List D,renL ρ (s.map .d)=s.map .d:=by
   intro s
   induction s with
   | nil=>rfl
   | cons x s ih=>simp only [List.map_cons,renL,ih,Eng.ren]
  have okpre:∀(k:Nat) (s:List D),okL k (s.map .d)=true:=by
   intro k s
   induction s with
   | nil=>rfl
   | cons x s ih=>simp only [List.map_cons,okL,ih,okV,Bool.and_self]
  have rapp:∀u v:List V,renL ρ (u++v)=renL ρ u++renL ρ v:=by
   intro u v
   induction u with
   | nil=>rfl
   | cons x u ih=>simp only [List.cons_append,renL,ih]
  have oapp:∀(k:Nat) (u v:List V),okL k u=true->okL k v=true->okL k (u++v)=true:=by
   intro k u v hu hv
   induction u with
   | nil=>exact hv
   | cons x u ih=>simp only [List.cons_append,okL,Bool.and_eq_true]at hu ⊢;exact⟨hu.1,ih hu.2⟩
  have hbr:(Box.cells K.sz ((l0.flatMap K.enc).map .d++K.lst (K.exA b (l0++[a])) (K.exB b (l0++[a])) a)).ren ρ = .cells K.sz ((l0.flatMap K.enc).map .d++K.lst n1 n2 a):=by
   show Box.cells K.sz (renL ρ _)=_
   rw [rapp,hpre,lst,K.ren,DW,DW]
   simp only [exA,exB,e1]
   cases h1:K.f1 a with
   | nil =>
    cases h2:K.f2 a with
    | nil=>simp [lst,h1,h2,gV]
    | cons y ys =>
     rw [h1,h2]at hn
     have:ρ[b+1]? = some n2:=by rw [hρ,List.getElem?_append_right (by omega),hn];rw [show b+1-p.length=1 by omega];rfl
     rw [qf this]
     simp [lst,h1,h2,gV]
   | cons x xs =>
    rw [h1]at hn
    have t1:ρ[b+1]? = some n1:=by rw [hρ,List.getElem?_append_right (by omega),hn];rw [show b+1-p.length=1 by omega];rfl
    rw [qf t1]
    cases h2:K.f2 a with
    | nil=>simp [lst,h1,h2,gV]
    | cons y ys =>
     rw [h2]at hn
     have t2:ρ[b+2]? = some n2:=by rw [hρ,List.getElem?_append_right (by omega),hn];rw [show b+2-p.length=2 by omega];rfl
     rw [qf t2]
     simp [lst,h1,h2]
  refine⟨by rw [DW,qf h0],?_,?_⟩
  ·simp only [ins,hp,K.box_app,e1,e2]
   simp only [List.map_cons,List.map_append,hbr,List.filterMap_cons,List.filterMap_nil]
   cases h1:K.f1 a <;> cases h2:K.f2 a <;> rfl
  ·have hl:(K.ins b (l0++[a])).length=1+((gI K.s1 K.e1 (K.f1 a)).length+(gI K.s2 K.e2 (K.f2 a)).length):=by
    simp only [ins,K.box_app,e1,e2,List.length_cons,List.length_append];omega
   rw [hl]
   simp only [ins,K.box_app,e1,e2,List.all_cons,List.all_append,Bool.and_eq_true]
   refine⟨oapp _ _ _ (okpre _ _) (K.ok _ _ _ _ ?_ ?_),?_,?_⟩
   ·simp only [exA,e1]
    cases h1:K.f1 a with
    | nil=>rfl
    | cons x xs=>exact wL (by simp [gI];omega) _
   ·simp only [exB,e1]
    cases h2:K.f2 a with
    | nil=>rfl
    | cons y ys =>
     cases h1:K.f1 a with
     | nil=>exact wL (by simp [gI]) _
     | cons x xs=>exact wL (by simp [gI]) _
   ·cases K.f1 a <;> rfl
   ·cases K.f2 a <;> rfl
end AlK
section
variable {C:Cfg} {sl:Nat->V} {H:Hp} {q:Qm} {all rest:List Oper} {K:(Nat->V)->Hp->Prop} {Q:QH} {c:Code}
theorem La {rs:List ResultVar} {b m k:Nat} {r:V} {bsF tb:List Box} {ns:List Nm} {jt:List Nat} {vs:List V} {e:Exit} (he:e = .normal\/e = .ret) (hres:zD C sl H rs vs) (hk:k=b+m) (hb:bsF.length=b)
  (hv:wF vs=ren ((List.range k).map ak++ns) r) (hok:okV (k+tb.length) r=true) (hpre:H.take b=jF 0 (bsF.map (λx=>x.ren ((List.range k).map ak++ns)))) (hbo:bsF.all (λx=>x.ok (k+tb.length))=true)
  (htl:wu H ((List.range k).map ak++ns) jt ns (tb.map some)) (hto:tb.all (λx=>x.ok (k+tb.length))=true) (hjt:jt.Nodup) (hjb:∀j∈jt,b<=j) :
  finR C rs k r (bsF.map some++List.replicate m none++tb.map some) e sl H:=by
 obtain ⟨l1,l2⟩:=xh htl
 have l3:ns.length=tb.length:=by simpa using l2
 have hSl:(bsF.map some++List.replicate m (none:Option Box)++tb.map some).length=k+tb.length:=by simp [hb,hk];omega
 generalize hρ:(List.range k).map ak++ns=ρ at *
 have hρl:ρ.length=k+tb.length:=by rw [<- hρ];simp [l3]
 have hρk:∀i,i<k->ρ[i]? = some (ak i):=λi hi=>by rw [<- hρ,List.getElem?_append_left (by simpa using hi),List.getElem?_map,List.getElem?_range hi];rfl
 have key:∀(i:Nat) (bx:Box),(bsF.map some++List.replicate m none++tb.map some)[i]? = some (some bx)->(∃h:i<b,bx=bsF[i]'(by omega))\/∃(d:Nat) (h:d<tb.length),i=k+d/\bx=tb[d]:=by
  intro i bx hx
  by_cases h1:i<b
  ·rw [List.append_assoc,List.getElem?_append_left (by simpa [hb]using h1),List.getElem?_map,List.getElem?_eq_getElem (by omega)]at hx
   simp only [Option.map_some,so_]at hx
   exact .inl ⟨h1,hx.symm⟩
  ·by_cases h2:i<k
   ·rw [List.getElem?_append_left (by simp;omega),List.getElem?_append_right (by simp;omega),List.getElem?_replicate]at hx
    split at hx <;> cases hx
   ·rw [List.getElem?_append_right (by simp;omega)]at hx
    have e1:i-(bsF.map some++List.replicate m (none:Option Box)).length=i-k:=by simp [hb,hk]
    rw [e1,List.getElem?_map]at hx
    obtain ⟨y,hy,hy2⟩:=Option.map_eq_some_iff.1 hx
    obtain ⟨h3,h4⟩:=List.getElem?_eq_some_iff.1 hy
    exact .inr ⟨i-k,h3,by omega,by rw [h4];exact (Option.some.inj hy2).symm⟩
 have hj1:∀i,i<b->(List.range b++List.replicate m 0++jt)[i]? = some i:=λi hi=>by
  rw [List.append_assoc,List.getElem?_append_left (by simpa using hi),List.getElem?_range hi]
 have hj2:∀d (h:d<jt.length),(List.range b++List.replicate m 0++jt)[k+d]? = some jt[d]:=λd h=>by
  rw [List.getElem?_append_right (by simp;omega)]
  have:k+d-(List.range b++List.replicate m 0).length=d:=by simp;omega
  rw [this,List.getElem?_eq_getElem h]
 refine⟨he,vs,ρ,List.range b++List.replicate m 0++jt,hres,hv,by rw [hSl];exact hok,by rw [hρl,hSl],hρk,λi bx hx => ?_,λi i' j bx bx' hx hx' hj hj' => ?_⟩
 ·rw [hSl]
  rcases key i bx hx with⟨h,rfl⟩|⟨d,h,rfl,rfl⟩
  ·refine⟨List.all_eq_true.1 hbo _ (List.getElem_mem _),ak i,i,hρk i (by omega),hj1 i h,?_⟩
   have:=nA (bsF.map (λx=>x.ren ρ)) 0 i (by simp;omega)
   rw [Nat.zero_add,<- hpre,List.getElem?_take,if_pos h]at this
   rw [this];simp
  ·refine⟨List.all_eq_true.1 hto _ (List.getElem_mem _),ns[d]'(by omega),jt[d]'(by omega),?_,hj2 d (by omega),?_⟩
   ·rw [<- hρ,List.getElem?_append_right (by simp)]
    simp
   ·have:=tT htl d (by omega) (by omega) (by simpa using h)
    rw [this];simp
 ·rcases key i bx hx with⟨h,_⟩|⟨d,h,rfl,_⟩ <;> rcases key i' bx' hx' with⟨h',_⟩|⟨d',h',rfl,_⟩
  ·rw [hj1 i h,so_]at hj
   rw [hj1 i' h',so_]at hj'
   omega
  ·rw [hj1 i h,so_]at hj
   rw [hj2 d' (by omega),so_]at hj'
   have:=hjb _ (List.getElem_mem (show d'<jt.length by omega))
   omega
  ·rw [hj2 d (by omega),so_]at hj
   rw [hj1 i' h',so_]at hj'
   have:=hjb _ (List.getElem_mem (show d<jt.length by omega))
   omega
  ·rw [hj2 d (by omega),so_]at hj
   rw [hj2 d' (by omega),so_]at hj'
   have:=iC hjt d d' (by omega) (by omega) (by rw [hj,hj'])
   omega
def finAL (A:AlK) (C:Cfg) (rs:List ResultVar) (b:Nat) (bs':V->List Box) (l':List A.A) (r:V->V):QH:=λe sl H=>(e = .normal\/e = .ret) /\
 ∃(vs:List V) (n0 n1 n2:Nm) (j0 j1 j2:Nat),zD C sl H rs vs/\wF vs=r (gV n0 A.sz l')/\H.take b=jF 0 (bs' (gV n0 A.sz l'))/\H[j0]? = some (n0,A.box l' n1 n2)/\H[j1]? = some (n1,gB A.s1 A.e1 (A.r1 l'))/\H[j2]? = some (n2,gB A.s2 A.e2 (A.r2 l')) /\
  (b<=j0/\b<=j1/\b<=j2)/\j0≠j1/\j0≠j2/\j1≠j2
theorem outL_al (A:AlK) {k:Nat} {l:List A.A} {ρ p:List Nm} {n0 n1 n2:Nm} {j0 j1 j2:Nat} (hb:p.length=k) (hρ:ρ=p++A.nms l n0 n1 n2)
  (h0:H[j0]? = some (n0,A.box l n1 n2)) (h1:H[j1]? = some (n1,gB A.s1 A.e1 (A.r1 l))) (h2:H[j2]? = some (n2,gB A.s2 A.e2 (A.r2 l))):wu H ρ (A.nms l j0 j1 j2) (A.nms l n0 n1 n2) ((A.ins k l).map some):=by
 obtain ⟨_,k2,_⟩:=A.ins_ren hb hρ
 cases l with
 | nil=>trivial
 | cons y l =>
  have e0:A.box (y::l) n1 n2=some (.cells A.sz (A.cells (y::l) n1 n2)):=rfl
  have e1:A.ins k (y::l) = .cells A.sz (A.cells (y::l) (A.exA k (y::l)) (A.exB k (y::l)))::(gI A.s1 A.e1 (A.r1 (y::l))++gI A.s2 A.e2 (A.r2 (y::l))):=rfl
  rw [e1]at k2 ⊢
  simp only [AlK.hp,e0,List.map_cons,List.filterMap_cons]at k2
  rw [List.cons.injEq]at k2
  rw [e0]at h0
  simp only [AlK.nms,List.map_cons]
  refine⟨by rw [h0,<- k2.1];rfl,?_⟩
  cases g1:A.r1 (y::l) <;> cases g2:A.r2 (y::l) <;> rw [g1]at h1 <;> rw [g2]at h2
  ·trivial
  ·exact⟨h2,trivial⟩
  ·exact⟨h1,trivial⟩
  ·exact⟨h1,h2,trivial⟩
theorem Mh (A:AlK) {rs:List ResultVar} {b m k:Nat} {bs':V->List Box} {l':List A.A} {r:V->V} (hk:k=b+m) (hr:∀ρ v,ren ρ (r v)=r (ren ρ v)) (hro:∀k v,okV k v=true->okV k (r v)=true)
  (hbl:∀v,(bs' v).length=b) (hbr:∀ρ v,(bs' v).map (λx=>x.ren ρ)=bs' (ren ρ v)) (hbo:∀k v,okV k v=true->(bs' v).all (λx=>x.ok k)=true) {e:Exit} (h:finAL A C rs b bs' l' r e sl H) :
  finR C rs k (r (gV (ak k) A.sz l')) ((bs' (gV (ak k) A.sz l')).map some++List.replicate m none++(A.ins k l').map some) e sl H:=by
 obtain ⟨he,vs,n0,n1,n2,j0,j1,j2,f1,f2,f3,f4,f5,f6,f7,f8,f9,f10⟩:=h
 have hp:((List.range k).map ak).length=k:=by simp
 obtain ⟨k1,k2,k3⟩:=A.ins_ren (l:=l') (n0:=n0) (n1:=n1) (n2:=n2) hp rfl
 have hg:okV (k+(A.ins k l').length) (gV (ak k) A.sz l')=true:=by
  cases l' with
  | nil=>rfl
  | cons y l=>exact wL (by simp [AlK.ins,AlK.box]) _
 refine La (ns:=A.nms l' n0 n1 n2) (jt:=A.nms l' j0 j1 j2) he f1 hk (hbl _) (by rw [hr,k1];exact f2) (hro _ _ hg) (by rw [hbr,k1];exact f3) (hbo _ _ hg) (outL_al A hp rfl f4 f5 f6) k3 (A.nms_nodup f8 f9 f10) (λj hj => ?_)
 rcases A.nms_mem hj with rfl|rfl|rfl
 ·exact f7.1
 ·exact f7.2.1
 ·exact f7.2.2
end
def Im (A:AlK) (P:Program) (f:FuncId) (args:List V) (bs:List Box) (bs':V->List Box) (l l':List A.A) (r:V->V):Prop :=
 FnM P f args (bs++A.ins bs.length l) (r (gV (ak (bs.length+(A.ins bs.length l).length)) A.sz l'))
  ((bs' (gV (ak (bs.length+(A.ins bs.length l).length)) A.sz l')).map some++List.replicate (A.ins bs.length l).length none++(A.ins (bs.length+(A.ins bs.length l).length) l').map some)
theorem FnM.of_wHal (A:AlK) {P:Program} {f:FuncId} {fn:Func} {body:Code} (C:Cfg) (hP:C.P=P) (hf:P.funcs[f]? = some fn) (hb:fn.body=some body) (hn:C.n=fn.ntmps)
  {args:List V} {bs:List Box} {bs':V->List Box} {l l':List A.A} {r:V->V} (hl:args.length<=fn.ntmps) (hok:lV C body=true)
  (hr:∀ρ v,ren ρ (r v)=r (ren ρ v)) (hro:∀k v,okV k v=true->okV k (r v)=true)
  (hbl:∀v,(bs' v).length=bs.length) (hbr:∀ρ v,(bs' v).map (λx=>x.ren ρ)=bs' (ren ρ v)) (hbo:∀k v,okV k v=true->(bs' v).all (λx=>x.ok k)=true)
  (h:wH C body (finAL A C fn.results.toList bs.length bs' l' r) (y7 args) (jF 0 bs++A.hp (ak bs.length) (A.exA bs.length l) (A.exB bs.length l) l)) :
  Im A P f args bs bs' l l' r:=by
 unfold Im
 refine FnM.of_wHr (H0:=jF 0 bs++A.hp (ak bs.length) (A.exA bs.length l) (A.exB bs.length l) l) C hP hf hb hn hl hok ?_ ?_
 ·have hne:∀{a b:Nat},a≠b->ak a≠ak b:=λh e=>h (BL e)
  have hmem:∀p∈jF 0 bs,∃j b,j<bs.length/\p=(ak j,some b)/\bs[j]? = some b:=λp hp=>by
   obtain ⟨j,b,h1,h2⟩:=oM hp
   exact⟨j,b,(List.getElem?_eq_some_iff.1 h2).1,by rw [h1,Nat.zero_add],h2⟩
  have hnm:((jF 0 bs).map (·.1))=(List.range bs.length).map ak:=by
   refine List.ext_getElem? (λi => ?_)
   by_cases hi:i<bs.length
   ·have:=nA bs 0 i hi
    rw [List.getElem?_map,this,List.getElem?_map,List.getElem?_range hi];simp
   ·have hlen:∀(bs:List Box) (i:Nat),(jF i bs).length=bs.length:=by
     intro bs
     induction bs with
     | nil=>exact λ_=>rfl
     | cons b bs ih=>exact λi=>by simp [jF,ih]
    rw [List.getElem?_eq_none (by rw [List.length_map,hlen];omega),List.getElem?_eq_none (by simp;omega)]
  have hxa:A.exA bs.length l=ak (bs.length+5)\/A.exA bs.length l=ak (bs.length+1):=by
   unfold AlK.exA;cases A.r1 l <;> simp
  refine⟨Nat.one_pos,?_,λp hp => ?_⟩
  ·rw [List.map_append,hnm]
   have hab:A.exA bs.length l=ak (bs.length+5)/\A.exB bs.length l=ak (bs.length+1)\/A.exA bs.length l=ak (bs.length+1)/\A.exB bs.length l=ak (bs.length+2):=by
    unfold AlK.exA AlK.exB;cases A.r1 l <;> simp
   rw [List.nodup_append]
   refine⟨?_,?_,?_⟩
   ·rw [List.nodup_iff_pairwise_ne,List.pairwise_map]
    exact List.nodup_range.imp (λ{a b} hab e=>hab (BL e))
   ·rcases hab with⟨a1,a2⟩|⟨a1,a2⟩ <;> simp only [AlK.hp,List.map_cons,List.map_nil,a1,a2,List.nodup_cons,List.mem_cons,List.not_mem_nil,or_false,not_or,List.nodup_nil,and_true,not_false_eq_true] <;> refine⟨⟨hne (by omega),hne (by omega)⟩,hne (by omega)⟩
   ·intro x hx y hy
    obtain ⟨i,hi,rfl⟩:=List.mem_map.1 hx
    rw [List.mem_range]at hi
    rcases hab with⟨a1,a2⟩|⟨a1,a2⟩ <;> simp only [AlK.hp,List.map_cons,List.map_nil,a1,a2,List.mem_cons,List.not_mem_nil,or_false]at hy <;> rcases hy with rfl|rfl|rfl <;> exact hne (by omega)
  ·rcases List.mem_append.1 hp with hp|hp
   ·obtain ⟨j,b,h1,rfl,h2⟩:=hmem p hp
    refine⟨Nat.one_pos,λx hx => ?_⟩
    rw [jC,List.getElem?_append_left h1];exact h2.trans (congrArg some (Option.some.inj hx))
   ·cases l with
    | nil =>
     simp only [AlK.hp,List.mem_cons,List.not_mem_nil,or_false]at hp
     rcases hp with rfl|rfl|rfl
     ·exact⟨Nat.one_pos,λx hx=>by cases hx⟩
     ·exact⟨Nat.one_pos,λx hx=>by cases hx⟩
     ·exact⟨Nat.one_pos,λx hx=>by cases hx⟩
    | cons y l =>
     have e1:A.ins bs.length (y::l) = .cells A.sz (A.cells (y::l) (A.exA bs.length (y::l)) (A.exB bs.length (y::l)))::(gI A.s1 A.e1 (A.r1 (y::l))++gI A.s2 A.e2 (A.r2 (y::l))):=rfl
     have gx:∀i,bG (bs++A.ins bs.length (y::l)) (ak (bs.length+i))=(A.ins bs.length (y::l))[i]? := λi=>by
      rw [jC,List.getElem?_append_right (by omega)];congr 1;omega
     have g0:=gx 0
     rw [Nat.add_zero]at g0
     simp only [AlK.hp,List.mem_cons,List.not_mem_nil,or_false]at hp
     rw [e1]at gx g0
     rw [e1]
     rcases hp with rfl|rfl|rfl
     ·exact⟨Nat.one_pos,λx hx=>g0.trans hx⟩
     ·unfold AlK.exA
      cases g1:A.r1 (y::l)with
      | nil=>exact⟨Nat.one_pos,λx hx=>by cases hx⟩
      | cons z zs =>
       refine⟨Nat.one_pos,λx hx => ?_⟩
       have:=gx 1
       rw [g1]at this
       simp only [AlK.exA,AlK.exB,g1]at this ⊢
       exact this.trans hx
     ·unfold AlK.exB
      cases g2:A.r2 (y::l)with
      | nil=>exact⟨by cases A.r1 (y::l) <;> exact Nat.one_pos,λx hx=>by cases hx⟩
      | cons z zs =>
       cases g1:A.r1 (y::l)with
       | nil =>
        refine⟨Nat.one_pos,λx hx => ?_⟩
        have:=gx 1
        rw [g1,g2]at this
        simp only [AlK.exA,AlK.exB,g1]at this ⊢
        exact this.trans hx
       | cons w ws =>
        refine⟨Nat.one_pos,λx hx => ?_⟩
        have:=gx 2
        rw [g1,g2]at this
        simp only [AlK.exA,AlK.exB,g1]at this ⊢
        exact this.trans hx
 ·have hlen:(bs++A.ins bs.length l).length=bs.length+(A.ins bs.length l).length:=by simp
  rw [hlen]
  exact D8 (λe sl H h=>Mh A rfl hr hro hbl hbr hbo h) h
section
variable {C:Cfg} {sl:Nat->V} {H:Hp} {q:Qm} {all rest:List Oper} {K:(Nat->V)->Hp->Prop} {Q:QH} {c:Code}
variable {dst:Option Tmp} {d:Nat} {t ty:TypeId} {pos:String} {after:Array Edge} {g:Option (Nat×Bool)}
def tL (H:Hp):List Nat->List Nm->List Box->Hp
 | i::is,n::ns,b::bs=>tL (H.set i (n,some b)) is ns bs
 | _,_,_=>H
theorem xz:∀{is:List Nat} {ns:List Nm} {bs:List Box} {H:Hp} {i:Nat},i∉is->(tL H is ns bs)[i]? = H[i]?
 | [],_,_,_,_,_=>by simp [tL]
 | _::_,[],_,_,_,_=>by simp [tL]
 | _::_,_::_,[],_,_,_=>by simp [tL]
 | j::is,n::ns,b::bs,H,i,h=>by
  simp only [List.mem_cons,not_or]at h
  simp only [tL]
  rw [xz h.2,List.getElem?_set_ne (λe=>h.1 e.symm)]
theorem Am:∀{a b:List Nat} {x y:List (Nm×Box)},gp H a=some x->gp H b=some y->gp H (a++b)=some (x++y)
 | [],_,x,y,h1,h2=>by simp only [gp,so_]at h1;subst h1;exact h2
 | i::a,b,x,y,h1,h2=>by
  simp only [gp]at h1
  split at h1
  ·rename_i n bx l' g1 g2
   simp only [so_]at h1
   subst h1
   simp only [List.cons_append,gp,g1,Am g2 h2]
  ·cases h1
theorem C8 {ν:List Nm}:∀{is js:List Nat} {ns ms:List Nm} {xs ys:List (Option Box)},is.length=ns.length->ns.length=xs.length->outs ν (is++js) (ns++ms) (xs++ys)=outs ν is ns xs++outs ν js ms ys
 | [],_,[],_,[],_,_,_=>rfl
 | i::is,_,n::ns,_,x::xs,_,h1,h2=>by
  simp only [List.cons_append,outs]
  rw [C8 (by simpa using h1) (by simpa using h2)]
 | [],_,_::_,_,_,_,h,_=>by simp at h
 | _::_,_,[],_,_,_,h,_=>by simp at h
 | [],_,[],_,_::_,_,_,h=>by simp at h
 | _::_,_,_::_,_,[],_,_,h=>by simp at h
theorem CL {ν:List Nm}:∀{is:List Nat} {ns:List Nm} {bs:List Box} {H:Hp},setH H (outs ν is ns (bs.map some))=tL H is ns (bs.map (λx=>x.ren ν))
 | [],_,_,_=>by simp [outs,tL,setH]
 | _::_,[],_,_=>by simp [outs,tL,setH]
 | _::_,_::_,[],_=>by simp [outs,tL,setH]
 | i::is,n::ns,b::bs,H=>by
  simp only [List.map_cons,outs,setH,tL,Option.map_some]
  exact CL
theorem rJ:∀{k:Nat} {a b:List (Option Box)},okOut k a=true->okOut k b=true->okOut k (a++b)=true
 | k,[],b,_,h=>h
 | k,none::a,b,h1,h2=>rJ (a:=a) h1 h2
 | k,some x::a,b,h1,h2=>by
  simp only [okOut,Bool.and_eq_true]at h1
  simp only [List.cons_append,okOut,Bool.and_eq_true]
  exact⟨h1.1,rJ h1.2 h2⟩
theorem yV {k:Nat}:∀{bs:List Box},bs.all (λx=>x.ok k)=true->okOut k (bs.map some)=true
 | [],_=>rfl
 | b::bs,h=>by
  simp only [List.all_cons,Bool.and_eq_true]at h
  simp only [List.map_cons,okOut,Bool.and_eq_true]
  exact⟨h.1,yV h.2⟩
theorem AJ {k:Nat}:∀m:Nat,okOut k (List.replicate m none)=true
 | 0=>rfl
 | m+1=>AJ m
theorem A8 (A:AlK) {f:Operand} {args:List Operand} {ats:Array TypeId} {fn:FuncId} {vals args0:List V} {bs:List Box} {bs':V->List Box} {l l':List A.A} {r:V->V} (ib:List Nat) {lb:List (Nm×Box)} {n0 n1 n2:Nm} (i0 i1 i2:Nat)
  (hc:Im A C.P fn args0 bs bs' l l' r)
  (hr:∀ρ v,ren ρ (r v)=r (ren ρ v)) (hro:∀k v,okV k v=true->okV k (r v)=true)
  (hbl:∀v,(bs' v).length=bs.length) (hbr:∀ρ v,(bs' v).map (λx=>x.ren ρ)=bs' (ren ρ v)) (hbo:∀k v,okV k v=true->(bs' v).all (λx=>x.ok k)=true)
  (hcd:∀S tk (K':Eff->Prop),(∃c:CallData,c.OK C.P fn vals S tk/\(some d=none->c.outs.length=c.ins.length)/\K' (c.eff S d tk))->opD C ⟨some d,.call ⟨.value f,args.toArray,ats⟩,ty,pos,after,g⟩ sl S tk K') (hlb:gp H ib=some lb) (hib:ib.length=bs.length)
  (h0:H[i0]? = some (n0,A.box l n1 n2)) (h1:H[i1]? = some (n1,gB A.s1 A.e1 (A.r1 l))) (h2:H[i2]? = some (n2,gB A.s2 A.e2 (A.r2 l))) (hnd:(i0::i1::i2::ib).Nodup)
  (hS:∀ρ:List Nm,ρ.take bs.length=lb.map (·.1)->ren ρ (gV (ak bs.length) A.sz l)=gV n0 A.sz l->bs.map (λx=>x.ren ρ)=lb.map (·.2))
  (hSok:∀k,okV k (gV (ak bs.length) A.sz l)=true->bs.length<=k->bs.all (λx=>x.ok k)=true)
  (hn:∀n∈vals.flatMap frz,n∈xg (gV n0 A.sz l))
  (ha:∀ρ:List Nm,ρ.take bs.length=lb.map (·.1)->ren ρ (gV (ak bs.length) A.sz l)=gV n0 A.sz l->vals=renL ρ args0)
  (hok:∀k,okV k (gV (ak bs.length) A.sz l)=true->bs.length<=k->okL k args0=true)
  (hw:aJ all sl ⟨some d,.call ⟨.value f,args.toArray,ats⟩,ty,pos,after,g⟩=some true)
  (h:∀m0 m1 m2:Nm,aV none C all K rest (upd sl d (r (gV m0 A.sz l'))) ((((tL H ib (lb.map (·.1)) (bs' (gV m0 A.sz l'))).set i0 (n0,none)).set i1 (n1,none)).set i2 (n2,none)++A.hp m0 m1 m2 l')) :
  aV none C all K (⟨some d,.call ⟨.value f,args.toArray,ats⟩,ty,pos,after,g⟩::rest) sl H:=by
 unfold Im at hc
 obtain ⟨hll,hlg⟩:=kW hlb
 have hpl:(lb.map (·.1)).length=bs.length:=by rw [List.length_map,hll,hib]
 simp only [List.nodup_cons,List.mem_cons,not_or]at hnd
 obtain ⟨⟨d01,d02,d0b⟩,⟨d12,d1b⟩,d2b,hibn⟩:=hnd
 obtain ⟨k1,k2,k3⟩:=A.ins_ren (l:=l) (n0:=n0) (n1:=n1) (n2:=n2) hpl rfl
 obtain ⟨lj,g1,g2,g3⟩:∃lj,gp H (A.nms l i0 i1 i2)=some lj/\lj.map (·.1)=A.nms l n0 n1 n2/\lj.map (·.2)=(A.hp n0 n1 n2 l).filterMap (·.2):=by
  cases l with
  | nil=>exact⟨[],rfl,rfl,rfl⟩
  | cons y l =>
   have e0:A.box (y::l) n1 n2=some (.cells A.sz (A.cells (y::l) n1 n2)):=rfl
   rw [e0]at h0
   simp only [AlK.nms,AlK.hp,e0]
   cases q1:A.r1 (y::l) <;> cases q2:A.r2 (y::l) <;> rw [q1]at h1 <;> rw [q2]at h2 <;> simp only [gB]at h1 h2
   ·exact⟨[_],by simp only [List.nil_append,gp,h0];rfl,rfl,rfl⟩
   ·exact⟨[_,_],by simp only [List.nil_append,gp,h0,h2];rfl,rfl,rfl⟩
   ·exact⟨[_,_],by simp only [List.append_nil,gp,h0,h1];rfl,rfl,rfl⟩
   ·exact⟨[_,_,_],by simp only [List.cons_append,List.nil_append,gp,h0,h1,h2];rfl,rfl,rfl⟩
 have hjl:(A.nms l i0 i1 i2).length=(A.ins bs.length l).length:=A.nms_len l _ _ _ _
 have hnl:(A.nms l n0 n1 n2).length=(A.ins bs.length l).length:=A.nms_len l _ _ _ _
 generalize hm:(A.ins bs.length l).length=m at *
 generalize hk:bs.length+m=k at *
 have hlm:(lb++lj).map (·.1)=lb.map (·.1)++A.nms l n0 n1 n2:=by rw [List.map_append,g2]
 have htk:(lb.map (·.1)++A.nms l n0 n1 n2).take bs.length=lb.map (·.1):=by rw [<- hpl];simp
 have hgk:okV k (gV (ak bs.length) A.sz l)=true:=by
  cases l with
  | nil=>rfl
  | cons y l =>
   have:m≠0:=by rw [<- hm];simp [AlK.ins,AlK.box]
   exact wL (by omega) _
 have hisl:(ib++A.nms l i0 i1 i2).length=k:=by rw [List.length_append,hib,hjl,hk]
 have hgl:okV (k+(A.ins k l').length) (gV (ak k) A.sz l')=true:=by
  cases l' with
  | nil=>rfl
  | cons y l=>exact wL (by simp [AlK.ins,AlK.box]) _
 have hSl:((bs' (gV (ak k) A.sz l')).map some++List.replicate m (none:Option Box)++(A.ins k l').map some).length=k+(A.ins k l').length:=by simp [hbl];omega
 have hdr:((bs' (gV (ak k) A.sz l')).map some++List.replicate m (none:Option Box)++(A.ins k l').map some).drop k=(A.ins k l').map some:=by
  rw [List.drop_append_of_le_length (by simp [hbl];omega),List.drop_of_length_le (by simp [hbl];omega),List.nil_append]
 refine h_callY (ib++A.nms l i0 i1 i2) (A.ins k l').length hc hcd (Am hlb g1) ?_ ?_ ?_ ?_ ?_ (by rw [hSl];exact hro _ _ hgl) (by rw [hSl,hisl]) ?_ ?_ ?_ hw (λν => ?_)
 ·rw [hlm,List.map_append,List.map_append,hS _ htk k1,k2,g3]
 ·rw [hisl,List.all_append,hSok k hgk (by omega)]
  exact k3
 ·intro n hn'
  rw [hlm]
  refine List.mem_append_right _ ?_
  have:=hn n hn'
  cases l with
  | nil=>cases this
  | cons y l =>
   have e:n=n0:=by simpa [gV,xg]using this
   rw [e];exact List.mem_cons_self ..
 ·rw [hlm];exact ha _ htk k1
 ·rw [hisl];exact hok k hgk (by omega)
 ·rw [List.nodup_append]
  refine⟨hibn,A.nms_nodup d01 d02 d12,λx hx y hy e => ?_⟩
  subst e
  rcases A.nms_mem hy with rfl|rfl|rfl
  ·exact d0b hx
  ·exact d1b hx
  ·exact d2b hx
 ·rw [hSl]
  refine rJ (rJ (yV (hbo _ _ hgl)) (AJ m)) (yV ?_)
  exact (A.ins_ren (l:=l') (ρ:=(List.range k).map ak++A.nms l' n0 n1 n2) (p:=(List.range k).map ak) (n0:=n0) (n1:=n1) (n2:=n2) (by simp) rfl).2.2
 ·rw [hisl,hdr]
  cases l' with
  | nil=>rfl
  | cons y l =>
   simp only [AlK.ins,AlK.box,List.map_cons,List.map_append,mutOut,Box.mut,Bool.true_and]
   cases A.r1 (y::l) <;> cases A.r2 (y::l) <;> rfl
 ·-- behind the call
  have hνl:((List.range (A.ins k l').length).map ν).length=(A.ins k l').length:=by simp
  obtain ⟨m0,m1,m2,hms⟩:∃m0 m1 m2,(List.range (A.ins k l').length).map ν=A.nms l' m0 m1 m2:=by
   cases l' with
   | nil=>exact⟨ν 0,ν 0,ν 0,rfl⟩
   | cons y l =>
    cases q1:A.r1 (y::l) <;> cases q2:A.r2 (y::l) <;> simp only [AlK.ins,AlK.box,AlK.nms,q1,q2,gI,List.nil_append,List.append_nil,List.cons_append,List.length_cons,List.length_nil]
    ·exact⟨ν 0,ν 0,ν 0,rfl⟩
    ·exact⟨ν 0,ν 0,ν 1,rfl⟩
    ·exact⟨ν 0,ν 1,ν 1,rfl⟩
    ·exact⟨ν 0,ν 1,ν 2,rfl⟩
  rw [hms,hlm,hisl,hdr]
  have hpk:(lb.map (·.1)++A.nms l n0 n1 n2).length=k:=by rw [List.length_append,hpl,hnl,hk]
  obtain ⟨w1,w2,_⟩:=A.ins_ren (l:=l') (n0:=m0) (n1:=m1) (n2:=m2) hpk rfl
  rw [hr,w1]
  have hso:setH H (outs (lb.map (·.1)++A.nms l n0 n1 n2++A.nms l' m0 m1 m2) (ib++A.nms l i0 i1 i2) (lb.map (·.1)++A.nms l n0 n1 n2) ((bs' (gV (ak k) A.sz l')).map some++List.replicate m none++(A.ins k l').map some)) =
    (((tL H ib (lb.map (·.1)) (bs' (gV m0 A.sz l'))).set i0 (n0,none)).set i1 (n1,none)).set i2 (n2,none):=by
   rw [List.append_assoc ((bs' (gV (ak k) A.sz l')).map some),C8 (by rw [hib,hpl]) (by simp [hbl,hll,hib]),FY,CL,hbr,w1]
   have b0:(tL H ib (lb.map (·.1)) (bs' (gV m0 A.sz l')))[i0]? = some (n0,A.box l n1 n2):=by rw [xz d0b];exact h0
   have b1:(tL H ib (lb.map (·.1)) (bs' (gV m0 A.sz l')))[i1]? = some (n1,gB A.s1 A.e1 (A.r1 l)):=by rw [xz d1b];exact h1
   have b2:(tL H ib (lb.map (·.1)) (bs' (gV m0 A.sz l')))[i2]? = some (n2,gB A.s2 A.e2 (A.r2 l)):=by rw [xz d2b];exact h2
   generalize tL H ib (lb.map (·.1)) (bs' (gV m0 A.sz l'))=H1 at *
   clear h hc hS hSok ha hok hn
   cases l with
   | nil =>
    have c0:H1[i0]? = some (n0,none):=b0
    have c1:H1[i1]? = some (n1,none):=b1
    have c2:H1[i2]? = some (n2,none):=b2
    rw [jM c0,jM c1,jM c2];rfl
   | cons y l =>
    have hmm:m=1+((gI A.s1 A.e1 (A.r1 (y::l))).length+(gI A.s2 A.e2 (A.r2 (y::l))).length):=by rw [<- hm];simp [AlK.ins,AlK.box];omega
    cases q1:A.r1 (y::l) <;> cases q2:A.r2 (y::l) <;> rw [q1]at b1 hmm <;> rw [q2]at b2 hmm <;> simp only [gI,List.length_nil,List.length_cons]at hmm <;> subst hmm <;> simp only [AlK.nms,q1,q2,List.nil_append,List.append_nil,List.cons_append,List.replicate,outs,setH,Option.map_none]
    ·rw [jM (H:=H1.set i0 (n0,none)) (i:=i1) (x:=(n1,none)) (by rw [List.getElem?_set_ne d01];exact b1),jM (H:=H1.set i0 (n0,none)) (i:=i2) (x:=(n2,none)) (by rw [List.getElem?_set_ne d02];exact b2)]
    ·rw [jM (H:=H1.set i0 (n0,none)) (i:=i1) (x:=(n1,none)) (by rw [List.getElem?_set_ne d01];exact b1)]
    ·rw [jM (H:=(H1.set i0 (n0,none)).set i1 (n1,none)) (i:=i2) (x:=(n2,none)) (by rw [List.getElem?_set_ne d12,List.getElem?_set_ne d02];exact b2)]
  rw [hso]
  clear hso
  generalize hX:((tL H ib (lb.map (·.1)) (bs' (gV m0 A.sz l'))).set i0 (n0,none)).set i1 (n1,none)=X
  have hx:∀x0,gV x0 A.sz l'=gV m0 A.sz l'->∀x1 x2,aV none C all K rest (upd sl d (r (gV m0 A.sz l'))) (X.set i2 (n2,none)++A.hp x0 x1 x2 l'):=λx0 e x1 x2=>by
   have:=h x0 x1 x2
   rw [e,hX]at this;exact this
  generalize X.set i2 (n2,none)=Y at *
  cases l' with
  | nil =>
   show aV none C all K rest _ (Y++[])
   rw [List.append_nil]
   refine lF λx0=>lF λx1=>lF λx2 => ?_
   have:=hx x0 rfl x1 x2
   rw [List.append_assoc,List.append_assoc];exact this
  | cons y l =>
   have e1:A.ins k (y::l) = .cells A.sz (A.cells (y::l) (A.exA k (y::l)) (A.exB k (y::l)))::(gI A.s1 A.e1 (A.r1 (y::l))++gI A.s2 A.e2 (A.r2 (y::l))):=rfl
   have e0:∀u v,A.box (y::l) u v=some (.cells A.sz (A.cells (y::l) u v)):=λ_ _=>rfl
   rw [e1]at w2 ⊢
   generalize lb.map (·.1)++A.nms _ n0 n1 n2++A.nms (y::l) m0 m1 m2=ρ at *
   simp only [AlK.hp,e0,List.map_cons,List.filterMap_cons]at w2
   rw [List.cons.injEq]at w2
   simp only [AlK.nms,List.map_cons,news,Option.map_some,w2.1]
   have hx:=hx m0 rfl
   simp only [AlK.hp,e0]at hx
   have pw:∀(a b:Nm×Option Box) (Z:Hp),Eng.pre (Z++[a,b]) (Z++[b,a]):=λa b Z=>Gt (List.Perm.append_left Z (List.Perm.swap ..))
   cases q1:A.r1 (y::l) <;> cases q2:A.r2 (y::l) <;> simp only [q1,q2,gB]at hx <;> simp only [gI,List.nil_append,List.append_nil,List.cons_append,List.map_cons,List.map_nil,news,Option.map_some]
   ·refine lF λx1=>lF λx2 => ?_
    have e:∀u v,A.cells (y::l) u v=A.cells (y::l) m1 m2:=λu v=>by
     rcases List.eq_nil_or_concat (y::l)with e|⟨l0,a,e⟩
     ·cases e
     ·rw [List.concat_eq_append]at e
      have p1:A.f1 a=[]:=by have h:=q1;rw [e]at h;rw [<- h];exact (fH _ _ _).symm
      have p2:A.f2 a=[]:=by have h:=q2;rw [e]at h;rw [<- h];exact (fH _ _ _).symm
      rw [e]
      simp only [AlK.cells,List.getLast?_append,List.getLast?_singleton,Option.some_or,AlK.lst,p1,p2,gV]
    have:=hx x1 x2
    rw [e]at this
    rw [List.append_assoc,List.append_assoc];exact this
   ·refine lF λx1 => ?_
    have e:∀u,A.cells (y::l) u m2=A.cells (y::l) m1 m2:=λu=>by
     rcases List.eq_nil_or_concat (y::l)with e|⟨l0,a,e⟩
     ·cases e
     ·rw [List.concat_eq_append]at e
      have p1:A.f1 a=[]:=by have h:=q1;rw [e]at h;rw [<- h];exact (fH _ _ _).symm
      rw [e]
      simp only [AlK.cells,List.getLast?_append,List.getLast?_singleton,Option.some_or,AlK.lst,p1,gV]
    have:=hx x1 m2
    rw [e]at this
    rw [List.append_assoc]
    refine h_pre (H0:=Y++[_,_,_]) ?_ this
    exact Gt (List.Perm.append_left Y (List.Perm.cons _ (List.Perm.swap ..)))
   ·refine lF λx2 => ?_
    have e:∀u,A.cells (y::l) m1 u=A.cells (y::l) m1 m2:=λu=>by
     rcases List.eq_nil_or_concat (y::l)with e|⟨l0,a,e⟩
     ·cases e
     ·rw [List.concat_eq_append]at e
      have p2:A.f2 a=[]:=by have h:=q2;rw [e]at h;rw [<- h];exact (fH _ _ _).symm
      rw [e]
      simp only [AlK.cells,List.getLast?_append,List.getLast?_singleton,Option.some_or,AlK.lst,p2,gV]
    have:=hx m1 x2
    rw [e]at this
    rw [List.append_assoc];exact this
   ·exact hx m1 m2
end
section
theorem zX {α β:Type} {l l':List α} {a:α} {f:α->List β} {sz:Nat} {enc:β->List D} (h:kM l [a]=some l') (hf:f a=[]):(none:Option Box)=gB sz enc (aY f l'):=by
 obtain rfl:l++[a]=l':=by
  unfold kM at h
  split at h
  ·exact Option.some.inj h
  ·cases h
 rw [fH,hf];rfl
theorem al_ro {k:Nat} {v:V} {x:D} (h:okV k v=true):okV k (.tup [v,.d x])=true:=by simp [okV,okL,h]
theorem al_n {n n0:Nm} {sz:Nat} {α:Type} {l:List α} {x:D} (h:n∈([gV n0 sz l,.d x]:List V).flatMap frz):n∈xg (gV n0 sz l):=by
 have h0:xg (V.d x)=[]:=rfl
 cases l with
 | nil=>simp [gV,frz,xg]at h
 | cons y l=>simpa [gV,frz,xg]using h
theorem al_a {ρ:List Nm} {g g':V} {x:D} (h:ren ρ g=g') : [g',.d x]=renL ρ [g,.d x]:=by simp [renL,ren,h]
theorem al_o {k:Nat} {g:V} {x:D} (h:okV k g=true):okL k [g,.d x]=true:=by simp [okL,okV,h]
theorem Dp {k s:Nat} {g:V} {x:D} (h:okV k g=true):([.cells s [g,.d x]]:List Box).all (λb=>b.ok k)=true:=by simp [Box.ok,okL,okV,h]
theorem al_s {ρ:List Nm} {s:Nat} {g g':V} {x:D} (h:ren ρ g=g'):([.cells s [g,.d x]]:List Box).map (λb=>b.ren ρ)=[.cells s [g',.d x]]:=by simp [Box.ren,renL,ren,h]
theorem al_r {ρ:List Nm} {n:Nm} (h:ρ.take 1=[n]):nR ρ (ak 0)=n:=by
 cases ρ with
 | nil=>cases h
 | cons m ρ=>simp only [List.take_succ_cons,List.take_zero,List.cons.injEq,and_true]at h;exact qf (by rw [h];rfl)
theorem al_a1 {ρ:List Nm} {n:Nm} {x:D} (h:ρ.take 1=[n]) : [.ref n 0 0,.d x]=renL ρ [.ref (ak 0) 0 0,.d x]:=by simp [renL,ren,al_r h]
theorem al_o1 {k:Nat} {x:D} (h:1<=k):okL k [.ref (ak 0) 0 0,.d x]=true:=by simp [okL,okV,jR h]
theorem al_a2 {ρ:List Nm} {n:Nm} {x:D} {f:FuncId} (h:ρ.take 1=[n]) : [.d x,.fn f [.ref n 0 0]]=renL ρ [.d x,.fn f [.ref (ak 0) 0 0]]:=by simp [renL,ren,al_r h]
theorem al_o2 {k:Nat} {x:D} {f:FuncId} (h:1<=k):okL k [.d x,.fn f [.ref (ak 0) 0 0]]=true:=by simp [okL,okV,jR h]
end
end Go.Eng

