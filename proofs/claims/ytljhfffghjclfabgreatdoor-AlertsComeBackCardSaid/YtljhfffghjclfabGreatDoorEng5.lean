/-
  The engine: what the machine does to data, shown once for all programs (part 5).
-/
import Derived.Test.YtljhfffghjclfabGreatDoorEng4
import Derived.Lib.LaidTab
import Derived.Lib.ItoaNum
import Derived.Deep.Draws
import Derived.Below
import Derived.Lib.IndexMore
import Derived.Lib.TrimByte
import Derived.Lib.Join
import Derived.Lib.Repeat
import Derived.Lib.TrailingZeros
import Derived.Lib.SlTrimSet
import Derived.Sort.KeysCollected
import Derived.Laws.AppendOwn
import Derived.Shelf.Strings.FuncGrows
import Derived.Shelf.Unicode.DecodeSlow
import Derived.Lib.ValidU
import Derived.Lib.SplitLaws
import Derived.Lib.Atoi
import Derived.Lib.AtoiErrMem
import Derived.Shelf.Strings.Builder1
import Derived.Lib.Replace
/-
  THE ENGINE: a slice that is cut in its own box and grows again; boxes of slices that may be empty; maps whose keys are structs.
-/
namespace Go.Eng
set_option linter.unusedSectionVars false
variable [DM]
set_option linter.unusedVariables false
set_option linter.unusedSimpArgs false
section
variable {C:Cfg} {Q:QH} {sl:Nat->V} {H:Hp} {c:Code}
end
section
variable {C:Cfg} {sl:Nat->V} {H:Hp} {q:Qm} {all rest:List Oper} {K:(Nat->V)->Hp->Prop}
variable {dst:Option Tmp} {d:Nat} {t ty:TypeId} {pos:String} {after:Array Edge} {g:Option (Nat×Bool)}
end
def cutG {β:Type} (h:β->List (Nat×V)) (A:β->Hp) (R:β->Prop):(Nat->V)->Hp->Prop:=λsl H =>
 ∀(C:Cfg) (b:Code) (Q:QH),(∀x,R x->∀sl' o,Eng.pick (h x) sl'=h x->Eng.pre (A x) o->wH C b Q sl' o)->wH C b Q sl H
theorem PL {C:Cfg} {c b:Code} {Q Q':QH} {sl:Nat->V} {H:Hp} {β:Type} (o:β->List (Nat×V)) (A:β->Hp) (R:β->Prop) (h1:wH C c (Gs (cutG o A R) (Gs (wH C b Q) Q')) sl H)
  (h2:∀x,R x->∀sl' B,Eng.pick (o x) sl'=o x->Eng.pre (A x) B->wH C b Q sl' B):wH C c (Gs (wH C b Q) Q') sl H:=by
 refine IC (λe sl H h => ?_) h1
 cases e with
 | normal=>exact h C b Q h2
 | _=>exact h
end Go.Eng

/-
  THE ENGINE: rules for arrays of bytes in a box, and for bytes to a string and back.
-/
namespace Go.Eng
set_option linter.unusedSectionVars false
variable [DM]
open Go
set_option linter.unusedVariables false
set_option linter.unusedSimpArgs false
section
variable {C:Cfg} {sl:Nat->V} {H:Hp} {q:Qm} {all rest:List Oper} {K:(Nat->V)->Hp->Prop}
variable {dst:Option Tmp} {d:Nat} {t ty:TypeId} {pos:String} {after:Array Edge} {g:Option (Nat×Bool)}
section
variable {xs:List Int} {m:Nat} {nm:Nm} {x l hi:Operand} {k k':IntKind} {a b:Int} {u u':Unit}
end
end
end Go.Eng

/-
  THE ENGINE: strconv.Itoa, by its contract off the shelf; the table that it reads is known.
-/
namespace Go.Eng
set_option linter.unusedSectionVars false
variable [DM]
open Go.Sort
set_option linter.unusedVariables false
set_option linter.unusedSimpArgs false
theorem QN {P:Program} {G:Gh} {w:World} {name:String} {k:IntKind} {zs:List Int} (hl:∀A,wQ A->Lib.TabIs P A name k zs) (L:zs ≠ []) (h:Kn G w):Lib.TabIs P w name k zs:=by
 obtain ⟨A,h1,h2⟩:=h
 have ht:=hl A h1
 unfold Lib.TabIs World.var? at ht ⊢
 cases hg:P.globalNamed name with
 | none=>rw [hg]at ht;simp at ht
 | some g =>
  rw [hg]at ht
  simp only [ob_]at ht ⊢
  have I:g<A.heap.size:=by
   rcases Nat.lt_or_ge g A.heap.size with h|h
   ·exact h
   ·rw [Array.getElem?_eq_none h]at ht;cases ht
  have hc:∀o,w.cell? ⟨g,o,Option.none⟩=A.cell? ⟨g,o,Option.none⟩:=λo=>(h2 g o I).2
  cases hb:A.heap[g]? with
  | none=>rw [hb]at ht;cases ht
  | some N =>
   rw [hb]at ht
   cases N with
   | cells cs t O =>
    simp only [so_]at ht
    have J:∀o,A.cell? ⟨g,o,Option.none⟩=cs[o]? := λo=>by simp [World.cell?,hb]
    cases hw:w.heap[g]? with
    | none =>
     exfalso
     have:=hc 0
     rw [J]at this
     simp only [World.cell?,hw]at this
     rw [ht]at this
     cases zs with
     | nil=>exact L rfl
     | cons z zs=>simp at this
    | some F =>
     cases F with
     | cells B t' M =>
      have e1:∀o,w.cell? ⟨g,o,Option.none⟩=B[o]? := λo=>by simp [World.cell?,hw]
      have:B=cs:=Array.ext_getElem? (λo=>by rw [<- e1,<- J,hc])
      rw [this,ht]
     | _ =>
      exfalso
      have:=hc 0
      rw [J]at this
      simp only [World.cell?,hw]at this
      rw [ht]at this
      cases zs with
      | nil=>exact L rfl
      | cons z zs=>simp at this
   | _=>cases ht
def M7 (n:Int):Option ByteArray:=if -9223372036854775808<=n/\n<=9223372036854775807 then some ⟨(Lib.itoa n).toArray⟩else none
theorem itoa_ok {P:Program} {f:FuncId}
  (O : ∀ (n : Int), -9223372036854775808 ≤ n → n ≤ 9223372036854775807 → ∀ w : World, Lib.TabIs P w "internal/strconv.uint64pow10" .u64 Lib.pow10Tab →
   Calls P f #[.int .i64 n] w λe w'=>e = .returned (.string ⟨(Lib.itoa n).toArray⟩)/\∃k os,w'=grow (w.drewN k) os)
  (hl : ∀ M, wQ M → Lib.TabIs P M "internal/strconv.uint64pow10" .u64 Lib.pow10Tab) {n : Int} {r : ByteArray} (B : M7 n = some r) : FnM P f [.d (.int .i64 n)] [] (.d (.str r)) [] := by
 unfold M7 at B
 split at B
 ·rename_i L
  simp only [so_]at B
  subst B
  intro G w J o A
  obtain ⟨v,rfl,N⟩:=A.alone
  have I:RepD G.imm w v (.int .i64 n):=N.d_inv
  cases I with
  | int =>
   refine (O n L.1 L.2 w (QN hl (by decide) o.kn)).mono ?_
   rintro e w' ⟨rfl,k,os,rfl⟩
   obtain ⟨i2,e2⟩:=o.more (w':=grow (w.drewN k) os) (G':=G) (U':=λ_=>False) (λb' F=>by
    show (w.heap++os)[b']? = _
    rw [Array.getElem?_append_left F]) (by simp [grow,World.drewN]) rfl rfl rfl (λ_ _ h=>h) (λ_ _ h => .inl h) rfl (λ_ h=>h) (λ_=>Nat.le_add_right w.drawn k)
   exact⟨_,G,_,1,_,[],rfl,i2,.d (.str _),rfl,List.nodup_nil,λi hi=>absurd hi (Nat.not_lt_zero i),λi bx hb=>by simp at hb⟩
 ·cases B
end Go.Eng

/-
  THE ENGINE: functions over literals, by their contracts off the shelf.
-/
namespace Go.Eng
set_option linter.unusedSectionVars false
variable [DM]
open Go.RowKit (Below)
set_option linter.unusedVariables false
set_option linter.unusedSimpArgs false
def isLit:D->Bool
 | .int _ _ | .bool _ | .str _=>true
 | _=>false
def lv:D->Value
 | .int k n => .int k n
 | .bool b => .bool b
 | .str s => .string s
 | _=>undef
theorem lit_inv {I:Nat->Nat->Prop} {w:World} {v:Value} {d:D} (h:RepD I w v d) (hl:isLit d=true):v=lv d:=by
 cases h with
 | int k n=>rfl
 | bool b=>rfl
 | str s=>rfl
 | agg=>cases hl
 | sl0=>cases hl
 | sl=>cases hl
 | ptr=>cases hl
 | nilp=>cases hl
 | nils=>cases hl
 | wild0=>cases hl
 | wild=>cases hl
 | wildp=>cases hl
theorem Fs {G:Gh} {w:World}:∀{vs:List Value} {ds:List D},pG G w vs (ds.map V.d)->ds.all isLit=true->vs=ds.map lv
 | [],[],_,_=>rfl
 | [],d::ds,h,_=>by have:=h.1;simp at this
 | v::vs,[],h,_=>by have:=h.1;simp at this
 | v::vs,d::ds,h,hl=>by
  simp only [List.all_cons,Bool.and_eq_true]at hl
  obtain ⟨o,h⟩:=h
  have A:RepV G w v (.d d):=h 0 (by simp) (by simp)
  have e:=lit_inv A.d_inv hl.1
  have:pG G w vs (ds.map V.d):=⟨by simpa using o,λi h1 h2=>by
   have:=h (i+1) (by simpa using h1) (by simpa using h2)
   simpa using this⟩
  rw [e,Fs this hl.2];rfl
theorem A9 {P:Program} {f:FuncId} (ds:List D) (v:Value) (r:V) (I:ds.all isLit=true) (J:∀G w,RepV G w v (ren [] r))
  (L:∀(G:Gh) (w:World),Kn G w->Calls P f (ds.map lv).toArray w λe w'=>e = .returned v/\Below w.heap.size w w'/\(dmK=true->w.drawn<=w'.drawn)):FnM P f (ds.map V.d) [] r []:=by
 intro G w F o A
 rw [Fs A I]
 refine (L G w o.kn).mono ?_
 rintro e w' ⟨rfl,hb,hd⟩
 obtain ⟨i2,e2⟩:=o.more (w':=w') (G':=G) (U':=λ_=>False) (λb' B=>hb.block b' B) hb.size hb.os hb.tape hb.output (λ_ _ h=>h) (λ_ _ h => .inl h) rfl (λ_ h=>h) hd
 exact⟨_,G,_,1,_,[],rfl,i2,J _ _,rfl,List.nodup_nil,λi hi=>absurd hi (Nat.not_lt_zero i),λi bx hb=>by simp at hb⟩
def uX (s t:ByteArray):Option Bool:=if s.size<4294967281 then some (Lib.contains s.data.toList t.data.toList)else none
theorem Kg {P:Program} {f:FuncId} {g:Nat}
  (F:∀(s t:ByteArray) (m:Int) (w:World),s.size<4294967281->w.cell? ⟨g,0,Option.none⟩=some (.int .i64 m)->Calls P f #[.string s,.string t] w λe w'=>e = .returned (.bool (Lib.contains s.data.toList t.data.toList))/\w'=w)
  (hl:∀o,wQ o->∃m,o.cell? ⟨g,0,Option.none⟩=some (.int .i64 m)) {s t:ByteArray} {r:Bool} (h:uX s t=some r):FnM P f [.d (.str s),.d (.str t)] [] (.d (.bool r)) []:=by
 unfold uX at h
 split at h
 ·rename_i hs
  simp only [so_]at h
  subst h
  refine A9 [.str s,.str t] _ _ rfl (λG w => .d (.bool _)) (λG w B => ?_)
  obtain ⟨o,h1,h2⟩:=B
  obtain ⟨m,hm⟩:=hl o h1
  have hb:g<o.heap.size:=by
   rcases Nat.lt_or_ge g o.heap.size with h|h
   ·exact h
   ·have e:o.heap[g]? = none:=Array.getElem?_eq_none h
    simp only [World.cell?,e]at hm
    cases hm
  exact (F s t m w hs (by rw [(h2 g 0 hb).2];exact hm)).mono (λe w' A=>⟨A.1,by rw [A.2];exact⟨Below.refl _ _,λ_=>Nat.le_refl _⟩⟩)
 ·cases h
end Go.Eng

/-
  THE ENGINE: strings.Join, strings.Repeat, bits.TrailingZeros, by their contracts off the shelf.
-/
namespace Go.Eng
set_option linter.unusedSectionVars false
variable [DM]
open Go
open Go.RowKit (Below)
set_option linter.unusedVariables false
set_option linter.unusedSimpArgs false
def Fj (s t:ByteArray):Option ByteArray:=if s.size<=9223372036854775807/\t.size<4294967281/\t.data.toList.all (λb=>decide (b.toNat<128))=true then some ⟨(Lib.trimS s.data.toList t.data.toList).toArray⟩else none
theorem P5 (B:dmK=false) {P:Program} {f:FuncId}
  (I:∀(s t:ByteArray) (w:World),s.size<=9223372036854775807->t.size<4294967281->(∀(j:Nat) b,t.data.toList[j]? = some b->b.toNat<128) ->
   Calls P f #[.string s,.string t] w λe w'=>e = .returned (.string ⟨(Lib.trimS s.data.toList t.data.toList).toArray⟩)/\Below w.heap.size w w')
  {s t r:ByteArray} (o:Fj s t=some r):FnM P f [.d (.str s),.d (.str t)] [] (.d (.str r)) []:=by
 unfold Fj at o
 split at o
 ·rename_i A
  simp only [so_]at o
  subst o
  exact A9 [.str s,.str t] _ _ rfl (λG w => .d (.str _)) (λG w J=>(I s t w A.1 A.2.1 (λj b hb=>of_decide_eq_true (List.all_eq_true.1 A.2.2 b (List.mem_of_getElem? hb)))).mono (λe w' F=>⟨F.1,F.2,λh=>by rw [B]at h;cases h⟩))
 ·cases o
def NW (xs:List ByteArray) (h:ByteArray):Option ByteArray :=
 if xs.length<=140737488355328/\(Lib.join (xs.map (·.data.toList)) h.data.toList).length<=140737488355328 then some ⟨(Lib.join (xs.map (·.data.toList)) h.data.toList).toArray⟩else none
theorem join_ok (hdm:dmK=false) {P:Program} {f:FuncId}
  (h0:∀(a:Option Addr) (c:Nat) (A:ByteArray) (w:World),Calls P f #[.slice a 0 c,.string A] w λe w'=>e = .returned (.string ⟨#[]⟩)/\w'=w)
  (hC:∀(bk o c:Nat) (xs:List ByteArray) (A:ByteArray) (w:World),(∀(j:Nat) x,xs[j]? = some x->w.cell? ⟨bk,o+j,none⟩=some (.string x))->bk<w.heap.size->xs.length<=140737488355328->xs.length<=c ->
   (Lib.join (xs.map (·.data.toList)) A.data.toList).length<=140737488355328 ->
   Calls P f #[.slice (some ⟨bk,o,none⟩) xs.length c,.string A] w λe w'=>e = .returned (.string ⟨(Lib.join (xs.map (·.data.toList)) A.data.toList).toArray⟩)/\Below w.heap.size w w')
  {xs:List ByteArray} {A r:ByteArray} (X:NW xs A=some r):FnM P f [vL eS xs,vS A] [] (vS r) []:=by
 unfold NW at X
 split at X
 ·rename_i hx
  simp only [so_]at X
  subst X
  intro G w I R J
  have F:∀w',Below w.heap.size w w'->∃v G' S' Z U' ν,Ending.returned (.string ⟨(Lib.join (xs.map (·.data.toList)) A.data.toList).toArray⟩) = .returned v/\Inv ⟨G,w,yN G []⟩ G' w' S' Z U'/\RepV G' w' v (ren ν (vS ⟨(Lib.join (xs.map (·.data.toList)) A.data.toList).toArray⟩)) /\
    ν.length=([]:List (Option Box)).length/\ν.Nodup/\(∀i,i<([]:List Box).length->ν[i]? = some (au i))/\∀(i:Nat) (bx:Box),([]:List (Option Box))[i]? = some (some bx)->∃n,ν[i]? = some n/\S' n=some (bx.ren ν):=by
   intro w' hb
   obtain ⟨i2,e2⟩:=R.more (w':=w') (G':=G) (U':=λ_=>False) (λb' hb'=>hb.block b' hb') hb.size hb.os hb.tape hb.output (λ_ _ h=>h) (λ_ _ h => .inl h) rfl (λ_ h=>h) (λh=>by rw [hdm]at h;cases h)
   exact⟨_,G,_,1,_,[],rfl,i2,.d (.str _),rfl,List.nodup_nil,λi hi=>absurd hi (Nat.not_lt_zero i),λi bx hb=>by simp at hb⟩
  obtain ⟨hl,ha⟩:=J
  obtain ⟨v0,N,rfl⟩:∃v0 N,I=[v0,N]:=by
   match I,hl with
   | [v0,N],_=>exact⟨v0,N,rfl⟩
  have r0:RepV G w v0 (vL eS xs):=ha 0 (by simp) (by simp)
  have r1:RepV G w N (vS A):=ha 1 (by simp) (by simp)
  rw [r1.d_inv.str_inv]
  have W:=r0.d_inv
  generalize M:xs.map eS=ys at W
  cases W with
  | sl0 a cap =>
   have hn:xs=[]:=by simpa using M
   subst hn
   refine (h0 a cap A w).mono ?_
   rintro e w' ⟨rfl,rfl⟩
   exact F _ (Below.refl _ _)
  | sl b off cap sz _ us hcap hsz hI hc ho hr =>
   have O:ys.length=xs.length:=by rw [<- M];simp
   have B:∀(j:Nat) x,xs[j]? = some x->w.cell? ⟨b,off+j,none⟩=some (.string x):=by
    intro j x hj
    obtain ⟨hj1,hj2⟩:=List.getElem?_eq_some_iff.1 hj
    have L:j<ys.length:=by omega
    have Y:ys[j]=[D.str x]:=by
     subst M
     rw [List.getElem_map,hj2];rfl
    have hz:sz=1:=by rw [<- hsz j L,Y];rfl
    subst hz
    have h2:=hc j 0 L (by omega)
    have h3:=hr j 0 L (by rw [Y];exact Nat.zero_lt_one)
    have h4:us j 0 = .string x:=by
     have:ys[j][0]'(by rw [Y];exact Nat.zero_lt_one)=D.str x:=by simp [Y]
     rw [this]at h3
     exact h3.str_inv
    rw [h4]at h2
    simpa using h2
   rw [O]
   cases xs with
   | nil =>
    refine (h0 (some ⟨b,off,none⟩) cap A w).mono ?_
    rintro e w' ⟨rfl,rfl⟩
    exact F _ (Below.refl _ _)
   | cons x xs =>
    have hb:b<w.heap.size:=by
     rcases Nat.lt_or_ge b w.heap.size with h|h
     ·exact h
     ·have h1:=B 0 x rfl
      have e:w.heap[b]? = none:=Array.getElem?_eq_none h
      simp only [World.cell?,e]at h1
      cases h1
    refine (hC b off cap (x::xs) A w B hb hx.1 (by omega) hx.2).mono ?_
    rintro e w' ⟨rfl,hbw⟩
    exact F _ hbw
 ·cases X
end Go.Eng

/-
  THE ENGINE: rows of strings that a function of the library makes; slices.Sorted(maps.Keys(m)), by the contracts off the shelf.
-/
namespace Go.Eng
set_option linter.unusedSectionVars false
variable [DM]
open Go
open Go.RowKit (Below)
open Go.WideElems (Fit rd rg)
set_option linter.unusedVariables false
set_option linter.unusedSimpArgs false
theorem row_rep {G:Gh} {w w':World} {t:TypeId} {v:Value} {xs:List ByteArray} (h:w'.ownsRow w.heap.size t 1 v xs.length (xs.map Value.string)) :
    ∃A:Nat->Nat->Prop,(∀b o,G.imm b o->A b o)/\(∀b o,A b o->G.imm b o\/(w.heap.size<=b/\b<w'.heap.size))/\RepD A w' v (.sl (xs.map eS)):=by
  rcases h.2 with⟨rfl,M⟩|⟨g,cap,cur,rfl,h1,h2,N,O,R,L⟩
  · have:xs=[]:=List.eq_nil_of_length_eq_zero M
    subst this
    exact⟨G.imm,λ_ _ h=>h,λ_ _ h => .inl h,.sl0 _ _⟩
  · have F:g<w'.heap.size:=(Array.getElem?_eq_some_iff.1 h2).1
    refine⟨λb o=>G.imm b o\/(b=g/\o<xs.length),λ_ _ h => .inl h,λb o h=>h.imp id (λh=>by rw [h.1];exact⟨h1,F⟩),?_⟩
    have hl:(xs.map eS).length=xs.length:=by simp
    have hc:∀i (hi:i<xs.length),w'.cell? ⟨g,0+i*1+0,none⟩=some (.string xs[i]):=λi hi=>by
      have e1:cur.toList[i]? = some (.string xs[i]):=by
        have:=congrArg (λl=>l[i]?) L
        simp only [List.getElem?_map,List.getElem?_eq_getElem hi,Option.map_some,Nat.mul_one]at this
        rwa [List.getElem?_take,if_pos hi]at this
      have e2:cur[i]? = some (.string xs[i]):=by simpa using e1
      simp [World.cell?,h2,e2]
    have:=RepD.sl (I:=λb o=>G.imm b o\/(b=g/\o<xs.length)) (w:=w') g 0 cap 1 (xs.map eS) (λi _ => .string (xs.getD i ⟨#[]⟩)) (by rw [hl];exact N) (λi hi=>by rw [List.getElem_map];rfl)
      (λi j hi hj => .inr ⟨rfl,by rw [hl]at hi;omega⟩)
      (λi j hi hj=>by
        rw [hl]at hi
        obtain rfl:j=0:=by omega
        rw [hc i hi];simp [List.getD,List.getElem?_eq_getElem hi])
      (λi j hi hj=>rfl)
      (λi j hi hj=>by
        have J:i<xs.length:=by rw [hl]at hi;exact hi
        have e:(xs.map eS)[i]=[D.str xs[i]]:=by rw [List.getElem_map];rfl
        have B:j=0:=by
          have:((xs.map eS)[i]).length=1:=by rw [e];rfl
          omega
        subst B
        have e2:(xs.map eS)[i][0]=D.str xs[i]:=by simp [eS]
        rw [e2]
        simp only [List.getD,List.getElem?_eq_getElem J,Option.getD_some]
        exact .str _)
    rw [hl]at this
    exact this
theorem FnM.ofRow (M:dmK=false) {P:Program} {f:FuncId} {args:List V} {Sin:List Box} (xs:List ByteArray) (N:∀b∈Sin,b.ok Sin.length=true)
    (h:∀(G:Gh) (w:World) (o:List Value),Inv ⟨G,w,yN G Sin⟩ G w (cB Sin) 1 (λ_=>False)->pG G w o args ->
      Calls P f o.toArray w λe w'=>∃v t,e = .returned v/\w'.ownsRow w.heap.size t 1 v xs.length (xs.map Value.string)/\Below w.heap.size w w'):FnM P f args Sin (vL eS xs) (Sin.map some):=by
  intro G w o A B
  refine (h G w o A B).mono ?_
  rintro e w' ⟨v,t,rfl,hrow,hb⟩
  obtain ⟨O,h1,h2,R⟩:=row_rep (G:=G) hrow
  obtain ⟨i2,e2⟩:=A.more (w':=w') (G':=⟨O,G.mu⟩) (U':=λ_=>False) (λb' L=>hb.block b' L) hb.size hb.os hb.tape hb.output h1 h2 rfl (λ_ h=>h) (λh=>by rw [M]at h;cases h)
  refine⟨_,_,_,1,_,(List.range Sin.length).map au,rfl,i2,.d R,by simp,?_,λi hi=>by simp [hi],λi bx hb => ?_⟩
  · refine List.pairwise_map.2 (List.nodup_range.imp (λ{a b} J he=>J ?_))
    have:=congrArg tZ he
    rw [gQ,gQ,so_]at this
    exact this
  · rw [List.getElem?_map,Option.map_eq_some_iff]at hb
    obtain ⟨b',F,I⟩:=hb
    obtain rfl:b'=bx:=by simpa using I
    have hi:i<Sin.length:=(List.getElem?_eq_some_iff.1 F).1
    refine⟨au i,by simp [hi],?_⟩
    rw [yD (N _ (List.mem_of_getElem? F)),jM]
    exact F
end Go.Eng

/-
  THE ENGINE: results of which the first is a new slice and the others are data.
-/
namespace Go.Eng
set_option linter.unusedSectionVars false
variable [DM]
set_option linter.unusedVariables false
section
variable {C:Cfg} {sl:Nat->V} {H:Hp} {q:Qm} {all rest:List Oper} {K:(Nat->V)->Hp->Prop}
variable {dst:Option Tmp} {d:Nat} {t ty:TypeId} {pos:String} {after:Array Edge} {g:Option (Nat×Bool)}
end
end Go.Eng

/-
  THE ENGINE: strings.ContainsFunc by its contract off the shelf (only where draws are not counted).
-/
namespace Go.Eng
set_option linter.unusedSectionVars false
variable [DM]
open Go.Proofs
open Go.RowKit (Below)
set_option linter.unusedVariables false
set_option linter.unusedSimpArgs false
def FU (s:ByteArray):Option Bool:=if s.size<=9223372036854775807 then some (Lib.validD s.data.toList)else none
theorem tabs_kn {G:Gh} {w:World} {g3 g4:Nat} (h:Kn G w) (hl:∀A,wQ A->Lib.Utf8Tabs g3 g4 A):Lib.Utf8Tabs g3 g4 w:=by
 obtain ⟨A,h1,h2⟩:=h
 obtain ⟨F,a2⟩:=hl A h1
 have key:∀(b o:Nat) (v:Value),A.cell? ⟨b,o,Option.none⟩=some v->w.cell? ⟨b,o,Option.none⟩=some v:=λb o v B=>by
  have hb:b<A.heap.size:=by
   rcases Nat.lt_or_ge b A.heap.size with h|h
   ·exact h
   ·have e:A.heap[b]? = none:=Array.getElem?_eq_none h
    simp only [World.cell?,e]at B
    cases B
  rw [(h2 b o hb).2];exact B
 exact⟨λc hc=>key _ _ _ (F c hc),λi hi=>⟨key _ _ _ (a2 i hi).1,key _ _ _ (a2 i hi).2⟩⟩
theorem Q7 (o:dmK=false) {P:Program} {f:FuncId} {g3 g4:Nat}
  (J:∀(s:ByteArray) (w:World),s.size<=9223372036854775807->Lib.Utf8Tabs g3 g4 w->Calls P f #[.string s] w λe w'=>e = .returned (.bool (Lib.validD s.data.toList))/\Below w.heap.size w w')
  (hl:∀F,wQ F->Lib.Utf8Tabs g3 g4 F) {s:ByteArray} {r:Bool} (h:FU s=some r):FnM P f [.d (.str s)] [] (.d (.bool r)) []:=by
 unfold FU at h
 split at h
 ·rename_i hs
  simp only [so_]at h
  subst h
  exact A9 [.str s] _ _ rfl (λG w => .d (.bool _)) (λG w I=>(J s w hs (tabs_kn I hl)).mono (λe w' B=>⟨B.1,B.2,λA=>by rw [o]at A;cases A⟩))
 ·cases h
end Go.Eng

/-
  THE ENGINE: strings.Split at a separator that is not empty, by its contract off the shelf.
-/
namespace Go.Eng
set_option linter.unusedSectionVars false
variable [DM]
open Go
open Go.RowKit (Below)
set_option linter.unusedVariables false
set_option linter.unusedSimpArgs false
theorem kn_some {G:Gh} {w:World} {g:Nat} (h:Kn G w) (hl:∀o,wQ o->∃m,o.cell? ⟨g,0,Option.none⟩=some (.int .i64 m)):∃m,w.cell? ⟨g,0,Option.none⟩=some (.int .i64 m):=by
 obtain ⟨o,h1,h2⟩:=h
 obtain ⟨m,hm⟩:=hl o h1
 have hb:g<o.heap.size:=by
  rcases Nat.lt_or_ge g o.heap.size with h|h
  ·exact h
  ·have e:o.heap[g]? = none:=Array.getElem?_eq_none h
   simp only [World.cell?,e]at hm
   cases hm
 exact⟨m,by rw [(h2 g 0 hb).2];exact hm⟩
theorem KF (w:World) (o:Obj):Below w.heap.size w (w.alloc o) :=
 ⟨rfl,rfl,rfl,by show w.heap.size<=(w.heap.push o).size;simp,λb hb=>by show (w.heap.push o)[b]? = _;rw [Array.getElem?_push,if_neg (by omega)]⟩
def El (s h:ByteArray):Option (List ByteArray):=if s.size<4294967281/\1<=h.size then some (Lib.splitB h 0 (Lib.countB s h) s)else none
theorem P9 (I:dmK=false) {P:Program} {f:FuncId} {g:Nat} {t:TypeId}
  (M:∀(s h:ByteArray) (m:Int) (w:World),s.size<4294967281->w.cell? ⟨g,0,Option.none⟩=some (.int .i64 m)->1<=h.size ->
   Calls P f #[.string s,.string h] w λe w'=>e = .returned (.slice (some ⟨w.heap.size,0,none⟩) (Lib.countB s h+1) (Lib.countB s h+1))/\w'=w.alloc (.cells ((Lib.splitB h 0 (Lib.countB s h) s).map Value.string).toArray t))
  (hl:∀L,wQ L->∃m,L.cell? ⟨g,0,Option.none⟩=some (.int .i64 m)) {s h:ByteArray} {r:List ByteArray} (B:El s h=some r):FnM P f [.d (.str s),.d (.str h)] [] (vL eS r) []:=by
 unfold El at B
 split at B
 ·rename_i F
  simp only [so_]at B
  subst B
  refine FnM.ofRow I _ (λb hb=>by cases hb) (λG w J A o => ?_)
  rw [Fs (ds:=[.str s,.str h]) o rfl]
  obtain ⟨m,hm⟩:=kn_some A.kn hl
  refine (M s h m w F.1 hm F.2).mono ?_
  rintro e w' ⟨rfl,rfl⟩
  have h1:=Lib.splitB_all h F.2 0 _ s rfl
  have h2:=Lib.countB_le h F.2 _ s (Nat.le_refl _)
  refine⟨_,t,rfl,?_,KF w _⟩
  refine⟨by simp,.inr ⟨w.heap.size,_,((Lib.splitB h 0 (Lib.countB s h) s).map Value.string).toArray,by rw [h1],Nat.le_refl _,gq w _,by omega,by unfold maxLen;omega,by simp [h1],?_⟩⟩
  rw [Nat.mul_one]
  exact List.take_of_length_le (by simp)
 ·cases B
end Go.Eng

/-
  THE ENGINE: strconv.Atoi at a text of at most 18 bytes that is a number, by its contract off the shelf.
-/
namespace Go.Eng
set_option linter.unusedSectionVars false
variable [DM]
open Go
open Go.RowKit (Below)
set_option linter.unusedVariables false
set_option linter.unusedSimpArgs false
def Fh (s:ByteArray):Option Int:=if s.size<=18 then Lib.atoi s.data.toList else none
theorem atoi_ok (A:dmK=false) {P:Program} {f:FuncId} {T:TypeId}
  (F:∀(s:ByteArray) (n:Int),s.size<=18->Lib.atoi s.data.toList=some n->∀w:World,
   Calls P f #[.string s] w λe w'=>e = .returned (.tuple #[.int .i64 n,.nilIface])/\∃t,w'=Lib.bytesWorld w T t)
  {s:ByteArray} {r:Int} (o:Fh s=some r):FnM P f [.d (.str s)] [] (.tup [.d (.int .i64 r),.nili]) []:=by
 unfold Fh at o
 split at o
 ·rename_i B
  refine A9 [.str s] (.tuple [.int .i64 r,.nilIface].toArray) _ rfl (λG w => ?_) (λG w I => ?_)
  ·exact .tup _ _ rfl (λi h1 h2=>by
    match i,h1 with
    | 0,_=>exact .d (.int _ _)
    | 1,_=>exact .nili)
  ·refine (F s r B o w).mono ?_
   rintro e w' ⟨h1,t,rfl⟩
   exact⟨h1,Lib.bytesWorld_below w T t,λh=>by rw [A]at h;cases h⟩
 ·cases o
end Go.Eng

/-
  THE ENGINE: strings.Builder: a box of a known type, and the box of its bytes.
-/
namespace Go.Eng
set_option linter.unusedSectionVars false
variable [DM]
open Go
set_option linter.unusedVariables false
set_option linter.unusedSimpArgs false
def z8 (w:World) (v:Value):Prop:=v = .slice none 0 0\/∃g n cap,v = .slice (some ⟨g,0,none⟩) n cap/\0<cap/\elemAt w g=some byteK
theorem Mk {P:Program} {t t' e ty:TypeId} (B:P.underlying t=some (.slice e)) (A:P.underlying t'=some .string) {size:Nat} (hsz:szT P e=some size) {base:Option Addr} {n cap:Nat} {v':Value} {s:ByteArray} {w F:World}
    (o:n+s.size<=cap) (h:(Builtin.append_ #[t,t'] ty #[.slice base n cap,.string s]).run P w = .ok v' F):v' = .slice base (n+s.size) cap:=by
  simp only [Builtin.append_,List.getElem?_toArray,List.getElem?_cons_zero,List.getElem?_cons_succ,Sem.run_bind,aS B,aS A,Result.andThen_ok,run_sizeOf hsz,Sem.run_pure,
      Bool.false_eq_true,if_false,Builtin.lenOf,Bool.not_false,if_true,o,Builtin.firstCells]at h
  cases base with
  | none =>
    simp only [Sem.run_pure,Result.ok.injEq]at h
    exact h.1.symm
  | some a =>
    simp only [Sem.run_bind]at h
    generalize I:Sem.run P (storeCells _ _) w=r at h
    cases r with
    | ok u J =>
      simp only [Result.andThen_ok,Sem.run_pure,Result.ok.injEq]at h
      exact h.1.symm
    | _=>simp [Result.andThen]at h
theorem oC {w:World} {b o:Nat} {cs:Array Value} {t:TypeId} (h:w.heap[b]? = some (.cells cs t (0,0))) (x:Value):(w.setCell ⟨b,o,none⟩ x).heap[b]? = some (.cells (cs.setIfInBounds o x) t (0,0)):=by
  simp [World.setCell,Array.getElem?_modify,h]
theorem p8 {w:World} {b o:Nat} (x:Value) {b':Nat} (h:b'≠b):(w.setCell ⟨b,o,none⟩ x).heap[b']? = w.heap[b']? := by
  simp [World.setCell,Array.getElem?_modify,Ne.symm h]
theorem xK {w:World} {b o:Nat} {cs:Array Value} {t:TypeId} (h:w.heap[b]? = some (.cells cs t (0,0))) (x:Value) (g:Nat):elemAt (w.setCell ⟨b,o,none⟩ x) g=elemAt w g:=by
  by_cases hg:g=b
  · subst hg;rw [fw (oC h x),fw h]
  · exact xG (p8 x hg)
theorem z8.mono {w w':World} {v:Value} (h:z8 w v) (he:∀g e,elemAt w g=some e->elemAt w' g=some e):z8 w' v:=h.imp id fun⟨g,n,c,h1,h2,o⟩=>⟨g,n,c,h1,h2,he _ _ o⟩
theorem AU {w:World} {b o:Nat} (x:Value):(w.setCell ⟨b,o,none⟩ x).heap.size=w.heap.size:=by simp [World.setCell]
section
variable {P:Program} {f:FuncId} {tB tS tStr e:TypeId}
def uS (P:Program) (f:FuncId) (tB tS tStr:TypeId):Prop:=∀(b:Nat) (s:ByteArray) (w h:World) (p v v' A B:Value),w.heap[b]? = some (.cells #[p,v] tB (0,0))->(p = .pointer none\/p = .pointer (some ⟨b,0,none⟩)) ->
  (Builtin.append_ #[tS,tStr] tS #[v,.string s]).run P (w.setCell ⟨b,0,none⟩ (.pointer (some ⟨b,0,none⟩))) = .ok v' h->h.heap[b]? = some (.cells #[A,B] tB (0,0))->(∃o n cap,v' = .slice o n cap) ->
  Calls P f #[.pointer (some ⟨b,0,none⟩),.string s] w λe w'=>e = .returned (.tuple #[.int .i64 s.size,.nilIface])/\w'=h.setCell ⟨b,1,none⟩ v'
theorem vQ {E:Env} {G:Gh} {w:World} {S:Store} {tk:Nat} {U:Nat->Prop} (h:Inv E G w S tk U) {n:Nm} {x:V} (M:S n=some (.cells (1048576+tB) [.any,x])) {b o sz:Nat} (F:G.mu n=some (b,o,sz)) :
    o=0/\sz=1048576+tB/\(∀O,¬G.imm b O)/\∃p v,w.heap[b]? = some (.cells #[p,v] tB (0,0))/\(p = .pointer none\/p = .pointer (some ⟨b,0,none⟩))/\z8 w v/\RepV G w v x/\v.oneCell'=true:=by
  have A:Stands G w (.cells (1048576+tB) [.any,x]) b o sz:=(h.stands M F).1
  obtain ⟨I,B⟩:=A.cel
  have ho:=I (.inr (by omega))
  obtain ⟨p,v,h1,h2,L⟩:=B (Nat.le_add_right _ _)
  rw [Nat.add_sub_cancel_left]at h1
  refine⟨ho,A.sz,(A.free rfl).2,p,v,h1,h2,L,?_⟩
  obtain ⟨u,J,R,N⟩:=A.cell 1 (by show 1<2;omega)
  rw [cell_of_row h1,ho]at J
  have:v=u:=by simpa using J
  rw [this]
  exact⟨N,R⟩
theorem NC {E:Env} {G:Gh} {w w':World} {S:Store} {tk:Nat} {U:Nat->Prop} (h:Inv E G w S tk U) {n:Nm} {x x':V} (J:S n=some (.cells (1048576+tB) [.any,x])) {b:Nat} (A:G.mu n=some (b,0,1048576+tB))
    (M:∀b',b'≠b->w'.heap[b']? = w.heap[b']?) (hsz:w'.heap.size=w.heap.size) {p v:Value} (hb:w'.heap[b]? = some (.cells #[p,v] tB (0,0))) (hp:p = .pointer none\/p = .pointer (some ⟨b,0,none⟩)) (N:z8 w' v) (O:RepV G w v x') (ho:v.oneCell'=true)
    (B:w'.os=w.os) (ht:w'.tape=w.tape) (hout:w'.output=w.output) (F:dmK=true->w.drawn<=w'.drawn):Inv E G w' (supd S n (some (.cells (1048576+tB) [.any,x']))) tk U/\Ext G w G w':=by
  obtain ⟨_,_,o,R,v0,h1,_⟩:=vQ h J A
  refine h.write J rfl A M hsz (by rw [aV h1,aV hb];exact Nat.le_refl _) (λe he=>by rw [fw h1]at he;rw [fw hb];exact he) o B ht hout _ (λe => ?_) F
  have hs:Stands G w' (.cells (1048576+tB) [.any,x']) b 0 (1048576+tB) :=
    { sz:=rfl,even:=trivial
      room:=by rw [aV hb];show 0+2<=2;omega
      cell:=λj hj=>by
        have I:j<2:=hj
        match j,I with
        | 0,_=>exact⟨p,by rw [cell_of_row hb];rfl,by rcases hp with rfl | rfl <;> rfl,.any _⟩
        | 1,_=>exact⟨v,by rw [cell_of_row hb];rfl,ho,O.ext e⟩
      free:=λ_=>⟨⟨_,_,hb⟩,o⟩
      froz:=λL=>by simp [Box.mut]at L
      cel:=⟨λ_=>rfl,λ_=>⟨p,v,by rw [Nat.add_sub_cancel_left];exact hb,hp,N⟩⟩ }
  exact hs
theorem Og {S:Store} {n:Nm} {b:Option Box} (h:S n=b):supd S n b=S:=by
  funext m
  simp only [supd]
  split
  · rename_i e;rw [e,h]
  · rfl
theorem F4 {n:Nm}:∀(l:List (Nm×Option Box)) (S:Store),(∀p∈l,p.1≠n)->dn S l n=S n
  | [],S,_=>rfl
  | (m,b)::l,S,h=>by
    show dn (supd S m b) l n=S n
    rw [F4 l _ (λp hp=>h p (List.mem_cons_of_mem _ hp)),supd,if_neg (λe=>h (m,b) (by simp) e.symm)]
theorem D6 (hW:uS P f tB tS tStr) {E:Env} {G:Gh} {w:World} {S:Store} (h:Inv E G w S 1 (λ_=>False)) {n:Nm} {x:V} (hS:S n=some (.cells (1048576+tB) [.any,x])) {b:Nat} (O:G.mu n=some (b,0,1048576+tB))
    {s:ByteArray} {A:Eff} (hA:jm P tS tStr S x (vS s) 0 1=some A) (hA0:∀p∈A.upd,p.1≠n) (X:iM A.val=true)
    (hsh:∀(Z J:World) (v v':Value),Inv E G Z S 1 (λ_=>False)->RepV G Z v x->z8 Z v->(∀g k,elemAt Z g=some k->elemAt J g=some k)->(Builtin.append_ #[tS,tStr] tS #[v,.string s]).run P Z = .ok v' J->z8 J v') :
    Calls P f #[.pointer (some ⟨b,0,none⟩),.string s] w λe w'=>e = .returned (.tuple #[.int .i64 s.size,.nilIface]) /\
      ∃G',Ext G w G' w'/\Inv E G' w' (supd (dn S A.upd) n (some (.cells (1048576+tB) [.any,A.val]))) 1 (λm=>False\/some 0=some (m % 100000)):=by
  obtain ⟨_,_,himm,p,v,h1,h2,h3,h4,h5⟩:=vQ h hS O
  have hb0:=oC (o:=0) h1 (.pointer (some ⟨b,0,none⟩))
  have Y:(w.setCell ⟨b,0,none⟩ (.pointer (some ⟨b,0,none⟩))).heap[b]? = some (.cells #[.pointer (some ⟨b,0,none⟩),v] tB (0,0)):=by rw [hb0];rfl
  obtain ⟨i0,R⟩:=NC (w':=w.setCell ⟨b,0,none⟩ (.pointer (some ⟨b,0,none⟩))) h hS O (λb' N=>p8 _ N) (AU _) Y (.inr rfl) (h3.mono λg k hk=>by rw [xK h1];exact hk) h4 h5 rfl rfl rfl (λ_=>Nat.le_refl _)
  rw [Og hS]at i0
  obtain ⟨nx,u,J,G1,B,F,e1,i1,r1⟩:=EP (P:=P) (ty:=tS) i0 (by decide:0<100000) (λh=>h) (h4.ext R) (.d (.str s)) hA
  have I:(Builtin.append_ #[tS,tStr] tS #[v,.string s]).run P (w.setCell ⟨b,0,none⟩ (.pointer (some ⟨b,0,none⟩))) = .ok u J:=by
    simp only [Sem.run_bind]at B
    generalize Sem.run P (Builtin.append_ #[tS,tStr] tS #[v,.string s]) _=r at B ⊢
    cases r with
    | ok u' w' =>
      simp only [Result.andThen_ok,Sem.run_pure,Result.ok.injEq]at B
      obtain ⟨rfl,rfl⟩:=B
      rcases F with F|⟨F,_⟩
      · simp only [Next.value.injEq]at F;rw [F]
      · cases F
    | _=>simp [Result.andThen]at B
  have L:z8 J u:=hsh _ _ _ _ i0 (h4.ext R) (h3.mono R.elem) e1.elem I
  have W:dn S A.upd n=some (.cells (1048576+tB) [.any,x]):=by rw [F4 _ _ hA0];exact hS
  have M:=(R.trans e1).mu _ _ O
  obtain ⟨_,_,_,p1,v1,q1,q2,q3,q4,q5⟩:=vQ i1 W M
  have hb2:(J.setCell ⟨b,1,none⟩ u).heap[b]? = some (.cells #[p1,u] tB (0,0)):=by rw [oC q1];rfl
  obtain ⟨i2,e2⟩:=NC (w':=J.setCell ⟨b,1,none⟩ u) (x':=A.val) i1 W M (λb' N=>p8 _ N) (AU _) hb2 q2 (L.mono λg k hk=>by rw [xK q1];exact hk) r1 (r1.oneCell X) rfl rfl rfl (λ_=>Nat.le_refl _)
  refine (hW b s w J p v u p1 v1 h1 h2 I q1 ?_).mono ?_
  · rcases L with rfl | ⟨g,m,cap,rfl,_⟩ <;> exact⟨_,_,_,rfl⟩
  · rintro en w' ⟨rfl,rfl⟩
    exact⟨rfl,G1,(R.trans e1).trans e2,i2⟩
abbrev bB (s:ByteArray):List (List D):=(bn s).map (eK .u8)
theorem Rt (s:ByteArray):(bB s).length=s.size:=by simp [bB,bn]
theorem Hg (S:Store) (s:ByteArray):kz S 1 (vS s)=some (bB s,[]):=by
  simp only [kz,if_true,bB,bn,List.map_map]
  rfl
structure BldT (P:Program) (tS tStr e:TypeId):Prop where
  el:elemT P tS=some e
  str:P.underlying tStr=some .string
  sz:szT P e=some 1
  z:zeroCells P e=some [.d (.int .u8 0)]
  by_:bytesT P e=1
  bt:e=byteK
theorem BldT.arg (h:BldT P tS tStr e):I6 P tStr=some ():=by simp only [I6,h.str]
theorem app_nil (h:BldT P tS tStr e) (S:Store) (s:ByteArray) (hs:s.size<=1000000000):jm P tS tStr S .nil (vS s) 0 1=match bB s with
    | []=>some ⟨[],[],.nil⟩
    | y::ys=>some ⟨[],[((0,1),some (.vec 1 (y::ys)))],.vs (0,1) 1 0 (y::ys).length⟩:=by
  have hl:=Rt s
  simp only [jm,h.el,h.arg,h.sz,h.z,List.length_singleton,Nat.zero_lt_one,and_self,if_true,Hg,h.by_,Nat.mul_one]
  rw [if_pos ⟨by omega,by omega⟩]
  cases bB s <;> rfl
theorem app_vs (h:BldT P tS tStr e) (S:Store) (s:ByteArray) {n:Nm} {xs:List (List D)} (o:S n=some (.vec 1 xs)) (hs:xs.length+s.size<=1000000000):jm P tS tStr S (.vs n 1 0 xs.length) (vS s) 0 1=match bB s with
    | []=>some ⟨[(n,.vec 1 xs)],[],.vs n 1 0 xs.length⟩
    | y::ys=>some ⟨[(n,.vec 1 xs)],[(n,none),((0,1),some (.vec 1 (xs++(y::ys))))],.vs (0,1) 1 0 (xs.length+(y::ys).length)⟩:=by
  have hl:=Rt s
  simp only [jm,h.el,h.arg,h.sz,h.z,List.length_singleton,Nat.zero_lt_one,and_self,if_true,Hg,h.by_,Nat.mul_one,o]
  rw [if_pos ⟨trivial,by omega,by omega,by omega⟩]
  cases bB s <;> simp
def lenVs:V->Nat
  | .vs _ _ _ l=>l
  | _=>0
theorem GK (h:BldT P tS tStr e) {E:Env} {G:Gh} {I M:World} {S:Store} (hi:Inv E G I S 1 (λ_=>False)) {x:V} (hx:x = .nil\/∃n xs,S n=some (.vec 1 xs)/\x = .vs n 1 0 xs.length) {s:ByteArray} {v v':Value} (hr:RepV G I v x) (L:z8 I v) (J:∀g k,elemAt I g=some k->elemAt M g=some k)
    (hb:lenVs x+s.size<=1000000000) (B:(Builtin.append_ #[tS,tStr] tS #[v,.string s]).run P I = .ok v' M):z8 M v':=by
  have Z:=jf h.el
  obtain ⟨zv,N,hzc⟩:=jc h.z
  have R:∀W:World,(Builtin.lenOf (.string s)).run P W = .ok s.size W:=λW=>rfl
  have O:∀W:World,(Builtin.firstCells 1 s.size (.string s)).run P W = .ok ((s.extract 0 s.size).data.map λb => .int .u8 b.toNat) W:=λW=>rfl
  have done:∀{b o:Option Addr} {n cap A:Nat} {w2:World} {g:Nat},0<A->elemAt w2 g=some byteK->Result.ok (Value.slice (some ⟨g,0,none⟩) n A) w2=Result.ok v' M->z8 M v':=λhc hk he=>by
    simp only [Result.ok.injEq]at he
    rw [<- he.1,<- he.2];exact .inr ⟨_,_,_,rfl,hc,hk⟩
  obtain ⟨base,n,cap,rfl,X,F⟩:∃base n cap,v = .slice base n cap/\n=lenVs x/\∃old,∀w',w'.heap=I.heap->(Builtin.firstCells 1 n (.slice base n cap)).run P w' = .ok old w':=by
    rcases hx with rfl|⟨n,xs,hS,rfl⟩
    · cases hr with
      | nil a=>exact⟨a,0,0,rfl,rfl,#[],λw' _=>by cases a <;> simp [Builtin.firstCells,loadCells,loadCellsFrom]⟩
    · have Y:(xs.drop 0).take xs.length=xs:=by simp
      obtain ⟨⟨a,cap,rfl⟩,_,old,o1,_⟩:=Cn (P:=P) (size:=1) (ys:=xs) (req:=[(n,.vec 1 xs)]) hi hr (by simp only [pK,hS];rw [if_pos ⟨trivial,by omega⟩,Y])
      exact⟨a,xs.length,cap,rfl,rfl,old,o1⟩
  obtain ⟨old,F⟩:=F
  by_cases hfit:n+s.size<=cap
  · rw [Mk Z h.str h.sz hfit B]
    rcases L with L|⟨g,m,c,L,hc⟩
    · simp only [Value.slice.injEq]at L
      obtain ⟨rfl,rfl,rfl⟩:=L
      have:s.size=0:=by omega
      rw [this];exact .inl rfl
    · simp only [Value.slice.injEq]at L
      obtain ⟨rfl,rfl,rfl⟩:=L
      exact .inr ⟨_,_,_,rfl,hc.1,J _ _ hc.2⟩
  · obtain ⟨A,k1,k2⟩:=pI (P:=P) (ty:=tS) (w:=I) (base:=base) Z h.str (.inr rfl) h.sz N R (show cap<n+s.size by omega) (by rw [h.by_];omega) (by omega) (F _ rfl) (O _)
    rw [k2]at B
    exact done (b:=none) (o:=none) (n:=n+s.size) (cap:=0) (by omega) (by rw [<- h.bt];exact fw (gq I.drew _)) B
theorem D9 {i j:Nat} (h:i≠j):au i≠au j:=λe=>by
  have:=congrArg tZ e
  rw [gQ,gQ,so_]at this
  exact h this
theorem GN (i:Nat):au i≠((0,1):Nm):=λe=>by
  have:=congrArg Prod.snd e
  simp [au]at this
section fnm
variable (hW:uS P f tB tS tStr) (hT:BldT P tS tStr e)
include hW hT
theorem fnm_bw0 {s:ByteArray} (hs:s.size<=1000000000):FnM P f [.ref (au 0) 0 0,vS s] [.cells (1048576+tB) [.any,.nil]] (.tup [vI s.size,.any])
    (match bB s with | []=>[some (.cells (1048576+tB) [.any,.nil])] | y::ys=>[some (.cells (1048576+tB) [.any,.vs (au 1) 1 0 (y::ys).length]),some (.vec 1 (y::ys))]):=by
  intro G w O h F
  obtain ⟨v0,v1,rfl,W,r1⟩:=F.two
  obtain rfl:=r1.d_inv.str_inv
  cases W with
  | ref _ _ hm =>
    rename_i b o sz
    have R:cB [Box.cells (1048576+tB) [.any,.nil]] (au 0)=some (.cells (1048576+tB) [.any,.nil]):=by rw [jM];rfl
    obtain ⟨rfl,rfl,_⟩:=vQ h R hm
    have X:(⟨b,0+0*(1048576+tB)+0,none⟩:Addr)=⟨b,0,none⟩:=by simp
    rw [X]
    have M:=app_nil hT (cB [Box.cells (1048576+tB) [.any,.nil]]) s hs
    have L:∀(I N:World) (v v':Value),Inv ⟨G,w,yN G [Box.cells (1048576+tB) [.any,.nil]]⟩ G I (cB [Box.cells (1048576+tB) [.any,.nil]]) 1 (λ_=>False)->RepV G I v .nil->z8 I v->(∀g k,elemAt I g=some k->elemAt N g=some k)->(Builtin.append_ #[tS,tStr] tS #[v,.string s]).run P I = .ok v' N->z8 N v' :=
      λI N v v' hi Z Y he J=>GK hT hi (.inl rfl) Z Y he (by show 0+s.size<=_;omega) J
    have A:∀{G':Gh} {w':World} {ρ:List Nm},RepV G' w' (.tuple #[.int .i64 s.size,.nilIface]) (ren ρ (.tup [vI s.size,.any])):=λ{G' w' ρ} =>
      .tup [_,_] _ rfl (λi h1 h2=>by
        match i,h1 with
        | 0,_=>exact .d (.int _ _)
        | 1,_=>exact .any _)
    cases hbs:bB s with
    | nil =>
      rw [hbs]at M
      refine (D6 hW h R hm M (λp hp=>by cases hp) rfl L).mono ?_
      rintro en w' ⟨rfl,G',ee,ii⟩
      refine⟨_,G',_,1,_,[au 0],rfl,ii,A,rfl,List.pairwise_singleton _ _,λi hi => ?_,λi bx hb => ?_⟩
      · have B:i=0:=by simpa using hi
        subst B;rfl
      · match i,hb with
        | 0,hb =>
          simp only [List.getElem?_cons_zero,so_]at hb
          subst hb
          exact⟨au 0,rfl,by simp [supd,Box.ren,renL,ren]⟩
        | i+1,hb=>simp at hb
    | cons y ys =>
      rw [hbs]at M
      refine (D6 hW h R hm M (λp hp=>by simp only [List.mem_singleton]at hp;subst hp;exact (GN 0).symm) rfl L).mono ?_
      rintro en w' ⟨rfl,G',ee,ii⟩
      refine⟨_,G',_,1,_,[au 0,(0,1)],rfl,ii,A,rfl,by simp [GN],λi hi => ?_,λi bx hb => ?_⟩
      · have B:i=0:=by simpa using hi
        subst B;rfl
      · match i,hb with
        | 0,hb =>
          simp only [List.getElem?_cons_zero,so_]at hb
          subst hb
          exact⟨au 0,rfl,by simp [supd,Box.ren,renL,ren,vU]⟩
        | 1,hb =>
          simp only [List.getElem?_cons_succ,List.getElem?_cons_zero,so_]at hb
          subst hb
          refine⟨(0,1),rfl,?_⟩
          simp [dn,supd,(GN 0).symm,Box.ren]
        | i+2,hb=>simp at hb
theorem fnm_bw1 {s:ByteArray} {xs:List (List D)} (hs:xs.length+s.size<=1000000000):FnM P f [.ref (au 0) 0 0,vS s] [.cells (1048576+tB) [.any,.vs (au 1) 1 0 xs.length],.vec 1 xs] (.tup [vI s.size,.any])
    (match bB s with | []=>[some (.cells (1048576+tB) [.any,.vs (au 1) 1 0 xs.length]),some (.vec 1 xs)] | y::ys=>[some (.cells (1048576+tB) [.any,.vs (au 2) 1 0 (xs.length+(y::ys).length)]),none,some (.vec 1 (xs++(y::ys)))]):=by
  intro G w W A J
  obtain ⟨v0,v1,rfl,Y,r1⟩:=J.two
  obtain rfl:=r1.d_inv.str_inv
  cases Y with
  | ref _ _ hm =>
    rename_i b o sz
    generalize h : [Box.cells (1048576+tB) [.any,.vs (au 1) 1 0 xs.length],Box.vec 1 xs]=Sin at A
    have X:cB Sin (au 0)=some (.cells (1048576+tB) [.any,.vs (au 1) 1 0 xs.length]):=by subst h;rw [jM];rfl
    have I:cB Sin (au 1)=some (.vec 1 xs):=by subst h;rw [jM];rfl
    obtain ⟨rfl,rfl,_⟩:=vQ A X hm
    have Z:(⟨b,0+0*(1048576+tB)+0,none⟩:Addr)=⟨b,0,none⟩:=by simp
    rw [Z]
    have O:=app_vs hT (cB Sin) s I hs
    have N:∀(L R:World) (v v':Value),Inv ⟨G,w,yN G Sin⟩ G L (cB Sin) 1 (λ_=>False)->RepV G L v (.vs (au 1) 1 0 xs.length)->z8 L v->(∀g k,elemAt L g=some k->elemAt R g=some k)->(Builtin.append_ #[tS,tStr] tS #[v,.string s]).run P L = .ok v' R->z8 R v' :=
      λL R v v' hi hr hv he M=>GK hT hi (.inr ⟨_,_,I,rfl⟩) hr hv he hs M
    have F:∀{G':Gh} {w':World} {ρ:List Nm},RepV G' w' (.tuple #[.int .i64 s.size,.nilIface]) (ren ρ (.tup [vI s.size,.any])):=λ{G' w' ρ} =>
      .tup [_,_] _ rfl (λi h1 h2=>by
        match i,h1 with
        | 0,_=>exact .d (.int _ _)
        | 1,_=>exact .any _)
    have B:(au 0:Nm)≠au 1:=D9 (by decide)
    cases hbs:bB s with
    | nil =>
      rw [hbs]at O
      refine (D6 hW A X hm O (λp hp=>by cases hp) rfl N).mono ?_
      rintro en w' ⟨rfl,G',ee,ii⟩
      refine⟨_,G',_,1,_,[au 0,au 1],rfl,ii,F,rfl,by simp [B],λi hi => ?_,λi bx hb => ?_⟩
      · match i,hi with
        | 0,_=>rfl
        | 1,_=>rfl
        | i+2,hi=>exact absurd hi (by rw [<- h];simp)
      · match i,hb with
        | 0,hb =>
          simp only [List.getElem?_cons_zero,so_]at hb
          subst hb
          exact⟨au 0,rfl,by simp [supd,Box.ren,renL,ren,vU]⟩
        | 1,hb =>
          simp only [List.getElem?_cons_succ,List.getElem?_cons_zero,so_]at hb
          subst hb
          refine⟨au 1,rfl,?_⟩
          simp only [dn,supd,if_neg B.symm,I,Box.ren]
        | i+2,hb=>simp at hb
    | cons y ys =>
      rw [hbs]at O
      refine (D6 hW A X hm O (λp hp=>by
        simp only [List.mem_cons,List.not_mem_nil,or_false]at hp
        rcases hp with rfl|rfl
        · exact B.symm
        · exact (GN 0).symm) rfl N).mono ?_
      rintro en w' ⟨rfl,G',ee,ii⟩
      refine⟨_,G',_,1,_,[au 0,au 1,(0,1)],rfl,ii,F,rfl,by simp [B,GN],λi hi => ?_,λi bx hb => ?_⟩
      · match i,hi with
        | 0,_=>rfl
        | 1,_=>rfl
        | i+2,hi=>exact absurd hi (by rw [<- h];simp)
      · match i,hb with
        | 0,hb =>
          simp only [List.getElem?_cons_zero,so_]at hb
          subst hb
          refine⟨au 0,rfl,?_⟩
          have e2:qF [au 0,au 1,((0,1):Nm)] (au 2)=(0,1):=by simp only [qF,gQ];rfl
          simp only [supd,if_true,Box.ren,renL,ren,e2]
        | 1,hb=>simp at hb
        | 2,hb =>
          simp only [List.getElem?_cons_succ,List.getElem?_cons_zero,so_]at hb
          subst hb
          refine⟨(0,1),rfl,?_⟩
          simp only [dn,supd,if_neg (GN 0).symm,if_true,Box.ren]
        | i+3,hb=>simp at hb
end fnm
end
def Aw (P:Program) (f:FuncId) (tB:TypeId):Prop:=∀(b n cap:Nat) (a:Option Addr) (w:World) (p:Value),w.heap[b]? = some (.cells #[p,.slice a n cap] tB (0,0)) ->
  Calls P f #[.pointer (some ⟨b,0,none⟩)] w λe w'=>e = .returned (.int .i64 n)/\w'=w
def yh (P:Program) (f:FuncId) (tB:TypeId):Prop :=
  (∀(b:Nat) (w:World) (p:Value),w.heap[b]? = some (.cells #[p,.slice none 0 0] tB (0,0))->Calls P f #[.pointer (some ⟨b,0,none⟩)] w λe w'=>e = .returned (.string ⟨#[]⟩)/\w'=w.drew) /\
  (∀(b g cap:Nat) (l:List UInt8) (cur:Array Value) (w:World) (p:Value),w.heap[b]? = some (.cells #[p,.slice (some ⟨g,0,none⟩) l.length cap] tB (0,0))->w.heap[g]? = some (.cells cur byteK (0,0))->l ≠ []->l.length<=1000000000->l.length<=cap->0<cap->cap<=cur.size ->
    (∀(j:Nat) x,l[j]? = some x->cur[j]? = some (.int .u8 x.toNat))->Calls P f #[.pointer (some ⟨b,0,none⟩)] w λe w'=>e = .returned (.string ⟨l.toArray⟩)/\w'=w.drew.freeze ⟨g,0,none⟩ l.length)
section two
variable {P:Program} {f:FuncId} {tB:TypeId}
theorem Ow (M:Aw P f tB):FnM P f [.ref (au 0) 0 0] [.cells (1048576+tB) [.any,.nil]] (vI 0) [some (.cells (1048576+tB) [.any,.nil])]:=by
  intro G w F h A
  obtain ⟨v0,rfl,J⟩:=A.alone
  cases J with
  | ref _ _ hm =>
    rename_i b o sz
    have I:cB [Box.cells (1048576+tB) [.any,.nil]] (au 0)=some (.cells (1048576+tB) [.any,.nil]):=by rw [jM];rfl
    obtain ⟨rfl,rfl,_,p,v,h1,_,_,N,_⟩:=vQ h I hm
    have L:(⟨b,0+0*(1048576+tB)+0,none⟩:Addr)=⟨b,0,none⟩:=by simp
    rw [L]
    cases N with
    | nil a =>
      refine (M b 0 0 a w p h1).mono ?_
      rintro en w' ⟨rfl,rfl⟩
      refine⟨_,G,_,1,_,[au 0],rfl,h,.d (.int _ _),rfl,List.pairwise_singleton _ _,λi hi => ?_,λi bx hb => ?_⟩
      · have B:i=0:=by simpa using hi
        subst B;rfl
      · match i,hb with
        | 0,hb =>
          simp only [List.getElem?_cons_zero,so_]at hb
          subst hb
          exact⟨au 0,rfl,by rw [I];simp [Box.ren,renL,ren]⟩
        | i+1,hb=>simp at hb
theorem Pt (N:Aw P f tB) {xs:List (List D)}:FnM P f [.ref (au 0) 0 0] [.cells (1048576+tB) [.any,.vs (au 1) 1 0 xs.length],.vec 1 xs] (vI xs.length) [some (.cells (1048576+tB) [.any,.vs (au 1) 1 0 xs.length]),some (.vec 1 xs)]:=by
  intro G w F h A
  obtain ⟨v0,rfl,L⟩:=A.alone
  cases L with
  | ref _ _ hm =>
    rename_i b o sz
    have I:cB [Box.cells (1048576+tB) [.any,.vs (au 1) 1 0 xs.length],.vec 1 xs] (au 0)=some (.cells (1048576+tB) [.any,.vs (au 1) 1 0 xs.length]):=by rw [jM];rfl
    have B:cB [Box.cells (1048576+tB) [.any,.vs (au 1) 1 0 xs.length],.vec 1 xs] (au 1)=some (.vec 1 xs):=by rw [jM];rfl
    obtain ⟨rfl,rfl,_,p,v,h1,_,_,J,_⟩:=vQ h I hm
    have M:(⟨b,0+0*(1048576+tB)+0,none⟩:Addr)=⟨b,0,none⟩:=by simp
    rw [M]
    obtain ⟨a,cap,rfl⟩:∃a cap,v = .slice a xs.length cap:=by
      generalize hl:xs.length=m at J
      cases J with
      | vs0 _ _ _ a=>exact⟨a,0,rfl⟩
      | vs _ _ cap _ _ _=>exact⟨_,cap,rfl⟩
    refine (N b _ cap a w p h1).mono ?_
    rintro en w' ⟨rfl,rfl⟩
    refine⟨_,G,_,1,_,[au 0,au 1],rfl,h,.d (.int _ _),rfl,by simp [D9 (show 0≠1 by decide)],λi hi => ?_,λi bx hb => ?_⟩
    · match i,hi with
      | 0,_=>rfl
      | 1,_=>rfl
      | i+2,hi=>exact absurd hi (by simp)
    · match i,hb with
      | 0,hb =>
        simp only [List.getElem?_cons_zero,so_]at hb
        subst hb
        exact⟨au 0,rfl,by rw [I];simp [Box.ren,renL,ren,vU]⟩
      | 1,hb =>
        simp only [List.getElem?_cons_succ,List.getElem?_cons_zero,so_]at hb
        subst hb
        exact⟨au 1,rfl,by rw [B];rfl⟩
      | i+2,hb=>simp at hb
theorem OG (M:yh P f tB):FnM P f [.ref (au 0) 0 0] [.cells (1048576+tB) [.any,.nil]] (vS ⟨#[]⟩) [none]:=by
  intro G w I h A
  obtain ⟨v0,rfl,J⟩:=A.alone
  cases J with
  | ref _ _ hm =>
    rename_i b o sz
    have O:cB [Box.cells (1048576+tB) [.any,.nil]] (au 0)=some (.cells (1048576+tB) [.any,.nil]):=by rw [jM];rfl
    obtain ⟨rfl,rfl,_,p,v,h1,_,B,R,_⟩:=vQ h O hm
    have L:(⟨b,0+0*(1048576+tB)+0,none⟩:Addr)=⟨b,0,none⟩:=by simp
    rw [L]
    obtain rfl:v = .slice none 0 0:=by
      cases R with
      | nil a =>
        rcases B with B|⟨g,n,cap,B,hc⟩
        · exact B
        · simp only [Value.slice.injEq]at B;omega
    obtain ⟨N,e1⟩:=h.drew
    refine (M.1 b w p h1).mono ?_
    rintro en w' ⟨rfl,rfl⟩
    refine⟨_,G,_,1,_,[au 0],rfl,N,.d (.str _),rfl,List.pairwise_singleton _ _,λi hi => ?_,λi bx hb => ?_⟩
    · have F:i=0:=by simpa using hi
      subst F;rfl
    · match i,hb with
      | 0,hb=>simp at hb
      | i+1,hb=>simp at hb
theorem OO (hL:yh P f tB) {s:ByteArray} (hsz:s.size<=1000000000) (hs:bn s ≠ []):FnM P f [.ref (au 0) 0 0] [.cells (1048576+tB) [.any,.vs (au 1) 1 0 (bn s).length],.vec 1 ((bn s).map (eK .u8))] (vS s) [none,none]:=by
  intro G w vargs A L
  obtain ⟨v0,rfl,r0⟩:=L.alone
  cases r0 with
  | ref _ _ hm =>
    rename_i b o sz
    generalize B : [Box.cells (1048576+tB) [.any,.vs (au 1) 1 0 (bn s).length],.vec 1 ((bn s).map (eK .u8))]=Sin at A
    have hS:cB Sin (au 0)=some (.cells (1048576+tB) [.any,.vs (au 1) 1 0 (bn s).length]):=by subst B;rw [jM];rfl
    have M:cB Sin (au 1)=some (.vec 1 ((bn s).map (eK .u8))):=by subst B;rw [jM];rfl
    obtain ⟨rfl,rfl,_,p,v,h1,_,O,h4,_⟩:=vQ A hS hm
    have e0:(⟨b,0+0*(1048576+tB)+0,none⟩:Addr)=⟨b,0,none⟩:=by simp
    rw [e0]
    have F:(bn s).length=s.data.toList.length:=by simp [bn]
    have I:0<(bn s).length:=List.length_pos_iff.2 hs
    generalize hl:(bn s).length=m at h4
    cases h4 with
    | vs0=>omega
    | vs _ _ cap J hc hbd =>
      rename_i b' o' _
      rcases O with O|⟨g,n,cap',O,R⟩
      · simp at O
      · simp only [Value.slice.injEq,so_,Addr.mk.injEq]at O
        obtain ⟨⟨rfl,ho,_⟩,rfl,rfl⟩:=O
        have ho':o'=0:=by omega
        subst ho'
        obtain ⟨q1,q2⟩:=A.stands M J
        have hst:Stands G w (.vec 1 ((bn s).map (eK .u8))) b' 0 1:=q1
        obtain ⟨⟨cur,t,h⟩,X⟩:=hst.free rfl
        have Y:=aV h
        have Z:(Box.vec 1 ((bn s).map (eK .u8))).all=(bn s).map λn=>V.d (.int .u8 n):=by
          simp only [Box.all,List.map_map]
          induction bn s with
          | nil=>rfl
          | cons a l ih=>simp only [List.map_cons,List.flatten_cons,ih];rfl
        have N:∀(j:Nat) x,s.data.toList[j]? = some x->cur[j]? = some (.int .u8 x.toNat):=λj x hj=>by
          have hj1:(Box.vec 1 ((bn s).map (eK .u8))).all[j]? = some (V.d (.int .u8 x.toNat)):=by
            rw [Z,List.getElem?_map,bn,List.getElem?_map,hj];rfl
          obtain ⟨hj2,hj3⟩:=List.getElem?_eq_some_iff.1 hj1
          obtain ⟨u,u1,_,u3⟩:=hst.cell j hj2
          rw [hj3]at u3
          rw [cell_of_row h,Nat.zero_add]at u1
          have:=u3.d_inv
          cases this
          exact u1
        have e2:(⟨b',0+0*1,none⟩:Addr)=⟨b',0,none⟩:=by simp
        rw [e2]at h1
        rw [<- hl,F]at h1
        rw [Y]at hbd
        have hne:b'≠b:=λe=>by
          subst e
          exact D9 (show 1≠0 by decide) (A.one (au 1) (au 0) _ _ b' 0 1 0 (1048576+tB) M hS rfl J hm)
        obtain ⟨i1,e1⟩:=A.drew
        have W:(w.drew.freeze ⟨b',0,none⟩ s.data.toList.length).heap[b']? = some (.cells cur t (0,0+s.data.toList.length)):=by
          have hc0:w.drew.heap[b']? = some (.cells cur t (0,0)):=h
          have hn:s.data.toList.length≠0:=by omega
          simp only [World.freeze,if_neg hn,Array.getElem?_modify,hc0,if_true,Option.map_some]
          rfl
        have hso:∀k,k≠b'->(w.drew.freeze ⟨b',0,none⟩ s.data.toList.length).heap[k]? = w.drew.heap[k]? := λk hk=>by
          simp only [World.freeze]
          split
          · rfl
          · simp [Array.getElem?_modify,Ne.symm hk]
        have hbz:bsize w.drew b'=bsize (w.drew.freeze ⟨b',0,none⟩ s.data.toList.length) b':=by
          rw [show bsize w.drew b'=cur.size from Y]
          simp only [bsize,W]
        obtain ⟨i2,e3⟩:=i1.write (w':=w.drew.freeze ⟨b',0,none⟩ s.data.toList.length) M rfl J hso (by simp only [World.freeze];split <;> simp) (by rw [hbz];exact Nat.le_refl _) (λe he=>by rw [fw (show w.drew.heap[b']? = some (.cells cur t (0,0)) from h)]at he;rw [fw W];exact he) X (by simp only [World.freeze];split <;> rfl) (by simp only [World.freeze];split <;> rfl) (by simp only [World.freeze];split <;> rfl) (.froz 1 []) (λe=>by
          have hs':Stands G (w.drew.freeze ⟨b',0,none⟩ s.data.toList.length) (.froz 1 []) b' 0 1 :=
            { sz:=rfl,even:=λx hx=>by cases hx
              room:=Nat.zero_le _
              cell:=λj hj=>absurd hj (Nat.not_lt_zero j)
              free:=λhx=>by cases hx
              froz:=λ_ j hj=>absurd hj (Nat.not_lt_zero j) }
          exact hs') (λ_=>by simp only [World.freeze];split <;> exact Nat.le_refl _)
        have htk:t=byteK:=by
          have:=R.2
          rw [fw h,so_]at this
          exact this
        refine (hL.2 b b' cap s.data.toList cur w p h1 (by rw [<- htk];exact h) (λe=>by rw [e]at F;rw [F]at I;exact Nat.lt_irrefl _ I) (by rw [<- Lib.size_eq];exact hsz) (by omega) R.1 (by omega) N).mono ?_
        rintro en w' ⟨rfl,rfl⟩
        refine⟨_,G,_,1,_,[au 0,au 1],rfl,i2,.d (.str _),rfl,by simp [D9 (show 0≠1 by decide)],λi hi => ?_,λi bx hb => ?_⟩
        · match i,hi with
          | 0,_=>rfl
          | 1,_=>rfl
          | i+2,hi=>exact absurd hi (by rw [<- B];simp)
        · match i,hb with
          | 0,hb=>simp at hb
          | 1,hb=>simp at hb
          | i+2,hb=>simp at hb
end two
section
variable {C:Cfg} {sl:Nat->V} {H:Hp} {q:Qm} {all rest:List Oper} {K:(Nat->V)->Hp->Prop}
variable {dst:Option Tmp} {d:Nat} {t ty:TypeId} {pos:String} {after:Array Edge} {g:Option (Nat×Bool)}
theorem uP {α:Type} {l:List α} {i:Nat} {a:α} (h:l[i]? = some a):l.set i a=l:=by
  obtain ⟨h1,h2⟩:=List.getElem?_eq_some_iff.1 h
  rw [<- h2,List.set_getElem_self]
theorem bOK {P:Program} {f:FuncId} {ρ:List Nm} {h vs:List V} {Sin:List Box} {r:V} {Sout:List (Option Box)} {S:Store} {tk:Nat} (hc:FnM P f h Sin r Sout) (o:vs.map (co S)=renL ρ h) (okA:okL ρ.length h=true) (nd:ρ.Nodup)
    (hi:insOK S ρ ρ Sin) (hl:Sin.length<=Sout.length) (okR:okV Sout.length r=true) (okO:okOut Sout.length Sout=true) (hm:mutOut (Sout.drop Sin.length)=true) (cov:∀n∈vs.flatMap frz,n∈ρ):CallData.OK ⟨[],ρ,h,Sin,r,Sout,false⟩ P f vs S tk :=
  { does:=hc,args:=ArgsOK.of_map o,okA:=okA,nodup:=nd,ins:=hi,len:=hl,okR:=okR,okO:=okO,mutN:=hm
    roOK:=(λe=>by cases e),have_:=(λn A=>nomatch A),cov:=(λn B => .inr (cov n B)),dis:=(λn _ A=>nomatch A) }
theorem bEff {ρ:List Nm} {h:List V} {Sin:List Box} {r:V} {Sout:List (Option Box)} {S:Store} {d tk:Nat} {ns:List Nm} (o:ρ++ja d tk (Sout.length-Sin.length)=ns) :
    CallData.eff ⟨[],ρ,h,Sin,r,Sout,false⟩ S d tk=⟨(ρ.zip Sin).map (λp=>(p.1,p.2.ren ρ)),bT ns ns Sout,ren ns r⟩:=by
  simp only [CallData.eff,dZ,d9,CallData.names,o,cond_false,List.nil_append]
theorem renN_2 (a b n:Nm) (l:List Nm):qF (a::b::n::l) (au 2)=n:=by simp only [qF,gQ];rfl
theorem h_bstr {tB:TypeId} {B:ByteArray} {o F:Nm} {f x:Operand} {N:Array TypeId} {fn:FuncId} (p i j:Nat) (hp:q=none\/Nat.beq all.length (p+(rest.length+1))=true)
    (hf:∀S tk,AgR H S tk (⟨some d,.call ⟨.value f,#[x],N⟩,ty,pos,after,g⟩::rest)->okQ q all p [o,F] true) (Z:yh C.P fn tB)
    (X:ev sl f = .fn fn []) (O:aH C.P fn=true) (hx:ev sl x = .ref o 0 0) (L:H[i]? = some (o,some (.cells (1048576+tB) [.any,gV F 1 (bn B)]))) (J:H[j]? = some (F,gB 1 (eK .u8) (bn B))) (Y:i≠j) (hsz:B.size<=1000000000)
    (hw:aL all sl ⟨some d,.call ⟨.value f,#[x],N⟩,ty,pos,after,g⟩=some true)
    (h:aR (mV q p [o,F] true) C all K rest (upd sl d (vS B)) ((H.set i (o,none)).set j (F,none))) :
    aR q C all K (⟨some d,.call ⟨.value f,#[x],N⟩,ty,pos,after,g⟩::rest) sl H:=by
  have A:([x].map (ev sl)++[])=[.ref o 0 0]:=by simp [hx]
  have R:∀n∈([x].map (ev sl)++[]).flatMap frz,n=o:=λn M=>by
    rw [A]at M
    simp [frz,Ba]at M
    try exact M
  have W:∀S:Store,([x].map (ev sl)++[]).map (co S)=[.ref o 0 0]:=λS=>by rw [A];simp [co,co1]
  cases hX:bn B with
  | nil =>
    rw [hX]at L J
    have hz:B=⟨#[]⟩:=by
      apply ByteArray.ext
      have:B.data.toList=[]:=by simpa [bn]using hX
      exact Array.toList_inj.1 this
    have I:(H.set i (o,none))[j]? = some (F,none):=by rw [List.getElem?_set_ne Y];exact J
    refine yl (args:=[x]) p [i] (l:=[(o,.cells (1048576+tB) [.any,.nil])]) hp (λS tk ag=>DF (λm hm=>by simp at hm;simp [hm]) (hf S tk ag)) (OG Z) X O (by simp only [gK,L];rfl) (by simp [Box.ren,renL,ren]) (by simp [Box.ok,okL,okV]) (λn M=>by rw [R n M];simp) (λS tk _=>ArgsOK.of_map (by rw [W];simp [renL,ren,xD])) (by simp [okL,okV,lQ]) rfl rfl (List.pairwise_singleton _ _) rfl hw (vS ⟨#[]⟩) rfl (H.set i (o,none)) rfl ?_
    rw [uP I,hz]at h
    refine Ng (T':=[o,F]) (λm hm=>by simp at hm;simp [hm]) (λm hm => ?_) h
    simp only [List.mem_cons,List.not_mem_nil,or_false]at hm
    rcases hm with rfl|rfl
    · exact .inl (by simp)
    · exact .inr (List.mem_map.2 ⟨_,List.mem_of_getElem? I,rfl⟩)
  | cons x0 xs =>
    have hc:=OO Z (s:=B) hsz (by rw [hX];simp)
    refine yl (args:=[x]) p [i,j] (l:=[(o,.cells (1048576+tB) [.any,gV F 1 (bn B)]),(F,.vec 1 ((bn B).map (eK .u8)))]) hp hf hc X O (by simp only [gK,L,J,hX];rfl) (by rw [hX];simp [Box.ren,renL,ren,vU,gV]) (by simp [Box.ok,okL,okV,lQ]) (λn M=>by rw [R n M];simp) (λS tk _=>ArgsOK.of_map (by rw [W];simp [renL,ren,xD])) (by simp [okL,okV,lQ]) rfl rfl (by simp [Y]) rfl hw (vS B) rfl _ rfl h
end
end Go.Eng

/-
  THE ENGINE: what strings.Builder's methods do, step by step, walked over the library's text.
-/
set_option linter.unusedVariables false
set_option linter.unusedSimpArgs false
namespace Go.Eng
open Go.Shelf Go.RowKit Go.Proofs
variable {P:Program} {ρ:Ren}
theorem wpList_append_run {ops:Array Oper} {rest:List Oper} {o:Oper} {a:Go.Act} {Q:Exit->Go.Act->World->Prop} {w w':World} (A:o.guard=none) (sl x:Operand) (t u:TypeId)
  (ho:o.op = .call { callee := .builtin .append,args := #[sl,x],argTypes := #[t,u] }) {v v' y:Value} (hs:a.eval sl=v) (B:a.eval x=y)
  (I:(Builtin.append_ #[t,u] o.type #[v,y]).run P w = .ok v' w') (h:wpList P ops Q rest (a.put o.dst v') w'):wpList P ops Q (o::rest) a w:=by
 refine wpList_plain A λK F => ?_
 unfold Oper.wp execOp
 simp only [ho,resolve,invoke,builtin,Sem.run_bind,Sem.run_pure,Result.andThen_ok,List.map_toArray,List.map_cons,List.map_nil,hs,B,I]
 exact F _ _ h
set_option maxHeartbeats 2000000 in
set_option maxRecDepth 100000 in
theorem LG (L:Lays.n166 P ρ) (X:Builder.Extra P ρ) (b:Nat) (s:ByteArray) (w F o:World) (v v' J O M:Value)
  (I:Calls P (ρ.f 240) #[.pointer (some ⟨b,0,none⟩)] w λe w'=>e = .returned (.tuple #[])/\w'=F)
  (B:F.heap[b]? = some (.cells #[J,v] (ρ.t 72) (0,0)))
  (A:(Builtin.append_ #[ρ.t 37,ρ.t 9] (ρ.t 37) #[v,.string s]).run P F = .ok v' o)
  (h:o.heap[b]? = some (.cells #[O,M] (ρ.t 72) (0,0)))
  (Z:∃N n cap,v' = .slice N n cap) :
  Calls P (ρ.f 166) #[.pointer (some ⟨b,0,none⟩),.string s] w λe w'=>e = .returned (.tuple #[.int .i64 s.size,.nilIface])/\w'=o.setCell ⟨b,1,none⟩ v':=by
 obtain ⟨N,n',cap,rfl⟩:=Z
 have d0:o.cell? ⟨b,0,none⟩=some O:=by rw [Lib.cell_of_heap h];rfl
 have d1:o.cell? ⟨b,1,none⟩=some M:=by rw [Lib.cell_of_heap h];rfl
 have f1:o.frozen? ⟨b,1,none⟩=false:=Lib.frozen_of_heap h 1
 have mixed:=L.mixed
 have t72:=L.t72;have a72:=L.a72;have z72:=L.z72;have v72:=L.v72;have Y:=run_underlying L.t72
 have t70:=L.t70;have a70:=L.a70;have z70:=L.z70;have v70:=L.v70;have u70:=run_underlying L.t70
 have t37:=L.t37;have a37:=L.a37;have z37:=L.z37;have v37:=L.v37;have W:=run_underlying L.t37
 have t3:=L.t3;have a3:=L.a3;have z3:=L.z3;have v3:=L.v3;have u3:=run_underlying L.t3
 have t9:=L.t9;have a9:=L.a9;have z9:=L.z9;have v9:=L.v9;have u9:=run_underlying L.t9
 have t4:=L.t4;have a4:=L.a4;have z4:=L.z4;have v4:=L.v4;have u4:=run_underlying L.t4
 have t5:=X.t5;have a5:=X.a5;have z5:=X.z5;have v5:=X.v5;have u5:=run_underlying X.t5
 have R:∀args w,(callFunc (ρ.f 240) args).run P w = .ok (.enter (ρ.f 240) args) w:=enters_of L.f240 (by kernel_rfl) rfl
 go_enter L.f166,Body.n166_ntmps ρ
 go_wp2_with (go_at_fn (ρ.f 240);refine I.mono ?_)
 rintro e w0' ⟨rfl,rfl⟩
 have c0:w0'.cell? ⟨b,0,none⟩=some J:=by rw [Lib.cell_of_heap B];rfl
 have c1:w0'.cell? ⟨b,1,none⟩=some v:=by rw [Lib.cell_of_heap B];rfl
 go_wp2_with (at_builtin;refine wpList_append_run rfl _ _ (ρ.t 37) (ρ.t 9) rfl rfl rfl A ?_)
 go_wp2
 go_ret2
 exact⟨rfl,rfl⟩
theorem JD {w:World} {b:Nat} {cs:Array Value} {t:TypeId} {x:Value} (h:w.heap[b]? = some (.cells cs t (0,0))) (o:cs[0]? = some x):w.setCell ⟨b,0,none⟩ x=w:=by
 have e:∀k,(w.setCell ⟨b,0,none⟩ x).heap[k]? = w.heap[k]? := λk=>by
  by_cases hk:k=b
  ·subst hk
   rw [oC h,h]
   have:cs.setIfInBounds 0 x=cs:=by
    apply Array.ext_getElem?
    intro j
    rw [Array.getElem?_setIfInBounds]
    split
    ·rename_i A
     subst A
     split
     ·exact o.symm
     ·rename_i h1;rw [Array.getElem?_eq_none (by omega)]
    ·rfl
   rw [this]
  ·exact p8 x hk
 have h1:(w.setCell ⟨b,0,none⟩ x).heap=w.heap:=Array.ext_getElem? e
 show ({ w with heap:=(w.setCell ⟨b,0,none⟩ x).heap }:World)=w
 rw [h1]
theorem OA (L:Lays.n166 P ρ) (X:Builder.Extra P ρ):uS P (ρ.f 166) (ρ.t 72) (ρ.t 37) (ρ.t 9):=by
 intro b s w B p v v' J M hb hp h A I
 have F:b<w.heap.size:=(Array.getElem?_eq_some_iff.1 hb).1
 have o:(w.setCell ⟨b,0,none⟩ (.pointer (some ⟨b,0,none⟩))).heap[b]? = some (.cells #[.pointer (some ⟨b,0,none⟩),v] (ρ.t 72) (0,0)):=by rw [oC hb];rfl
 refine LG L X b s w _ B v v' _ J M ?_ o h A I
 rcases hp with rfl|rfl
 ·refine Any.Builder_copyCheck_fresh { L with } X.toX72 b w (by rw [Lib.cell_of_heap hb];rfl) ?_ (Lib.frozen_of_heap hb 0)
  simp [World.shape?,hb]
 ·refine (Any.Builder_copyCheck_used { L with } X.toX72 b w (by rw [Lib.cell_of_heap hb];rfl)).mono ?_
  rintro e w' ⟨rfl,rfl⟩
  exact⟨rfl,(JD hb rfl).symm⟩
set_option maxHeartbeats 1000000 in
set_option maxRecDepth 100000 in
theorem lenDoes (L:Lays.n170 P ρ):Aw P (ρ.f 170) (ρ.t 72):=by
 intro b n cap a w p hb
 have F:w.cell? ⟨b,1,none⟩=some (.slice a n cap):=by rw [Lib.cell_of_heap hb];rfl
 have mixed:=L.mixed
 have t72:=L.t72;have a72:=L.a72;have z72:=L.z72;have v72:=L.v72;have o:=run_underlying L.t72
 have t70:=L.t70;have a70:=L.a70;have z70:=L.z70;have v70:=L.v70;have A:=run_underlying L.t70
 have t37:=L.t37;have a37:=L.a37;have z37:=L.z37;have v37:=L.v37;have h:=run_underlying L.t37
 have t3:=L.t3;have a3:=L.a3;have z3:=L.z3;have v3:=L.v3;have B:=run_underlying L.t3
 go_enter L.f170,Body.n170_ntmps ρ
 go_wp2
 go_ret
 exact⟨rfl,rfl⟩
set_option maxHeartbeats 2000000 in
set_option maxRecDepth 100000 in
theorem strDoes (L:Lays.n169 P ρ) (X:Builder.Extra P ρ) (h5:ρ.t 5=byteK):yh P (ρ.f 169) (ρ.t 72):=by
 refine⟨λb w p A => ?_,λb g cap l cur w p A R W hl9 Y Z hcs o => ?_⟩
 ·have I:=Any.unsafeString_none L X
  have c1:w.drew.cell? ⟨b,1,none⟩=some (.slice none 0 0):=by
   have:w.drew.heap[b]? = some (.cells #[p,.slice none 0 0] (ρ.t 72) (0,0)):=A
   rw [Lib.cell_of_heap this];rfl
  have N:(Builtin.unsafeSliceData_ #[(ρ.t 37)] (ρ.t 127) #[.slice none 0 0]).run P w.drew = .ok (.pointer none) w.drew:=rfl
  have mixed:=L.mixed
  have t72:=L.t72;have a72:=L.a72;have z72:=L.z72;have v72:=L.v72;have M:=run_underlying L.t72
  have t70:=L.t70;have a70:=L.a70;have z70:=L.z70;have v70:=L.v70;have O:=run_underlying L.t70
  have t37:=L.t37;have a37:=L.a37;have z37:=L.z37;have v37:=L.v37;have J:=run_underlying L.t37
  have t127:=L.t127;have a127:=L.a127;have z127:=L.z127;have v127:=L.v127;have F:=run_underlying L.t127
  have t3:=L.t3;have a3:=L.a3;have z3:=L.z3;have v3:=L.v3;have u3:=run_underlying L.t3
  have t9:=L.t9;have a9:=L.a9;have z9:=L.z9;have v9:=L.v9;have u9:=run_underlying L.t9
  have t5:=X.t5;have a5:=X.a5;have z5:=X.z5;have v5:=X.v5;have u5:=run_underlying X.t5
  go_enter L.f169,Body.n169_ntmps ρ
  go_wp2
  go_region_o
  all_goals (go_wp2;go_ret;exact⟨rfl,rfl⟩)
 ·have hl0:l.length≠0:=by simpa using W
  have c1:w.drew.cell? ⟨b,1,none⟩=some (.slice (some ⟨g,0,none⟩) l.length cap):=by
   have:w.drew.heap[b]? = some (.cells #[p,.slice (some ⟨g,0,none⟩) l.length cap] (ρ.t 72) (0,0)):=A
   rw [Lib.cell_of_heap this];rfl
  have N:(Builtin.unsafeSliceData_ #[(ρ.t 37)] (ρ.t 127) #[.slice (some ⟨g,0,none⟩) l.length cap]).run P w.drew = .ok (.pointer (some ⟨g,0,none⟩)) w.drew :=
   Lib.run_unsafeSliceData_row _ _ _ _ _ _ (by omega)
  have I:(Builtin.unsafeString_ #[(ρ.t 127),(ρ.t 3)] (ρ.t 9) #[.pointer (some ⟨g,0,none⟩),.int .i64 l.length]).run P w.drew = .ok (.string ⟨l.toArray⟩) (w.drew.freeze ⟨g,0,none⟩ l.length):=by
   refine Lib.run_unsafeString_row w.drew (ρ.t 127) (ρ.t 3) (ρ.t 9) (ρ.t 5) L.t127 X.cellsByte g cur.size (by have B:w.drew.heap[g]? = some (.cells cur byteK (0,0)):=R;simp [World.shape?,B,h5]) l W (by omega) (by omega) (λj x hj => ?_)
   have B:w.drew.heap[g]? = some (.cells cur byteK (0,0)):=R
   have:=o j x hj
   have ea:((⟨g,0,none⟩:Addr).add j)=⟨g,j,none⟩:=by
    unfold Addr.add
    split
    ·rename_i h;rw [h]
    ·simp
   rw [ea,Lib.cell_of_heap B];exact this
  have mixed:=L.mixed
  have t72:=L.t72;have a72:=L.a72;have z72:=L.z72;have v72:=L.v72;have M:=run_underlying L.t72
  have t70:=L.t70;have a70:=L.a70;have z70:=L.z70;have v70:=L.v70;have O:=run_underlying L.t70
  have t37:=L.t37;have a37:=L.a37;have z37:=L.z37;have v37:=L.v37;have J:=run_underlying L.t37
  have t127:=L.t127;have a127:=L.a127;have z127:=L.z127;have v127:=L.v127;have F:=run_underlying L.t127
  have t3:=L.t3;have a3:=L.a3;have z3:=L.z3;have v3:=L.v3;have u3:=run_underlying L.t3
  have t9:=L.t9;have a9:=L.a9;have z9:=L.z9;have v9:=L.v9;have u9:=run_underlying L.t9
  have t5:=X.t5;have a5:=X.a5;have z5:=X.z5;have v5:=X.v5;have u5:=run_underlying X.t5
  go_enter L.f169,Body.n169_ntmps ρ
  go_wp2
  go_region_o
  all_goals (go_wp2;go_ret;exact⟨rfl,rfl⟩)
end Go.Eng

/-
  THE ENGINE: strings.Builder, its bytes as a list of numbers: the rules by which dec.py prints.
-/
namespace Go.Eng
set_option linter.unusedSectionVars false
variable [DM]
open Go
set_option linter.unusedVariables false
set_option linter.unusedSimpArgs false
def IU (xs:List Int) (s:ByteArray):Option (List Int):=if xs.length+s.size<=1000000000 then some (xs++bn s)else none
def Ce (xs:List Int):Option ByteArray:=if xs.length<=1000000000/\xs.all (λn=>decide (0<=n)&&decide (n<=255))=true then some (Go.strOfNums xs)else none
theorem Kw {xs:List Int} {o:ByteArray} (h:Ce xs=some o):xs=bn o/\o.size<=1000000000:=by
 unfold Ce at h
 split at h
 ·rename_i A
  simp only [so_]at h
  subst h
  have e:bn (Go.strOfNums xs)=xs:=by
   unfold bn Go.strOfNums
   refine List.ext_getElem (by simp) (λi h1 h2 => ?_)
   have:=List.all_eq_true.1 A.2 _ (List.getElem_mem h2)
   simp only [Bool.and_eq_true,decide_eq_true_eq]at this
   simp
   omega
  refine⟨e.symm,?_⟩
  have:(bn (Go.strOfNums xs)).length=(Go.strOfNums xs).size:=by simp [bn]
  rw [e]at this
  omega
 ·cases h
section
variable {C:Cfg} {sl:Nat->V} {H:Hp} {q:Qm} {all rest:List Oper} {K:(Nat->V)->Hp->Prop}
variable {dst:Option Tmp} {d:Nat} {t ty:TypeId} {pos:String} {after:Array Edge} {g:Option (Nat×Bool)}
theorem Rj {e:TypeId} (p:Nat) (hp:q=none\/Nat.beq all.length (p+(rest.length+1))=true) (F:zeroCells C.P e=some [.d .nilp,.nil]) (I:aL all sl ⟨some d,.alloc e,ty,pos,after,g⟩=some true)
  (h:∀n:Nm,aR (mV q p [n] true) C all K rest (upd sl d (.ref n 0 0)) (H++[(n,some (.cells (1048576+e) [.any,.nil]))])) (hb:EF C.P e=none:=by kernel_rfl) (o:C.vm.contains d=true:=by rfl):aR q C all K (⟨some d,.alloc e,ty,pos,after,g⟩::rest) sl H :=
 tQ rfl p [] hp (λ_ _ _=>Ay) (λm hm=>by cases hm) I (λS tk L ok B J=>jK (A:=⟨[],[((d,tk),some (.cells (1048576+e) [.any,.nil]))],.ref (d,tk) 0 0⟩) (λc e=>by cases e) (by
  show (bif (EF C.P e).isSome then wy C.P e d tk else bif C.vm.contains d then tK C.P e d tk else xm C.P e d tk)=_
  rw [hb,o]
  simp only [Option.isSome_none,cond_false,cond_true,tK,F]) (J _ _ _ (.inl rfl) ⟨by simp,by simp⟩ (B.new ok rfl _) (h (d,tk))))
theorem yG {tB tS tStr e:TypeId} {bb z:List Int} {s:ByteArray} {o A:Nm} {f x y:Operand} {ats:Array TypeId} {fn:FuncId} (p i j:Nat) (hp:q=none\/Nat.beq all.length (p+(rest.length+1))=true)
  (hf:∀S tk,AgR H S tk (⟨some d,.call ⟨.value f,#[x,y],ats⟩,ty,pos,after,g⟩::rest)->okQ q all p [o,A] true) (hW:uS C.P fn tB tS tStr) (hT:BldT C.P tS tStr e)
  (hff:ev sl f = .fn fn []) (Z:aH C.P fn=true) (O:ev sl x = .ref o 0 0) (hy:ev sl y=vS s) (M:H[i]? = some (o,some (.cells (1048576+tB) [.any,gV A 1 (bb)]))) (hHj:H[j]? = some (A,gB 1 (eK .u8) (bb))) (hij:i≠j) (ha:IU bb s=some z)
  (hw:aL all sl ⟨some d,.call ⟨.value f,#[x,y],ats⟩,ty,pos,after,g⟩=some true)
  (h:∀n':Nm,aR (mV q p [o,A,n'] true) C all K rest (upd sl d (.tup [vI s.size,.any])) ((H.set i (o,some (.cells (1048576+tB) [.any,gV n' 1 (z)]))).set j (n',gB 1 (eK .u8) (z)))) :
  aR q C all K (⟨some d,.call ⟨.value f,#[x,y],ats⟩,ty,pos,after,g⟩::rest) sl H:=by
 unfold IU at ha
 split at ha
 case isFalse=>cases ha
 rename_i hle
 simp only [so_]at ha
 subst ha
 have L:∀a:Nm×Option Box,(H.set i a)[j]? = some (A,gB 1 (eK .u8) (bb)):=λa=>by rw [List.getElem?_set_ne hij];exact hHj
 refine tQ rfl p [o,A] hp hf (λm hm => ?_) hw (λS tk K' ok ag hk=>oD hff ?_)
 ·simp only [List.mem_cons,List.not_mem_nil,or_false]at hm
  rcases hm with rfl|rfl
  ·exact List.mem_map.2 ⟨_,List.mem_of_getElem? M,rfl⟩
  ·exact List.mem_map.2 ⟨_,List.mem_of_getElem? hHj,rfl⟩
 have hne:o≠A:=QB ag M hHj hij
 have hSb:S o=some (.cells (1048576+tB) [.any,gV A 1 (bb)]):=ag.get M
 have X:([x,y].map (ev sl)++[])=[.ref o 0 0,vS s]:=by simp [O,hy]
 have hfz:∀n∈([x,y].map (ev sl)++[]).flatMap frz,n=o:=λn Y=>by
  rw [X]at Y
  simp [frz,Ba]at Y
  try exact Y
 have hco:∀S:Store,([x,y].map (ev sl)++[]).map (co S)=[.ref o 0 0,vS s]:=λS=>by rw [X];simp [co,co1]
 have F:(#[x,y].toList.map (ev sl)++[])=([x,y].map (ev sl)++[]):=rfl
 have R:∀ns:List Nm,ren ns (.tup [vI s.size,.any]) = .tup [vI s.size,.any]:=λns=>by simp [ren,renL]
 cases bb with
 | nil =>
  have hc:=fnm_bw0 hW hT (s:=s) (by simp only [List.length_nil]at hle;omega)
  have I:insOK S [o] [o] [.cells (1048576+tB) [.any,.nil]]:=⟨⟨by simp [Box.ok,okL,okV],by show S o=some _;rw [hSb];simp [Box.ren,renL,ren,gV]⟩,trivial⟩
  cases hY:bn s with
  | nil =>
   have N:bB s=[]:=by rw [bB,hY];rfl
   rw [N]at hc
   refine .inl ⟨Z,⟨[],[o],[.ref (au 0) 0 0,vS s],[.cells (1048576+tB) [.any,.nil]],.tup [vI s.size,.any],[some (.cells (1048576+tB) [.any,.nil])],false⟩,?_,(λe=>by cases e),?_⟩
   ·exact bOK hc (by rw [F,hco];simp [renL,ren,xD]) (by simp [okL,okV,lQ]) (List.pairwise_singleton _ _) I (Nat.le_refl _) (by simp [okV,okL]) (by simp [okOut,Box.ok,okL,okV]) rfl (λn Y=>by rw [hfz n Y];simp)
   ·rw [bEff (ns:=[o]) (by simp [ja])]
    rw [hY]at h
    have hag:=(ag.set M (b:=some (.cells (1048576+tB) [.any,gV A 1 ([]:List Int)])) (b':=some (.cells (1048576+tB) [.any,gV A 1 ([]:List Int)])) (λx O=>O)).tail
    refine hk _ (H.set i (o,some (.cells (1048576+tB) [.any,gV A 1 ([]:List Int)]))) A (.inr (by simp)) ⟨by simp,by simp [bT]⟩ ?_ ?_
    ·simpa [dn,bT,Box.ren,renL,ren,gV]using hag
    ·have:=h A
     first | rw [List.append_nil,uP (L _)]at this | (simp only [List.nil_append]at this;rw [uP (L _)]at this)
     rw [R];exact this
  | cons J ys =>
   have N:bB s=eK .u8 J::ys.map (eK .u8):=by rw [bB,hY];rfl
   rw [N]at hc
   rw [hY]at h
   refine .inl ⟨Z,⟨[],[o],[.ref (au 0) 0 0,vS s],[.cells (1048576+tB) [.any,.nil]],.tup [vI s.size,.any],[some (.cells (1048576+tB) [.any,.vs (au 1) 1 0 (eK .u8 J::ys.map (eK .u8)).length]),some (.vec 1 (eK .u8 J::ys.map (eK .u8)))],false⟩,?_,(λe=>by cases e),?_⟩
   ·exact bOK hc (by rw [F,hco];simp [renL,ren,xD]) (by simp [okL,okV,lQ]) (List.pairwise_singleton _ _) I (by simp) (by simp [okV,okL]) (by simp [okOut,Box.ok,okL,okV,lQ]) rfl (λn Y=>by rw [hfz n Y];simp)
   ·rw [bEff (ns:=[o,(d,tk)]) (by simp [ja])]
    have W:=ag.set M (b:=some (.cells (1048576+tB) [.any,gV (d,tk) 1 (J::ys)])) (b':=some (.cells (1048576+tB) [.any,gV (d,tk) 1 (J::ys)])) (λx O=>O)
    have hnd:((d,tk):Nm)≠o:=λe=>new_ne ok ag rfl 0 _ (List.mem_of_getElem? M) (by rw [Nat.mul_zero];exact e.symm)
    refine hk _ ((H.set i (o,some (.cells (1048576+tB) [.any,gV (d,tk) 1 (J::ys)]))).set j ((d,tk),gB 1 (eK .u8) (J::ys))) (d,tk) (.inl rfl) ⟨by simp,by simp [bT]⟩ ?_ ?_
    ·refine W.swap ok rfl (L _) _ _ (λm h1 h2 => ?_) (λx O => ?_)
     ·simp [dn,bT,supd,h2,Box.ren,renL,ren,vU,gV]
     ·simp only [bT,dn,Option.map_some,supd,if_true,Box.ren]
      exact O
    ·rw [R];exact h (d,tk)
 | cons B xs =>
  have hSf:S A=some (.vec 1 ((B::xs).map (eK .u8))):=ag.get hHj
  have hlx:((B::xs).map (eK .u8)).length=(B::xs).length:=List.length_map _
  have hc:=fnm_bw1 hW hT (s:=s) (xs:=(B::xs).map (eK .u8)) (by rw [hlx];exact hle)
  rw [hlx]at hc
  have I:insOK S [o,A] [o,A] [.cells (1048576+tB) [.any,.vs (au 1) 1 0 (B::xs).length],.vec 1 ((B::xs).map (eK .u8))] :=
   ⟨⟨by simp [Box.ok,okL,okV,lQ],by show S o=some _;rw [hSb];simp [Box.ren,renL,ren,gV,vU]⟩,⟨rfl,hSf⟩,trivial⟩
  have hokA:okL [o,A].length [V.ref (au 0) 0 0,vS s]=true:=by simp [okL,okV,lQ]
  have hnd2 : [o,A].Nodup:=by simp [hne]
  cases hY:bn s with
  | nil =>
   have N:bB s=[]:=by rw [bB,hY];rfl
   rw [N]at hc
   rw [hY]at h
   refine .inl ⟨Z,⟨[],[o,A],[.ref (au 0) 0 0,vS s],[.cells (1048576+tB) [.any,.vs (au 1) 1 0 (B::xs).length],.vec 1 ((B::xs).map (eK .u8))],.tup [vI s.size,.any],[some (.cells (1048576+tB) [.any,.vs (au 1) 1 0 (B::xs).length]),some (.vec 1 ((B::xs).map (eK .u8)))],false⟩,?_,(λe=>by cases e),?_⟩
   ·exact bOK hc (by rw [F,hco];simp [renL,ren,xD]) hokA hnd2 I (Nat.le_refl _) (by simp [okV,okL]) (by simp [okOut,Box.ok,okL,okV,lQ]) rfl (λn Y=>by rw [hfz n Y];simp)
   ·rw [bEff (ns:=[o,A]) (by simp [ja])]
    have W:=ag.set M (b:=some (.cells (1048576+tB) [.any,gV A 1 (B::xs)])) (b':=some (.cells (1048576+tB) [.any,gV A 1 (B::xs)])) (λx O=>O)
    have ag2:=(W.set (L _) (b:=gB 1 (eK .u8) (B::xs)) (b':=some (.vec 1 ((B::xs).map (eK .u8)))) (λx O=>O)).tail
    refine hk _ ((H.set i (o,some (.cells (1048576+tB) [.any,gV A 1 (B::xs)]))).set j (A,gB 1 (eK .u8) (B::xs))) A (.inr (by simp)) ⟨by simp,by simp [bT]⟩ ?_ ?_
    ·simpa [dn,bT,Box.ren,renL,ren,gV,vU]using ag2
    ·have:=h A
     rw [List.append_nil]at this
     rw [R];exact this
  | cons J ys =>
   have N:bB s=eK .u8 J::ys.map (eK .u8):=by rw [bB,hY];rfl
   rw [N]at hc
   rw [hY]at h
   have hll:(B::xs).length+(eK .u8 J::ys.map (eK .u8)).length=((B::xs)++(J::ys)).length:=by simp;omega
   dsimp only at hc
   rw [hll]at hc
   refine .inl ⟨Z,⟨[],[o,A],[.ref (au 0) 0 0,vS s],[.cells (1048576+tB) [.any,.vs (au 1) 1 0 (B::xs).length],.vec 1 ((B::xs).map (eK .u8))],.tup [vI s.size,.any],[some (.cells (1048576+tB) [.any,.vs (au 2) 1 0 ((B::xs)++(J::ys)).length]),none,some (.vec 1 ((B::xs).map (eK .u8)++(eK .u8 J::ys.map (eK .u8))))],false⟩,?_,(λe=>by cases e),?_⟩
   ·exact bOK hc (by rw [F,hco];simp [renL,ren,xD]) hokA hnd2 I (by simp) (by simp [okV,okL]) (by simp [okOut,Box.ok,okL,okV,lQ]) rfl (λn Y=>by rw [hfz n Y];simp)
   ·rw [bEff (ns:=[o,A,(d,tk)]) (by simp [ja])]
    have W:=ag.set M (b:=some (.cells (1048576+tB) [.any,gV (d,tk) 1 ((B::xs)++(J::ys))])) (b':=some (.cells (1048576+tB) [.any,gV (d,tk) 1 ((B::xs)++(J::ys))])) (λx O=>O)
    refine hk _ ((H.set i (o,some (.cells (1048576+tB) [.any,gV (d,tk) 1 ((B::xs)++(J::ys))]))).set j ((d,tk),gB 1 (eK .u8) ((B::xs)++(J::ys)))) (d,tk) (.inl rfl) ⟨by simp,by simp [bT]⟩ ?_ ?_
    ·refine W.swap ok rfl (L _) _ _ (λm h1 h2 => ?_) (λx O => ?_)
     ·simp [dn,bT,supd,h1,h2,Box.ren,renL,ren,renN_2,gV]
     ·simp only [bT,dn,Option.map_some,supd,if_true,Box.ren]
      rw [<- O];simp [gB]
    ·rw [R];exact h (d,tk)
theorem h_blenL {tB:TypeId} {X:List Int} {A B:Nm} {f x:Operand} {M:Array TypeId} {fn:FuncId} (p i j:Nat) (hp:q=none\/Nat.beq all.length (p+(rest.length+1))=true)
  (hf:∀S tk,AgR H S tk (⟨some d,.call ⟨.value f,#[x],M⟩,ty,pos,after,g⟩::rest)->okQ q all p [A,B] true) (hL:Aw C.P fn tB)
  (W:ev sl f = .fn fn []) (N:aH C.P fn=true) (hx:ev sl x = .ref A 0 0) (F:H[i]? = some (A,some (.cells (1048576+tB) [.any,gV B 1 (X)]))) (J:H[j]? = some (B,gB 1 (eK .u8) (X))) (Z:i≠j)
  (hw:aL all sl ⟨some d,.call ⟨.value f,#[x],M⟩,ty,pos,after,g⟩=some true)
  (h:aR (mV q p [A,B] true) C all K rest (upd sl d (vI X.length)) H) :
  aR q C all K (⟨some d,.call ⟨.value f,#[x],M⟩,ty,pos,after,g⟩::rest) sl H:=by
 have o:([x].map (ev sl)++[])=[.ref A 0 0]:=by simp [hx]
 have O:∀n∈([x].map (ev sl)++[]).flatMap frz,n=A:=λn L=>by
  rw [o]at L
  simp [frz,Ba]at L
  try exact L
 have R:∀S:Store,([x].map (ev sl)++[]).map (co S)=[.ref A 0 0]:=λS=>by rw [o];simp [co,co1]
 cases X with
 | nil =>
  refine yl (args:=[x]) p [i] (l:=[(A,.cells (1048576+tB) [.any,.nil])]) hp (λS tk ag=>DF (λm hm=>by simp at hm;simp [hm]) (hf S tk ag)) (Ow hL) W N (by simp only [gK,F];rfl) (by simp [Box.ren,renL,ren]) (by simp [Box.ok,okL,okV]) (λn L=>by rw [O n L];simp) (λS tk _=>ArgsOK.of_map (by rw [R];simp [renL,ren,xD])) (by simp [okL,okV,lQ]) rfl rfl (List.pairwise_singleton _ _) (by simp [okOut,Box.ok,okL,okV]) hw (vI 0) rfl H ?_ ?_
  ·simp only [outs,setH,List.map_cons,List.map_nil,Option.map_some,Box.ren,renL,ren]
   exact uP F
  ·refine Ng (T':=[A,B]) (λm hm=>by simp at hm;simp [hm]) (λm hm => ?_) (by exact h)
   simp only [List.mem_cons,List.not_mem_nil,or_false]at hm
   rcases hm with rfl|rfl
   ·exact .inl (by simp)
   ·exact .inr (List.mem_map.2 ⟨_,List.mem_of_getElem? J,rfl⟩)
 | cons I xs =>
  have Y:((I::xs).map (eK .u8)).length=(I::xs).length:=List.length_map _
  have hc:=Pt hL (xs:=(I::xs).map (eK .u8))
  rw [Y]at hc
  refine yl (args:=[x]) p [i,j] (l:=[(A,.cells (1048576+tB) [.any,gV B 1 (I::xs)]),(B,.vec 1 ((I::xs).map (eK .u8)))]) hp hf hc W N (by simp only [gK,F,J];rfl) (by simp [Box.ren,renL,ren,vU,gV]) (by simp [Box.ok,okL,okV,lQ]) (λn L=>by rw [O n L];simp) (λS tk _=>ArgsOK.of_map (by rw [R];simp [renL,ren,xD])) (by simp [okL,okV,lQ]) rfl rfl (by simp [Z]) (by simp [okOut,Box.ok,okL,okV,lQ]) hw (vI (I::xs).length) rfl H ?_ ?_
  ·simp only [outs,setH,List.map_cons,List.map_nil,Option.map_some,Box.ren,renL,ren,vU]
   have e1:(.cells (1048576+tB) [.any,.vs B 1 0 (I::xs).length]:Box) = .cells (1048576+tB) [.any,gV B 1 (I::xs)]:=rfl
   rw [e1,uP F]
   exact uP J
  ·exact h
theorem h_bstrL {tB:TypeId} {xs:List Int} {O:ByteArray} {B A:Nm} {f x:Operand} {o:Array TypeId} {fn:FuncId} (p i j:Nat) (hp:q=none\/Nat.beq all.length (p+(rest.length+1))=true)
  (hf:∀S tk,AgR H S tk (⟨some d,.call ⟨.value f,#[x],o⟩,ty,pos,after,g⟩::rest)->okQ q all p [B,A] true) (W:yh C.P fn tB)
  (L:ev sl f = .fn fn []) (I:aH C.P fn=true) (R:ev sl x = .ref B 0 0) (J:H[i]? = some (B,some (.cells (1048576+tB) [.any,gV A 1 xs]))) (F:H[j]? = some (A,gB 1 (eK .u8) xs)) (N:i≠j) (hb:Ce xs=some O)
  (X:aL all sl ⟨some d,.call ⟨.value f,#[x],o⟩,ty,pos,after,g⟩=some true)
  (h:aR (mV q p [B,A] true) C all K rest (upd sl d (vS O)) ((H.set i (B,none)).set j (A,none))) :
  aR q C all K (⟨some d,.call ⟨.value f,#[x],o⟩,ty,pos,after,g⟩::rest) sl H:=by
 obtain ⟨M,hsz⟩:=Kw hb
 subst M
 exact h_bstr p i j hp hf W L I R J F N hsz X h
end
end Go.Eng

/-
  THE ENGINE: functions that hand a slice through: it is handed in with its box, and handed back (or nil), with data behind it.
-/
namespace Go.Eng
set_option linter.unusedSectionVars false
variable [DM]
set_option linter.unusedVariables false
section
variable {C:Cfg} {sl:Nat->V} {H:Hp} {q:Qm} {all rest:List Oper} {K:(Nat->V)->Hp->Prop}
variable {dst:Option Tmp} {d:Nat} {t ty:TypeId} {pos:String} {after:Array Edge} {g:Option (Nat×Bool)}
end
end Go.Eng

/-
  THE ENGINE: a slice that a closure holds and appends to: a cell with a slice whose box the cell alone has.
-/
namespace Go.Eng
set_option linter.unusedSectionVars false
variable [DM]
set_option linter.unusedVariables false
theorem Ei {i j:Nat} (h:au i=au j):i=j:=by
 simp only [au,Prod.mk.injEq,and_true]at h
 omega
section
variable {C:Cfg} {sl:Nat->V} {H:Hp} {all rest:List Oper} {K:(Nat->V)->Hp->Prop}
variable {d:Nat} {ty:TypeId} {pos:String} {after:Array Edge} {g:Option (Nat×Bool)}
end
end Go.Eng

/-
  THE ENGINE: a function that reads a slice as data reads it out of its box, too: the box is as it was.
-/
namespace Go.Eng
set_option linter.unusedSectionVars false
variable [DM]
set_option linter.unusedVariables false
end Go.Eng

/-
  THE ENGINE: strings.Replace of a text that is not empty, by its contract off the shelf.
-/
namespace Go.Eng
set_option linter.unusedSectionVars false
variable [DM]
open Go
open Go.RowKit (Below)
set_option linter.unusedVariables false
set_option linter.unusedSimpArgs false
end Go.Eng

/-
  THE ENGINE: grids: slices of slices of which each row is a box of its own; the rows' boxes stand behind all others.
-/
namespace Go.Eng
set_option linter.unusedSectionVars false
variable [DM]
set_option linter.unusedVariables false
section rows
variable {α:Type} {enc:α->List D} {sz:Nat}
end rows
theorem JX {H0 H:Hp} (hp:H0.Perm H):pre H0 H:=by
 induction hp with
 | nil=>exact⟨[],List.nodup_nil,rfl⟩
 | @cons x Z l2 _ W =>
  obtain ⟨is,h1,h2⟩:=W
  refine⟨0::is.map (· + 1),?_,?_⟩
  ·refine List.nodup_cons.2 ⟨by simp,?_⟩
   exact List.Pairwise.map _ (λa b h e=>h (by omega)) h1
  ·simp only [List.map_cons,List.map_map,List.getElem?_cons_zero]
   congr 1
 | swap x y l =>
  refine⟨1::0::(List.range l.length).map (· + 2),?_,?_⟩
  ·refine List.nodup_cons.2 ⟨by simp,List.nodup_cons.2 ⟨by simp,?_⟩⟩
   exact List.Pairwise.map _ (λa b h e=>h (by omega)) List.nodup_range
  ·simp only [List.map_cons,List.map_map,List.getElem?_cons_zero,List.getElem?_cons_succ]
   congr 2
   refine List.ext_getElem (by simp) (λi h1 h2 => ?_)
   simp only [List.getElem_map,List.getElem_range,Function.comp_apply,List.getElem?_cons_succ]
   simp only [List.length_map,List.length_range]at h1
   rw [List.getElem?_eq_getElem h1]
 | trans _ _ L I =>
  obtain ⟨is,h1,h2⟩:=L
  obtain ⟨N,A,X⟩:=I
  obtain ⟨hl,O⟩:=vZ h2
  obtain ⟨kl,R⟩:=vZ X
  have hb:∀i∈is,i<N.length:=λi hi=>by
   obtain ⟨j,hj,rfl⟩:=List.getElem_of_mem hi
   have:=(List.getElem?_eq_some_iff.1 (O j hj (by omega))).1
   omega
  refine⟨is.map (λi=>N.getD i 0),?_,?_⟩
  ·rw [List.nodup_iff_pairwise_ne]at h1 A ⊢
   refine List.pairwise_map.2 ((List.Pairwise.and_mem.1 h1).imp (λ{a b} h e => ?_))
   obtain ⟨Y,o,B⟩:=h
   have F:=hb a Y
   have J:=hb b o
   simp only [List.getD_eq_getElem?_getD,List.getElem?_eq_getElem F,List.getElem?_eq_getElem J,Option.getD_some]at e
   rcases Nat.lt_or_gt_of_ne B with h|h
   ·exact (List.pairwise_iff_getElem.1 A) a b F J h e
   ·exact (List.pairwise_iff_getElem.1 A) b a J F h e.symm
  ·rw [<- h2,List.map_map]
   refine List.map_congr_left (λi hi => ?_)
   have M:=hb i hi
   simp only [Function.comp_apply,List.getD_eq_getElem?_getD,List.getElem?_eq_getElem M,Option.getD_some]
   rw [R i M (by omega),List.getElem?_eq_getElem (by omega)]
section
variable {C:Cfg} {sl:Nat->V} {H H0:Hp} {q:Qm} {all rest:List Oper} {K:(Nat->V)->Hp->Prop}
theorem h_eqH (e:H0=H) (h:aR q C all K rest sl H0):aR q C all K rest sl H:=e ▸ h
theorem AgR.pre {S:Store} {t:Nat} {l:List Oper} (h:Eng.pre H0 H) (o:AgR H S t l):AgR H0 S t l:=by
 have A:Ag H S (t+1):=⟨Nat.succ_pos _,o.nd,λp hp=>⟨by rcases (o.at_ p hp).1 with h1 | ⟨h1,_⟩ <;> omega,(o.at_ p hp).2⟩⟩
 refine⟨o.pos,(A.pre h).nd,λp hp => ?_⟩
 obtain ⟨is,_,he⟩:=h
 obtain ⟨hl,B⟩:=vZ he
 obtain ⟨i,hi,rfl⟩:=List.getElem_of_mem hp
 exact o.at_ _ (List.mem_of_getElem? (B i (by omega) hi))
theorem h_pre (hp:Eng.pre H0 H) (h:aR q C all K rest sl H0):aR q C all K rest sl H:=λS tk ok o=>h S tk ok (o.pre hp)
variable {dst:Option Tmp} {d:Nat} {t ty:TypeId} {pos:String} {after:Array Edge} {g:Option (Nat×Bool)}
end
end Go.Eng

/-
  THE ENGINE: a function's end at which boxes get fresh names.
-/
namespace Go.Eng
set_option linter.unusedSectionVars false
variable [DM]
set_option linter.unusedVariables false
def look:List Nm->List Nm->Nm->Option Nm
 | m::ν,n::ρ,x=>if x=m then some n else look ν ρ x
 | _,_,_=>none
def x9:List Nm->List (Option Box)->Nm->Option Box
 | m::ν,b::bs,x=>if x=m then b else x9 ν bs x
 | _,_,_=>none
theorem ES:∀{ν ρ:List Nm} {x n:Nm},look ν ρ x=some n->∃i:Nat,ν[i]? = some x/\ρ[i]? = some n
 | [],_,_,_,h=>by simp [look]at h
 | _::_,[],_,_,h=>by simp [look]at h
 | m::ν,k::ρ,x,n,h=>by
  simp only [look]at h
  split at h
  ·rename_i e
   simp only [so_]at h
   exact⟨0,by rw [e];rfl,by rw [<- h];rfl⟩
  ·obtain ⟨i,h1,h2⟩:=ES h
   exact⟨i+1,h1,h2⟩
theorem Il:∀{ν:List Nm} {bs:List (Option Box)} {x:Nm} {b:Box},x9 ν bs x=some b->∃i:Nat,ν[i]? = some x/\bs[i]? = some (some b)
 | [],_,_,_,h=>by simp [x9]at h
 | _::_,[],_,_,h=>by simp [x9]at h
 | m::ν,k::bs,x,b,h=>by
  simp only [x9]at h
  split at h
  ·rename_i e
   exact⟨0,by rw [e];rfl,by rw [h];rfl⟩
  ·obtain ⟨i,h1,h2⟩:=Il h
   exact⟨i+1,h1,h2⟩
theorem NL:∀{ν ρ:List Nm} {i:Nat} {x n:Nm},ν.Nodup->ν[i]? = some x->ρ[i]? = some n->look ν ρ x=some n
 | [],_,i,_,_,_,h,_=>by simp at h
 | _::_,[],i,_,_,_,_,h=>by simp at h
 | m::ν,k::ρ,0,x,n,_,h1,h2=>by
  simp only [List.getElem?_cons_zero,so_]at h1 h2
  simp [look,h1,h2]
 | m::ν,k::ρ,i+1,x,n,o,h1,h2=>by
  simp only [List.getElem?_cons_succ]at h1 h2
  rw [List.nodup_cons]at o
  have:x≠m:=λe=>o.1 (e ▸ List.mem_of_getElem? h1)
  simp only [look,if_neg this]
  exact NL o.2 h1 h2
theorem Kr:∀{ν:List Nm} {bs:List (Option Box)} {i:Nat} {x:Nm} {b:Option Box},ν.Nodup->ν[i]? = some x->bs[i]? = some b->x9 ν bs x=b
 | [],_,i,_,_,_,h,_=>by simp at h
 | _::_,[],i,_,_,_,_,h=>by simp at h
 | m::ν,k::bs,0,x,b,_,h1,h2=>by
  simp only [List.getElem?_cons_zero,so_]at h1 h2
  simp [x9,h1,h2]
 | m::ν,k::bs,i+1,x,b,o,h1,h2=>by
  simp only [List.getElem?_cons_succ]at h1 h2
  rw [List.nodup_cons]at o
  have:x≠m:=λe=>o.1 (e ▸ List.mem_of_getElem? h1)
  simp only [x9,if_neg this]
  exact Kr o.2 h1 h2
theorem Inv.renames {E:Env} {G:Gh} {w:World} {S:Store} {tk:Nat} (h:Inv E G w S tk (λ_=>False)) (ρ ν:List Nm) (A:List (Option Box)) (hl1:ρ.length=A.length) (hl2:ν.length=A.length) (hν:ν.Nodup)
  (F:∀(i:Nat) (n m:Nm),ρ[i]? = some n->ν[i]? = some m->m=n\/m.2=tk+1)
  (hS:∀(i:Nat) (bx:Box),A[i]? = some (some bx)->bx.ok ρ.length=true/\∃n,ρ[i]? = some n/\S n=some (bx.ren ρ))
  (X:∀(i R:Nat) (n:Nm) (b b':Box),ρ[i]? = some n->ρ[R]? = some n->A[i]? = some (some b)->A[R]? = some (some b')->i=R) :
  ∃(G':Gh) (S':Store),Inv E G' w S' (tk+2) (λ_=>False)/\(∀u y,okV ρ.length y=true->RepV G w u (ren ρ y)->RepV G' w u (ren ν y)) /\
   ∀(i:Nat) (bx:Box),A[i]? = some (some bx)->∃n,ν[i]? = some n/\S' n=some (bx.ren ν):=by
 obtain ⟨G',hG⟩:∃G':Gh,G'=⟨G.imm,λx=>match look ν ρ x with|some n=>G.mu n|none=>G.mu x⟩:=⟨_,rfl⟩
 have M:G'.imm=G.imm:=by rw [hG]
 have hlr:∀(i:Nat) (m:Nm),ν[i]? = some m->∃n,ρ[i]? = some n:=λi m hm=>by
  have:=(List.getElem?_eq_some_iff.1 hm).1
  exact⟨_,List.getElem?_eq_getElem (by omega)⟩
 have N:∀(i:Nat) (n m:Nm),ρ[i]? = some n->ν[i]? = some m->G'.mu m=G.mu n:=λi n m L hm=>by
  rw [hG];simp only [NL hν hm L]
 have J:∀m:Nm,m.2=tk+1->G.mu m=none:=λm hm=>by
  cases B:G.mu m with
  | none=>rfl
  | some x =>
   rcases h.tick m x B with k|k
   ·omega
   ·exact k.2.elim
 have Z:∀(x:Nm) (y:Nat×Nat×Nat),G'.mu x=some y->(G.mu x=some y\/x.2=tk+1)/\∃n,G.mu n=some y:=λx y B=>by
  rw [hG]at B
  simp only at B
  split at B
  ·rename_i n L
   obtain ⟨i,h1,h2⟩:=ES L
   rcases F i n x h2 h1 with e|e
   ·rw [e];exact⟨.inl B,n,B⟩
   ·exact⟨.inr e,n,B⟩
  ·exact⟨.inl B,x,B⟩
 have e:Ext G w G' w:=xB (λb o k=>by rw [M];exact k) h.immB (λx y k=>by
   rw [hG]
   simp only
   split
   ·rename_i n L
    obtain ⟨i,h1,h2⟩:=ES L
    rcases F i n x h2 h1 with e|e
    ·rw [<- e];exact k
    ·rw [J x e]at k;cases k
   ·exact k) (λ_ _ => .inl rfl) (λb o m _ k=>by rw [M]at k;exact k)
 have O:∀(i:Nat) (n m:Nm) (x:Nat×Nat×Nat),ρ[i]? = some n->ν[i]? = some m->G.mu n=some x->G'.mu m=some x:=λi n m x L hm B=>by rw [N i n m L hm];exact B
 have hi:∀b o,G.imm b o↔G'.imm b o:=λb o=>by rw [M]
 have key:∀(x:Nm) (bx:Box),(x9 ν A x).map (·.ren ν)=some bx->∃(i:Nat) (n:Nm) (I:Box),ν[i]? = some x/\ρ[i]? = some n/\A[i]? = some (some I)/\bx=I.ren ν/\S n=some (I.ren ρ)/\I.ok ρ.length=true:=λx bx B=>by
  obtain ⟨I,h1,rfl⟩:=Option.map_eq_some_iff.1 B
  obtain ⟨i,h2,h3⟩:=Il h1
  obtain ⟨h4,n,h5,h6⟩:=hS i I h3
  exact⟨i,n,I,h2,h5,h3,rfl,h6,h4⟩
 refine⟨G',λx=>(x9 ν A x).map (·.ren ν),⟨h.ext.trans e,λb o k=>h.newI b o ((hi b o).2 k),h.frame,h.size,h.os,h.tape,h.output,λx bx B => ?_,λx y bx by' b o z o' z' B hy W h1 h2 => ?_,λx y k => ?_,λx b o z k => ?_,λb o k=>h.immB b o ((hi b o).2 k),h.kn,h.dr⟩,λu y hy hr=>hr.transfer hi O (by omega) rfl hy,λi bx hb => ?_⟩
 ·obtain ⟨i,n,I,a1,a2,a3,rfl,a5,a6⟩:=key x bx B
  obtain ⟨b,o,z,k1,k2,k3⟩:=h.box n _ a5
  exact⟨b,o,z,O i n x _ a2 a1 k1,StandsBox.transfer hi O (by omega) a6 k2,λhm=>k3 (by rw [Box.ren_mut]at hm ⊢;exact hm)⟩
 ·obtain ⟨i,n,I,a1,a2,a3,rfl,a5,_⟩:=key x bx B
  obtain ⟨R,n',b0',c1,c2,c3,rfl,c5,_⟩:=key y by' hy
  rw [N i n x a2 a1]at h1
  rw [N R n' y c2 c1]at h2
  have:=h.one n n' _ _ b o z o' z' a5 c5 (by rw [Box.ren_mut]at W ⊢;exact W) h1 h2
  subst this
  have:=X i R n I b0' a2 c2 a3 c3
  subst this
  rw [a1]at c1
  exact Option.some.inj c1
 ·rcases (Z x y k).1 with k|k
  ·rcases h.tick x y k with q|q
   ·exact .inl (by omega)
   ·exact q.2.elim
  ·exact .inl (by omega)
 ·obtain ⟨n,L⟩:=(Z x _ k).2
  exact h.bound n b o z L
 ·have Y:i<ν.length:=by have:=(List.getElem?_eq_some_iff.1 hb).1;omega
  refine⟨ν[i],List.getElem?_eq_getElem Y,?_⟩
  show (x9 ν A ν[i]).map (·.ren ν)=_
  rw [Kr hν (List.getElem?_eq_getElem Y) hb];rfl
theorem FnM.of_wpDr {P:Program} {f:FuncId} {fn:Func} {body:Code} {C:Cfg} (hf:P.funcs[f]? = some fn) (hb:fn.body=some body) (hP:C.P=P) (hn:C.n=fn.ntmps)
  {args:List V} {Sin:List Box} {r:V} {Sout:List (Option Box)} {Fin:List V->Store->Prop} (hl:args.length<=fn.ntmps)
  (hx:∀(E:Env) (G':Gh) (w':World) (S:Store) (tk:Nat) (vs:List V),Inv E G' w' S tk (λ_=>False)->Fin vs S->∃(I:Gh) (N:Store) (M:Nat) (Y:Nat->Prop) (ν:List Nm),Inv E I w' N M Y /\
   (∀u,RepV G' w' u (yO vs)->RepV I w' u (ren ν r))/\ν.length=Sout.length/\ν.Nodup/\(∀i,i<Sin.length->ν[i]? = some (au i))/\∀(i:Nat) (bx:Box),Sout[i]? = some (some bx)->∃n,ν[i]? = some n/\N n=some (bx.ren ν))
  (h:∃σ',Gst ⟨CB args,cB Sin,1⟩ σ'/\wpD C body (Qa C fn.results.toList (Fin)) σ'):FnM P f args Sin r Sout:=by
 subst hP
 intro G w o X A
 refine calls_of_wp hf hb ?_
 have hc:Gn C ⟨G,w,yN G Sin⟩ G w { tmps:=o.toArray++Array.replicate (fn.ntmps-o.toArray.size) undef,defers:=[] } ⟨CB args,cB Sin,1⟩:=by
  refine⟨?_,rfl,λi => ?_,X⟩
  ·have:=A.1
   simp;omega
  ·have hl:=A.1
   show RepV G w _ (args.getD i .none)
   by_cases hi:i<args.length
   ·have h1:=A.2 i (by omega) hi
    simp only [Array.getD_eq_getD_getElem?,List.getD_eq_getElem?_getD]
    rw [List.getElem?_eq_getElem hi,Array.getElem?_append_left (by simp;omega)]
    simp [show i<o.length by omega]
    exact h1
   ·have e2:args.getD i .none = .none:=by simp [List.getD_eq_getElem?_getD,List.getElem?_eq_none (Nat.le_of_not_lt hi)]
    have e1:(o.toArray++Array.replicate (fn.ntmps-o.toArray.size) undef).getD i undef=undef:=by
     simp only [Array.getD_eq_getD_getElem?]
     rw [Array.getElem?_append_right (by simp;omega)]
     simp only [Array.getElem?_replicate]
     split <;> rfl
    rw [e1,e2]
    exact .none
 obtain ⟨σ0,hg0,h⟩:=h
 obtain ⟨G0,hc0⟩:=hg0.ok hc
 refine nX body _ _ _ _ _ _ hc0 (λe a w' G' σ' W R => ?_) h
 have fin:Qa C fn.results.toList (Fin) .ret σ'->a.defers=[]/\∃v,(results fn a.tmps).run C.P w' = .ok v w'/\∃v' G' S' tk' U' ν,Ending.returned v = .returned v'/\Inv ⟨G,w,yN G Sin⟩ G' w' S' tk' U'/\RepV G' w' v' (ren ν r) /\
   ν.length=Sout.length/\ν.Nodup/\(∀i,i<Sin.length->ν[i]? = some (au i))/\∀(i:Nat) (bx:Box),Sout[i]? = some (some bx)->∃n,ν[i]? = some n/\S' n=some (bx.ren ν):=by
  rintro ⟨vs,h1,J⟩
  obtain ⟨I,N,M,Y,ν,O,B,f2,f3,f4,f5⟩:=hx _ _ _ _ _ _ R.inv J
  obtain ⟨us,F,u2⟩:=DZ R _ vs h1
  have Z:∃v,(results fn a.tmps).run C.P w' = .ok v w'/\RepV G' w' v (yO vs):=by
   have hm:(fn.results.mapM (fun | .tmp t=>pure (a.tmps.getD t undef) | .cell b t=>do loadVar t (<- asAddr (a.tmps.getD b undef)):ResultVar->Sem Value)).run C.P w' = .ok us.toArray w':=by
    rw [Array.mapM_eq_mapM_toList]
    simp only [Sem.run_map]
    exact (congrArg (λx=>Result.andThen x _) u2).trans rfl
   have L:(results fn a.tmps).run C.P w' = .ok (if h:us.toArray.size=1 then us.toArray[0]else .tuple us.toArray) w':=by
    unfold results
    simp only [Sem.run_bind,Sem.run_pure]
    exact (congrArg (λx=>Result.andThen x (λ(a:Array Value) w'=>Result.ok (if h:a.size=1 then a[0]else Value.tuple a) w')) hm).trans rfl
   refine⟨_,L,?_⟩
   have hl1:=F.1
   clear u2 hm L B J h1
   match vs,us,F,hl1 with
   | [v],[u],F,_=>exact F.2 0 (by simp) (by simp)
   | [],[],F,_=>exact .tup [] [] F.1 F.2
   | v1::v2::vs,x1::x2::us,F,_ =>
    rw [dif_neg (by simp)]
    exact .tup _ _ F.1 F.2
  obtain ⟨v,hv,rv⟩:=Z
  exact⟨R.df,v,hv,v,I,_,_,_,ν,rfl,O,B v rv,f2,f3,f4,f5⟩
 cases e with
 | normal=>exact fin W
 | ret=>exact fin W
 | exit id=>exact W.elim
 | goto l=>exact W.elim
 | panic ch=>exact W.elim
 | outgrown=>exact W.elim
def finR (C:Cfg) (B:List ResultVar) (o:Nat) (r:V) (Sout:List (Option Box)):QH:=λe sl H=>(e = .normal\/e = .ret) /\
 ∃(vs:List V) (ρ:List Nm) (h:List Nat),Dv C sl H B vs/\yO vs=ren ρ r/\okV Sout.length r=true/\ρ.length=Sout.length/\(∀i,i<o->ρ[i]? = some (au i)) /\
  (∀(i:Nat) (bx:Box),Sout[i]? = some (some bx)->bx.ok Sout.length=true/\∃n j,ρ[i]? = some n/\h[i]? = some j/\H[j]? = some (n,some (bx.ren ρ))) /\
  ∀(i A j:Nat) (b b':Box),Sout[i]? = some (some b)->Sout[A]? = some (some b')->h[i]? = some j->h[A]? = some j->i=A
theorem FnM.of_wHr {P:Program} {f:FuncId} {fn:Func} {body:Code} (C:Cfg) (hP:C.P=P) (hf:P.funcs[f]? = some fn) (hb:fn.body=some body) (B:C.n=fn.ntmps)
  {args:List V} {Sin:List Box} {r:V} {Sout:List (Option Box)} {H0:Hp} (hl:args.length<=fn.ntmps) (W:nL C body=true) (hag:Ag H0 (cB Sin) 1)
  (h:wH C body (finR C fn.results.toList Sin.length r Sout) (CB args) H0):FnM P f args Sin r Sout:=by
 refine FnM.of_wpDr (Fin:=λvs S=>∃ρ:List Nm,yO vs=ren ρ r/\okV Sout.length r=true/\ρ.length=Sout.length/\(∀i,i<Sin.length->ρ[i]? = some (au i)) /\
  (∀(i:Nat) (bx:Box),Sout[i]? = some (some bx)->bx.ok Sout.length=true/\∃n,ρ[i]? = some n/\S n=some (bx.ren ρ)) /\
  ∀(i o:Nat) (n:Nm) (b b':Box),ρ[i]? = some n->ρ[o]? = some n->Sout[i]? = some (some b)->Sout[o]? = some (some b')->i=o) hf hb hP B hl ?_ ?_
 ·rintro E G' w' S tk vs hinv ⟨ρ,f1,f2,f3,f4,f5,f6⟩
  obtain ⟨ν,hν⟩:∃ν:List Nm,ν=(List.range Sout.length).map (λi=>if i<Sin.length then au i else (i,tk+1)):=⟨_,rfl⟩
  have F:ν.length=Sout.length:=by rw [hν];simp
  have J:∀i,i<Sout.length->ν[i]? = some (if i<Sin.length then au i else (i,tk+1)):=λi hi=>by rw [hν,List.getElem?_map,List.getElem?_range hi];rfl
  have hνd:ν.Nodup:=by
   rw [hν,List.nodup_iff_pairwise_ne,List.pairwise_map]
   refine List.nodup_range.imp (λ{a b} Y e=>Y ?_)
   split at e <;> split at e
   ·exact Ei e
   ·have:=congrArg Prod.snd e;simp [au]at this
   ·have:=congrArg Prod.snd e;simp [au]at this
   ·exact congrArg Prod.fst e
  obtain ⟨G2,S2,i2,hc,X⟩:=hinv.renames ρ ν Sout f3 F hνd (λi n m B hm=>by
   have hi:=(List.getElem?_eq_some_iff.1 hm).1
   rw [J i (by omega)]at hm
   by_cases hk:i<Sin.length
   ·rw [if_pos hk,so_]at hm
    have:=f4 i hk
    rw [B,so_]at this
    exact .inl (hm.symm.trans this.symm)
   ·rw [if_neg hk,so_]at hm
    exact .inr (by rw [<- hm])) (λi bx O=>by rw [f3];exact f5 i bx O) f6
  refine⟨G2,S2,_,_,ν,i2,λu hu=>hc u r (by rw [f3];exact f2) (by rw [<- f1];exact hu),F,hνd,λi hi => ?_,X⟩
  have hρ:=(List.getElem?_eq_some_iff.1 (f4 i hi)).1
  rw [J i (by omega),if_pos hi]
 ·obtain ⟨σ',hg,hw⟩:=h W _ 1 hag
  refine⟨σ',hg,jy body (λe σ hq => ?_) hw⟩
  obtain ⟨H,M,he,vs,ρ,js,h1,h2,h3,h4,h5,R,h7⟩:=hq
  have fin:∃ρ:List Nm,yO vs=ren ρ r/\okV Sout.length r=true/\ρ.length=Sout.length/\(∀i,i<Sin.length->ρ[i]? = some (au i)) /\
    (∀(i:Nat) (bx:Box),Sout[i]? = some (some bx)->bx.ok Sout.length=true/\∃n,ρ[i]? = some n/\σ.store n=some (bx.ren ρ)) /\
    ∀(i o:Nat) (n:Nm) (b b':Box),ρ[i]? = some n->ρ[o]? = some n->Sout[i]? = some (some b)->Sout[o]? = some (some b')->i=o:=by
   refine⟨ρ,h2,h3,h4,h5,λi bx hb => ?_,λi o n b b' B Z hb I => ?_⟩
   ·obtain ⟨k1,n,j,L,_,N⟩:=R i bx hb
    exact⟨k1,n,L,M.get N⟩
   ·obtain ⟨_,n1,j,L,k3,N⟩:=R i b hb
    obtain ⟨_,n2,j',q2,q3,q4⟩:=R o b' I
    rw [B,so_]at L
    rw [Z,so_]at q2
    subst L q2
    have ea:=List.getElem?_eq_some_iff.1 N
    have eb:=List.getElem?_eq_some_iff.1 q4
    have:=iY M.nd j j' (by simpa using ea.1) (by simpa using eb.1) (by simp [ea.2,eb.2])
    subst this
    exact h7 i o j b b' hb I k3 q3
  have A:Dr C σ fn.results.toList=some vs:=DW M h1
  rcases he with rfl|rfl
  ·exact⟨vs,A,fin⟩
  ·exact⟨vs,A,fin⟩
end Go.Eng

/-
  THE ENGINE: a slice of structs of which the last one holds two slices that are appended to.
-/
namespace Go.Eng
set_option linter.unusedSectionVars false
variable [DM]
set_option linter.unusedVariables false
structure AlK where
 A:Type
 R1:Type
 R2:Type
 enc:A->List D
 encN:A->List D
 lc:V->V->A->List V
 f1:A->List R1
 f2:A->List R2
 e1:R1->List D
 e2:R2->List D
 sz:Nat
 s1:Nat
 s2:Nat
 len:∀a,(enc a).length=sz
 lenN:∀a,(encN a).length=sz
 lcd:∀a,lc (vL e1 (f1 a)) (vL e2 (f2 a)) a=(enc a).map .d
 lcl:∀u v a,(lc u v a).length=sz
 ren:∀ρ u v a,renL ρ (lc u v a)=lc (ren ρ u) (ren ρ v) a
 ok:∀k u v a,okV k u=true->okV k v=true->okL k (lc u v a)=true
 co:∀S u v a,(lc u v a).map (co1 S)=lc (co1 S u) (co1 S v) a
 nild:∀a,f1 a=[]->f2 a=[]->NilD (lc .nil .nil a) ((encN a).map .d)
 sz1:1<sz
 sz2:sz<1048576
def mQ {α:Type} (l:List α) (i:Int):Option α:=if i=(l.length:Int)-1 then l.getLast? else none
def setLast {α:Type} (l:List α) (a:α):List α:=l.dropLast++[a]
theorem ym {α:Type} {l:List α} {i:Int} {a:α} (h:mQ l i=some a):∃l0,l=l0++[a]/\i=(l0.length:Int):=by
 unfold mQ at h
 split at h
 ·rename_i e
  obtain ⟨l0,rfl⟩:=List.getLast?_eq_some_iff.1 h
  exact⟨l0,rfl,by simp at e;omega⟩
 ·cases h
def dw {α β:Type} (f:α->List β) (l:List α):List β:=match l.getLast? with
 | some a=>f a
 | none=>[]
theorem eT {α β:Type} (f:α->List β) (l:List α) (a:α):dw f (l++[a])=f a:=by simp [dw]
theorem rC {α β:Type} (f:α->List β) (l:List α) (a:α):dw f (setLast l a)=f a:=eT f _ a
theorem DR {α β:Type} {l:List α} {i:Int} {a:α} (f:α->List β) (h:mQ l i=some a):dw f l=f a:=by
 obtain ⟨l0,rfl,_⟩:=ym h
 exact eT f _ a
theorem qc {α:Type} {l:List α} {i:Int} {a:α} (b:α) (h:mQ l i=some a):l.length=(setLast l b).length:=by
 obtain ⟨l0,rfl,_⟩:=ym h
 simp [setLast]
theorem lJ {α:Type} (l:List α) (a b:α):setLast (l++[a]) b=l++[b]:=by simp [setLast]
namespace AlK
variable (K:AlK)
def r1 (l:List K.A):List K.R1:=dw K.f1 l
def r2 (l:List K.A):List K.R2:=dw K.f2 l
def lst (n1 n2:Nm) (a:K.A):List V:=K.lc (gV n1 K.s1 (K.f1 a)) (gV n2 K.s2 (K.f2 a)) a
def cells (l:List K.A) (n1 n2:Nm):List V:=(l.dropLast.flatMap K.enc).map .d++match l.getLast? with
 | some a=>K.lst n1 n2 a
 | none=>[]
def box (l:List K.A) (n1 n2:Nm):Option Box:=match l with
 | []=>none
 | _::_=>some (.cells K.sz (K.cells l n1 n2))
theorem box_app (l:List K.A) (a:K.A) (n1 n2:Nm):K.box (l++[a]) n1 n2=some (.cells K.sz ((l.flatMap K.enc).map .d++K.lst n1 n2 a)):=by
 have:K.box (l++[a]) n1 n2=some (.cells K.sz (K.cells (l++[a]) n1 n2)):=by cases l <;> rfl
 rw [this];simp [cells]
theorem pre_len (l:List K.A):((l.flatMap K.enc).map V.d).length=l.length*K.sz:=by
 rw [List.length_map,List.length_flatMap]
 induction l with
 | nil=>simp
 | cons a l h=>rw [List.map_cons,List.sum_cons,List.length_cons,h,K.len,Nat.add_mul,Nat.one_mul,Nat.add_comm]
end AlK
theorem stC_app {size:Nat} {p c o:List V} {j:Nat} {x:V} (h:stC size c j x=some o):stC size (p++c) (p.length+j) x=some (p++o):=by
 unfold stC at h ⊢
 cases hb:(Nat.beq (aX x).length size&&Nat.ble (j+size) c.length&&(aX x).all iM)with
 | false=>rw [hb]at h;cases h
 | true =>
  rw [hb]at h
  simp only [cond_true,so_]at h
  simp only [Bool.and_eq_true]at hb
  have h2:Nat.ble (p.length+j+size) (p++c).length=true:=Nat.ble_eq_true_of_le (by have:=Nat.le_of_ble_eq_true hb.1.2;simp;omega)
  rw [hb.1.1,h2,hb.2]
  simp only [Bool.and_self,cond_true,so_]
  subst h
  simp only [splice]
  rw [List.take_length_add_append,Nat.add_assoc,List.drop_length_add_append]
  simp
section
variable {C:Cfg} {sl:Nat->V} {H:Hp} {q:Qm} {all rest:List Oper} {K:(Nat->V)->Hp->Prop} {Q:QH} {c:Code}
variable {dst:Option Tmp} {d:Nat} {t ty:TypeId} {pos:String} {after:Array Edge} {g:Option (Nat×Bool)}
theorem Lr (A:AlK) {l:List A.A} {a:A.A} {x:Operand} {size:Nat} {agg:Bool} {n n1 n2:Nm} {i:Int} {j:Nat} (p k:Nat) (hp:q=none\/Nat.beq all.length (p+(rest.length+1))=true) (hf:∀S tk,AgR H S tk (⟨dst,.load t x,ty,pos,after,g⟩::rest)->okQ q all p [n] false) (hs:szT C.P t=some size) (J:cz C.P t=agg) (F:ev sl x = .ref n (0+i.toNat) j) (B:H[k]? = some (n,A.box l n1 n2)) (hl:mQ l i=some a) (v:V) (o:rdV agg size ((A.lc (gV n1 A.s1 (A.r1 l)) (gV n2 A.s2 (A.r2 l)) a).drop j)=some v)
  (I:aL all sl ⟨dst,.load t x,ty,pos,after,g⟩=some true) (h:aR (mV q p [n] false) C all K rest (dE sl dst v) H):aR q C all K (⟨dst,.load t x,ty,pos,after,g⟩::rest) sl H:=by
 obtain ⟨l0,rfl,rfl⟩:=ym hl
 rw [A.box_app]at B
 have e1:A.r1 (l0++[a])=A.f1 a:=eT _ _ _
 have e2:A.r2 (l0++[a])=A.f2 a:=eT _ _ _
 rw [e1,e2]at o
 refine aF p k hp hf hs J F B v ?_ I h
 rw [show (0+(l0.length:Int).toNat)*A.sz+j=((l0.flatMap A.enc).map V.d).length+j by rw [A.pre_len];simp,List.drop_length_add_append]
 exact o
theorem Qi (A:AlK) {l:List A.A} {a:A.A} {x y:Operand} {size:Nat} {n n1 n2:Nm} {i:Int} {j:Nat} (p:Nat) (hp:q=none\/Nat.beq all.length (p+(rest.length+1))=true) (hf:∀S tk,AgR H S tk (⟨dst,.store t x y,ty,pos,after,g⟩::rest)->okQ q all p [n] true) (k:Nat) (hs:szT C.P t=some size) (J:ev sl x = .ref n (0+i.toNat) j) (F:H[k]? = some (n,A.box l n1 n2)) (hl:mQ l i=some a) (o:A.A) (B I:Nm) (M:stC size (A.lst n1 n2 a) j (ev sl y)=some (A.lst B I o))
  (L:aL all sl ⟨dst,.store t x y,ty,pos,after,g⟩=some true) (h:aR (mV q p [n] true) C all K rest (dE sl dst .none) (H.set k (n,A.box (setLast l o) B I))):aR q C all K (⟨dst,.store t x y,ty,pos,after,g⟩::rest) sl H:=by
 obtain ⟨l0,rfl,rfl⟩:=ym hl
 rw [A.box_app]at F
 rw [lJ,A.box_app]at h
 refine gy p hp hf k hs J F _ ?_ L h (by have:=A.sz2;exact Nat.ble_eq_true_of_le this)
 rw [show (0+(l0.length:Int).toNat)*A.sz+j=((l0.flatMap A.enc).map V.d).length+j by rw [A.pre_len];simp]
 exact stC_app M
theorem kT {H:Hp} {i:Nat} {x:Nm×Option Box} (h:H[i]? = some x):H.set i x=H:=by
 refine List.ext_getElem? (λj => ?_)
 rw [List.getElem?_set]
 split
 ·rename_i e;subst e
  obtain ⟨h1,h2⟩:=List.getElem?_eq_some_iff.1 h
  rw [if_pos h1,List.getElem?_eq_getElem h1,h2]
 ·rfl
theorem Qr (A:AlK) {l:List A.A} {n n1 n2:Nm} (i h i2:Nat) (F:H[i]? = some (n,A.box l n1 n2)) (h1:H[h]? = some (n1,gB A.s1 A.e1 (A.r1 l))) (h2:H[i2]? = some (n2,gB A.s2 A.e2 (A.r2 l))) (hd:i≠h/\i≠i2/\h≠i2)
  (N:wH C c Q sl (((H.set h (n1,none)).set i2 (n2,none)).set i (n,gB A.sz A.enc l))):wH C c Q sl H:=by
 rcases List.eq_nil_or_concat l with rfl|⟨l0,a,rfl⟩
 ·have e1:gB A.s1 A.e1 (A.r1 ([]:List A.A))=none:=rfl
  have e2:gB A.s2 A.e2 (A.r2 ([]:List A.A))=none:=rfl
  have e0:A.box [] n1 n2=none:=rfl
  rw [e1]at h1;rw [e2]at h2;rw [e0]at F
  rw [kT h1,kT h2,show gB A.sz A.enc []=none from rfl,kT F]at N
  exact N
 ·rw [List.concat_eq_append]at *
  have Z:A.r1 (l0++[a])=A.f1 a:=eT _ _ _
  have X:A.r2 (l0++[a])=A.f2 a:=eT _ _ _
  rw [Z]at h1;rw [X]at h2;rw [A.box_app]at F
  have hg:gB A.sz A.enc (l0++[a])=some (.vec A.sz ((l0++[a]).map A.enc)):=by cases l0 <;> rfl
  rw [hg]at N
  obtain ⟨d1,d2,R⟩:=hd
  have hlt:=(List.getElem?_eq_some_iff.1 F).1
  have I:=(List.getElem?_eq_some_iff.1 h1).1
  have L:=(List.getElem?_eq_some_iff.1 h2).1
  refine ig h h1 (ig i2 (by rw [List.getElem?_set_ne R];exact h2) ?_)
  generalize o:(H.set h (n1,gF A.s1 A.e1 (A.f1 a))).set i2 (n2,gF A.s2 A.e2 (A.f2 a))=H2
  have g1:H2[h]? = some (n1,gF A.s1 A.e1 (A.f1 a)):=by rw [<- o,List.getElem?_set_ne R.symm,List.getElem?_set_self I]
  have g2:H2[i2]? = some (n2,gF A.s2 A.e2 (A.f2 a)):=by rw [<- o,List.getElem?_set_self (by simpa using L)]
  have g0:H2[i]? = some (n,some (.cells A.sz ((l0.flatMap A.enc).map .d++A.lst n1 n2 a))):=by rw [<- o,List.getElem?_set_ne d2.symm,List.getElem?_set_ne d1.symm];exact F
  have J:wH C c Q sl (((H2.set i (n,some (.vec A.sz ((l0++[a]).map A.enc)))))):=by
   have k1:(H2.set i (n,some (Box.vec A.sz ((l0++[a]).map A.enc))))[h]? = some (n1,gF A.s1 A.e1 (A.f1 a)):=by rw [List.getElem?_set_ne d1];exact g1
   have k2:((H2.set i (n,some (Box.vec A.sz ((l0++[a]).map A.enc)))).set h (n1,none))[i2]? = some (n2,gF A.s2 A.e2 (A.f2 a)):=by rw [List.getElem?_set_ne R,List.getElem?_set_ne d2];exact g2
   refine Bf k1 (Bf k2 ?_)
   have e:((H2.set i (n,some (Box.vec A.sz ((l0++[a]).map A.enc)))).set h (n1,none)).set i2 (n2,none)=((H.set h (n1,none)).set i2 (n2,none)).set i (n,some (.vec A.sz ((l0++[a]).map A.enc))):=by
    rw [<- o]
    refine List.ext_getElem? (λj => ?_)
    simp only [List.getElem?_set,List.length_set]
    by_cases a0:i=j <;> by_cases a1:h=j <;> by_cases a2:i2=j <;> simp_all
   rw [e];exact N
  refine oH (c:=c) J λS t O => ?_
  have hS0:=O.get g0
  have B:∀{α:Type} {enc:α->List D} {s:Nat} {m:Nm} {xs:List α} (k:Nat),H2[k]? = some (m,gF s enc xs)->co1 S (gV m s xs)=vL enc xs:=by
   intro α enc s m xs k hk
   cases xs with
   | nil=>rfl
   | cons x xs =>
    have hm:S m=some (.froz s ((x::xs).map enc)):=O.get hk
    show (match S m with
     | some (.froz W ys)=>bif Nat.beq s W&&Nat.ble (0+(x::xs).length) ys.length then V.d (.sl ((ys.drop 0).take (x::xs).length))else .vs m s 0 (x::xs).length
     | _ => .vs m s 0 (x::xs).length)=_
    rw [hm]
    have e1:Nat.beq s s=true:=Nat.beq_refl s
    have e2:Nat.ble (0+(x::xs).length) ((x::xs).map enc).length=true:=Nat.ble_eq_true_of_le (by simp)
    simp only [e1,e2,Bool.and_self,cond_true,List.drop_zero]
    rw [List.take_of_length_le (by simp)]
  have M:((l0.flatMap A.enc).map V.d++A.lst n1 n2 a).map (co1 S)=(((l0++[a]).map A.enc).flatten).map .d:=by
   rw [List.map_append,AlK.lst,A.co,B h g1,B i2 g2,A.lcd]
   simp [List.flatMap,Function.comp_def,co1]
  refine⟨_,(Gst.coB ⟨sl,S,t⟩ n A.sz _ hS0).trans (Gst.c2v _ n A.sz ((l0++[a]).map A.enc) ?_ ?_),?_⟩
  ·show supd S n _ n=_
   simp only [supd,if_true]
   rw [M]
  ·intro x Y
   obtain ⟨y,_,rfl⟩:=List.mem_map.1 Y
   exact A.len y
  ·have a1:=O.set g0 (b:=some (.vec A.sz ((l0++[a]).map A.enc))) (b':=some (.vec A.sz ((l0++[a]).map A.enc))) (λx Y=>Y)
   have e:supd (supd S n (some (.cells A.sz (((l0.flatMap A.enc).map V.d++A.lst n1 n2 a).map (co1 S))))) n (some (.vec A.sz ((l0++[a]).map A.enc)))=supd S n (some (.vec A.sz ((l0++[a]).map A.enc))):=by
    funext m;simp only [supd];split <;> rfl
   rw [e];exact a1
theorem wH_alC (A:AlK) {l:List A.A} {a:A.A} {n:Nm} (M O:Nm) (i:Nat) (J:H[i]? = some (n,some (.vec A.sz (l.map A.enc++[A.encN a])))) (h1:A.f1 a=[]) (h2:A.f2 a=[]) {l':List A.A} (o:jE l [a]=some l')
  (I:wH C c Q sl (H.set i (n,A.box l' M O))):wH C c Q sl H:=by
 obtain rfl:l++[a]=l':=by
  unfold jE at o
  split at o
  ·exact Option.some.inj o
  ·cases o
 rw [A.box_app,AlK.lst,h1,h2]at I
 refine oH (c:=c) I λS t F=>⟨_,.v2c _ n A.sz _ _ (F.get J) A.sz1 A.sz2 ?_,F.set J (λx L=>L)⟩
 have:(l.map A.enc++[A.encN a]).flatten.map V.d=(l.flatMap A.enc).map .d++(A.encN a).map .d:=by simp [List.flatMap]
 rw [this]
 have B:∀(p:List V) {a b:List V},NilD a b->NilD (p++a) (p++b):=by
  intro p
  induction p with
  | nil=>exact λh=>h
  | cons x p N=>exact λh => .same x (N h)
 exact B _ (A.nild a h1 h2)
theorem h_litN {len size:Nat} {parts:List (Nat×Operand)} (xs:List (List D)) (hT:(elemT C.P t).bind (szT C.P)=some size) (J:((elemT C.P t).bind (zeroCells C.P)).isSome=true)
  (I:ou size 0 (parts.map λp=>(p.1,Ra (ev sl p.2)))=some xs) (hl:Nat.beq parts.length len=true) (F:Nat.ble (len*size) 16777216=true) (M:Nat.beq len 0=false)
  (L:aL all sl ⟨some d,.buildSlice t len parts.toArray,ty,pos,after,g⟩=some true) (h:aR q C all K rest (upd sl d (.d (.sl xs))) H) (O:C.vm.contains (d+100000)=true:=by rfl):aR q C all K (⟨some d,.buildSlice t len parts.toArray,ty,pos,after,g⟩::rest) sl H :=
 mM L (λS tk R _ N=>jK (A:=⟨[],[],.d (.sl xs)⟩) (λc e=>by cases e) (by
  show (bif C.vm.contains (d+100000)then KQ C t len (parts.toArray.toList.map λp=>(p.1,ev sl p.2)) d tk else _)=_
  have o:Nat.beq ((parts.map λp=>(p.1,ev sl p.2)).map λp=>(p.1,Ra p.2)).length len=true:=by rw [List.length_map,List.length_map];exact hl
  have B:ou size 0 ((parts.map λp=>(p.1,ev sl p.2)).map λp=>(p.1,Ra p.2))=some xs:=by rw [List.map_map];exact I
  rw [O,cond_true,List.toList_toArray]
  simp only [KQ,kv,hT,B,o,F,J,M,Bool.and_self,cond_true,cond_false,fq]) (N _ rfl rfl rfl)) h
theorem NT {α β:Type} {n:Nm} {sz:Nat} {xs:List α} {ys:List β} (h:xs.length=ys.length):gV n sz xs=gV n sz ys:=by
 cases xs <;> cases ys
 ·rfl
 ·simp at h
 ·simp at h
 ·simp only [gV,h]
theorem h_apal (A:AlK) {l l':List A.A} {a:A.A} {x y:Operand} {t' e e':TypeId} {sz bytes i:Nat} {n:Nm} {z:List V} (hsz:A.sz=sz) (p:Nat) (N:q=none\/Nat.beq all.length (p+(rest.length+1))=true) (hf:∀S tk,AgR H S tk (⟨some d,.call ⟨.builtin .append,#[x,y],#[t,t']⟩,ty,pos,after,g⟩::rest)->okQ q all p [n] true) (he:elemT C.P t=some e) (I:elemT C.P t'=some e') (hs:szT C.P e=some sz) (Y:zeroCells C.P e=some z) (J:z.length=sz) (M:bytesT C.P e=bytes) (O:bytes<=100000)
  (X:ev sl x=gV n A.sz l) (R:H[i]? = some (n,gB A.sz A.enc l)) (W:ev sl y = .d (.sl [A.encN a])) (F:jE l [a]=some l')
  (Z:aL all sl ⟨some d,.call ⟨.builtin .append,#[x,y],#[t,t']⟩,ty,pos,after,g⟩=some true)
  (h:∀o:Nm,aR (mV q p [n,o] true) C all K rest (upd sl d (gV o A.sz l')) (H.set i (o,some (.vec A.sz (l.map A.enc++[A.encN a]))))):aR q C all K (⟨some d,.call ⟨.builtin .append,#[x,y],#[t,t']⟩,ty,pos,after,g⟩::rest) sl H:=by
 subst hsz
 have B:l.length+1<=1000000000/\l++[a]=l':=by
  unfold jE at F
  split at F
  ·rename_i L;exact⟨by simpa using L,Option.some.inj F⟩
  ·cases F
 refine kY (i:=i) (enc:=λs:A.A ⊕ A.A=>s.elim A.enc A.encN) (xs:=l.map .inl) (ys:=[.inr a]) (zs:=l.map .inl++[.inr a]) p N hf he I hs Y J (Nat.lt_trans Nat.zero_lt_one A.sz1) M O ?_ ?_ ?_ W ?_ Z ?_
 ·intro y
  cases y with
  | inl y=>exact A.len y
  | inr y=>exact A.lenN y
 ·rw [X];exact NT (List.length_map _).symm
 ·rw [R]
  cases l with
  | nil=>rfl
  | cons b l=>simp [gB,Function.comp_def]
 ·unfold jE
  rw [if_pos (by simpa using B.1)]
 ·intro o
  have e1:gV o A.sz (l.map Sum.inl++[Sum.inr a]:List (A.A ⊕ A.A))=gV o A.sz l':=by rw [<- B.2];exact NT (by simp)
  have e2:gB A.sz (λs:A.A ⊕ A.A=>s.elim A.enc A.encN) (l.map Sum.inl++[Sum.inr a])=some (.vec A.sz (l.map A.enc++[A.encN a])):=by
   cases l with
   | nil=>rfl
   | cons b l=>simp [gB,Function.comp_def]
  rw [e1,e2]
  exact h o
theorem cd_fn {f:Operand} {args:List Operand} {A:Array TypeId} {fn:FuncId} {caps:List V} (hf:ev sl f = .fn fn caps) (hb:aH C.P fn=true):∀S tk (o:Eff->Prop),(∃c:CallData,c.OK C.P fn (args.map (ev sl)++caps) S tk/\(some d=none->c.outs.length=c.ins.length)/\o (c.eff S d tk))->opD C ⟨some d,.call ⟨.value f,args.toArray,A⟩,ty,pos,after,g⟩ sl S tk o :=
 λS tk o h=>oD hf (.inl ⟨hb,h⟩)
theorem h_callY {f:Operand} {args:List Operand} {J:Array TypeId} {fn:FuncId} {A o:List V} {r:V} {Sin:List Box} {Sout:List (Option Box)} (is:List Nat) (m:Nat) {l:List (Nm×Box)} (hc:FnM C.P fn o Sin r Sout)
  (hcd:∀S tk (M:Eff->Prop),(∃c:CallData,c.OK C.P fn A S tk/\(some d=none->c.outs.length=c.ins.length)/\M (c.eff S d tk))->opD C ⟨some d,.call ⟨.value f,args.toArray,J⟩,ty,pos,after,g⟩ sl S tk M) (hl:gK H is=some l) (hS:Sin.map (λb=>b.ren (l.map (·.1)))=l.map (·.2)) (L:Sin.all (λb=>b.ok is.length)=true)
  (R:∀n∈A.flatMap frz,n∈l.map (·.1)) (ha:A=renL (l.map (·.1)) o) (hok:okL is.length o=true) (hr:okV Sout.length r=true)
  (N:Sout.length=is.length+m) (hi:is.Nodup) (hO:okOut Sout.length Sout=true) (Z:mutOut (Sout.drop is.length)=true)
  (hw:aL all sl ⟨some d,.call ⟨.value f,args.toArray,J⟩,ty,pos,after,g⟩=some true)
  (h:∀ν:Nat->Nm,aR none C all K rest (upd sl d (ren (l.map (·.1)++(List.range m).map ν) r))
   (setH H (outs (l.map (·.1)++(List.range m).map ν) is (l.map (·.1)) Sout)++news (l.map (·.1)++(List.range m).map ν) ((List.range m).map ν) (Sout.drop is.length))) :
  aR none C all K (⟨some d,.call ⟨.value f,args.toArray,J⟩,ty,pos,after,g⟩::rest) sl H:=by
 obtain ⟨F,O⟩:=kS hl
 have I:Sin.length=l.length:=by have:=congrArg List.length hS;simpa using this
 refine JI hw (λS tk M ok X hk=>hcd S tk M ?_)
 have h:=h (λj=>(d+100000*j,tk))
 have W:=sF X hi hl
 have same:∀vs:List V,ArgsOK S vs vs:=by
  intro vs
  induction vs with
  | nil=>exact .nil
  | cons v vs ih=>exact .cons (.inl rfl) ih
 refine⟨⟨[],l.map (·.1),o,Sin,r,Sout,false⟩,?_,(λe=>by cases e),?_⟩
 ·refine⟨hc,?_,?_,W,?_,?_,hr,hO,?_,(λn R=>nomatch R),(λn h' => .inr (R n h')),(λn _ R=>nomatch R),(λe=>by cases e)⟩
  ·show ArgsOK S A _
   rw [ha];exact same _
  ·simp only [List.length_map,F];exact hok
  ·refine rY (by simp [I]) (λj h1 h2=>⟨?_,?_⟩)
   ·simp only [List.length_map,F]
    exact List.all_eq_true.1 L _ (List.getElem_mem h2)
   ·simp only [List.length_map]at h1
    have e:=O j (by omega) h1
    have e2:l[j].2=Sin[j].ren (l.map (·.1)):=by
     have:=congrArg (λx=>x[j]?) hS
     simp only [List.getElem?_map,List.getElem?_eq_getElem h2,List.getElem?_eq_getElem h1,Option.map_some,so_]at this
     exact this.symm
    simp only [List.getElem_map]
    show S l[j].1=_
    rw [X.get e,e2]
  ·show Sin.length<=Sout.length
   rw [I,N,F];omega
  ·show mutOut (List.drop Sin.length Sout)=true
   rw [I,F];exact Z
 ·have Y:Sout.length-Sin.length=m:=by omega
  have e1:CallData.eff ⟨[],l.map (·.1),o,Sin,r,Sout,false⟩ S d tk=⟨((l.map (·.1)).zip Sin).map (λp=>(p.1,p.2.ren (l.map (·.1)))),bT (l.map (·.1)++ja d tk m) (l.map (·.1)++ja d tk m) Sout,ren (l.map (·.1)++ja d tk m) r⟩:=by
   simp only [CallData.eff,cond_false,CallData.names,Y,dZ,d9,List.nil_append]
  show M (CallData.eff _ S d tk)
  rw [e1]
  refine hk _ _ ?_ h
  have e2:(List.range m).map (λj=>(d+100000*j,tk))=ja d tk m:=rfl
  rw [e2]
  show AgR _ (dn S (bT _ (l.map (·.1)++ja d tk m) Sout)) tk rest
  rw [wJ,tN]
  have e3:(l.map (·.1)).length=is.length:=by simp [F]
  rw [e3]
  have B:=yj (ν:=l.map (·.1)++ja d tk m) X hi W (bs:=Sout) (λj h1 h2=>by
   simp only [List.length_map]at h2
   exact⟨_,by simp only [List.getElem_map];exact O j h1 h2⟩)
  rw [List.take_of_length_le (by omega)]at B
  have e4:ja d tk m=(List.range' 0 m).map λj=>(d+100000*j,tk):=by rw [<- e2,BP]
  rw [e4]at B ⊢
  exact AgR.news ok rfl m 0 ⟨B.nd,B.pos⟩ (λp hp=>⟨.inl (B.at_ p hp).1,(B.at_ p hp).2⟩)
end
namespace AlK
variable (K:AlK)
def exA (b:Nat) (l:List K.A):Nm:=match K.r1 l with
 | []=>au (b+5)
 | _::_=>au (b+1)
def exB (b:Nat) (l:List K.A):Nm:=match K.r1 l with
 | []=>au (b+1)
 | _::_=>au (b+2)
def hp (n0 n1 n2:Nm) (l:List K.A):Hp:=[(n0,K.box l n1 n2),(n1,gB K.s1 K.e1 (K.r1 l)),(n2,gB K.s2 K.e2 (K.r2 l))]
def ins (b:Nat) (l:List K.A):List Box:=match K.box l (K.exA b l) (K.exB b l)with
 | none=>[]
 | some bx=>bx::(gI K.s1 K.e1 (K.r1 l)++gI K.s2 K.e2 (K.r2 l))
def nms {β:Type} (l:List K.A) (n0 n1 n2:β):List β:=match l with
 | []=>[]
 | _::_=>n0::((match K.r1 l with
  | []=>[]
  | _::_=>[n1])++match K.r2 l with
  | []=>[]
  | _::_=>[n2])
theorem nms_len {β:Type} (l:List K.A) (b:Nat) (n0 n1 n2:β):(K.nms l n0 n1 n2).length=(K.ins b l).length:=by
 cases l with
 | nil=>rfl
 | cons x l =>
  simp only [nms,ins,box,List.length_cons,List.length_append]
  congr 1
  congr 1
  ·cases K.r1 (x::l) <;> rfl
  ·cases K.r2 (x::l) <;> rfl
theorem nms_mem {β:Type} {l:List K.A} {n0 n1 n2 x:β} (h:x∈K.nms l n0 n1 n2):x=n0\/x=n1\/x=n2:=by
 cases l with
 | nil=>cases h
 | cons y l =>
  simp only [nms]at h
  cases h1:K.r1 (y::l) <;> cases h2:K.r2 (y::l) <;> simp only [h1,h2,List.nil_append,List.append_nil,List.cons_append,List.mem_cons,List.not_mem_nil,or_false]at h
  ·exact .inl h
  ·rcases h with h|h
   ·exact .inl h
   ·exact .inr (.inr h)
  ·rcases h with h|h
   ·exact .inl h
   ·exact .inr (.inl h)
  ·exact h
theorem nms_nodup {β:Type} {l:List K.A} {n0 n1 n2:β} (h1:n0≠n1) (h2:n0≠n2) (h:n1≠n2):(K.nms l n0 n1 n2).Nodup:=by
 cases l with
 | nil=>exact List.nodup_nil
 | cons y l =>
  simp only [nms]
  cases K.r1 (y::l) <;> cases K.r2 (y::l) <;> simp [h1,h2,h]
theorem ins_ren {b:Nat} {l:List K.A} {ρ p:List Nm} {n0 n1 n2:Nm} (hb:p.length=b) (L:ρ=p++K.nms l n0 n1 n2) :
  Eng.ren ρ (gV (au b) K.sz l)=gV n0 K.sz l/\(K.ins b l).map (λx=>x.ren ρ)=((K.hp n0 n1 n2 l).filterMap (·.2))/\(K.ins b l).all (λx=>x.ok (b+(K.ins b l).length))=true:=by
 rcases List.eq_nil_or_concat l with rfl|⟨l0,a,rfl⟩
 ·exact⟨rfl,rfl,rfl⟩
 ·rw [List.concat_eq_append]at *
  have N:∃x l',l0++[a]=x::l':=by cases l0 <;> exact⟨_,_,rfl⟩
  have e1:K.r1 (l0++[a])=K.f1 a:=eT _ _ _
  have e2:K.r2 (l0++[a])=K.f2 a:=eT _ _ _
  have B:K.nms (l0++[a]) n0 n1 n2=n0::((match K.f1 a with
   | []=>[]
   | _::_=>[n1])++match K.f2 a with
   | []=>[]
   | _::_=>[n2]):=by
   rw [<- e1,<- e2]
   obtain ⟨x,l',e⟩:=N
   rw [e];rfl
  have R:ρ[b]? = some n0:=by rw [L,List.getElem?_append_right (by omega),hb,Nat.sub_self,B];rfl
  have F:∀s:List D,renL ρ (s.map .d)=s.map .d:=by
   intro s
   induction s with
   | nil=>rfl
   | cons x s o=>simp only [List.map_cons,renL,o,Eng.ren]
  have h:∀(k:Nat) (s:List D),okL k (s.map .d)=true:=by
   intro k s
   induction s with
   | nil=>rfl
   | cons x s o=>simp only [List.map_cons,okL,o,okV,Bool.and_self]
  have J:∀u v:List V,renL ρ (u++v)=renL ρ u++renL ρ v:=by
   intro u v
   induction u with
   | nil=>rfl
   | cons x u o=>simp only [List.cons_append,renL,o]
  have I:∀(k:Nat) (u v:List V),okL k u=true->okL k v=true->okL k (u++v)=true:=by
   intro k u v M X
   induction u with
   | nil=>exact X
   | cons x u o=>simp only [List.cons_append,okL,Bool.and_eq_true]at M ⊢;exact⟨M.1,o M.2⟩
  have O:(Box.cells K.sz ((l0.flatMap K.enc).map .d++K.lst (K.exA b (l0++[a])) (K.exB b (l0++[a])) a)).ren ρ = .cells K.sz ((l0.flatMap K.enc).map .d++K.lst n1 n2 a):=by
   show Box.cells K.sz (renL ρ _)=_
   rw [J,F,lst,K.ren,I9,I9]
   simp only [exA,exB,e1]
   cases h1:K.f1 a with
   | nil =>
    cases h2:K.f2 a with
    | nil=>simp [lst,h1,h2,gV]
    | cons y ys =>
     rw [h1,h2]at B
     have:ρ[b+1]? = some n2:=by rw [L,List.getElem?_append_right (by omega),B];rw [show b+1-p.length=1 by omega];rfl
     rw [qU this]
     simp [lst,h1,h2,gV]
   | cons x xs =>
    rw [h1]at B
    have W:ρ[b+1]? = some n1:=by rw [L,List.getElem?_append_right (by omega),B];rw [show b+1-p.length=1 by omega];rfl
    rw [qU W]
    cases h2:K.f2 a with
    | nil=>simp [lst,h1,h2,gV]
    | cons y ys =>
     rw [h2]at B
     have t2:ρ[b+2]? = some n2:=by rw [L,List.getElem?_append_right (by omega),B];rw [show b+2-p.length=2 by omega];rfl
     rw [qU t2]
     simp [lst,h1,h2]
  refine⟨by rw [I9,qU R],?_,?_⟩
  ·simp only [ins,hp,K.box_app,e1,e2]
   simp only [List.map_cons,List.map_append,O,List.filterMap_cons,List.filterMap_nil]
   cases h1:K.f1 a <;> cases h2:K.f2 a <;> rfl
  ·have hl:(K.ins b (l0++[a])).length=1+((gI K.s1 K.e1 (K.f1 a)).length+(gI K.s2 K.e2 (K.f2 a)).length):=by
    simp only [ins,K.box_app,e1,e2,List.length_cons,List.length_append];omega
   rw [hl]
   simp only [ins,K.box_app,e1,e2,List.all_cons,List.all_append,Bool.and_eq_true]
   refine⟨I _ _ _ (h _ _) (K.ok _ _ _ _ ?_ ?_),?_,?_⟩
   ·simp only [exA,e1]
    cases h1:K.f1 a with
    | nil=>rfl
    | cons x xs=>exact zZ (by simp [gI];omega) _
   ·simp only [exB,e1]
    cases h2:K.f2 a with
    | nil=>rfl
    | cons y ys =>
     cases h1:K.f1 a with
     | nil=>exact zZ (by simp [gI]) _
     | cons x xs=>exact zZ (by simp [gI]) _
   ·cases K.f1 a <;> rfl
   ·cases K.f2 a <;> rfl
end AlK
section
variable {C:Cfg} {sl:Nat->V} {H:Hp} {q:Qm} {all rest:List Oper} {K:(Nat->V)->Hp->Prop} {Q:QH} {c:Code}
theorem Qz {rs:List ResultVar} {b m k:Nat} {r:V} {o A:List Box} {ns:List Nm} {jt:List Nat} {vs:List V} {e:Exit} (he:e = .normal\/e = .ret) (W:Dv C sl H rs vs) (hk:k=b+m) (hb:o.length=b)
  (hv:yO vs=ren ((List.range k).map au++ns) r) (hok:okV (k+A.length) r=true) (N:H.take b=kM 0 (o.map (λx=>x.ren ((List.range k).map au++ns)))) (hbo:o.all (λx=>x.ok (k+A.length))=true)
  (R:zS H ((List.range k).map au++ns) jt ns (A.map some)) (Y:A.all (λx=>x.ok (k+A.length))=true) (hjt:jt.Nodup) (M:∀j∈jt,b<=j) :
  finR C rs k r (o.map some++List.replicate m none++A.map some) e sl H:=by
 obtain ⟨l1,l2⟩:=Ao R
 have l3:ns.length=A.length:=by simpa using l2
 have L:(o.map some++List.replicate m (none:Option Box)++A.map some).length=k+A.length:=by simp [hb,hk];omega
 generalize hρ:(List.range k).map au++ns=ρ at *
 have hρl:ρ.length=k+A.length:=by rw [<- hρ];simp [l3]
 have O:∀i,i<k->ρ[i]? = some (au i):=λi hi=>by rw [<- hρ,List.getElem?_append_left (by simpa using hi),List.getElem?_map,List.getElem?_range hi];rfl
 have key:∀(i:Nat) (bx:Box),(o.map some++List.replicate m none++A.map some)[i]? = some (some bx)->(∃h:i<b,bx=o[i]'(by omega))\/∃(d:Nat) (h:d<A.length),i=k+d/\bx=A[d]:=by
  intro i bx B
  by_cases h1:i<b
  ·rw [List.append_assoc,List.getElem?_append_left (by simpa [hb]using h1),List.getElem?_map,List.getElem?_eq_getElem (by omega)]at B
   simp only [Option.map_some,so_]at B
   exact .inl ⟨h1,B.symm⟩
  ·by_cases h2:i<k
   ·rw [List.getElem?_append_left (by simp;omega),List.getElem?_append_right (by simp;omega),List.getElem?_replicate]at B
    split at B <;> cases B
   ·rw [List.getElem?_append_right (by simp;omega)]at B
    have e1:i-(o.map some++List.replicate m (none:Option Box)).length=i-k:=by simp [hb,hk]
    rw [e1,List.getElem?_map]at B
    obtain ⟨y,hy,Z⟩:=Option.map_eq_some_iff.1 B
    obtain ⟨h3,h4⟩:=List.getElem?_eq_some_iff.1 hy
    exact .inr ⟨i-k,h3,by omega,by rw [h4];exact (Option.some.inj Z).symm⟩
 have I:∀i,i<b->(List.range b++List.replicate m 0++jt)[i]? = some i:=λi hi=>by
  rw [List.append_assoc,List.getElem?_append_left (by simpa using hi),List.getElem?_range hi]
 have F:∀d (h:d<jt.length),(List.range b++List.replicate m 0++jt)[k+d]? = some jt[d]:=λd h=>by
  rw [List.getElem?_append_right (by simp;omega)]
  have:k+d-(List.range b++List.replicate m 0).length=d:=by simp;omega
  rw [this,List.getElem?_eq_getElem h]
 refine⟨he,vs,ρ,List.range b++List.replicate m 0++jt,W,hv,by rw [L];exact hok,by rw [hρl,L],O,λi bx B => ?_,λi i' j bx bx' B X hj J => ?_⟩
 ·rw [L]
  rcases key i bx B with⟨h,rfl⟩|⟨d,h,rfl,rfl⟩
  ·refine⟨List.all_eq_true.1 hbo _ (List.getElem_mem _),au i,i,O i (by omega),I i h,?_⟩
   have:=pq (o.map (λx=>x.ren ρ)) 0 i (by simp;omega)
   rw [Nat.zero_add,<- N,List.getElem?_take,if_pos h]at this
   rw [this];simp
  ·refine⟨List.all_eq_true.1 Y _ (List.getElem_mem _),ns[d]'(by omega),jt[d]'(by omega),?_,F d (by omega),?_⟩
   ·rw [<- hρ,List.getElem?_append_right (by simp)]
    simp
   ·have:=xP R d (by omega) (by omega) (by simpa using h)
    rw [this];simp
 ·rcases key i bx B with⟨h,_⟩|⟨d,h,rfl,_⟩ <;> rcases key i' bx' X with⟨h',_⟩|⟨d',h',rfl,_⟩
  ·rw [I i h,so_]at hj
   rw [I i' h',so_]at J
   omega
  ·rw [I i h,so_]at hj
   rw [F d' (by omega),so_]at J
   have:=M _ (List.getElem_mem (show d'<jt.length by omega))
   omega
  ·rw [F d (by omega),so_]at hj
   rw [I i' h',so_]at J
   have:=M _ (List.getElem_mem (show d<jt.length by omega))
   omega
  ·rw [F d (by omega),so_]at hj
   rw [F d' (by omega),so_]at J
   have:=iY hjt d d' (by omega) (by omega) (by rw [hj,J])
   omega
def finAL (A:AlK) (C:Cfg) (I:List ResultVar) (b:Nat) (F:V->List Box) (l':List A.A) (r:V->V):QH:=λe sl H=>(e = .normal\/e = .ret) /\
 ∃(vs:List V) (n0 n1 n2:Nm) (h o B:Nat),Dv C sl H I vs/\yO vs=r (gV n0 A.sz l')/\H.take b=kM 0 (F (gV n0 A.sz l'))/\H[h]? = some (n0,A.box l' n1 n2)/\H[o]? = some (n1,gB A.s1 A.e1 (A.r1 l'))/\H[B]? = some (n2,gB A.s2 A.e2 (A.r2 l')) /\
  (b<=h/\b<=o/\b<=B)/\h≠o/\h≠B/\o≠B
theorem outL_al (A:AlK) {k:Nat} {l:List A.A} {ρ p:List Nm} {n0 n1 n2:Nm} {o I J:Nat} (hb:p.length=k) (L:ρ=p++A.nms l n0 n1 n2)
  (F:H[o]? = some (n0,A.box l n1 n2)) (h1:H[I]? = some (n1,gB A.s1 A.e1 (A.r1 l))) (h2:H[J]? = some (n2,gB A.s2 A.e2 (A.r2 l))):zS H ρ (A.nms l o I J) (A.nms l n0 n1 n2) ((A.ins k l).map some):=by
 obtain ⟨_,h,_⟩:=A.ins_ren hb L
 cases l with
 | nil=>trivial
 | cons y l =>
  have B:A.box (y::l) n1 n2=some (.cells A.sz (A.cells (y::l) n1 n2)):=rfl
  have e1:A.ins k (y::l) = .cells A.sz (A.cells (y::l) (A.exA k (y::l)) (A.exB k (y::l)))::(gI A.s1 A.e1 (A.r1 (y::l))++gI A.s2 A.e2 (A.r2 (y::l))):=rfl
  rw [e1]at h ⊢
  simp only [AlK.hp,B,List.map_cons,List.filterMap_cons]at h
  rw [List.cons.injEq]at h
  rw [B]at F
  simp only [AlK.nms,List.map_cons]
  refine⟨by rw [F,<- h.1];rfl,?_⟩
  cases g1:A.r1 (y::l) <;> cases g2:A.r2 (y::l) <;> rw [g1]at h1 <;> rw [g2]at h2
  ·trivial
  ·exact⟨h2,trivial⟩
  ·exact⟨h1,trivial⟩
  ·exact⟨h1,h2,trivial⟩
theorem PI (A:AlK) {O:List ResultVar} {b m k:Nat} {o:V->List Box} {l':List A.A} {r:V->V} (hk:k=b+m) (hr:∀ρ v,ren ρ (r v)=r (ren ρ v)) (B:∀k v,okV k v=true->okV k (r v)=true)
  (I:∀v,(o v).length=b) (M:∀ρ v,(o v).map (λx=>x.ren ρ)=o (ren ρ v)) (J:∀k v,okV k v=true->(o v).all (λx=>x.ok k)=true) {e:Exit} (h:finAL A C O b o l' r e sl H) :
  finR C O k (r (gV (au k) A.sz l')) ((o (gV (au k) A.sz l')).map some++List.replicate m none++(A.ins k l').map some) e sl H:=by
 obtain ⟨he,vs,n0,n1,n2,X,Y,j2,f1,f2,f3,f4,Z,f6,F,f8,W,L⟩:=h
 have hp:((List.range k).map au).length=k:=by simp
 obtain ⟨R,k2,k3⟩:=A.ins_ren (l:=l') (n0:=n0) (n1:=n1) (n2:=n2) hp rfl
 have N:okV (k+(A.ins k l').length) (gV (au k) A.sz l')=true:=by
  cases l' with
  | nil=>rfl
  | cons y l=>exact zZ (by simp [AlK.ins,AlK.box]) _
 refine Qz (ns:=A.nms l' n0 n1 n2) (jt:=A.nms l' X Y j2) he f1 hk (I _) (by rw [hr,R];exact f2) (B _ _ N) (by rw [M,R];exact f3) (J _ _ N) (outL_al A hp rfl f4 Z f6) k3 (A.nms_nodup f8 W L) (λj hj => ?_)
 rcases A.nms_mem hj with rfl|rfl|rfl
 ·exact F.1
 ·exact F.2.1
 ·exact F.2.2
end
def QR (A:AlK) (P:Program) (f:FuncId) (args:List V) (bs:List Box) (h:V->List Box) (l l':List A.A) (r:V->V):Prop :=
 FnM P f args (bs++A.ins bs.length l) (r (gV (au (bs.length+(A.ins bs.length l).length)) A.sz l'))
  ((h (gV (au (bs.length+(A.ins bs.length l).length)) A.sz l')).map some++List.replicate (A.ins bs.length l).length none++(A.ins (bs.length+(A.ins bs.length l).length) l').map some)
theorem FnM.of_wHal (A:AlK) {P:Program} {f:FuncId} {fn:Func} {body:Code} (C:Cfg) (hP:C.P=P) (hf:P.funcs[f]? = some fn) (hb:fn.body=some body) (hn:C.n=fn.ntmps)
  {args:List V} {bs:List Box} {B:V->List Box} {l l':List A.A} {r:V->V} (hl:args.length<=fn.ntmps) (R:nL C body=true)
  (hr:∀ρ v,ren ρ (r v)=r (ren ρ v)) (O:∀k v,okV k v=true->okV k (r v)=true)
  (W:∀v,(B v).length=bs.length) (hbr:∀ρ v,(B v).map (λx=>x.ren ρ)=B (ren ρ v)) (X:∀k v,okV k v=true->(B v).all (λx=>x.ok k)=true)
  (h:wH C body (finAL A C fn.results.toList bs.length B l' r) (CB args) (kM 0 bs++A.hp (au bs.length) (A.exA bs.length l) (A.exB bs.length l) l)) :
  QR A P f args bs B l l' r:=by
 unfold QR
 refine FnM.of_wHr (H0:=kM 0 bs++A.hp (au bs.length) (A.exA bs.length l) (A.exB bs.length l) l) C hP hf hb hn hl R ?_ ?_
 ·have J:∀{a b:Nat},a≠b->au a≠au b:=λh e=>h (Ei e)
  have N:∀p∈kM 0 bs,∃j b,j<bs.length/\p=(au j,some b)/\bs[j]? = some b:=λp hp=>by
   obtain ⟨j,b,h1,h2⟩:=rD hp
   exact⟨j,b,(List.getElem?_eq_some_iff.1 h2).1,by rw [h1,Nat.zero_add],h2⟩
  have Y:((kM 0 bs).map (·.1))=(List.range bs.length).map au:=by
   refine List.ext_getElem? (λi => ?_)
   by_cases hi:i<bs.length
   ·have:=pq bs 0 i hi
    rw [List.getElem?_map,this,List.getElem?_map,List.getElem?_range hi];simp
   ·have F:∀(bs:List Box) (i:Nat),(kM i bs).length=bs.length:=by
     intro bs
     induction bs with
     | nil=>exact λ_=>rfl
     | cons b bs ih=>exact λi=>by simp [kM,ih]
    rw [List.getElem?_eq_none (by rw [List.length_map,F];omega),List.getElem?_eq_none (by simp;omega)]
  have hxa:A.exA bs.length l=au (bs.length+5)\/A.exA bs.length l=au (bs.length+1):=by
   unfold AlK.exA;cases A.r1 l <;> simp
  refine⟨Nat.one_pos,?_,λp hp => ?_⟩
  ·rw [List.map_append,Y]
   have I:A.exA bs.length l=au (bs.length+5)/\A.exB bs.length l=au (bs.length+1)\/A.exA bs.length l=au (bs.length+1)/\A.exB bs.length l=au (bs.length+2):=by
    unfold AlK.exA AlK.exB;cases A.r1 l <;> simp
   rw [List.nodup_append]
   refine⟨?_,?_,?_⟩
   ·rw [List.nodup_iff_pairwise_ne,List.pairwise_map]
    exact List.nodup_range.imp (λ{a b} I e=>I (Ei e))
   ·rcases I with⟨M,a2⟩|⟨M,a2⟩ <;> simp only [AlK.hp,List.map_cons,List.map_nil,M,a2,List.nodup_cons,List.mem_cons,List.not_mem_nil,or_false,not_or,List.nodup_nil,and_true,not_false_eq_true] <;> refine⟨⟨J (by omega),J (by omega)⟩,J (by omega)⟩
   ·intro x o y hy
    obtain ⟨i,hi,rfl⟩:=List.mem_map.1 o
    rw [List.mem_range]at hi
    rcases I with⟨M,a2⟩|⟨M,a2⟩ <;> simp only [AlK.hp,List.map_cons,List.map_nil,M,a2,List.mem_cons,List.not_mem_nil,or_false]at hy <;> rcases hy with rfl|rfl|rfl <;> exact J (by omega)
  ·rcases List.mem_append.1 hp with hp|hp
   ·obtain ⟨j,b,h1,rfl,h2⟩:=N p hp
    refine⟨Nat.one_pos,λx o => ?_⟩
    rw [jM,List.getElem?_append_left h1];exact h2.trans (congrArg some (Option.some.inj o))
   ·cases l with
    | nil =>
     simp only [AlK.hp,List.mem_cons,List.not_mem_nil,or_false]at hp
     rcases hp with rfl|rfl|rfl
     ·exact⟨Nat.one_pos,λx o=>by cases o⟩
     ·exact⟨Nat.one_pos,λx o=>by cases o⟩
     ·exact⟨Nat.one_pos,λx o=>by cases o⟩
    | cons y l =>
     have e1:A.ins bs.length (y::l) = .cells A.sz (A.cells (y::l) (A.exA bs.length (y::l)) (A.exB bs.length (y::l)))::(gI A.s1 A.e1 (A.r1 (y::l))++gI A.s2 A.e2 (A.r2 (y::l))):=rfl
     have L:∀i,cB (bs++A.ins bs.length (y::l)) (au (bs.length+i))=(A.ins bs.length (y::l))[i]? := λi=>by
      rw [jM,List.getElem?_append_right (by omega)];congr 1;omega
     have Z:=L 0
     rw [Nat.add_zero]at Z
     simp only [AlK.hp,List.mem_cons,List.not_mem_nil,or_false]at hp
     rw [e1]at L Z
     rw [e1]
     rcases hp with rfl|rfl|rfl
     ·exact⟨Nat.one_pos,λx o=>Z.trans o⟩
     ·unfold AlK.exA
      cases g1:A.r1 (y::l)with
      | nil=>exact⟨Nat.one_pos,λx o=>by cases o⟩
      | cons z zs =>
       refine⟨Nat.one_pos,λx o => ?_⟩
       have:=L 1
       rw [g1]at this
       simp only [AlK.exA,AlK.exB,g1]at this ⊢
       exact this.trans o
     ·unfold AlK.exB
      cases g2:A.r2 (y::l)with
      | nil=>exact⟨by cases A.r1 (y::l) <;> exact Nat.one_pos,λx o=>by cases o⟩
      | cons z zs =>
       cases g1:A.r1 (y::l)with
       | nil =>
        refine⟨Nat.one_pos,λx o => ?_⟩
        have:=L 1
        rw [g1,g2]at this
        simp only [AlK.exA,AlK.exB,g1]at this ⊢
        exact this.trans o
       | cons w ws =>
        refine⟨Nat.one_pos,λx o => ?_⟩
        have:=L 2
        rw [g1,g2]at this
        simp only [AlK.exA,AlK.exB,g1]at this ⊢
        exact this.trans o
 ·have F:(bs++A.ins bs.length l).length=bs.length+(A.ins bs.length l).length:=by simp
  rw [F]
  exact IC (λe sl H h=>PI A rfl hr O W hbr X h) h
section
variable {C:Cfg} {sl:Nat->V} {H:Hp} {q:Qm} {all rest:List Oper} {K:(Nat->V)->Hp->Prop} {Q:QH} {c:Code}
variable {dst:Option Tmp} {d:Nat} {t ty:TypeId} {pos:String} {after:Array Edge} {g:Option (Nat×Bool)}
def wZ (H:Hp):List Nat->List Nm->List Box->Hp
 | i::is,n::ns,b::bs=>wZ (H.set i (n,some b)) is ns bs
 | _,_,_=>H
theorem Be:∀{is:List Nat} {ns:List Nm} {bs:List Box} {H:Hp} {i:Nat},i∉is->(wZ H is ns bs)[i]? = H[i]?
 | [],_,_,_,_,_=>by simp [wZ]
 | _::_,[],_,_,_,_=>by simp [wZ]
 | _::_,_::_,[],_,_,_=>by simp [wZ]
 | j::is,n::ns,b::bs,H,i,h=>by
  simp only [List.mem_cons,not_or]at h
  simp only [wZ]
  rw [Be h.2,List.getElem?_set_ne (λe=>h.1 e.symm)]
theorem En:∀{a b:List Nat} {x y:List (Nm×Box)},gK H a=some x->gK H b=some y->gK H (a++b)=some (x++y)
 | [],_,x,y,h1,h2=>by simp only [gK,so_]at h1;subst h1;exact h2
 | i::a,b,x,y,h1,h2=>by
  simp only [gK]at h1
  split at h1
  ·rename_i n bx l' g1 h
   simp only [so_]at h1
   subst h1
   simp only [List.cons_append,gK,g1,En h h2]
  ·cases h1
theorem Ih {ν:List Nm}:∀{is A:List Nat} {ns o:List Nm} {xs ys:List (Option Box)},is.length=ns.length->ns.length=xs.length->outs ν (is++A) (ns++o) (xs++ys)=outs ν is ns xs++outs ν A o ys
 | [],_,[],_,[],_,_,_=>rfl
 | i::is,_,n::ns,_,x::xs,_,h1,h2=>by
  simp only [List.cons_append,outs]
  rw [Ih (by simpa using h1) (by simpa using h2)]
 | [],_,_::_,_,_,_,h,_=>by simp at h
 | _::_,_,[],_,_,_,h,_=>by simp at h
 | [],_,[],_,_::_,_,_,h=>by simp at h
 | _::_,_,_::_,_,[],_,_,h=>by simp at h
theorem GD {ν:List Nm}:∀{is:List Nat} {ns:List Nm} {bs:List Box} {H:Hp},setH H (outs ν is ns (bs.map some))=wZ H is ns (bs.map (λx=>x.ren ν))
 | [],_,_,_=>by simp [outs,wZ,setH]
 | _::_,[],_,_=>by simp [outs,wZ,setH]
 | _::_,_::_,[],_=>by simp [outs,wZ,setH]
 | i::is,n::ns,b::bs,H=>by
  simp only [List.map_cons,outs,setH,wZ,Option.map_some]
  exact GD
theorem vE:∀{k:Nat} {a b:List (Option Box)},okOut k a=true->okOut k b=true->okOut k (a++b)=true
 | k,[],b,_,h=>h
 | k,none::a,b,h1,h2=>vE (a:=a) h1 h2
 | k,some x::a,b,h1,h2=>by
  simp only [okOut,Bool.and_eq_true]at h1
  simp only [List.cons_append,okOut,Bool.and_eq_true]
  exact⟨h1.1,vE h1.2 h2⟩
theorem Cj {k:Nat}:∀{bs:List Box},bs.all (λx=>x.ok k)=true->okOut k (bs.map some)=true
 | [],_=>rfl
 | b::bs,h=>by
  simp only [List.all_cons,Bool.and_eq_true]at h
  simp only [List.map_cons,okOut,Bool.and_eq_true]
  exact⟨h.1,Cj h.2⟩
theorem Ev {k:Nat}:∀m:Nat,okOut k (List.replicate m none)=true
 | 0=>rfl
 | m+1=>Ev m
theorem Rp (A:AlK) {f:Operand} {args:List Operand} {ats:Array TypeId} {fn:FuncId} {W L:List V} {bs:List Box} {o:V->List Box} {l l':List A.A} {r:V->V} (M:List Nat) {B:List (Nm×Box)} {n0 n1 n2:Nm} (i0 J i2:Nat)
  (hc:QR A C.P fn L bs o l l' r)
  (hr:∀ρ v,ren ρ (r v)=r (ren ρ v)) (hro:∀k v,okV k v=true->okV k (r v)=true)
  (hbl:∀v,(o v).length=bs.length) (hbr:∀ρ v,(o v).map (λx=>x.ren ρ)=o (ren ρ v)) (hbo:∀k v,okV k v=true->(o v).all (λx=>x.ok k)=true)
  (hcd:∀S tk (K':Eff->Prop),(∃c:CallData,c.OK C.P fn W S tk/\(some d=none->c.outs.length=c.ins.length)/\K' (c.eff S d tk))->opD C ⟨some d,.call ⟨.value f,args.toArray,ats⟩,ty,pos,after,g⟩ sl S tk K') (hlb:gK H M=some B) (hib:M.length=bs.length)
  (h0:H[i0]? = some (n0,A.box l n1 n2)) (h1:H[J]? = some (n1,gB A.s1 A.e1 (A.r1 l))) (h2:H[i2]? = some (n2,gB A.s2 A.e2 (A.r2 l))) (hnd:(i0::J::i2::M).Nodup)
  (hS:∀ρ:List Nm,ρ.take bs.length=B.map (·.1)->ren ρ (gV (au bs.length) A.sz l)=gV n0 A.sz l->bs.map (λx=>x.ren ρ)=B.map (·.2))
  (hSok:∀k,okV k (gV (au bs.length) A.sz l)=true->bs.length<=k->bs.all (λx=>x.ok k)=true)
  (hn:∀n∈W.flatMap frz,n∈Ba (gV n0 A.sz l))
  (ha:∀ρ:List Nm,ρ.take bs.length=B.map (·.1)->ren ρ (gV (au bs.length) A.sz l)=gV n0 A.sz l->W=renL ρ L)
  (hok:∀k,okV k (gV (au bs.length) A.sz l)=true->bs.length<=k->okL k L=true)
  (hw:aL all sl ⟨some d,.call ⟨.value f,args.toArray,ats⟩,ty,pos,after,g⟩=some true)
  (h:∀F R N:Nm,aR none C all K rest (upd sl d (r (gV F A.sz l'))) ((((wZ H M (B.map (·.1)) (o (gV F A.sz l'))).set i0 (n0,none)).set J (n1,none)).set i2 (n2,none)++A.hp F R N l')) :
  aR none C all K (⟨some d,.call ⟨.value f,args.toArray,ats⟩,ty,pos,after,g⟩::rest) sl H:=by
 unfold QR at hc
 obtain ⟨hll,hlg⟩:=kS hlb
 have hpl:(B.map (·.1)).length=bs.length:=by rw [List.length_map,hll,hib]
 simp only [List.nodup_cons,List.mem_cons,not_or]at hnd
 obtain ⟨⟨d01,d02,d0b⟩,⟨d12,d1b⟩,d2b,hibn⟩:=hnd
 obtain ⟨k1,k2,k3⟩:=A.ins_ren (l:=l) (n0:=n0) (n1:=n1) (n2:=n2) hpl rfl
 obtain ⟨lj,g1,g2,g3⟩:∃lj,gK H (A.nms l i0 J i2)=some lj/\lj.map (·.1)=A.nms l n0 n1 n2/\lj.map (·.2)=(A.hp n0 n1 n2 l).filterMap (·.2):=by
  cases l with
  | nil=>exact⟨[],rfl,rfl,rfl⟩
  | cons y l =>
   have e0:A.box (y::l) n1 n2=some (.cells A.sz (A.cells (y::l) n1 n2)):=rfl
   rw [e0]at h0
   simp only [AlK.nms,AlK.hp,e0]
   cases q1:A.r1 (y::l) <;> cases q2:A.r2 (y::l) <;> rw [q1]at h1 <;> rw [q2]at h2 <;> simp only [gB]at h1 h2
   ·exact⟨[_],by simp only [List.nil_append,gK,h0];rfl,rfl,rfl⟩
   ·exact⟨[_,_],by simp only [List.nil_append,gK,h0,h2];rfl,rfl,rfl⟩
   ·exact⟨[_,_],by simp only [List.append_nil,gK,h0,h1];rfl,rfl,rfl⟩
   ·exact⟨[_,_,_],by simp only [List.cons_append,List.nil_append,gK,h0,h1,h2];rfl,rfl,rfl⟩
 have hjl:(A.nms l i0 J i2).length=(A.ins bs.length l).length:=A.nms_len l _ _ _ _
 have hnl:(A.nms l n0 n1 n2).length=(A.ins bs.length l).length:=A.nms_len l _ _ _ _
 generalize hm:(A.ins bs.length l).length=m at *
 generalize hk:bs.length+m=k at *
 have hlm:(B++lj).map (·.1)=B.map (·.1)++A.nms l n0 n1 n2:=by rw [List.map_append,g2]
 have htk:(B.map (·.1)++A.nms l n0 n1 n2).take bs.length=B.map (·.1):=by rw [<- hpl];simp
 have hgk:okV k (gV (au bs.length) A.sz l)=true:=by
  cases l with
  | nil=>rfl
  | cons y l =>
   have:m≠0:=by rw [<- hm];simp [AlK.ins,AlK.box]
   exact zZ (by omega) _
 have I:(M++A.nms l i0 J i2).length=k:=by rw [List.length_append,hib,hjl,hk]
 have hgl:okV (k+(A.ins k l').length) (gV (au k) A.sz l')=true:=by
  cases l' with
  | nil=>rfl
  | cons y l=>exact zZ (by simp [AlK.ins,AlK.box]) _
 have hSl:((o (gV (au k) A.sz l')).map some++List.replicate m (none:Option Box)++(A.ins k l').map some).length=k+(A.ins k l').length:=by simp [hbl];omega
 have hdr:((o (gV (au k) A.sz l')).map some++List.replicate m (none:Option Box)++(A.ins k l').map some).drop k=(A.ins k l').map some:=by
  rw [List.drop_append_of_le_length (by simp [hbl];omega),List.drop_of_length_le (by simp [hbl];omega),List.nil_append]
 refine h_callY (M++A.nms l i0 J i2) (A.ins k l').length hc hcd (En hlb g1) ?_ ?_ ?_ ?_ ?_ (by rw [hSl];exact hro _ _ hgl) (by rw [hSl,I]) ?_ ?_ ?_ hw (λν => ?_)
 ·rw [hlm,List.map_append,List.map_append,hS _ htk k1,k2,g3]
 ·rw [I,List.all_append,hSok k hgk (by omega)]
  exact k3
 ·intro n hn'
  rw [hlm]
  refine List.mem_append_right _ ?_
  have:=hn n hn'
  cases l with
  | nil=>cases this
  | cons y l =>
   have e:n=n0:=by simpa [gV,Ba]using this
   rw [e];exact List.mem_cons_self ..
 ·rw [hlm];exact ha _ htk k1
 ·rw [I];exact hok k hgk (by omega)
 ·rw [List.nodup_append]
  refine⟨hibn,A.nms_nodup d01 d02 d12,λx O y hy e => ?_⟩
  subst e
  rcases A.nms_mem hy with rfl|rfl|rfl
  ·exact d0b O
  ·exact d1b O
  ·exact d2b O
 ·rw [hSl]
  refine vE (vE (Cj (hbo _ _ hgl)) (Ev m)) (Cj ?_)
  exact (A.ins_ren (l:=l') (ρ:=(List.range k).map au++A.nms l' n0 n1 n2) (p:=(List.range k).map au) (n0:=n0) (n1:=n1) (n2:=n2) (by simp) rfl).2.2
 ·rw [I,hdr]
  cases l' with
  | nil=>rfl
  | cons y l =>
   simp only [AlK.ins,AlK.box,List.map_cons,List.map_append,mutOut,Box.mut,Bool.true_and]
   cases A.r1 (y::l) <;> cases A.r2 (y::l) <;> rfl
 ·-- behind the call
  have hνl:((List.range (A.ins k l').length).map ν).length=(A.ins k l').length:=by simp
  obtain ⟨F,R,N,hms⟩:∃F R N,(List.range (A.ins k l').length).map ν=A.nms l' F R N:=by
   cases l' with
   | nil=>exact⟨ν 0,ν 0,ν 0,rfl⟩
   | cons y l =>
    cases q1:A.r1 (y::l) <;> cases q2:A.r2 (y::l) <;> simp only [AlK.ins,AlK.box,AlK.nms,q1,q2,gI,List.nil_append,List.append_nil,List.cons_append,List.length_cons,List.length_nil]
    ·exact⟨ν 0,ν 0,ν 0,rfl⟩
    ·exact⟨ν 0,ν 0,ν 1,rfl⟩
    ·exact⟨ν 0,ν 1,ν 1,rfl⟩
    ·exact⟨ν 0,ν 1,ν 2,rfl⟩
  rw [hms,hlm,I,hdr]
  have hpk:(B.map (·.1)++A.nms l n0 n1 n2).length=k:=by rw [List.length_append,hpl,hnl,hk]
  obtain ⟨w1,w2,_⟩:=A.ins_ren (l:=l') (n0:=F) (n1:=R) (n2:=N) hpk rfl
  rw [hr,w1]
  have hso:setH H (outs (B.map (·.1)++A.nms l n0 n1 n2++A.nms l' F R N) (M++A.nms l i0 J i2) (B.map (·.1)++A.nms l n0 n1 n2) ((o (gV (au k) A.sz l')).map some++List.replicate m none++(A.ins k l').map some)) =
    (((wZ H M (B.map (·.1)) (o (gV F A.sz l'))).set i0 (n0,none)).set J (n1,none)).set i2 (n2,none):=by
   rw [List.append_assoc ((o (gV (au k) A.sz l')).map some),Ih (by rw [hib,hpl]) (by simp [hbl,hll,hib]),Kq,GD,hbr,w1]
   have b0:(wZ H M (B.map (·.1)) (o (gV F A.sz l')))[i0]? = some (n0,A.box l n1 n2):=by rw [Be d0b];exact h0
   have b1:(wZ H M (B.map (·.1)) (o (gV F A.sz l')))[J]? = some (n1,gB A.s1 A.e1 (A.r1 l)):=by rw [Be d1b];exact h1
   have b2:(wZ H M (B.map (·.1)) (o (gV F A.sz l')))[i2]? = some (n2,gB A.s2 A.e2 (A.r2 l)):=by rw [Be d2b];exact h2
   generalize wZ H M (B.map (·.1)) (o (gV F A.sz l'))=H1 at *
   clear h hc hS hSok ha hok hn
   cases l with
   | nil =>
    have c0:H1[i0]? = some (n0,none):=b0
    have c1:H1[J]? = some (n1,none):=b1
    have c2:H1[i2]? = some (n2,none):=b2
    rw [kT c0,kT c1,kT c2];rfl
   | cons y l =>
    have hmm:m=1+((gI A.s1 A.e1 (A.r1 (y::l))).length+(gI A.s2 A.e2 (A.r2 (y::l))).length):=by rw [<- hm];simp [AlK.ins,AlK.box];omega
    cases q1:A.r1 (y::l) <;> cases q2:A.r2 (y::l) <;> rw [q1]at b1 hmm <;> rw [q2]at b2 hmm <;> simp only [gI,List.length_nil,List.length_cons]at hmm <;> subst hmm <;> simp only [AlK.nms,q1,q2,List.nil_append,List.append_nil,List.cons_append,List.replicate,outs,setH,Option.map_none]
    ·rw [kT (H:=H1.set i0 (n0,none)) (i:=J) (x:=(n1,none)) (by rw [List.getElem?_set_ne d01];exact b1),kT (H:=H1.set i0 (n0,none)) (i:=i2) (x:=(n2,none)) (by rw [List.getElem?_set_ne d02];exact b2)]
    ·rw [kT (H:=H1.set i0 (n0,none)) (i:=J) (x:=(n1,none)) (by rw [List.getElem?_set_ne d01];exact b1)]
    ·rw [kT (H:=(H1.set i0 (n0,none)).set J (n1,none)) (i:=i2) (x:=(n2,none)) (by rw [List.getElem?_set_ne d12,List.getElem?_set_ne d02];exact b2)]
  rw [hso]
  clear hso
  generalize hX:((wZ H M (B.map (·.1)) (o (gV F A.sz l'))).set i0 (n0,none)).set J (n1,none)=X
  have O:∀x0,gV x0 A.sz l'=gV F A.sz l'->∀x1 x2,aR none C all K rest (upd sl d (r (gV F A.sz l'))) (X.set i2 (n2,none)++A.hp x0 x1 x2 l'):=λx0 e x1 x2=>by
   have:=h x0 x1 x2
   rw [e,hX]at this;exact this
  generalize X.set i2 (n2,none)=Y at *
  cases l' with
  | nil =>
   show aR none C all K rest _ (Y++[])
   rw [List.append_nil]
   refine pX λx0=>pX λx1=>pX λx2 => ?_
   have:=O x0 rfl x1 x2
   rw [List.append_assoc,List.append_assoc];exact this
  | cons y l =>
   have e1:A.ins k (y::l) = .cells A.sz (A.cells (y::l) (A.exA k (y::l)) (A.exB k (y::l)))::(gI A.s1 A.e1 (A.r1 (y::l))++gI A.s2 A.e2 (A.r2 (y::l))):=rfl
   have e0:∀u v,A.box (y::l) u v=some (.cells A.sz (A.cells (y::l) u v)):=λ_ _=>rfl
   rw [e1]at w2 ⊢
   generalize B.map (·.1)++A.nms _ n0 n1 n2++A.nms (y::l) F R N=ρ at *
   simp only [AlK.hp,e0,List.map_cons,List.filterMap_cons]at w2
   rw [List.cons.injEq]at w2
   simp only [AlK.nms,List.map_cons,news,Option.map_some,w2.1]
   have O:=O F rfl
   simp only [AlK.hp,e0]at O
   have pw:∀(a b:Nm×Option Box) (Z:Hp),Eng.pre (Z++[a,b]) (Z++[b,a]):=λa b Z=>JX (List.Perm.append_left Z (List.Perm.swap ..))
   cases q1:A.r1 (y::l) <;> cases q2:A.r2 (y::l) <;> simp only [q1,q2,gB]at O <;> simp only [gI,List.nil_append,List.append_nil,List.cons_append,List.map_cons,List.map_nil,news,Option.map_some]
   ·refine pX λx1=>pX λx2 => ?_
    have e:∀u v,A.cells (y::l) u v=A.cells (y::l) R N:=λu v=>by
     rcases List.eq_nil_or_concat (y::l)with e|⟨l0,a,e⟩
     ·cases e
     ·rw [List.concat_eq_append]at e
      have p1:A.f1 a=[]:=by have h:=q1;rw [e]at h;rw [<- h];exact (eT _ _ _).symm
      have p2:A.f2 a=[]:=by have h:=q2;rw [e]at h;rw [<- h];exact (eT _ _ _).symm
      rw [e]
      simp only [AlK.cells,List.getLast?_append,List.getLast?_singleton,Option.some_or,AlK.lst,p1,p2,gV]
    have:=O x1 x2
    rw [e]at this
    rw [List.append_assoc,List.append_assoc];exact this
   ·refine pX λx1 => ?_
    have e:∀u,A.cells (y::l) u N=A.cells (y::l) R N:=λu=>by
     rcases List.eq_nil_or_concat (y::l)with e|⟨l0,a,e⟩
     ·cases e
     ·rw [List.concat_eq_append]at e
      have p1:A.f1 a=[]:=by have h:=q1;rw [e]at h;rw [<- h];exact (eT _ _ _).symm
      rw [e]
      simp only [AlK.cells,List.getLast?_append,List.getLast?_singleton,Option.some_or,AlK.lst,p1,gV]
    have:=O x1 N
    rw [e]at this
    rw [List.append_assoc]
    refine h_pre (H0:=Y++[_,_,_]) ?_ this
    exact JX (List.Perm.append_left Y (List.Perm.cons _ (List.Perm.swap ..)))
   ·refine pX λx2 => ?_
    have e:∀u,A.cells (y::l) R u=A.cells (y::l) R N:=λu=>by
     rcases List.eq_nil_or_concat (y::l)with e|⟨l0,a,e⟩
     ·cases e
     ·rw [List.concat_eq_append]at e
      have p2:A.f2 a=[]:=by have h:=q2;rw [e]at h;rw [<- h];exact (eT _ _ _).symm
      rw [e]
      simp only [AlK.cells,List.getLast?_append,List.getLast?_singleton,Option.some_or,AlK.lst,p2,gV]
    have:=O R x2
    rw [e]at this
    rw [List.append_assoc];exact this
   ·exact O R N
end
section
theorem NU {α β:Type} {l l':List α} {a:α} {f:α->List β} {sz:Nat} {enc:β->List D} (h:jE l [a]=some l') (hf:f a=[]):(none:Option Box)=gB sz enc (dw f l'):=by
 obtain rfl:l++[a]=l':=by
  unfold jE at h
  split at h
  ·exact Option.some.inj h
  ·cases h
 rw [eT,hf];rfl
theorem al_ro {k:Nat} {v:V} {x:D} (h:okV k v=true):okV k (.tup [v,.d x])=true:=by simp [okV,okL,h]
theorem al_n {n n0:Nm} {sz:Nat} {α:Type} {l:List α} {x:D} (h:n∈([gV n0 sz l,.d x]:List V).flatMap frz):n∈Ba (gV n0 sz l):=by
 have o:Ba (V.d x)=[]:=rfl
 cases l with
 | nil=>simp [gV,frz,Ba]at h
 | cons y l=>simpa [gV,frz,Ba]using h
theorem al_a {ρ:List Nm} {g o:V} {x:D} (h:ren ρ g=o) : [o,.d x]=renL ρ [g,.d x]:=by simp [renL,ren,h]
theorem al_o {k:Nat} {g:V} {x:D} (h:okV k g=true):okL k [g,.d x]=true:=by simp [okL,okV,h]
end
end Go.Eng

