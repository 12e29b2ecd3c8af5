/-
  The engine: what the machine does to data, shown once for all programs (part 5).
-/
import Derived.Test.YtjhcehhmdmbleaaGreatDoorEng4
import Derived.Below
import Derived.Deep.Draws
import Derived.Lib.IndexMore
import Derived.Lib.TrimByte
import Derived.Shelf.Strings.FuncGrows
import Derived.Shelf.Unicode.DecodeSlow
import Derived.Lib.ValidU
/-
  THE ENGINE: functions over literals, by their contracts off the shelf.
-/
namespace Go.Eng
open Go.RowKit (Below)
set_option linter.unusedVariables false
set_option linter.unusedSimpArgs false
def isLit:D→Bool
 | .int _ _ | .bool _ | .str _=>true
 | _=>false
def lv:D→Value
 | .int k n => .int k n
 | .bool b => .bool b
 | .str s => .string s
 | _=>undef
theorem CQ {I:Nat→Nat→Prop} {w:World} {v:Value} {d:D} (h:RepD I w v d) (hl:isLit d=true):v=lv d:=by
 cases h with
 | int k n=>rfl
 | bool b=>rfl
 | str s=>rfl
 | agg=>cases hl
 | sl0=>cases hl
 | sl=>cases hl
 | ptr=>cases hl
 | nilp=>cases hl
theorem DZ {G:Gh} {w:World}:∀ {vs:List Value} {ds:List D},oH G w vs (ds.map V.d)→ds.all isLit=true→vs=ds.map lv
 | [],[],_,_=>rfl
 | [],d::ds,h,_=>by have:=h.1; simp at this
 | v::vs,[],h,_=>by have:=h.1; simp at this
 | v::vs,d::ds,h,hl=>by
  simp only [List.all_cons,Bool.and_eq_true]at hl
  obtain ⟨hlen,h⟩:=h
  have h0:RepV G w v (.d d):=h 0 (by simp) (by simp)
  have e:=CQ h0.d_inv hl.1
  have:oH G w vs (ds.map V.d):=⟨by simpa using hlen,fun i h1 h2=>by
   have:=h (i + 1) (by simpa using h1) (by simpa using h2)
   simpa using this⟩
  rw [e,DZ this hl.2]; rfl
theorem Et {P:Program} {f:FuncId} (ds:List D) (v:Value) (r:V) (ha:ds.all isLit=true) (hr:∀ G w,RepV G w v (ren [] r))
  (hC:∀ (G:Gh) (w:World),Kn G w→Calls P f (ds.map lv).toArray w fun e w'=>e = .returned v∧Below w.heap.size w w'∧(dmK=true→w.drawn≤w'.drawn)):FnM P f (ds.map V.d) [] r []:=by
 intro G w vargs hinv hargs
 rw [DZ hargs ha]
 refine (hC G w hinv.kn).mono ?_
 rintro e w' ⟨rfl,hb,hd⟩
 obtain ⟨i2,e2⟩:=hinv.more (w':=w') (G':=G) (U':=fun _=>False) (fun b' hb'=>hb.block b' hb') hb.size hb.os hb.tape hb.output (fun _ _ h=>h) (fun _ _ h => .inl h) rfl (fun _ h=>h) hd
 exact⟨_,G,_,1,_,[],rfl,i2,hr _ _,rfl,List.nodup_nil,fun i hi=>absurd hi (Nat.not_lt_zero i),fun i bx hb=>by simp at hb⟩
def xO (s t:ByteArray):Option Bool:=if s.size < 4294967281 then some (Lib.contains s.data.toList t.data.toList)else none
theorem Ea {P:Program} {f:FuncId} {g:Nat}
  (hC:∀ (s t:ByteArray) (m:Int) (w:World),s.size < 4294967281→w.cell? ⟨g,0,Option.none⟩=some (.int .i64 m)→Calls P f #[.string s,.string t] w fun e w'=>e = .returned (.bool (Lib.contains s.data.toList t.data.toList))∧w'=w)
  (hl:∀ w0,y5 w0 → ∃ m,w0.cell? ⟨g,0,Option.none⟩=some (.int .i64 m)) {s t:ByteArray} {r:Bool} (h:xO s t=some r):FnM P f [.d (.str s),.d (.str t)] [] (.d (.bool r)) []:=by
 unfold xO at h
 split at h
 ·rename_i hs
  simp only [Option.some.injEq]at h
  subst h
  refine Et [.str s,.str t] _ _ rfl (fun G w => .d (.bool _)) (fun G w hk => ?_)
  obtain ⟨w0,h1,h2⟩:=hk
  obtain ⟨m,hm⟩:=hl w0 h1
  have hb:g < w0.heap.size:=by
   rcases Nat.lt_or_ge g w0.heap.size with h | h
   ·exact h
   ·have e:w0.heap[g]? = none:=Array.getElem?_eq_none h
    simp only [World.cell?,e]at hm
    cases hm
  exact (hC s t m w hs (by rw [(h2 g 0 hb).2]; exact hm)).mono (fun e w' hw=>⟨hw.1,by rw [hw.2]; exact⟨Below.refl _ _,fun _=>Nat.le_refl _⟩⟩)
 ·cases h
end Go.Eng

/-
  THE ENGINE: a slice that is cut in its own box and grows again; boxes of slices that may be empty; maps whose keys are structs.
-/
namespace Go.Eng
set_option linter.unusedVariables false
set_option linter.unusedSimpArgs false
section
variable {C:Cfg} {Q:QH} {sl:Nat→V} {H:Hp} {c:Code}
end
section
variable {C:Cfg} {sl:Nat→V} {H:Hp} {q:Qm} {all rest:List Oper} {K:(Nat→V)→Hp→Prop}
variable {dst:Option Tmp} {d:Nat} {t ty:TypeId} {pos:String} {after:Array Edge} {g:Option (Nat×Bool)}
end
end Go.Eng

/-
  THE ENGINE: results of which the first is a new slice and the others are data.
-/
namespace Go.Eng
set_option linter.unusedVariables false
section
variable {C:Cfg} {sl:Nat→V} {H:Hp} {q:Qm} {all rest:List Oper} {K:(Nat→V)→Hp→Prop}
variable {dst:Option Tmp} {d:Nat} {t ty:TypeId} {pos:String} {after:Array Edge} {g:Option (Nat×Bool)}
end
end Go.Eng

/-
  THE ENGINE: strings.ContainsFunc by its contract off the shelf (only where draws are not counted).
-/
namespace Go.Eng
open Go.Proofs
open Go.RowKit (Below)
set_option linter.unusedVariables false
set_option linter.unusedSimpArgs false
theorem Io {E:Env} {G:Gh} {w W:World} {S:Store} {tk:Nat} {U:Nat→Prop} (h:Inv E G w S tk U) (hb:Below w.heap.size w W):Inv ⟨⟨G.imm,fun _=>none⟩,W,Ar ⟨G.imm,fun _=>none⟩ []⟩ ⟨G.imm,fun _=>none⟩ W (gq []) 1 (fun _=>False):=by
 have hc:∀ b' o',G.imm b' o'→W.cell? ⟨b',o',none⟩=w.cell? ⟨b',o',none⟩:=fun b' o' hb'=>vG (hb.block b' (h.immB _ _ hb')) o'
 have hno':∀ (n:Nm) (bx:Box),gq [] n=some bx→False:=fun n bx hx=>by
  unfold gq at hx
  split at hx
  ·simp at hx
  ·cases hx
 have k1:Kn G w:=h.kn.ext h.ext.imm h.ext.cell
 have k2:Kn ⟨G.imm,fun _=>none⟩ W:=k1.ext (fun _ _ h=>h) hc
 exact⟨Ext.refl _ _,fun _ _ h => .inl h,fun _ _ _=>rfl,Nat.le_refl _,rfl,rfl,rfl,fun n bx hx=>(hno' n bx hx).elim,fun n m bx _ _ _ _ _ _ hx=>(hno' n bx hx).elim,fun n x hx=>(by cases hx),fun n b o sz hx=>(by cases hx),fun b' o' hb'=>Nat.lt_of_lt_of_le (h.immB _ _ hb') hb.size,k2,fun _=>Nat.le_refl _⟩
open Classical in
noncomputable def oP (F:Int→Option Bool) (s:ByteArray):Option Bool :=
 if ∀ n:Nat,n≤1114111→(F n).isSome=true then some (decide (0≤Lib.idxFunc (fun n=>(F n).getD false) true s))else none
theorem Az {F:Int→Option Bool} {p:Nat→Bool} (h:∀ n:Nat,F n=some (p n)) (s:ByteArray):oP F s=some (decide (0≤Lib.idxFunc p true s)):=by
 unfold oP
 rw [if_pos (fun n _=>by rw [h]; rfl)]
 have:(fun n:Nat=>(F n).getD false)=p:=by funext n; rw [h]; rfl
 rw [this]
theorem AV (hdm:dmK=false) {P:Program} {f g:FuncId} {F:Int→Option Bool} (hg:∀ a b,F a=some b→FnM P g [.d (.int .i32 a)] [] (.d (.bool b)) []) (hb:aI P g=true)
  (hC:∀ (s:ByteArray) (p:Nat→Bool) (w:World) (eg:∀ args w,(callFunc g args).run P w = .ok (.enter g args) w) (hp:PredGrows P g #[] p w),Calls P f #[.string s,.func (.func g) #[] #[]] w fun e w'=>e = .returned (.bool (decide (0≤Lib.idxFunc p true s)))∧Below w.heap.size w w')
  {s:ByteArray} {r:Bool} (h:oP F s=some r):FnM P f [.d (.str s),.fn g []] [] (.d (.bool r)) []:=by
 unfold oP at h
 split at h
 ·rename_i hF
  simp only [Option.some.injEq]at h
  subst h
  intro G w vargs hinv hargs
  obtain ⟨v,v2,rfl,hv,hf⟩:=hargs.two
  obtain rfl:v2 = .func (.func g) #[] #[]:=by
   cases hf with
   | fn _ arr _ hl _ =>
    obtain rfl:arr = []:=List.eq_nil_of_length_eq_zero hl
    rfl
  obtain rfl:v = .string s:=CQ hv.d_inv rfl
  have eg:∀ args w,(callFunc g args).run P w = .ok (.enter g args) w:=fun args w=>zu (C:=⟨P,0,[],[]⟩) hb w
  have hp:PredGrows P g #[] (fun n=>(F n).getD false) w:=fun W x hx hbw=>by
   have i1:=Io hinv hbw
   have hs:=hF x hx
   obtain ⟨b,hb2⟩:=Option.isSome_iff_exists.1 hs
   have hargs1:oH ⟨G.imm,fun _=>none⟩ W [.int .i32 x] [.d (.int .i32 x)]:=by
    refine⟨rfl,fun i h1 h2 => ?_⟩
    match i with
    | 0=>exact .d (.int _ _)
    | i + 1=>exact absurd h1 (by simp)
   refine (hg x b hb2 _ W [.int .i32 x] i1 hargs1).mono ?_
   rintro e w' ⟨v,G',S',tk',U',ν,rfl,i2,rv,_,_,_,_⟩
   have hv2:v = .bool b:=by
    have:RepV G' w' v (.d (.bool b)):=rv
    exact CQ this.d_inv rfl
   refine⟨by rw [hv2]; show _=Ending.returned (.bool ((F (x:Int)).getD false)); rw [hb2]; rfl,⟨i2.os,i2.tape,i2.output,i2.size,fun k hk=>i2.frame k hk (fun⟨i,bx,_,_,hx,_⟩=>by simp at hx)⟩⟩
  refine (hC s _ w eg hp).mono ?_
  rintro e w' ⟨rfl,hbw⟩
  obtain ⟨i2,e2⟩:=hinv.more (w':=w') (G':=G) (U':=fun _=>False) (fun b' hb'=>hbw.block b' hb') hbw.size hbw.os hbw.tape hbw.output (fun _ _ h=>h) (fun _ _ h => .inl h) rfl (fun _ h=>h) (fun hd=>by rw [hdm]at hd; cases hd)
  exact⟨_,G,_,1,_,[],rfl,i2,.d (.bool _),rfl,List.nodup_nil,fun i hi=>absurd hi (Nat.not_lt_zero i),fun i bx hb=>by simp at hb⟩
 ·cases h
def FV (s:ByteArray):Option Bool:=if s.size≤9223372036854775807 then some (Lib.validD s.data.toList)else none
theorem tabs_kn {G:Gh} {w:World} {g3 g4:Nat} (h:Kn G w) (hl:∀ w0,y5 w0→Lib.Utf8Tabs g3 g4 w0):Lib.Utf8Tabs g3 g4 w:=by
 obtain ⟨w0,h1,h2⟩:=h
 obtain ⟨a1,a2⟩:=hl w0 h1
 have key:∀ (b o:Nat) (v:Value),w0.cell? ⟨b,o,Option.none⟩=some v→w.cell? ⟨b,o,Option.none⟩=some v:=fun b o v hv=>by
  have hb:b < w0.heap.size:=by
   rcases Nat.lt_or_ge b w0.heap.size with h | h
   ·exact h
   ·have e:w0.heap[b]? = none:=Array.getElem?_eq_none h
    simp only [World.cell?,e]at hv
    cases hv
  rw [(h2 b o hb).2]; exact hv
 exact⟨fun c hc=>key _ _ _ (a1 c hc),fun i hi=>⟨key _ _ _ (a2 i hi).1,key _ _ _ (a2 i hi).2⟩⟩
theorem Jn (hdm:dmK=false) {P:Program} {f:FuncId} {g3 g4:Nat}
  (hC:∀ (s:ByteArray) (w:World),s.size≤9223372036854775807→Lib.Utf8Tabs g3 g4 w→Calls P f #[.string s] w fun e w'=>e = .returned (.bool (Lib.validD s.data.toList))∧Below w.heap.size w w')
  (hl:∀ w0,y5 w0→Lib.Utf8Tabs g3 g4 w0) {s:ByteArray} {r:Bool} (h:FV s=some r):FnM P f [.d (.str s)] [] (.d (.bool r)) []:=by
 unfold FV at h
 split at h
 ·rename_i hs
  simp only [Option.some.injEq]at h
  subst h
  exact Et [.str s] _ _ rfl (fun G w => .d (.bool _)) (fun G w hk=>(hC s w hs (tabs_kn hk hl)).mono (fun e w' hw=>⟨hw.1,hw.2,fun hd=>by rw [hdm]at hd; cases hd⟩))
 ·cases h
end Go.Eng

