/-
  The engine: what the machine does to data, shown once for all programs (part 5).
-/
import Derived.Test.YtjhcehhmdmbleaaGreatDoorEng4
import Derived.Below
import Derived.Deep.Draws
import Derived.Lib.IndexMore
import Derived.Lib.TrimByte
import Derived.Shelf.Strings.FuncGrows
import Derived.Shelf.Unicode.DecodeSlow
import Derived.Lib.ValidU
import Derived.Shelf.SlSortCmp.InsertionK
import Derived.Sort.AssemblyPlain
/-
  THE ENGINE: functions over literals, by their contracts off the shelf.
-/
namespace Go.Eng
set_option linter.unusedSectionVars false
variable [DM]
open Go.RowKit (Below)
set_option linter.unusedVariables false
set_option linter.unusedSimpArgs false
def isLit:D->Bool
 | .int _ _ | .bool _ | .str _=>true
 | _=>false
def lv:D->Value
 | .int k n => .int k n
 | .bool b => .bool b
 | .str s => .string s
 | _=>undef
theorem EK {I:Nat->Nat->Prop} {w:World} {v:Value} {d:D} (h:RepD I w v d) (hl:isLit d=true):v=lv d:=by
 cases h with
 | int k n=>rfl
 | bool b=>rfl
 | str s=>rfl
 | agg=>cases hl
 | sl0=>cases hl
 | sl=>cases hl
 | ptr=>cases hl
 | nilp=>cases hl
theorem Gq {G:Gh} {w:World}:∀{vs:List Value} {ds:List D},sP G w vs (ds.map V.d)->ds.all isLit=true->vs=ds.map lv
 | [],[],_,_=>rfl
 | [],d::ds,h,_=>by have:=h.1;simp at this
 | v::vs,[],h,_=>by have:=h.1;simp at this
 | v::vs,d::ds,h,hl=>by
  simp only [List.all_cons,Bool.and_eq_true]at hl
  obtain ⟨hlen,h⟩:=h
  have h0:RepV G w v (.d d):=h 0 (by simp) (by simp)
  have e:=EK h0.d_inv hl.1
  have:sP G w vs (ds.map V.d):=⟨by simpa using hlen,λi h1 h2=>by
   have:=h (i+1) (by simpa using h1) (by simpa using h2)
   simpa using this⟩
  rw [e,Gq this hl.2];rfl
theorem G7 {P:Program} {f:FuncId} (ds:List D) (v:Value) (r:V) (ha:ds.all isLit=true) (hr:∀G w,RepV G w v (ren [] r))
  (hC:∀(G:Gh) (w:World),Kn G w->Calls P f (ds.map lv).toArray w λe w'=>e = .returned v/\Below w.heap.size w w'/\(dmK=true->w.drawn<=w'.drawn)):FnM P f (ds.map V.d) [] r []:=by
 intro G w vargs hinv hargs
 rw [Gq hargs ha]
 refine (hC G w hinv.kn).mono ?_
 rintro e w' ⟨rfl,hb,hd⟩
 obtain ⟨i2,e2⟩:=hinv.more (w':=w') (G':=G) (U':=λ_=>False) (λb' hb'=>hb.block b' hb') hb.size hb.os hb.tape hb.output (λ_ _ h=>h) (λ_ _ h => .inl h) rfl (λ_ h=>h) hd
 exact⟨_,G,_,1,_,[],rfl,i2,hr _ _,rfl,List.nodup_nil,λi hi=>absurd hi (Nat.not_lt_zero i),λi bx hb=>by simp at hb⟩
def Am (s t:ByteArray):Option Bool:=if s.size<4294967281 then some (Lib.contains s.data.toList t.data.toList)else none
theorem G9 {P:Program} {f:FuncId} {g:Nat}
  (hC:∀(s t:ByteArray) (m:Int) (w:World),s.size<4294967281->w.cell? ⟨g,0,Option.none⟩=some (.int .i64 m)->Calls P f #[.string s,.string t] w λe w'=>e = .returned (.bool (Lib.contains s.data.toList t.data.toList))/\w'=w)
  (hl:∀w0,Cc w0->∃m,w0.cell? ⟨g,0,Option.none⟩=some (.int .i64 m)) {s t:ByteArray} {r:Bool} (h:Am s t=some r):FnM P f [.d (.str s),.d (.str t)] [] (.d (.bool r)) []:=by
 unfold Am at h
 split at h
 ·rename_i hs
  simp only [so_]at h
  subst h
  refine G7 [.str s,.str t] _ _ rfl (λG w => .d (.bool _)) (λG w hk => ?_)
  obtain ⟨w0,h1,h2⟩:=hk
  obtain ⟨m,hm⟩:=hl w0 h1
  have hb:g<w0.heap.size:=by
   rcases Nat.lt_or_ge g w0.heap.size with h|h
   ·exact h
   ·have e:w0.heap[g]? = none:=Array.getElem?_eq_none h
    simp only [World.cell?,e]at hm
    cases hm
  exact (hC s t m w hs (by rw [(h2 g 0 hb).2];exact hm)).mono (λe w' hw=>⟨hw.1,by rw [hw.2];exact⟨Below.refl _ _,λ_=>Nat.le_refl _⟩⟩)
 ·cases h
end Go.Eng

/-
  THE ENGINE: a slice that is cut in its own box and grows again; boxes of slices that may be empty; maps whose keys are structs.
-/
namespace Go.Eng
set_option linter.unusedSectionVars false
variable [DM]
set_option linter.unusedVariables false
set_option linter.unusedSimpArgs false
def kE {α:Type} (b:Bool) (xs:List α):Option Unit:=match b,xs with
 | true,[]=>none
 | _,_=>some ()
theorem kV_g {α:Type} {b:Bool} {n:Nm} {sz:Nat} {xs:List α} {u:Unit} (h:kE b xs=some u):kV b n sz xs=gV n sz xs:=by
 cases b with
 | false=>rfl
 | true=>cases xs with
  | nil=>cases h
  | cons x xs=>rfl
theorem kB_g {α:Type} {b:Bool} {sz:Nat} {enc:α->List D} {xs:List α} {u:Unit} (h:kE b xs=some u):kB b sz enc xs=gB sz enc xs:=by
 cases b with
 | false=>rfl
 | true=>cases xs with
  | nil=>cases h
  | cons x xs=>rfl
section
variable {C:Cfg} {Q:QH} {sl:Nat->V} {H:Hp} {c:Code}
end
section
variable {C:Cfg} {sl:Nat->V} {H:Hp} {q:Qm} {all rest:List Oper} {K:(Nat->V)->Hp->Prop}
variable {dst:Option Tmp} {d:Nat} {t ty:TypeId} {pos:String} {after:Array Edge} {g:Option (Nat×Bool)}
end
end Go.Eng

/-
  THE ENGINE: results of which the first is a new slice and the others are data.
-/
namespace Go.Eng
set_option linter.unusedSectionVars false
variable [DM]
set_option linter.unusedVariables false
section
variable {C:Cfg} {sl:Nat->V} {H:Hp} {q:Qm} {all rest:List Oper} {K:(Nat->V)->Hp->Prop}
variable {dst:Option Tmp} {d:Nat} {t ty:TypeId} {pos:String} {after:Array Edge} {g:Option (Nat×Bool)}
end
end Go.Eng

/-
  THE ENGINE: strings.ContainsFunc by its contract off the shelf (only where draws are not counted).
-/
namespace Go.Eng
set_option linter.unusedSectionVars false
variable [DM]
open Go.Proofs
open Go.RowKit (Below)
set_option linter.unusedVariables false
set_option linter.unusedSimpArgs false
theorem KO {E:Env} {G:Gh} {w W:World} {S:Store} {tk:Nat} {U:Nat->Prop} (h:Inv E G w S tk U) (hb:Below w.heap.size w W):Inv ⟨⟨G.imm,λ_=>none⟩,W,Ae ⟨G.imm,λ_=>none⟩ []⟩ ⟨G.imm,λ_=>none⟩ W (gz []) 1 (λ_=>False):=by
 have hc:∀b' o',G.imm b' o'->W.cell? ⟨b',o',none⟩=w.cell? ⟨b',o',none⟩:=λb' o' hb'=>uZ (hb.block b' (h.immB _ _ hb')) o'
 have hno':∀(n:Nm) (bx:Box),gz [] n=some bx->False:=λn bx hx=>by
  unfold gz at hx
  split at hx
  ·simp at hx
  ·cases hx
 have k1:Kn G w:=h.kn.ext h.ext.imm h.ext.cell
 have k2:Kn ⟨G.imm,λ_=>none⟩ W:=k1.ext (λ_ _ h=>h) hc
 exact⟨Ext.refl _ _,λ_ _ h => .inl h,λ_ _ _=>rfl,Nat.le_refl _,rfl,rfl,rfl,λn bx hx=>(hno' n bx hx).elim,λn m bx _ _ _ _ _ _ hx=>(hno' n bx hx).elim,λn x hx=>(by cases hx),λn b o sz hx=>(by cases hx),λb' o' hb'=>Nat.lt_of_lt_of_le (h.immB _ _ hb') hb.size,k2,λ_=>Nat.le_refl _⟩
open Classical in
noncomputable def r9 (F:Int->Option Bool) (s:ByteArray):Option Bool :=
 if ∀n:Nat,n<=1114111->(F n).isSome=true then some (decide (0<=Lib.idxFunc (λn=>(F n).getD false) true s))else none
theorem Dq {F:Int->Option Bool} {p:Nat->Bool} (h:∀n:Nat,F n=some (p n)) (s:ByteArray):r9 F s=some (decide (0<=Lib.idxFunc p true s)):=by
 unfold r9
 rw [if_pos (λn _=>by rw [h];rfl)]
 have:(λn:Nat=>(F n).getD false)=p:=by funext n;rw [h];rfl
 rw [this]
theorem DU (hdm:dmK=false) {P:Program} {f g:FuncId} {F:Int->Option Bool} (hg:∀a b,F a=some b->FnM P g [.d (.int .i32 a)] [] (.d (.bool b)) []) (hb:aH P g=true)
  (hC:∀(s:ByteArray) (p:Nat->Bool) (w:World) (eg:∀args w,(callFunc g args).run P w = .ok (.enter g args) w) (hp:PredGrows P g #[] p w),Calls P f #[.string s,.func (.func g) #[] #[]] w λe w'=>e = .returned (.bool (decide (0<=Lib.idxFunc p true s)))/\Below w.heap.size w w')
  {s:ByteArray} {r:Bool} (h:r9 F s=some r):FnM P f [.d (.str s),.fn g []] [] (.d (.bool r)) []:=by
 unfold r9 at h
 split at h
 ·rename_i hF
  simp only [so_]at h
  subst h
  intro G w vargs hinv hargs
  obtain ⟨v,v2,rfl,hv,hf⟩:=hargs.two
  obtain rfl:v2 = .func (.func g) #[] #[]:=by
   cases hf with
   | fn _ arr _ hl _ =>
    obtain rfl:arr=[]:=List.eq_nil_of_length_eq_zero hl
    rfl
  obtain rfl:v = .string s:=EK hv.d_inv rfl
  have eg:∀args w,(callFunc g args).run P w = .ok (.enter g args) w:=λargs w=>yF (C:=⟨P,0,[],[]⟩) hb w
  have hp:PredGrows P g #[] (λn=>(F n).getD false) w:=λW x hx hbw=>by
   have i1:=KO hinv hbw
   have hs:=hF x hx
   obtain ⟨b,hb2⟩:=Option.isSome_iff_exists.1 hs
   have hargs1:sP ⟨G.imm,λ_=>none⟩ W [.int .i32 x] [.d (.int .i32 x)]:=by
    refine⟨rfl,λi h1 h2 => ?_⟩
    match i with
    | 0=>exact .d (.int _ _)
    | i+1=>exact absurd h1 (by simp)
   refine (hg x b hb2 _ W [.int .i32 x] i1 hargs1).mono ?_
   rintro e w' ⟨v,G',S',tk',U',ν,rfl,i2,rv,_,_,_,_⟩
   have hv2:v = .bool b:=by
    have:RepV G' w' v (.d (.bool b)):=rv
    exact EK this.d_inv rfl
   refine⟨by rw [hv2];show _=Ending.returned (.bool ((F (x:Int)).getD false));rw [hb2];rfl,⟨i2.os,i2.tape,i2.output,i2.size,λk hk=>i2.frame k hk (fun⟨i,bx,_,_,hx,_⟩=>by simp at hx)⟩⟩
  refine (hC s _ w eg hp).mono ?_
  rintro e w' ⟨rfl,hbw⟩
  obtain ⟨i2,e2⟩:=hinv.more (w':=w') (G':=G) (U':=λ_=>False) (λb' hb'=>hbw.block b' hb') hbw.size hbw.os hbw.tape hbw.output (λ_ _ h=>h) (λ_ _ h => .inl h) rfl (λ_ h=>h) (λhd=>by rw [hdm]at hd;cases hd)
  exact⟨_,G,_,1,_,[],rfl,i2,.d (.bool _),rfl,List.nodup_nil,λi hi=>absurd hi (Nat.not_lt_zero i),λi bx hb=>by simp at hb⟩
 ·cases h
def I9 (s:ByteArray):Option Bool:=if s.size<=9223372036854775807 then some (Lib.validD s.data.toList)else none
theorem tabs_kn {G:Gh} {w:World} {g3 g4:Nat} (h:Kn G w) (hl:∀w0,Cc w0->Lib.Utf8Tabs g3 g4 w0):Lib.Utf8Tabs g3 g4 w:=by
 obtain ⟨w0,h1,h2⟩:=h
 obtain ⟨a1,a2⟩:=hl w0 h1
 have key:∀(b o:Nat) (v:Value),w0.cell? ⟨b,o,Option.none⟩=some v->w.cell? ⟨b,o,Option.none⟩=some v:=λb o v hv=>by
  have hb:b<w0.heap.size:=by
   rcases Nat.lt_or_ge b w0.heap.size with h|h
   ·exact h
   ·have e:w0.heap[b]? = none:=Array.getElem?_eq_none h
    simp only [World.cell?,e]at hv
    cases hv
  rw [(h2 b o hb).2];exact hv
 exact⟨λc hc=>key _ _ _ (a1 c hc),λi hi=>⟨key _ _ _ (a2 i hi).1,key _ _ _ (a2 i hi).2⟩⟩
theorem Lm (hdm:dmK=false) {P:Program} {f:FuncId} {g3 g4:Nat}
  (hC:∀(s:ByteArray) (w:World),s.size<=9223372036854775807->Lib.Utf8Tabs g3 g4 w->Calls P f #[.string s] w λe w'=>e = .returned (.bool (Lib.validD s.data.toList))/\Below w.heap.size w w')
  (hl:∀w0,Cc w0->Lib.Utf8Tabs g3 g4 w0) {s:ByteArray} {r:Bool} (h:I9 s=some r):FnM P f [.d (.str s)] [] (.d (.bool r)) []:=by
 unfold I9 at h
 split at h
 ·rename_i hs
  simp only [so_]at h
  subst h
  exact G7 [.str s] _ _ rfl (λG w => .d (.bool _)) (λG w hk=>(hC s w hs (tabs_kn hk hl)).mono (λe w' hw=>⟨hw.1,hw.2,λhd=>by rw [hdm]at hd;cases hd⟩))
 ·cases h
end Go.Eng

/-
  THE ENGINE: a sort by a comparison of the program's, by its contract off the shelf.
-/
namespace Go.Eng
set_option linter.unusedSectionVars false
variable [dM:DM]
open Go.Sort Go.Proofs
set_option linter.unusedVariables false
set_option linter.unusedSimpArgs false
theorem Lc {E:Env} {G:Gh} {w W:World} {S:Store} {tk:Nat} {U:Nat->Prop} (h:Inv E G w S tk U) {b:Nat} (hno:∀o,¬G.imm b o)
  (hh:∀b',b'≠b->b'<w.heap.size->W.heap[b']? = w.heap[b']?) (hs:w.heap.size<=W.heap.size) :
  Inv ⟨⟨G.imm,λ_=>none⟩,W,Ae ⟨G.imm,λ_=>none⟩ []⟩ ⟨G.imm,λ_=>none⟩ W (gz []) 1 (λ_=>False)/\∀b' o',G.imm b' o'->W.cell? ⟨b',o',none⟩=w.cell? ⟨b',o',none⟩:=by
 have hc:∀b' o',G.imm b' o'->W.cell? ⟨b',o',none⟩=w.cell? ⟨b',o',none⟩:=λb' o' hb=>uZ (hh b' (λe=>by subst e;exact hno _ hb) (h.immB _ _ hb)) o'
 have hno':∀(n:Nm) (bx:Box),gz [] n=some bx->False:=λn bx hx=>by
  unfold gz at hx
  split at hx
  ·simp at hx
  ·cases hx
 have k1:Kn G w:=h.kn.ext h.ext.imm h.ext.cell
 have k2:Kn ⟨G.imm,λ_=>none⟩ W:=k1.ext (λ_ _ h=>h) hc
 refine⟨⟨Ext.refl _ _,λ_ _ h => .inl h,λ_ _ _=>rfl,Nat.le_refl _,rfl,rfl,rfl,λn bx hx=>(hno' n bx hx).elim,λn m bx _ _ _ _ _ _ hx=>(hno' n bx hx).elim,λn x hx => ?_,λn b o sz hx => ?_,λb' o' hb=>Nat.lt_of_lt_of_le (h.immB _ _ hb) hs,k2,λ_=>Nat.le_refl _⟩,hc⟩
 ·cases hx
 ·cases hx
theorem Inv.toT {E:Env} {G:Gh} {w:World} {S:Store} {tk:Nat} {U:Nat->Prop} (h:Inv E G w S tk U) (hd:E.w.drawn<=w.drawn) : @Inv dmT E G w S tk U :=
 @Inv.mk dmT E G w S tk U h.ext h.newI h.frame h.size h.os h.tape h.output h.box h.one h.tick h.bound h.immB h.kn (λ_=>hd)
theorem LY {α:Type} {E:α->List D} {P:Program} {g:FuncId} {F:α->α->Option Int} (hg:∀a b r,F a b=some r -> @FnM dmT P g [.d (.agg (E a)),.d (.agg (E b))] [] (vI r) [])
  {β:Type} [Inhabited β] (at_:β->α) (enc:β->List Value) {k:Nat} (cf:β->β->Int) (hcf:∀i j,F (at_ i) (at_ j)=some (cf i j))
  {Ev:Env} {G:Gh} {w:World} {S:Store} {tk:Nat} {U:Nat->Prop} (h:Inv Ev G w S tk U) {b o n:Nat} (hno:∀o',¬G.imm b o') (hblk:b<w.heap.size)
  (hl:∀i,(enc i).length=(E (at_ i)).length) (hr:∀i j (h1:j<(enc i).length) (h2:j<(E (at_ i)).length),RepD G.imm w (enc i)[j] (E (at_ i))[j]) :
  CmpLays P g #[] enc k cf b o n w:=by
 intro m os dk _ x y
 have hW:∀b',b'≠b->b'<w.heap.size->(sortWorldK enc k w b o m dk os).heap[b']? = w.heap[b']? := λb' h1 h2=>by
  show ((putRow id (Sort.ahead w m) b o (flatK enc k dk)).heap++os)[b']? = _
  have hsz:(putRow id (Sort.ahead w m) b o (flatK enc k dk)).heap.size=w.heap.size:=by simp [putRow,mapBlock,Sort.ahead]
  rw [Array.getElem?_append_left (by rw [hsz];exact h2),y7 h1];rfl
 have hWs:w.heap.size<=(sortWorldK enc k w b o m dk os).heap.size:=by
  show w.heap.size<=((putRow id (Sort.ahead w m) b o (flatK enc k dk)).heap++os).size
  simp [putRow,mapBlock,Sort.ahead]
 generalize hWe:sortWorldK enc k w b o m dk os=W at hW hWs ⊢
 obtain ⟨i0,hc⟩:=Lc (W:=W) h hno hW hWs
 have i1:=i0.toT (Nat.le_refl _)
 have rep:∀i,RepV ⟨G.imm,λ_=>none⟩ W (.agg (enc i).toArray) (.d (.agg (E (at_ i)))):=λi => .d (.agg _ _ (hl i) (λj h1 h2=>(hr i j h1 h2).ext (λ_ _ h=>h) hc))
 have hargs:sP ⟨G.imm,λ_=>none⟩ W [.agg (enc x).toArray,.agg (enc y).toArray] [.d (.agg (E (at_ x))),.d (.agg (E (at_ y)))]:=by
  refine⟨rfl,λi h1 h2 => ?_⟩
  match i with
  | 0=>exact rep x
  | 1=>exact rep y
  | i+2=>exact absurd h1 (by simp)
 refine (hg _ _ _ (hcf x y) _ W [.agg (enc x).toArray,.agg (enc y).toArray] i1 hargs).mono ?_
 rintro e w' ⟨v,G',S',tk',U',ν,rfl,i2,rv,_,_,_,_⟩
 have hv:v = .int .i64 (cf x y):=by
  have:RepV G' w' v (.d (.int .i64 (cf x y))):=rv
  exact this.int_inv
 refine⟨by rw [hv],w'.drawn-W.drawn,w'.heap.extract W.heap.size,?_⟩
 have hM:∀k',¬Ae ⟨G.imm,λ_=>none⟩ [] k':=λk' ⟨i,bx,_,_,hx,_⟩=>by simp at hx
 have hheap:w'.heap=W.heap++w'.heap.extract W.heap.size:=by
  have hsz:=(@Inv.size dmT _ _ _ _ _ _ i2)
  have hfr:=λk' hk=>(@Inv.frame dmT _ _ _ _ _ _ i2) k' hk (hM k')
  refine Array.ext_getElem? (λj => ?_)
  by_cases hj:j<W.heap.size
  ·rw [Array.getElem?_append_left hj];exact hfr j hj
  ·rw [Array.getElem?_append_right (by omega),Array.getElem?_extract]
   split
   ·rw [show W.heap.size+(j-W.heap.size)=j by omega]
   ·rename_i hx
    simp only [Nat.not_lt]at hx
    have:w'.heap.size<=j:=by have h1:W.heap.size<=w'.heap.size:=hsz;omega
    simp [this]
 have hd:W.drawn+(w'.drawn-W.drawn)=w'.drawn:=by have:W.drawn<=w'.drawn:=(@Inv.dr dmT _ _ _ _ _ _ i2) rfl;omega
 have e1:w'.tape=W.tape:=(@Inv.tape dmT _ _ _ _ _ _ i2)
 have e2:w'.os=W.os:=(@Inv.os dmT _ _ _ _ _ _ i2)
 have e3:w'.output=W.output:=(@Inv.output dmT _ _ _ _ _ _ i2)
 unfold grow World.drewN
 show w' = { heap:=W.heap++w'.heap.extract W.heap.size,tape:=W.tape,drawn:=W.drawn+(w'.drawn-W.drawn),os:=W.os,output:=W.output }
 rw [hd,<- hheap,<- e1,<- e2,<- e3]
section
variable {α:Type}
def lT (F:α->α->Option Int) (x:α) (l:List α) (i j:Fin (l.length+1)):Int:=(F ((x::l).get i) ((x::l).get j)).getD 0
def ut {n:Nat} (lt:Fin (n+1)->Fin (n+1)->Bool):List (Fin (n+1)):=(pdq lt (Array.ofFn λi=>i) 0 (n+1) (Lib.bitLen (n+1)) true true).toList
open Classical in
noncomputable def rY (F:α->α->Option Int):List α->Option (List α)
 | []=>some []
 | x::l=>if l.length+1<4611686018427387904/\(∀i j:Fin (l.length+1),(F ((x::l).get i) ((x::l).get j)).isSome=true)/\SWO (ltOf (lT F x l))then
   some ((ut (ltOf (lT F x l))).map (x::l).get)else none
theorem J6 {F:α->α->Option Int} {x:α} {l r:List α} (h:rY F (x::l)=some r) :
  (l.length+1<4611686018427387904/\(∀i j:Fin (l.length+1),(F ((x::l).get i) ((x::l).get j)).isSome=true)/\SWO (ltOf (lT F x l)))/\(ut (ltOf (lT F x l))).map (x::l).get=r:=by
 by_cases hc:l.length+1<4611686018427387904/\(∀i j:Fin (l.length+1),(F ((x::l).get i) ((x::l).get j)).isSome=true)/\SWO (ltOf (lT F x l))
 ·have e:rY F (x::l)=some ((ut (ltOf (lT F x l))).map (x::l).get):=if_pos hc
  rw [e]at h
  exact⟨hc,Option.some.inj h⟩
 ·have e:rY F (x::l)=none:=if_neg hc
  rw [e]at h
  cases h
theorem extract_all {β:Type} (d:Array β) {m:Nat} (h:d.size=m):d.extract 0 m=d:=by subst h;exact Array.extract_size
theorem BF {n:Nat} {lt:Fin (n+1)->Fin (n+1)->Bool} (hO:SWO lt) :
  (ut lt).Perm (List.finRange (n+1))/\(ut lt).Pairwise (λa b=>lt b a=false)/\(ut lt).length=n+1/\(pdq lt (Array.ofFn λi=>i) 0 (n+1) (Lib.bitLen (n+1)) true true).size=n+1:=by
 have hs:(Array.ofFn λi:Fin (n+1)=>i).size=n+1:=by simp
 obtain ⟨⟨h1,_,h2⟩,h3⟩:=pdq_sorts lt hO (Array.ofFn λi=>i) 0 (n+1) (Lib.bitLen (n+1)) true true (Nat.zero_le _) (by rw [hs];exact Nat.le_refl _) (Or.inl rfl)
 have hsz:(pdq lt (Array.ofFn λi=>i) 0 (n+1) (Lib.bitLen (n+1)) true true).size=n+1:=h1.trans hs
 refine⟨?_,?_,?_,hsz⟩
 ·unfold ut
  generalize pdq lt (Array.ofFn λi=>i) 0 (n+1) (Lib.bitLen (n+1)) true true=d' at *
  have e1:d'.extract 0 (n+1)=d':=extract_all d' hsz
  have e2:(Array.ofFn λi:Fin (n+1)=>i).extract 0 (n+1)=Array.ofFn λi:Fin (n+1)=>i:=extract_all _ hs
  rw [e1,e2]at h2
  refine h2.trans (List.Perm.of_eq ?_)
  rw [Array.toList_ofFn];rfl
 ·unfold ut
  generalize pdq lt (Array.ofFn λi=>i) 0 (n+1) (Lib.bitLen (n+1)) true true=d' at *
  refine List.pairwise_iff_getElem.2 (λi j hi hj hij => ?_)
  have:=h3 i j (Nat.zero_le _) hij (by rw [<- hsz];simpa using hj)
  have a1:i<d'.size:=by simpa using hi
  have a2:j<d'.size:=by simpa using hj
  simpa [getElem!_pos d' i a1,getElem!_pos d' j a2]using this
 ·unfold ut;simpa using hsz
theorem Cm {F:α->α->Option Int} (c:α->α->Int) {xs:List α} (hl:xs.length<4611686018427387904) (hF:∀a∈xs,∀b∈xs,F a b=some (c a b))
  (hi:∀a∈xs,¬c a a<0) (ht:∀a∈xs,∀b∈xs,∀d∈xs,c a b<0->c b d<0->c a d<0) (hn:∀a∈xs,∀b∈xs,∀d∈xs,¬c a b<0->¬c b d<0->¬c a d<0) :
  ∃r,rY F xs=some r/\r.Perm xs/\r.Pairwise (λa b=>¬c b a<0):=by
 cases xs with
 | nil=>exact⟨[],rfl,.refl _,.nil⟩
 | cons x l =>
  have hm:∀i:Fin (l.length+1),(x::l).get i∈x::l:=λi=>List.get_mem (x::l) i
  have hc:∀i j,lT F x l i j=c ((x::l).get i) ((x::l).get j):=λi j=>by unfold lT;rw [hF _ (hm i) _ (hm j)];rfl
  have hO:SWO (ltOf (lT F x l)):=by
   constructor
   ·intro i;unfold ltOf;rw [hc];exact decide_eq_false (hi _ (hm i))
   ·intro i j k h1 h2
    unfold ltOf at *;rw [hc]at *
    exact decide_eq_true (ht _ (hm i) _ (hm j) _ (hm k) (of_decide_eq_true h1) (of_decide_eq_true h2))
   ·intro i j k h1 h2
    unfold ltOf at *;rw [hc]at *
    exact decide_eq_false (hn _ (hm i) _ (hm j) _ (hm k) (of_decide_eq_false h1) (of_decide_eq_false h2))
  obtain ⟨p1,p2,p3,_⟩:=BF hO
  refine⟨(ut (ltOf (lT F x l))).map (x::l).get,?_,?_,?_⟩
  ·exact if_pos ⟨hl,λi j=>by rw [hF _ (hm i) _ (hm j)];rfl,hO⟩
  ·refine (p1.map _).trans (List.Perm.of_eq ?_)
   exact List.ext_getElem (by simp) (λi h1 h2=>by simp)
  ·rw [List.pairwise_map]
   exact p2.imp (λ{i j} h=>by unfold ltOf at h;rw [hc]at h;exact of_decide_eq_false h)
end
theorem C8 {α:Type} (E:α->List D) (k:Nat) (hE:∀x,(E x).length=k) (xs:List α):(Box.vec k (xs.map E)).all.length=xs.length*k:=by
 induction xs with
 | nil=>simp [Box.all]
 | cons x xs ih =>
  simp only [Box.all,List.map_cons,List.flatten_cons,List.length_append,List.length_map,List.length_cons,hE]at ih ⊢
  rw [ih,Nat.add_mul];omega
theorem xx {α:Type} {E:α->List D} {k:Nat} (hE:∀x,(E x).length=k) {P:Program} {f g:FuncId} {F:α->α->Option Int}
  (hg:∀a b r,F a b=some r -> @FnM dmT P g [.d (.agg (E a)),.d (.agg (E b))] [] (vI r) []) (hb:aH P g=true)
  (hC:∀(β:Type) [Inhabited β] (enc:β->List Value) (hk:∀x,(enc x).length=k) (h1:∀x,∀v∈enc x,v.oneCell'=true) (cf:β->β->Int) (hO:SWO (ltOf cf)) (g:Nat) (cb:Array Value) (blk off cap:Nat) (d:Array β) (w:World)
   (eg:∀args w,(callFunc g args).run P w = .ok (.enter g args) w) (hcmp:CmpLays P g cb enc k cf blk off d.size w) (hH:HoldsK enc k w blk off d) (hblk:blk<w.heap.size) (hsz:d.size<4611686018427387904),
   Calls P f #[.slice (some ⟨blk,off,none⟩) d.size cap,.func (.func g) #[] cb] w λe w'=>e = .returned (.tuple #[])/\∃n os,w'=sortWorldK enc k w blk off n (pdq (ltOf cf) d 0 d.size (Lib.bitLen d.size) true true) os)
  (h0:∀(p:Option Addr) (cap:Nat) (fv:Value) (w:World),Calls P f #[.slice p 0 cap,fv] w λe w'=>e = .returned (.tuple #[])/\w'=w)
  {xs r:List α} (hF:rY F xs=some r) :
  FnM P f [dV (av 0) k xs,.fn g []] (([]:List Box)++gI k E xs) (.tup []) (([]:List Box).map some++gT xs (gB k E r)):=by
 have unit:∀G w,RepV G w (.tuple #[]) (.tup []):=λG w => .tup [] [] rfl (λi h1=>absurd h1 (Nat.not_lt_zero i))
 intro G w vargs hinv hargs
 obtain ⟨v,v2,rfl,hv,hf⟩:=hargs.two
 obtain rfl:v2 = .func (.func g) #[] #[]:=by
  cases hf with
  | fn _ arr _ hl _ =>
   obtain rfl:arr=[]:=List.eq_nil_of_length_eq_zero hl
   rfl
 cases xs with
 | nil =>
  have hv':RepD G.imm w v (.sl []):=hv.d_inv
  obtain ⟨p,cap,rfl⟩:∃p cap,v = .slice p 0 cap:=by
   cases hv' with
   | sl0 a cap=>exact⟨_,_,rfl⟩
   | sl b off cap sz xs us=>exact⟨_,_,rfl⟩
  refine (h0 p cap _ w).mono ?_
  rintro e w' ⟨rfl,rfl⟩
  exact⟨_,G,gz [],1,_,[],rfl,hinv,unit _ _,rfl,List.nodup_nil,λi hi=>absurd hi (Nat.not_lt_zero i),λi bx hb=>by simp [gT]at hb⟩
 | cons x l =>
  obtain ⟨⟨hlen,hsome,hO⟩,hF⟩:=J6 hF
  ·skip
   obtain ⟨p1,p2,p3,p4⟩:=BF hO
   have hrl:r.length=l.length+1:=by rw [<- hF,List.length_map,p3]
   have hB:gB k E r=some (.vec k (r.map E)):=by
    cases r with
    | nil=>simp at hrl
    | cons a b=>rfl
   have hI:(([]:List Box)++gI k E (x::l))=[.vec k ((x::l).map E)]:=rfl
   have hT:(([]:List Box).map some++gT (x::l) (gB k E r))=[some (.vec k (r.map E))]:=by rw [hB];rfl
   rw [hI]at hinv ⊢
   rw [hT]
   have hS:gz [.vec k ((x::l).map E)] (av 0)=some (.vec k ((x::l).map E)):=by rw [Bn];rfl
   obtain ⟨b,o,sz,hmu,hst,hEv⟩:=hinv.box _ _ hS
   have hst':Stands G w (.vec k ((x::l).map E)) b o sz:=hst
   obtain rfl:sz=k:=hst'.sz
   have hv':RepV G w v (.vs (av 0) sz 0 (l.length+1)):=hv
   generalize hk:l.length+1=n at hv'
   cases hv' with
   | vs0=>omega
   | @vs _ b2 o2 _ _ _ cap hm hcap hb2 =>
    rw [hmu]at hm
    simp only [so_,Prod.mk.injEq]at hm
    obtain ⟨rfl,rfl,_⟩:=hm
    subst hk
    obtain ⟨⟨arr,elem,harr⟩,hnoimm⟩:=hst'.free rfl
    have hgl:∀i:Fin (l.length+1),i.1<((x::l).map E).length:=λi=>by rw [List.length_map];exact i.2
    have hex:∀i:Fin (l.length+1),∃us:Nat->Value,(∀j,j<sz->w.cell? ⟨b,o+i.1*sz+j,none⟩=some (us j)/\(us j).oneCell'=true)/\∀j (hj:j<(E ((x::l).get i)).length),RepD G.imm w (us j) (E ((x::l).get i))[j]:=λi=>by
     obtain ⟨hl,us,u1,u2⟩:=hst'.elem (.inl rfl) i.1 (hgl i)
     have e:((x::l).map E)[i.1]'(hgl i)=E ((x::l).get i):=by rw [List.getElem_map];rfl
     rw [e]at hl
     refine⟨us,λj hj=>u1 j (by rw [e,hl];exact hj),λj hj => ?_⟩
     have:=u2 j (by rw [e];exact hj)
     simp only [e]at this
     exact this
    let enc:Fin (l.length+1)->List Value:=λi=>(List.range sz).map λj=>(w.cell? ⟨b,o+i.1*sz+j,none⟩).getD undef
    have henc:∀i,(enc i).length=sz:=λi=>by simp [enc]
    have hencj:∀i j (hj:j<(enc i).length),∃u,(enc i)[j]=u/\w.cell? ⟨b,o+i.1*sz+j,none⟩=some u/\u.oneCell'=true/\∀(h2:j<(E ((x::l).get i)).length),RepD G.imm w u (E ((x::l).get i))[j]:=λi j hj=>by
     obtain ⟨us,u1,u2⟩:=hex i
     have hj':j<sz:=by rw [henc]at hj;exact hj
     refine⟨us j,?_,(u1 j hj').1,(u1 j hj').2,λh2=>u2 j h2⟩
     simp [enc,(u1 j hj').1]
    have h1:∀i,∀v∈enc i,v.oneCell'=true:=λi v hv=>by
     obtain ⟨j,hj,rfl⟩:=List.getElem_of_mem hv
     obtain ⟨u,e,_,h,_⟩:=hencj i j hj
     rw [e];exact h
    have hds:(Array.ofFn λi:Fin (l.length+1)=>i).size=l.length+1:=by simp
    have hdg:∀t (h:t<l.length+1),(Array.ofFn λi:Fin (l.length+1)=>i)[t]! = ⟨t,h⟩:=λt h=>by
     rw [getElem!_pos _ t (by simpa using h)];simp
    have hget:∀(i:Fin (l.length+1)) c,c<sz->w.cell? ⟨b,o+i.1*sz+c,none⟩=some (enc i)[c]! := λi c hc=>by
     obtain ⟨u,e,h,_⟩:=hencj i c (by rw [henc];exact hc)
     rw [getElem!_pos _ c (by rw [henc];exact hc),e];exact h
    have hH:HoldsK enc sz w b o (Array.ofFn λi:Fin (l.length+1)=>i):=λt ht=>by
     have ht':t<(l.length+1)*sz:=by simpa using ht
     have hk0:0<sz:=by
      rcases Nat.eq_zero_or_pos sz with h|h
      ·rw [h]at ht';omega
      ·exact h
     have htd:t / sz<l.length+1:=Nat.div_lt_of_lt_mul (by rw [Nat.mul_comm];exact ht')
     refine⟨?_,by simp only [World.frozen?,harr];simp⟩
     rw [get_flatK _ _ _ _ (by rw [hds];exact ht'),hdg _ htd]
     have:=hget ⟨t / sz,htd⟩ (t % sz) (Nat.mod_lt _ hk0)
     have e:o+t / sz*sz+t % sz=o+t:=by have:=Nat.div_add_mod t sz;rw [Nat.mul_comm]at this;omega
     simp only [e]at this
     exact this
    have hcf:∀i j,F ((x::l).get i) ((x::l).get j)=some (lT F x l i j):=λi j=>by
     have:=hsome i j
     unfold lT
     cases hx:F ((x::l).get i) ((x::l).get j)with
     | none=>rw [hx]at this;cases this
     | some a=>rfl
    have hcmp:=LY (E:=E) (P:=P) (g:=g) hg (x::l).get enc (k:=sz) (lT F x l) hcf hinv (b:=b) (o:=o) (n:=l.length+1) hnoimm (hinv.bound _ _ _ _ hmu) (λi=>by rw [henc,hE]) (λi j k1 k2=>by
     obtain ⟨u,e,_,_,h⟩:=hencj i j k1
     rw [e];exact h k2)
    have hadr:(⟨b,o+0*sz,none⟩:Addr)=⟨b,o,none⟩:=by simp
    show Calls P f #[.slice (some ⟨b,o+0*sz,none⟩) (l.length+1) cap,.func (.func g) #[] #[]] w _
    rw [hadr]
    have hcall:=hC (Fin (l.length+1)) enc henc h1 (lT F x l) hO g #[] b o cap (Array.ofFn λi=>i) w (λargs w=>yF (C:=⟨P,0,[],[]⟩) hb w) (by rw [hds];exact hcmp) hH (hinv.bound _ _ _ _ hmu) (by rw [hds];exact hlen)
    rw [hds]at hcall
    refine hcall.mono ?_
    rintro e w' ⟨rfl,m,os,rfl⟩
    generalize hd':pdq (ltOf (lT F x l)) (Array.ofFn λi=>i) 0 (l.length+1) (Lib.bitLen (l.length+1)) true true=d' at *
    have hrd:r=d'.toList.map (x::l).get:=by rw [<- hF];unfold ut;rw [hd']
    have hput:=IE (ev:=(id:Value->Value)) (o:=o) (d:=flatK enc sz d') (w:=Sort.ahead w m) (b:=b) (arr:=arr) (t:=elem) (fr:=(0,0)) harr
    have hpsz:(putCells (id:Value->Value) o (flatK enc sz d') arr).size=arr.size:=by simp [putCells]
    have hHp:HoldsK enc sz (putRowK enc sz (Sort.ahead w m) b o d') b o d':=holdsK_putRowK enc sz (Sort.ahead w m) b o (Array.ofFn λi=>i) d' (holdsK_ahead enc sz w m b o _ hH) (by rw [p4,hds])
    have hroom0:=hst'.room
    rw [C8 E sz hE,bW harr]at hroom0
    obtain ⟨i1,e1⟩:=hinv.write (w':=putRowK enc sz (Sort.ahead w m) b o d') hS rfl hmu (λb' hb'=>y7 hb') (by simp [putRowK,putRow,mapBlock,Sort.ahead]) (by rw [bW harr];show _<=bsize (putRow id (Sort.ahead w m) b o (flatK enc sz d')) b;rw [bW hput,hpsz];exact Nat.le_refl _) hnoimm rfl rfl rfl (.vec sz (r.map E)) (λex=>by
     show Stands _ _ _ _ _ _
     refine { sz:=rfl,even:=λy hy=>by obtain ⟨z,_,rfl⟩:=List.mem_map.1 hy;exact hE z,room := ?_,cell:=λj hj => ?_,free:=λ_=>⟨⟨_,_,hput⟩,hnoimm⟩,froz:=λe=>by cases e }
     ·rw [C8 E sz hE]
      show _<=bsize (putRow id (Sort.ahead w m) b o (flatK enc sz d')) b
      rw [bW hput,hpsz,hrl];simpa using hroom0
     ·have hj':j<(l.length+1)*sz:=by rw [C8 E sz hE,hrl]at hj;exact hj
      have hk0:0<sz:=by
       rcases Nat.eq_zero_or_pos sz with h|h
       ·rw [h]at hj';omega
       ·exact h
      have htd:j / sz<d'.size:=by rw [p4];exact Nat.div_lt_of_lt_mul (by rw [Nat.mul_comm];exact hj')
      have hmod:=Nat.mod_lt j hk0
      obtain ⟨c1,_⟩:=hHp.cell htd hmod
      have ej:o+j / sz*sz+j % sz=o+j:=by have:=Nat.div_add_mod j sz;rw [Nat.mul_comm]at this;omega
      rw [ej]at c1
      obtain ⟨u,e,_,h,hrep⟩:=hencj d'[j / sz]! (j % sz) (by rw [henc];exact hmod)
      have hel:(E ((x::l).get d'[j / sz]!)).length=sz:=hE _
      have hrep':=hrep (by rw [hel];exact hmod)
      refine⟨u,?_,h,?_⟩
      ·rw [c1,getElem!_pos _ (j % sz) (by rw [henc];exact hmod),e]
      ·have hev:∀y∈(r.map E).map (λx=>x.map V.d),y.length=sz:=λy hy=>by
        obtain ⟨z,hz,rfl⟩:=List.mem_map.1 hy
        obtain ⟨z',_,rfl⟩:=List.mem_map.1 hz
        rw [List.length_map];exact hE z'
       have hri:j / sz<r.length:=by rw [hrl,<- p4];exact htd
       have hrg:r[j / sz]=(x::l).get d'[j / sz]! := by
        have:r[j / sz]? = some ((x::l).get d'[j / sz]!):=by
         rw [hrd,List.getElem?_map,Array.getElem?_toList,Array.getElem?_eq_getElem htd,getElem!_pos d' _ htd];rfl
        rw [List.getElem?_eq_getElem hri]at this
        exact Option.some.inj this
       obtain ⟨g1,g2⟩:=flat_get sz _ hev (j / sz) (j % sz) (by simpa using hri) (by simpa [hE]using hmod)
       have ei:j / sz*sz+j % sz=j:=by have:=Nat.div_add_mod j sz;rw [Nat.mul_comm]at this;omega
       have eall:(Box.vec sz (r.map E)).all[j]'hj=V.d ((E (r[j / sz]))[j % sz]'(by rw [hE];exact hmod)):=by
        have:(Box.vec sz (r.map E)).all[j]? = some (V.d ((E (r[j / sz]))[j % sz]'(by rw [hE];exact hmod))):=by
         show ((r.map E).map λx=>x.map V.d).flatten[j]? = _
         have g1':j / sz*sz+j % sz<((r.map E).map λx=>x.map V.d).flatten.length:=g1
         rw [ei]at g1'
         rw [List.getElem?_eq_getElem g1']
         have g2':=g2
         simp only [ei]at g2'
         rw [g2'];simp
        rw [List.getElem?_eq_getElem hj]at this
        exact Option.some.inj this
       rw [eall]
       refine .d ?_
       simp only [hrg]
       exact hrep'.ext ex.imm ex.cell) (λ_=>Nat.le_add_right _ _)
    obtain ⟨i2,e2⟩:=i1.more (w':=sortWorldK enc sz w b o m d' os) (λb' hb'=>by
     show ((putRowK enc sz (Sort.ahead w m) b o d').heap++os)[b']? = _
     rw [Array.getElem?_append_left hb']) (by simp [sortWorldK,grow]) rfl rfl rfl (λ_ _ h=>h) (λ_ _ h => .inl h) rfl (λ_ h=>h)
    refine⟨_,G,_,1,_,[av 0],rfl,i2,unit _ _,rfl,by simp,λi hi => ?_,λi bx hb => ?_⟩
    ·have:i=0:=by simpa using hi
     subst this;rfl
    ·cases i with
     | zero =>
      simp only [List.getElem?_cons_zero,so_]at hb
      subst hb
      exact⟨av 0,rfl,by simp [supd,Box.ren]⟩
     | succ i=>simp at hb
end Go.Eng

