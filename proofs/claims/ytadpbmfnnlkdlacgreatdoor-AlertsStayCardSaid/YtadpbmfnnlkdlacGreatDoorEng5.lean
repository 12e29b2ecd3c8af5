/-
  The engine: what the machine does to data, shown once for all programs (part 5).
-/
import Derived.Test.YtadpbmfnnlkdlacGreatDoorEng4
import Derived.Lib.LaidTab
import Derived.Lib.ItoaNum
import Derived.Deep.Draws
import Derived.Below
import Derived.Lib.IndexMore
import Derived.Lib.TrimByte
import Derived.Lib.Join
import Derived.Lib.Repeat
import Derived.Lib.TrailingZeros
import Derived.Lib.SlTrimSet
import Derived.Shelf.Strings.FuncGrows
import Derived.Shelf.Unicode.DecodeSlow
import Derived.Lib.ValidU
import Derived.Shelf.SlSortCmp.InsertionK
import Derived.Sort.AssemblyPlain
/-
  THE ENGINE: a slice that is cut in its own box and grows again; boxes of slices that may be empty; maps whose keys are structs.
-/
namespace Go.Eng
set_option linter.unusedSectionVars false
variable [DM]
set_option linter.unusedVariables false
set_option linter.unusedSimpArgs false
def kE {α:Type} (b:Bool) (xs:List α):Option Unit:=match b,xs with
 | true,[]=>none
 | _,_=>some ()
theorem kV_g {α:Type} {b:Bool} {n:Nm} {sz:Nat} {xs:List α} {u:Unit} (h:kE b xs=some u):kV b n sz xs=gV n sz xs:=by
 cases b with
 | false=>rfl
 | true=>cases xs with
  | nil=>cases h
  | cons x xs=>rfl
theorem kB_g {α:Type} {b:Bool} {sz:Nat} {enc:α->List D} {xs:List α} {u:Unit} (h:kE b xs=some u):kB b sz enc xs=gB sz enc xs:=by
 cases b with
 | false=>rfl
 | true=>cases xs with
  | nil=>cases h
  | cons x xs=>rfl
section
variable {C:Cfg} {Q:QH} {sl:Nat->V} {H:Hp} {c:Code}
end
section
variable {C:Cfg} {sl:Nat->V} {H:Hp} {q:Qm} {all rest:List Oper} {K:(Nat->V)->Hp->Prop}
variable {dst:Option Tmp} {d:Nat} {t ty:TypeId} {pos:String} {after:Array Edge} {g:Option (Nat×Bool)}
end
def cutG {β:Type} (h:β->List (Nat×V)) (A:β->Hp) (R:β->Prop):(Nat->V)->Hp->Prop:=λsl H =>
 ∀(C:Cfg) (b:Code) (Q:QH),(∀x,R x->∀sl' o,Eng.pick (h x) sl'=h x->Eng.pre (A x) o->wH C b Q sl' o)->wH C b Q sl H
theorem SX {C:Cfg} {c b:Code} {Q Q':QH} {sl:Nat->V} {H:Hp} {β:Type} (o:β->List (Nat×V)) (A:β->Hp) (R:β->Prop) (h1:wH C c (I5 (cutG o A R) (I5 (wH C b Q) Q')) sl H)
  (h2:∀x,R x->∀sl' B,Eng.pick (o x) sl'=o x->Eng.pre (A x) B->wH C b Q sl' B):wH C c (I5 (wH C b Q) Q') sl H:=by
 refine OV (λe sl H h => ?_) h1
 cases e with
 | normal=>exact h C b Q h2
 | _=>exact h
end Go.Eng

/-
  THE ENGINE: rules for arrays of bytes in a box, and for bytes to a string and back.
-/
namespace Go.Eng
set_option linter.unusedSectionVars false
variable [DM]
open Go
set_option linter.unusedVariables false
set_option linter.unusedSimpArgs false
section
variable {C:Cfg} {sl:Nat->V} {H:Hp} {q:Qm} {all rest:List Oper} {K:(Nat->V)->Hp->Prop}
variable {dst:Option Tmp} {d:Nat} {t ty:TypeId} {pos:String} {after:Array Edge} {g:Option (Nat×Bool)}
section
variable {xs:List Int} {m:Nat} {nm:Nm} {x l hi:Operand} {k k':IntKind} {a b:Int} {u u':Unit}
end
end
end Go.Eng

/-
  THE ENGINE: strconv.Itoa, by its contract off the shelf; the table that it reads is known.
-/
namespace Go.Eng
set_option linter.unusedSectionVars false
variable [DM]
open Go.Sort
set_option linter.unusedVariables false
set_option linter.unusedSimpArgs false
theorem Sb {P:Program} {G:Gh} {w:World} {name:String} {k:IntKind} {zs:List Int} (hl:∀A,Bl A->Lib.TabIs P A name k zs) (L:zs ≠ []) (h:Kn G w):Lib.TabIs P w name k zs:=by
 obtain ⟨A,h1,h2⟩:=h
 have ht:=hl A h1
 unfold Lib.TabIs World.var? at ht ⊢
 cases hg:P.globalNamed name with
 | none=>rw [hg]at ht;simp at ht
 | some g =>
  rw [hg]at ht
  simp only [ob_]at ht ⊢
  have I:g<A.heap.size:=by
   rcases Nat.lt_or_ge g A.heap.size with h|h
   ·exact h
   ·rw [Array.getElem?_eq_none h]at ht;cases ht
  have hc:∀o,w.cell? ⟨g,o,Option.none⟩=A.cell? ⟨g,o,Option.none⟩:=λo=>(h2 g o I).2
  cases hb:A.heap[g]? with
  | none=>rw [hb]at ht;cases ht
  | some O =>
   rw [hb]at ht
   cases O with
   | cells cs t fr =>
    simp only [so_]at ht
    have J:∀o,A.cell? ⟨g,o,Option.none⟩=cs[o]? := λo=>by simp [World.cell?,hb]
    cases hw:w.heap[g]? with
    | none =>
     exfalso
     have:=hc 0
     rw [J]at this
     simp only [World.cell?,hw]at this
     rw [ht]at this
     cases zs with
     | nil=>exact L rfl
     | cons z zs=>simp at this
    | some F =>
     cases F with
     | cells B t' M =>
      have N:∀o,w.cell? ⟨g,o,Option.none⟩=B[o]? := λo=>by simp [World.cell?,hw]
      have:B=cs:=Array.ext_getElem? (λo=>by rw [<- N,<- J,hc])
      rw [this,ht]
     | _ =>
      exfalso
      have:=hc 0
      rw [J]at this
      simp only [World.cell?,hw]at this
      rw [ht]at this
      cases zs with
      | nil=>exact L rfl
      | cons z zs=>simp at this
   | _=>cases ht
def PI (n:Int):Option ByteArray:=if -9223372036854775808<=n/\n<=9223372036854775807 then some ⟨(Lib.itoa n).toArray⟩else none
theorem itoa_ok {P:Program} {f:FuncId}
  (N : ∀ (n : Int), -9223372036854775808 ≤ n → n ≤ 9223372036854775807 → ∀ w : World, Lib.TabIs P w "internal/strconv.uint64pow10" .u64 Lib.pow10Tab →
   Calls P f #[.int .i64 n] w λe w'=>e = .returned (.string ⟨(Lib.itoa n).toArray⟩)/\∃k os,w'=grow (w.drewN k) os)
  (hl : ∀ M, Bl M → Lib.TabIs P M "internal/strconv.uint64pow10" .u64 Lib.pow10Tab) {n : Int} {r : ByteArray} (B : PI n = some r) : FnM P f [.d (.int .i64 n)] [] (.d (.str r)) [] := by
 unfold PI at B
 split at B
 ·rename_i L
  simp only [so_]at B
  subst B
  intro G w I o A
  obtain ⟨v,rfl,O⟩:=A.alone
  have F:RepD G.imm w v (.int .i64 n):=O.d_inv
  cases F with
  | int =>
   refine (N n L.1 L.2 w (Sb hl (by decide) o.kn)).mono ?_
   rintro e w' ⟨rfl,k,os,rfl⟩
   obtain ⟨i2,R⟩:=o.more (w':=grow (w.drewN k) os) (G':=G) (U':=λ_=>False) (λb' J=>by
    show (w.heap++os)[b']? = _
    rw [Array.getElem?_append_left J]) (by simp [grow,World.drewN]) rfl rfl rfl (λ_ _ h=>h) (λ_ _ h => .inl h) rfl (λ_ h=>h) (λ_=>Nat.le_add_right w.drawn k)
   exact⟨_,G,_,1,_,[],rfl,i2,.d (.str _),rfl,List.nodup_nil,λi hi=>absurd hi (Nat.not_lt_zero i),λi bx hb=>by simp at hb⟩
 ·cases B
end Go.Eng

/-
  THE ENGINE: functions over literals, by their contracts off the shelf.
-/
namespace Go.Eng
set_option linter.unusedSectionVars false
variable [DM]
open Go.RowKit (Below)
set_option linter.unusedVariables false
set_option linter.unusedSimpArgs false
def isLit:D->Bool
 | .int _ _ | .bool _ | .str _=>true
 | _=>false
def lv:D->Value
 | .int k n => .int k n
 | .bool b => .bool b
 | .str s => .string s
 | _=>undef
theorem lit_inv {I:Nat->Nat->Prop} {w:World} {v:Value} {d:D} (h:RepD I w v d) (hl:isLit d=true):v=lv d:=by
 cases h with
 | int k n=>rfl
 | bool b=>rfl
 | str s=>rfl
 | agg=>cases hl
 | sl0=>cases hl
 | sl=>cases hl
 | ptr=>cases hl
 | nilp=>cases hl
 | nils=>cases hl
 | wild0=>cases hl
 | wild=>cases hl
 | wildp=>cases hl
theorem Mg {G:Gh} {w:World}:∀{vs:List Value} {ds:List D},wh G w vs (ds.map V.d)->ds.all isLit=true->vs=ds.map lv
 | [],[],_,_=>rfl
 | [],d::ds,h,_=>by have:=h.1;simp at this
 | v::vs,[],h,_=>by have:=h.1;simp at this
 | v::vs,d::ds,h,hl=>by
  simp only [List.all_cons,Bool.and_eq_true]at hl
  obtain ⟨o,h⟩:=h
  have A:RepV G w v (.d d):=h 0 (by simp) (by simp)
  have e:=lit_inv A.d_inv hl.1
  have:wh G w vs (ds.map V.d):=⟨by simpa using o,λi h1 h2=>by
   have:=h (i+1) (by simpa using h1) (by simpa using h2)
   simpa using this⟩
  rw [e,Mg this hl.2];rfl
theorem Ld {P:Program} {f:FuncId} (ds:List D) (v:Value) (r:V) (L:ds.all isLit=true) (J:∀G w,RepV G w v (ren [] r))
  (I:∀(G:Gh) (w:World),Kn G w->Calls P f (ds.map lv).toArray w λe w'=>e = .returned v/\Below w.heap.size w w'/\(dmK=true->w.drawn<=w'.drawn)):FnM P f (ds.map V.d) [] r []:=by
 intro G w B o A
 rw [Mg A L]
 refine (I G w o.kn).mono ?_
 rintro e w' ⟨rfl,hb,hd⟩
 obtain ⟨i2,M⟩:=o.more (w':=w') (G':=G) (U':=λ_=>False) (λb' F=>hb.block b' F) hb.size hb.os hb.tape hb.output (λ_ _ h=>h) (λ_ _ h => .inl h) rfl (λ_ h=>h) hd
 exact⟨_,G,_,1,_,[],rfl,i2,J _ _,rfl,List.nodup_nil,λi hi=>absurd hi (Nat.not_lt_zero i),λi bx hb=>by simp at hb⟩
def EB (s t:ByteArray):Option Bool:=if s.size<4294967281 then some (Lib.contains s.data.toList t.data.toList)else none
theorem Nj {P:Program} {f:FuncId} {g:Nat}
  (B:∀(s t:ByteArray) (m:Int) (w:World),s.size<4294967281->w.cell? ⟨g,0,Option.none⟩=some (.int .i64 m)->Calls P f #[.string s,.string t] w λe w'=>e = .returned (.bool (Lib.contains s.data.toList t.data.toList))/\w'=w)
  (hl:∀o,Bl o->∃m,o.cell? ⟨g,0,Option.none⟩=some (.int .i64 m)) {s t:ByteArray} {r:Bool} (h:EB s t=some r):FnM P f [.d (.str s),.d (.str t)] [] (.d (.bool r)) []:=by
 unfold EB at h
 split at h
 ·rename_i hs
  simp only [so_]at h
  subst h
  refine Ld [.str s,.str t] _ _ rfl (λG w => .d (.bool _)) (λG w F => ?_)
  obtain ⟨o,h1,h2⟩:=F
  obtain ⟨m,hm⟩:=hl o h1
  have hb:g<o.heap.size:=by
   rcases Nat.lt_or_ge g o.heap.size with h|h
   ·exact h
   ·have e:o.heap[g]? = none:=Array.getElem?_eq_none h
    simp only [World.cell?,e]at hm
    cases hm
  exact (B s t m w hs (by rw [(h2 g 0 hb).2];exact hm)).mono (λe w' A=>⟨A.1,by rw [A.2];exact⟨Below.refl _ _,λ_=>Nat.le_refl _⟩⟩)
 ·cases h
end Go.Eng

/-
  THE ENGINE: strings.Join, strings.Repeat, bits.TrailingZeros, by their contracts off the shelf.
-/
namespace Go.Eng
set_option linter.unusedSectionVars false
variable [DM]
open Go
open Go.RowKit (Below)
set_option linter.unusedVariables false
set_option linter.unusedSimpArgs false
def Pb (xs:List ByteArray) (h:ByteArray):Option ByteArray :=
 if xs.length<=140737488355328/\(Lib.join (xs.map (·.data.toList)) h.data.toList).length<=140737488355328 then some ⟨(Lib.join (xs.map (·.data.toList)) h.data.toList).toArray⟩else none
theorem join_ok (hdm:dmK=false) {P:Program} {f:FuncId}
  (h0:∀(a:Option Addr) (c:Nat) (A:ByteArray) (w:World),Calls P f #[.slice a 0 c,.string A] w λe w'=>e = .returned (.string ⟨#[]⟩)/\w'=w)
  (hC:∀(bk o c:Nat) (xs:List ByteArray) (A:ByteArray) (w:World),(∀(j:Nat) x,xs[j]? = some x->w.cell? ⟨bk,o+j,none⟩=some (.string x))->bk<w.heap.size->xs.length<=140737488355328->xs.length<=c ->
   (Lib.join (xs.map (·.data.toList)) A.data.toList).length<=140737488355328 ->
   Calls P f #[.slice (some ⟨bk,o,none⟩) xs.length c,.string A] w λe w'=>e = .returned (.string ⟨(Lib.join (xs.map (·.data.toList)) A.data.toList).toArray⟩)/\Below w.heap.size w w')
  {xs:List ByteArray} {A r:ByteArray} (O:Pb xs A=some r):FnM P f [vL eS xs,vS A] [] (vS r) []:=by
 unfold Pb at O
 split at O
 ·rename_i hx
  simp only [so_]at O
  subst O
  intro G w F X M
  have I:∀w',Below w.heap.size w w'->∃v G' S' tk' U' ν,Ending.returned (.string ⟨(Lib.join (xs.map (·.data.toList)) A.data.toList).toArray⟩) = .returned v/\Inv ⟨G,w,Ew G []⟩ G' w' S' tk' U'/\RepV G' w' v (ren ν (vS ⟨(Lib.join (xs.map (·.data.toList)) A.data.toList).toArray⟩)) /\
    ν.length=([]:List (Option Box)).length/\ν.Nodup/\(∀i,i<([]:List Box).length->ν[i]? = some (ax i))/\∀(i:Nat) (bx:Box),([]:List (Option Box))[i]? = some (some bx)->∃n,ν[i]? = some n/\S' n=some (bx.ren ν):=by
   intro w' hb
   obtain ⟨i2,e2⟩:=X.more (w':=w') (G':=G) (U':=λ_=>False) (λb' Z=>hb.block b' Z) hb.size hb.os hb.tape hb.output (λ_ _ h=>h) (λ_ _ h => .inl h) rfl (λ_ h=>h) (λh=>by rw [hdm]at h;cases h)
   exact⟨_,G,_,1,_,[],rfl,i2,.d (.str _),rfl,List.nodup_nil,λi hi=>absurd hi (Nat.not_lt_zero i),λi bx hb=>by simp at hb⟩
  obtain ⟨hl,ha⟩:=M
  obtain ⟨v0,R,rfl⟩:∃v0 R,F=[v0,R]:=by
   match F,hl with
   | [v0,R],_=>exact⟨v0,R,rfl⟩
  have r0:RepV G w v0 (vL eS xs):=ha 0 (by simp) (by simp)
  have r1:RepV G w R (vS A):=ha 1 (by simp) (by simp)
  rw [r1.d_inv.str_inv]
  have N:=r0.d_inv
  generalize L:xs.map eS=ys at N
  cases N with
  | sl0 a cap =>
   have hn:xs=[]:=by simpa using L
   subst hn
   refine (h0 a cap A w).mono ?_
   rintro e w' ⟨rfl,rfl⟩
   exact I _ (Below.refl _ _)
  | sl b off cap sz _ us hcap hsz hI hc ho hr =>
   have W:ys.length=xs.length:=by rw [<- L];simp
   have B:∀(j:Nat) x,xs[j]? = some x->w.cell? ⟨b,off+j,none⟩=some (.string x):=by
    intro j x hj
    obtain ⟨hj1,hj2⟩:=List.getElem?_eq_some_iff.1 hj
    have J:j<ys.length:=by omega
    have Y:ys[j]=[D.str x]:=by
     subst L
     rw [List.getElem_map,hj2];rfl
    have hz:sz=1:=by rw [<- hsz j J,Y];rfl
    subst hz
    have h2:=hc j 0 J (by omega)
    have h3:=hr j 0 J (by rw [Y];exact Nat.zero_lt_one)
    have h4:us j 0 = .string x:=by
     have:ys[j][0]'(by rw [Y];exact Nat.zero_lt_one)=D.str x:=by simp [Y]
     rw [this]at h3
     exact h3.str_inv
    rw [h4]at h2
    simpa using h2
   rw [W]
   cases xs with
   | nil =>
    refine (h0 (some ⟨b,off,none⟩) cap A w).mono ?_
    rintro e w' ⟨rfl,rfl⟩
    exact I _ (Below.refl _ _)
   | cons x xs =>
    have hb:b<w.heap.size:=by
     rcases Nat.lt_or_ge b w.heap.size with h|h
     ·exact h
     ·have h1:=B 0 x rfl
      have e:w.heap[b]? = none:=Array.getElem?_eq_none h
      simp only [World.cell?,e]at h1
      cases h1
    refine (hC b off cap (x::xs) A w B hb hx.1 (by omega) hx.2).mono ?_
    rintro e w' ⟨rfl,hbw⟩
    exact I _ hbw
 ·cases O
end Go.Eng

/-
  THE ENGINE: results of which the first is a new slice and the others are data.
-/
namespace Go.Eng
set_option linter.unusedSectionVars false
variable [DM]
set_option linter.unusedVariables false
def wL (ds:List D) (v:V):V:=GI (v::ds.map V.d)
theorem JE (ρ:List Nm):∀ds:List D,renL ρ (ds.map V.d)=ds.map V.d
 | []=>rfl
 | d::ds=>by simp only [List.map_cons,renL,ren,JE ρ ds]
theorem LB (k:Nat):∀ds:List D,okL k (ds.map V.d)=true
 | []=>rfl
 | d::ds=>by simp only [List.map_cons,okL,okV,LB k ds,Bool.and_self]
theorem AU (ρ:List Nm) (ds:List D) (v:V):ren ρ (wL ds v)=wL ds (ren ρ v):=by
 cases ds with
 | nil=>rfl
 | cons d ds =>
  show V.tup (renL ρ (v::(d::ds).map V.d))=_
  simp only [renL,JE];rfl
theorem JM {k:Nat} (ds:List D) {v:V} (h:okV k v=true):okV k (wL ds v)=true:=by
 cases ds with
 | nil=>exact h
 | cons d ds =>
  show okL k (v::(d::ds).map V.d)=true
  simp only [okL,LB,h,Bool.and_self]
section
variable {C:Cfg} {sl:Nat->V} {H:Hp} {q:Qm} {all rest:List Oper} {K:(Nat->V)->Hp->Prop}
variable {dst:Option Tmp} {d:Nat} {t ty:TypeId} {pos:String} {after:Array Edge} {g:Option (Nat×Bool)}
theorem Gt {α:Type} {enc:α->List D} {sz:Nat} {xs:List α} {f:Operand} {args:List Operand} {M:Array TypeId} {fn:FuncId} {caps A:List V} {Sin outs:List Box} (ds:List D) (is:List Nat) {l:List (Nm×Box)}
  (hc:FnM C.P fn A Sin (wL ds (gV (ax is.length) sz xs)) (outs.map some++gO sz enc xs))
  (hf:ev sl f = .fn fn caps) (hb:aI C.P fn=true) (hl:pF H is=some l) (R:Sin.map (λb=>b.ren (l.map (·.1)))=l.map (·.2)) (B:Sin.all (λb=>b.ok is.length)=true)
  (Z:((args.map (ev sl)++caps).flatMap frz).all (λn=>false)=true) (X:(args.map (ev sl)++caps).map co0=renL (l.map (·.1)) A) (L:okL is.length A=true)
  (o:outs.length=is.length) (hi:is.Nodup) (W:outs.all (λb=>b.ok 0)=true)
  (hw:aQ all sl ⟨some d,.call ⟨.value f,args.toArray,M⟩,ty,pos,after,g⟩=some true)
  (H':Hp) (Y:∀ν,setH H (Eng.outs ν is (l.map (·.1)) (outs.map some))=H')
  (h:∀n:Nm,bu none C all K rest (upd sl d (wL ds (gV n sz xs))) (H'++[(n,gB sz enc xs)])) :
  bu none C all K (⟨some d,.call ⟨.value f,args.toArray,M⟩,ty,pos,after,g⟩::rest) sl H:=by
 have O:=(pq hl).1
 have F:∀{k:Nat} {os:List Box},os.all (λb=>b.ok 0)=true->okOut k (os.map some)=true:=by
  intro k os
  induction os with
  | nil=>exact λ_=>rfl
  | cons b os J =>
   intro h
   simp only [List.all_cons,Bool.and_eq_true]at h
   simp only [List.map_cons,okOut,Bool.and_eq_true]
   exact⟨Box.ok_mono (Nat.zero_le _) h.1,J h.2⟩
 cases xs with
 | nil =>
  have N:FnM C.P fn A Sin (wL ds .nil) (outs.map some):=by simpa [gO,gV]using hc
  refine Ho is 0 N hf hb hl R B Z X L (JM ds rfl) (by simp [o]) hi (F W) (by rw [List.drop_of_length_le (by simp [o])];rfl) hw (λν => ?_)
  simp only [List.range_zero,List.map_nil,List.append_nil,news,Y,AU]
  exact Kh (λn=>h n)
 | cons x xs =>
  refine Ho (r:=wL ds (gV (ax is.length) sz (x::xs))) (Sout:=outs.map some++[some (.vec sz ((x::xs).map enc))]) is 1 hc hf hb hl R B Z X L ?_ (by simp [o]) hi ?_ ?_ hw (λν => ?_)
  ·exact JM ds (Ti (by simp [o]) _)
  ·have:∀{k:Nat} {a b:List (Option Box)},okOut k a=true->okOut k b=true->okOut k (a++b)=true:=by
    intro k a b
    induction a with
    | nil=>exact λ_ h=>h
    | cons y a J =>
     intro h1 h2
     cases y with
     | none=>exact J h1 h2
     | some y=>simp only [List.cons_append,okOut,Bool.and_eq_true]at h1 ⊢;exact⟨h1.1,J h1.2 h2⟩
   exact this (F W) rfl
  ·rw [List.drop_append_of_le_length (by simp [o]),List.drop_of_length_le (by simp [o])];rfl
  ·have e1:ren (l.map (·.1)++(List.range 1).map ν) (gV (ax is.length) sz (x::xs))=gV (ν 0) sz (x::xs):=by
    rw [SI,yQ]
    simp [O]
   have e2:∀ν,Eng.outs ν is (l.map (·.1)) (outs.map some++[some (.vec sz ((x::xs).map enc))])=Eng.outs ν is (l.map (·.1)) (outs.map some):=by
    intro ν
    have:∀(is:List Nat) (I:List Nm) (a b:List (Option Box)),is.length=a.length->Eng.outs ν is I (a++b)=Eng.outs ν is I a:=by
     intro is
     induction is with
     | nil=>intro I a b h;cases a with
      | nil=>cases b <;> rfl
      | cons _ _=>simp at h
     | cons i is J=>intro I a b h;cases a with
      | nil=>simp at h
      | cons y a=>cases I with
       | nil=>rfl
       | cons n I=>simp only [List.cons_append,Eng.outs];rw [J I a b (by simpa using h)]
    exact this _ _ _ _ (by simp [o])
   rw [AU,e1,e2,Y]
   rw [List.drop_append_of_le_length (by simp [o]),List.drop_of_length_le (by simp [o])]
   exact h (ν 0)
theorem Bo {α:Type} {enc:α->List D} {sz t:Nat} {xs:List α} {n:Nm} {outs:List Box} {e:Exit} {O:List ResultVar} (ds:List D) (M:e = .normal\/e = .ret) (j:Nat) (h1:sl t=gV n sz xs) (F:Ic C sl H O (ds.map V.d)) (h2:H[j]? = some (n,gB sz enc xs)) (hj:Nat.ble outs.length j=true) (W:outs.all (λb=>b.ok 0)=true)
  (Y:H.take outs.length=ru 0 outs):pI C (.tmp t::O) outs.length (wL ds (gV (ax outs.length) sz xs)) (outs.map some++gO sz enc xs) e sl H:=by
 have hj:=Nat.le_of_ble_eq_true hj
 have o:∀i (h:i<outs.length),H[i]? = some (ax i,some outs[i]):=λi hi=>by
  have:=u7 outs 0 i hi
  rw [Nat.zero_add,<- Y,List.getElem?_take,if_pos hi]at this
  exact this
 have ho:∀{ν:List Nm} {l:List Box} {j:Nat} {I:List Nat} {L:List Nm} {bs:List (Option Box)},(∀b∈l,b.ok 0=true)->(∀i (h:i<l.length),H[j+i]? = some (ax (j+i),some l[i]))->Cm H ν I L bs->Cm H ν (List.range' j l.length++I) ((List.range' j l.length).map ax++L) (l.map some++bs):=by
  intro ν l
  induction l with
  | nil=>exact λ_ _ h=>h
  | cons b l J =>
   intro j I L bs hb N F
   simp only [List.length_cons,List.range'_succ,List.map_cons,List.cons_append]
   refine⟨?_,J (λx R=>hb x (by simp [R])) (λi hi => ?_) F⟩
   ·have:=N 0 (by simp)
    simp only [Option.map_some,y9 (hb b (by simp))]
    exact this
   ·have:=N (i+1) (by simpa using hi)
    rw [show j+1+i=j+(i+1) by omega]
    exact this
 have B:∀b∈outs,b.ok 0=true:=λb hb=>List.all_eq_true.1 W b hb
 have A:∀vs:List V,CoL H vs vs:=λvs=>by
  induction vs with
  | nil=>exact .nil
  | cons v vs J=>exact .cons (.inl rfl) J
 cases xs with
 | nil =>
  refine⟨M,.nil::ds.map V.d,.nil::ds.map V.d,List.range' 0 outs.length++[],(List.range' 0 outs.length).map ax++[],⟨h1,F⟩,A _,?_,ho B (λi hi=>by rw [Nat.zero_add];exact o i hi) trivial,by simp [List.nodup_range'],λi hi=>by simp [hi]⟩
  show wL ds .nil=_
  rw [AU];rfl
 | cons x xs =>
  refine⟨M,.vs n sz 0 (x::xs).length::ds.map V.d,.vs n sz 0 (x::xs).length::ds.map V.d,List.range' 0 outs.length++[j],(List.range' 0 outs.length).map ax++[n],⟨h1,F⟩,A _,?_,
   ho B (λi hi=>by rw [Nat.zero_add];exact o i hi) ⟨h2,trivial⟩,?_,λi hi=>by rw [List.getElem?_append_left (by simpa using hi)];simp [hi]⟩
  ·show wL ds (.vs n sz 0 (x::xs).length)=ren _ (wL ds (.vs (ax outs.length) sz 0 (x::xs).length))
   rw [AU]
   simp only [ren]
   rw [yQ]
   rw [List.getElem?_append_right (by simp)];simp
  ·rw [List.nodup_append]
   refine⟨List.nodup_range',by simp,λa X b hb => ?_⟩
   simp only [List.mem_singleton]at hb
   simp only [List.mem_range'_1]at X
   omega
end
end Go.Eng

/-
  THE ENGINE: strings.ContainsFunc by its contract off the shelf (only where draws are not counted).
-/
namespace Go.Eng
set_option linter.unusedSectionVars false
variable [DM]
open Go.Proofs
open Go.RowKit (Below)
set_option linter.unusedVariables false
set_option linter.unusedSimpArgs false
def NC (s:ByteArray):Option Bool:=if s.size<=9223372036854775807 then some (Lib.validD s.data.toList)else none
theorem tabs_kn {G:Gh} {w:World} {g3 g4:Nat} (h:Kn G w) (hl:∀A,Bl A->Lib.Utf8Tabs g3 g4 A):Lib.Utf8Tabs g3 g4 w:=by
 obtain ⟨A,h1,h2⟩:=h
 obtain ⟨F,a2⟩:=hl A h1
 have key:∀(b o:Nat) (v:Value),A.cell? ⟨b,o,Option.none⟩=some v->w.cell? ⟨b,o,Option.none⟩=some v:=λb o v B=>by
  have hb:b<A.heap.size:=by
   rcases Nat.lt_or_ge b A.heap.size with h|h
   ·exact h
   ·have e:A.heap[b]? = none:=Array.getElem?_eq_none h
    simp only [World.cell?,e]at B
    cases B
  rw [(h2 b o hb).2];exact B
 exact⟨λc hc=>key _ _ _ (F c hc),λi hi=>⟨key _ _ _ (a2 i hi).1,key _ _ _ (a2 i hi).2⟩⟩
theorem Tf (o:dmK=false) {P:Program} {f:FuncId} {g3 g4:Nat}
  (I:∀(s:ByteArray) (w:World),s.size<=9223372036854775807->Lib.Utf8Tabs g3 g4 w->Calls P f #[.string s] w λe w'=>e = .returned (.bool (Lib.validD s.data.toList))/\Below w.heap.size w w')
  (hl:∀B,Bl B->Lib.Utf8Tabs g3 g4 B) {s:ByteArray} {r:Bool} (h:NC s=some r):FnM P f [.d (.str s)] [] (.d (.bool r)) []:=by
 unfold NC at h
 split at h
 ·rename_i hs
  simp only [so_]at h
  subst h
  exact Ld [.str s] _ _ rfl (λG w => .d (.bool _)) (λG w J=>(I s w hs (tabs_kn J hl)).mono (λe w' F=>⟨F.1,F.2,λA=>by rw [o]at A;cases A⟩))
 ·cases h
end Go.Eng

/-
  THE ENGINE: a sort by a comparison of the program's, by its contract off the shelf.
-/
namespace Go.Eng
set_option linter.unusedSectionVars false
variable [dM:DM]
open Go.Sort Go.Proofs
set_option linter.unusedVariables false
set_option linter.unusedSimpArgs false
theorem QY {E:Env} {G:Gh} {w W:World} {S:Store} {tk:Nat} {U:Nat->Prop} (h:Inv E G w S tk U) {b:Nat} (I:∀o,¬G.imm b o)
  (L:∀b',b'≠b->b'<w.heap.size->W.heap[b']? = w.heap[b']?) (hs:w.heap.size<=W.heap.size) :
  Inv ⟨G.whole,W,Ew G.whole []⟩ G.whole W (iY []) 1 (λ_=>False)/\∀b' B,G.imm b' B->W.cell? ⟨b',B,none⟩=w.cell? ⟨b',B,none⟩:=by
 have hc:∀b' B,G.imm b' B->W.cell? ⟨b',B,none⟩=w.cell? ⟨b',B,none⟩:=λb' B hb=>yn (L b' (λe=>by subst e;exact I _ hb) (h.immB _ _ hb)) B
 have F:∀(n:Nm) (bx:Box),iY [] n=some bx->False:=λn bx A=>by
  unfold iY at A
  split at A
  ·simp at A
  ·cases A
 have M:Kn G w:=h.kn.ext h.ext.imm h.ext.cell
 have J:Kn G.whole W:=M.ext (λ_ o h=>⟨o,h⟩) hc
 refine⟨⟨Ext.refl _ _,λ_ _ h => .inl h,λ_ _ _ _=>rfl,Nat.le_refl _,rfl,rfl,rfl,λn bx A=>(F n bx A).elim,λn m bx _ _ _ _ _ _ A=>(F n bx A).elim,λn x A => ?_,λn b o sz A => ?_,λb' B ⟨m,hb⟩=>Nat.lt_of_lt_of_le (h.immB _ m hb) hs,J,λ_=>Nat.le_refl _⟩,hc⟩
 ·cases A
 ·cases A
theorem Inv.toT {E:Env} {G:Gh} {w:World} {S:Store} {tk:Nat} {U:Nat->Prop} (h:Inv E G w S tk U) (o:E.w.drawn<=w.drawn) : @Inv dmT E G w S tk U :=
 @Inv.mk dmT E G w S tk U h.ext h.newI h.frame h.size h.os h.tape h.output h.box h.one h.tick h.bound h.immB h.kn (λ_=>o)
theorem Ry {α:Type} {E:α->List D} {dp:Nat} (O:∀a,(E a).all (nwD dp)=true) {P:Program} {g:FuncId} {F:α->α->Option Int} (hg:∀a b r,F a b=some r -> @FnM dmT P g [.d (.agg (E a)),.d (.agg (E b))] [] (vI r) [])
  {β:Type} [Inhabited β] (at_:β->α) (enc:β->List Value) {k:Nat} (M:β->β->Int) (R:∀i j,F (at_ i) (at_ j)=some (M i j))
  {Ev:Env} {G:Gh} {w:World} {S:Store} {tk:Nat} {U:Nat->Prop} (h:Inv Ev G w S tk U) {b o n:Nat} (X:∀o',¬G.imm b o') (hblk:b<w.heap.size)
  (hl:∀i,(enc i).length=(E (at_ i)).length) (hr:∀i j (h1:j<(enc i).length) (h2:j<(E (at_ i)).length),RepD G.imm w (enc i)[j] (E (at_ i))[j]) :
  CmpLays P g #[] enc k M b o n w:=by
 intro m os I _ x y
 have Z:∀b',b'≠b->b'<w.heap.size->(sortWorldK enc k w b o m I os).heap[b']? = w.heap[b']? := λb' h1 h2=>by
  show ((putRow id (Sort.ahead w m) b o (flatK enc k I)).heap++os)[b']? = _
  have hsz:(putRow id (Sort.ahead w m) b o (flatK enc k I)).heap.size=w.heap.size:=by simp [putRow,mapBlock,Sort.ahead]
  rw [Array.getElem?_append_left (by rw [hsz];exact h2),zh h1];rfl
 have L:w.heap.size<=(sortWorldK enc k w b o m I os).heap.size:=by
  show w.heap.size<=((putRow id (Sort.ahead w m) b o (flatK enc k I)).heap++os).size
  simp [putRow,mapBlock,Sort.ahead]
 generalize hWe:sortWorldK enc k w b o m I os=W at Z L ⊢
 obtain ⟨i0,hc⟩:=QY (W:=W) h X Z L
 have i1:=i0.toT (Nat.le_refl _)
 have J:∀i,RepV G.whole W (.agg (enc i).toArray) (.d (.agg (E (at_ i)))):=λi => .d (.agg _ _ (hl i) (λj h1 h2=>(hr i j h1 h2).whole hc dp (List.all_eq_true.1 (O _) _ (List.getElem_mem h2))))
 have B:wh G.whole W [.agg (enc x).toArray,.agg (enc y).toArray] [.d (.agg (E (at_ x))),.d (.agg (E (at_ y)))]:=by
  refine⟨rfl,λi h1 h2 => ?_⟩
  match i with
  | 0=>exact J x
  | 1=>exact J y
  | i+2=>exact absurd h1 (by simp)
 refine (hg _ _ _ (R x y) _ W [.agg (enc x).toArray,.agg (enc y).toArray] i1 B).mono ?_
 rintro e w' ⟨v,G',S',tk',U',ν,rfl,i2,rv,_,_,_,_⟩
 have hv:v = .int .i64 (M x y):=by
  have:RepV G' w' v (.d (.int .i64 (M x y))):=rv
  exact this.int_inv
 refine⟨by rw [hv],w'.drawn-W.drawn,w'.heap.extract W.heap.size,?_⟩
 have hM:∀k',¬Ew G.whole [] k':=λk' ⟨i,bx,_,_,N,_⟩=>by simp at N
 have A:w'.heap=W.heap++w'.heap.extract W.heap.size:=by
  have hsz:=(@Inv.size dmT _ _ _ _ _ _ i2)
  have Y:=λk' hk=>(@Inv.frame dmT _ _ _ _ _ _ i2) k' hk (hM k') (Sk _ _ _)
  refine Array.ext_getElem? (λj => ?_)
  by_cases hj:j<W.heap.size
  ·rw [Array.getElem?_append_left hj];exact Y j hj
  ·rw [Array.getElem?_append_right (by omega),Array.getElem?_extract]
   split
   ·rw [show W.heap.size+(j-W.heap.size)=j by omega]
   ·rename_i N
    simp only [Nat.not_lt]at N
    have:w'.heap.size<=j:=by have h1:W.heap.size<=w'.heap.size:=hsz;omega
    simp [this]
 have hd:W.drawn+(w'.drawn-W.drawn)=w'.drawn:=by have:W.drawn<=w'.drawn:=(@Inv.dr dmT _ _ _ _ _ _ i2) rfl;omega
 have e1:w'.tape=W.tape:=(@Inv.tape dmT _ _ _ _ _ _ i2)
 have e2:w'.os=W.os:=(@Inv.os dmT _ _ _ _ _ _ i2)
 have e3:w'.output=W.output:=(@Inv.output dmT _ _ _ _ _ _ i2)
 unfold grow World.drewN
 show w' = { heap:=W.heap++w'.heap.extract W.heap.size,tape:=W.tape,drawn:=W.drawn+(w'.drawn-W.drawn),os:=W.os,output:=W.output }
 rw [hd,<- A,<- e1,<- e2,<- e3]
section
variable {α:Type}
def vM (F:α->α->Option Int) (x:α) (l:List α) (i j:Fin (l.length+1)):Int:=(F ((x::l).get i) ((x::l).get j)).getD 0
def zZ {n:Nat} (lt:Fin (n+1)->Fin (n+1)->Bool):List (Fin (n+1)):=(pdq lt (Array.ofFn λi=>i) 0 (n+1) (Lib.bitLen (n+1)) true true).toList
open Classical in
noncomputable def zW (F:α->α->Option Int):List α->Option (List α)
 | []=>some []
 | x::l=>if l.length+1<4611686018427387904/\(∀i j:Fin (l.length+1),(F ((x::l).get i) ((x::l).get j)).isSome=true)/\SWO (ltOf (vM F x l))then
   some ((zZ (ltOf (vM F x l))).map (x::l).get)else none
theorem QI {F:α->α->Option Int} {x:α} {l r:List α} (h:zW F (x::l)=some r) :
  (l.length+1<4611686018427387904/\(∀i j:Fin (l.length+1),(F ((x::l).get i) ((x::l).get j)).isSome=true)/\SWO (ltOf (vM F x l)))/\(zZ (ltOf (vM F x l))).map (x::l).get=r:=by
 by_cases hc:l.length+1<4611686018427387904/\(∀i j:Fin (l.length+1),(F ((x::l).get i) ((x::l).get j)).isSome=true)/\SWO (ltOf (vM F x l))
 ·have e:zW F (x::l)=some ((zZ (ltOf (vM F x l))).map (x::l).get):=if_pos hc
  rw [e]at h
  exact⟨hc,Option.some.inj h⟩
 ·have e:zW F (x::l)=none:=if_neg hc
  rw [e]at h
  cases h
theorem extract_all {β:Type} (d:Array β) {m:Nat} (h:d.size=m):d.extract 0 m=d:=by subst h;exact Array.extract_size
theorem F9 {n:Nat} {lt:Fin (n+1)->Fin (n+1)->Bool} (A:SWO lt) :
  (zZ lt).Perm (List.finRange (n+1))/\(zZ lt).Pairwise (λa b=>lt b a=false)/\(zZ lt).length=n+1/\(pdq lt (Array.ofFn λi=>i) 0 (n+1) (Lib.bitLen (n+1)) true true).size=n+1:=by
 have hs:(Array.ofFn λi:Fin (n+1)=>i).size=n+1:=by simp
 obtain ⟨⟨h1,_,h2⟩,F⟩:=pdq_sorts lt A (Array.ofFn λi=>i) 0 (n+1) (Lib.bitLen (n+1)) true true (Nat.zero_le _) (by rw [hs];exact Nat.le_refl _) (Or.inl rfl)
 have hsz:(pdq lt (Array.ofFn λi=>i) 0 (n+1) (Lib.bitLen (n+1)) true true).size=n+1:=h1.trans hs
 refine⟨?_,?_,?_,hsz⟩
 ·unfold zZ
  generalize pdq lt (Array.ofFn λi=>i) 0 (n+1) (Lib.bitLen (n+1)) true true=d' at *
  have o:d'.extract 0 (n+1)=d':=extract_all d' hsz
  have I:(Array.ofFn λi:Fin (n+1)=>i).extract 0 (n+1)=Array.ofFn λi:Fin (n+1)=>i:=extract_all _ hs
  rw [o,I]at h2
  refine h2.trans (List.Perm.of_eq ?_)
  rw [Array.toList_ofFn];rfl
 ·unfold zZ
  generalize pdq lt (Array.ofFn λi=>i) 0 (n+1) (Lib.bitLen (n+1)) true true=d' at *
  refine List.pairwise_iff_getElem.2 (λi j hi hj h => ?_)
  have:=F i j (Nat.zero_le _) h (by rw [<- hsz];simpa using hj)
  have B:i<d'.size:=by simpa using hi
  have a2:j<d'.size:=by simpa using hj
  simpa [getElem!_pos d' i B,getElem!_pos d' j a2]using this
 ·unfold zZ;simpa using hsz
theorem HY {F:α->α->Option Int} (c:α->α->Int) {xs:List α} (hl:xs.length<4611686018427387904) (o:∀a∈xs,∀b∈xs,F a b=some (c a b))
  (hi:∀a∈xs,¬c a a<0) (ht:∀a∈xs,∀b∈xs,∀d∈xs,c a b<0->c b d<0->c a d<0) (I:∀a∈xs,∀b∈xs,∀d∈xs,¬c a b<0->¬c b d<0->¬c a d<0) :
  ∃r,zW F xs=some r/\r.Perm xs/\r.Pairwise (λa b=>¬c b a<0):=by
 cases xs with
 | nil=>exact⟨[],rfl,.refl _,.nil⟩
 | cons x l =>
  have hm:∀i:Fin (l.length+1),(x::l).get i∈x::l:=λi=>List.get_mem (x::l) i
  have hc:∀i j,vM F x l i j=c ((x::l).get i) ((x::l).get j):=λi j=>by unfold vM;rw [o _ (hm i) _ (hm j)];rfl
  have A:SWO (ltOf (vM F x l)):=by
   constructor
   ·intro i;unfold ltOf;rw [hc];exact decide_eq_false (hi _ (hm i))
   ·intro i j k h1 h2
    unfold ltOf at *;rw [hc]at *
    exact decide_eq_true (ht _ (hm i) _ (hm j) _ (hm k) (of_decide_eq_true h1) (of_decide_eq_true h2))
   ·intro i j k h1 h2
    unfold ltOf at *;rw [hc]at *
    exact decide_eq_false (I _ (hm i) _ (hm j) _ (hm k) (of_decide_eq_false h1) (of_decide_eq_false h2))
  obtain ⟨B,J,L,_⟩:=F9 A
  refine⟨(zZ (ltOf (vM F x l))).map (x::l).get,?_,?_,?_⟩
  ·exact if_pos ⟨hl,λi j=>by rw [o _ (hm i) _ (hm j)];rfl,A⟩
  ·refine (B.map _).trans (List.Perm.of_eq ?_)
   exact List.ext_getElem (by simp) (λi h1 h2=>by simp)
  ·rw [List.pairwise_map]
   exact J.imp (λ{i j} h=>by unfold ltOf at h;rw [hc]at h;exact of_decide_eq_false h)
end
theorem HZ {α:Type} (E:α->List D) (k:Nat) (o:∀x,(E x).length=k) (xs:List α):(Box.vec k (xs.map E)).all.length=xs.length*k:=by
 induction xs with
 | nil=>simp [Box.all]
 | cons x xs h =>
  simp only [Box.all,List.map_cons,List.flatten_cons,List.length_append,List.length_map,List.length_cons,o]at h ⊢
  rw [h,Nat.add_mul];omega
theorem JA {α:Type} {E:α->List D} {k dp:Nat} (hnw:∀a,(E a).all (nwD dp)=true) (hE:∀x,(E x).length=k) {P:Program} {f g:FuncId} {F:α->α->Option Int}
  (hg:∀a b r,F a b=some r -> @FnM dmT P g [.d (.agg (E a)),.d (.agg (E b))] [] (vI r) []) (hb:aI P g=true)
  (hC:∀(β:Type) [Inhabited β] (enc:β->List Value) (hk:∀x,(enc x).length=k) (h1:∀x,∀v∈enc x,v.oneCell'=true) (cf:β->β->Int) (hO:SWO (ltOf cf)) (g:Nat) (cb:Array Value) (Y off cap:Nat) (d:Array β) (w:World)
   (eg:∀args w,(callFunc g args).run P w = .ok (.enter g args) w) (hcmp:CmpLays P g cb enc k cf Y off d.size w) (hH:HoldsK enc k w Y off d) (hblk:Y<w.heap.size) (hsz:d.size<4611686018427387904),
   Calls P f #[.slice (some ⟨Y,off,none⟩) d.size cap,.func (.func g) #[] cb] w λe w'=>e = .returned (.tuple #[])/\∃n os,w'=sortWorldK enc k w Y off n (pdq (ltOf cf) d 0 d.size (Lib.bitLen d.size) true true) os)
  (h0:∀(p:Option Addr) (cap:Nat) (fv:Value) (w:World),Calls P f #[.slice p 0 cap,fv] w λe w'=>e = .returned (.tuple #[])/\w'=w)
  {xs r:List α} (hF:zW F xs=some r) :
  FnM P f [dV (ax 0) k xs,.fn g []] (([]:List Box)++gI k E xs) (.tup []) (([]:List Box).map some++gT xs (gB k E r)):=by
 have unit:∀G w,RepV G w (.tuple #[]) (.tup []):=λG w => .tup [] [] rfl (λi h1=>absurd h1 (Nat.not_lt_zero i))
 intro G w vargs I hargs
 obtain ⟨v,v2,rfl,hv,hf⟩:=hargs.two
 obtain rfl:v2 = .func (.func g) #[] #[]:=by
  cases hf with
  | fn _ arr _ hl _ =>
   obtain rfl:arr=[]:=List.eq_nil_of_length_eq_zero hl
   rfl
 cases xs with
 | nil =>
  have hv':RepD G.imm w v (.sl []):=hv.d_inv
  obtain ⟨p,cap,rfl⟩:∃p cap,v = .slice p 0 cap:=by
   cases hv' with
   | sl0 a cap=>exact⟨_,_,rfl⟩
   | sl b off cap sz xs us=>exact⟨_,_,rfl⟩
  refine (h0 p cap _ w).mono ?_
  rintro e w' ⟨rfl,rfl⟩
  exact⟨_,G,iY [],1,_,[],rfl,I,unit _ _,rfl,List.nodup_nil,λi hi=>absurd hi (Nat.not_lt_zero i),λi bx hb=>by simp [gT]at hb⟩
 | cons x l =>
  obtain ⟨⟨hlen,hsome,hO⟩,hF⟩:=QI hF
  ·skip
   obtain ⟨p1,p2,p3,p4⟩:=F9 hO
   have hrl:r.length=l.length+1:=by rw [<- hF,List.length_map,p3]
   have hB:gB k E r=some (.vec k (r.map E)):=by
    cases r with
    | nil=>simp at hrl
    | cons a b=>rfl
   have hI:(([]:List Box)++gI k E (x::l))=[.vec k ((x::l).map E)]:=rfl
   have hT:(([]:List Box).map some++gT (x::l) (gB k E r))=[some (.vec k (r.map E))]:=by rw [hB];rfl
   rw [hI]at I ⊢
   rw [hT]
   have hS:iY [.vec k ((x::l).map E)] (ax 0)=some (.vec k ((x::l).map E)):=by rw [Cx];rfl
   obtain ⟨b,o,sz,hmu,hst,hEv⟩:=I.box _ _ hS
   have O:Stands G w (.vec k ((x::l).map E)) b o sz:=hst
   obtain rfl:sz=k:=O.sz
   have hv':RepV G w v (.vs (ax 0) sz 0 (l.length+1)):=hv
   generalize hk:l.length+1=n at hv'
   cases hv' with
   | vs0=>omega
   | @vs _ b2 o2 _ _ _ cap hm hcap hb2 =>
    rw [hmu]at hm
    simp only [so_,Prod.mk.injEq]at hm
    obtain ⟨rfl,rfl,_⟩:=hm
    subst hk
    obtain ⟨⟨arr,elem,M⟩,J⟩:=O.free rfl
    have hgl:∀i:Fin (l.length+1),i.1<((x::l).map E).length:=λi=>by rw [List.length_map];exact i.2
    have hex:∀i:Fin (l.length+1),∃us:Nat->Value,(∀j,j<sz->w.cell? ⟨b,o+i.1*sz+j,none⟩=some (us j)/\(us j).oneCell'=true)/\∀j (hj:j<(E ((x::l).get i)).length),RepD G.imm w (us j) (E ((x::l).get i))[j]:=λi=>by
     obtain ⟨hl,us,u1,u2⟩:=O.elem (.inl rfl) i.1 (hgl i)
     have e:((x::l).map E)[i.1]'(hgl i)=E ((x::l).get i):=by rw [List.getElem_map];rfl
     rw [e]at hl
     refine⟨us,λj hj=>u1 j (by rw [e,hl];exact hj),λj hj => ?_⟩
     have:=u2 j (by rw [e];exact hj)
     simp only [e]at this
     exact this
    let enc:Fin (l.length+1)->List Value:=λi=>(List.range sz).map λj=>(w.cell? ⟨b,o+i.1*sz+j,none⟩).getD undef
    have B:∀i,(enc i).length=sz:=λi=>by simp [enc]
    have L:∀i j (hj:j<(enc i).length),∃u,(enc i)[j]=u/\w.cell? ⟨b,o+i.1*sz+j,none⟩=some u/\u.oneCell'=true/\∀(h2:j<(E ((x::l).get i)).length),RepD G.imm w u (E ((x::l).get i))[j]:=λi j hj=>by
     obtain ⟨us,u1,u2⟩:=hex i
     have X:j<sz:=by rw [B]at hj;exact hj
     refine⟨us j,?_,(u1 j X).1,(u1 j X).2,λh2=>u2 j h2⟩
     simp [enc,(u1 j X).1]
    have h1:∀i,∀v∈enc i,v.oneCell'=true:=λi v hv=>by
     obtain ⟨j,hj,rfl⟩:=List.getElem_of_mem hv
     obtain ⟨u,e,_,h,_⟩:=L i j hj
     rw [e];exact h
    have Z:(Array.ofFn λi:Fin (l.length+1)=>i).size=l.length+1:=by simp
    have hdg:∀t (h:t<l.length+1),(Array.ofFn λi:Fin (l.length+1)=>i)[t]! = ⟨t,h⟩:=λt h=>by
     rw [getElem!_pos _ t (by simpa using h)];simp
    have hget:∀(i:Fin (l.length+1)) c,c<sz->w.cell? ⟨b,o+i.1*sz+c,none⟩=some (enc i)[c]! := λi c hc=>by
     obtain ⟨u,e,h,_⟩:=L i c (by rw [B];exact hc)
     rw [getElem!_pos _ c (by rw [B];exact hc),e];exact h
    have hH:HoldsK enc sz w b o (Array.ofFn λi:Fin (l.length+1)=>i):=λt ht=>by
     have ht':t<(l.length+1)*sz:=by simpa using ht
     have hk0:0<sz:=by
      rcases Nat.eq_zero_or_pos sz with h|h
      ·rw [h]at ht';omega
      ·exact h
     have N:t / sz<l.length+1:=Nat.div_lt_of_lt_mul (by rw [Nat.mul_comm];exact ht')
     refine⟨?_,by simp only [World.frozen?,M];simp⟩
     rw [get_flatK _ _ _ _ (by rw [Z];exact ht'),hdg _ N]
     have:=hget ⟨t / sz,N⟩ (t % sz) (Nat.mod_lt _ hk0)
     have e:o+t / sz*sz+t % sz=o+t:=by have:=Nat.div_add_mod t sz;rw [Nat.mul_comm]at this;omega
     simp only [e]at this
     exact this
    have hcf:∀i j,F ((x::l).get i) ((x::l).get j)=some (vM F x l i j):=λi j=>by
     have:=hsome i j
     unfold vM
     cases hx:F ((x::l).get i) ((x::l).get j)with
     | none=>rw [hx]at this;cases this
     | some a=>rfl
    have hcmp:=Ry (E:=E) (P:=P) (g:=g) hnw hg (x::l).get enc (k:=sz) (vM F x l) hcf I (b:=b) (o:=o) (n:=l.length+1) J (I.bound _ _ _ _ hmu) (λi=>by rw [B,hE]) (λi j k1 k2=>by
     obtain ⟨u,e,_,_,h⟩:=L i j k1
     rw [e];exact h k2)
    have hadr:(⟨b,o+0*sz,none⟩:Addr)=⟨b,o,none⟩:=by simp
    show Calls P f #[.slice (some ⟨b,o+0*sz,none⟩) (l.length+1) cap,.func (.func g) #[] #[]] w _
    rw [hadr]
    have hcall:=hC (Fin (l.length+1)) enc B h1 (vM F x l) hO g #[] b o cap (Array.ofFn λi=>i) w (λargs w=>G5 (C:=⟨P,0,[],[]⟩) hb w) (by rw [Z];exact hcmp) hH (I.bound _ _ _ _ hmu) (by rw [Z];exact hlen)
    rw [Z]at hcall
    refine hcall.mono ?_
    rintro e w' ⟨rfl,m,os,rfl⟩
    generalize hd':pdq (ltOf (vM F x l)) (Array.ofFn λi=>i) 0 (l.length+1) (Lib.bitLen (l.length+1)) true true=d' at *
    have hrd:r=d'.toList.map (x::l).get:=by rw [<- hF];unfold zZ;rw [hd']
    have W:=G8 (ev:=(id:Value->Value)) (o:=o) (d:=flatK enc sz d') (w:=Sort.ahead w m) (b:=b) (arr:=arr) (t:=elem) (fr:=(0,0)) M
    have hpsz:(putCells (id:Value->Value) o (flatK enc sz d') arr).size=arr.size:=by simp [putCells]
    have hHp:HoldsK enc sz (putRowK enc sz (Sort.ahead w m) b o d') b o d':=holdsK_putRowK enc sz (Sort.ahead w m) b o (Array.ofFn λi=>i) d' (holdsK_ahead enc sz w m b o _ hH) (by rw [p4,Z])
    have R:=O.room
    rw [HZ E sz hE,bA M]at R
    obtain ⟨i1,e1⟩:=I.write (w':=putRowK enc sz (Sort.ahead w m) b o d') hS rfl hmu (λb' hb'=>zh hb') (by simp [putRowK,putRow,mapBlock,Sort.ahead]) (by rw [bA M];show _<=bsize (putRow id (Sort.ahead w m) b o (flatK enc sz d')) b;rw [bA W,hpsz];exact Nat.le_refl _) (λe he=>by rw [lm M]at he;show elemAt (putRow id (Sort.ahead w m) b o (flatK enc sz d')) b=_;rw [lm W];exact he) J rfl rfl rfl (.vec sz (r.map E)) (λex=>by
     show Stands _ _ _ _ _ _
     refine { sz:=rfl,even:=λy hy=>by obtain ⟨z,_,rfl⟩:=List.mem_map.1 hy;exact hE z,room := ?_,cell:=λj hj => ?_,free:=λ_=>⟨⟨_,_,W⟩,J⟩,froz:=λe=>by cases e }
     ·rw [HZ E sz hE]
      show _<=bsize (putRow id (Sort.ahead w m) b o (flatK enc sz d')) b
      rw [bA W,hpsz,hrl];simpa using R
     ·have X:j<(l.length+1)*sz:=by rw [HZ E sz hE,hrl]at hj;exact hj
      have hk0:0<sz:=by
       rcases Nat.eq_zero_or_pos sz with h|h
       ·rw [h]at X;omega
       ·exact h
      have N:j / sz<d'.size:=by rw [p4];exact Nat.div_lt_of_lt_mul (by rw [Nat.mul_comm];exact X)
      have A:=Nat.mod_lt j hk0
      obtain ⟨c1,_⟩:=hHp.cell N A
      have ej:o+j / sz*sz+j % sz=o+j:=by have:=Nat.div_add_mod j sz;rw [Nat.mul_comm]at this;omega
      rw [ej]at c1
      obtain ⟨u,e,_,h,hrep⟩:=L d'[j / sz]! (j % sz) (by rw [B];exact A)
      have hel:(E ((x::l).get d'[j / sz]!)).length=sz:=hE _
      have hrep':=hrep (by rw [hel];exact A)
      refine⟨u,?_,h,?_⟩
      ·rw [c1,getElem!_pos _ (j % sz) (by rw [B];exact A),e]
      ·have hev:∀y∈(r.map E).map (λx=>x.map V.d),y.length=sz:=λy hy=>by
        obtain ⟨z,hz,rfl⟩:=List.mem_map.1 hy
        obtain ⟨z',_,rfl⟩:=List.mem_map.1 hz
        rw [List.length_map];exact hE z'
       have hri:j / sz<r.length:=by rw [hrl,<- p4];exact N
       have hrg:r[j / sz]=(x::l).get d'[j / sz]! := by
        have:r[j / sz]? = some ((x::l).get d'[j / sz]!):=by
         rw [hrd,List.getElem?_map,Array.getElem?_toList,Array.getElem?_eq_getElem N,getElem!_pos d' _ N];rfl
        rw [List.getElem?_eq_getElem hri]at this
        exact Option.some.inj this
       obtain ⟨g1,g2⟩:=flat_get sz _ hev (j / sz) (j % sz) (by simpa using hri) (by simpa [hE]using A)
       have ei:j / sz*sz+j % sz=j:=by have:=Nat.div_add_mod j sz;rw [Nat.mul_comm]at this;omega
       have eall:(Box.vec sz (r.map E)).all[j]'hj=V.d ((E (r[j / sz]))[j % sz]'(by rw [hE];exact A)):=by
        have:(Box.vec sz (r.map E)).all[j]? = some (V.d ((E (r[j / sz]))[j % sz]'(by rw [hE];exact A))):=by
         show ((r.map E).map λx=>x.map V.d).flatten[j]? = _
         have g1':j / sz*sz+j % sz<((r.map E).map λx=>x.map V.d).flatten.length:=g1
         rw [ei]at g1'
         rw [List.getElem?_eq_getElem g1']
         have g2':=g2
         simp only [ei]at g2'
         rw [g2'];simp
        rw [List.getElem?_eq_getElem hj]at this
        exact Option.some.inj this
       rw [eall]
       refine .d ?_
       simp only [hrg]
       exact hrep'.ext ex.imm ex.cell ex.still ex.sizeI) (λ_=>Nat.le_add_right _ _)
    obtain ⟨i2,e2⟩:=i1.more (w':=sortWorldK enc sz w b o m d' os) (λb' hb'=>by
     show ((putRowK enc sz (Sort.ahead w m) b o d').heap++os)[b']? = _
     rw [Array.getElem?_append_left hb']) (by simp [sortWorldK,grow]) rfl rfl rfl (λ_ _ h=>h) (λ_ _ h => .inl h) rfl (λ_ h=>h)
    refine⟨_,G,_,1,_,[ax 0],rfl,i2,unit _ _,rfl,by simp,λi hi => ?_,λi bx hb => ?_⟩
    ·have:i=0:=by simpa using hi
     subst this;rfl
    ·cases i with
     | zero =>
      simp only [List.getElem?_cons_zero,so_]at hb
      subst hb
      exact⟨ax 0,rfl,by simp [supd,Box.ren]⟩
     | succ i=>simp at hb
end Go.Eng

/-
  THE ENGINE: memory that nobody owns: it was made new, may be written, and is never read again.
-/
namespace Go.Eng
set_option linter.unusedSectionVars false
set_option linter.unusedVariables false
variable [DM]
theorem FnM.wild {α:Type} {P:Program} {f:FuncId} {args:List V} {enc:α->List D} {sz:Nat} {r:List α} (h:FnM P f args [] (gV (ax 0) sz r) (([]:List Box).map some++gO sz enc r)):FnM P f args [] (.d (.wild sz r.length)) []:=by
 intro G w A I F
 refine (h G w A I F).mono (λe w' O => ?_)
 obtain ⟨v,G',S',B,U',ν,L,hi,M,Z,Y,R,hout⟩:=O
 cases r with
 | nil =>
  have o:RepV G' w' v .nil:=M
  cases o with
  | nil a=>exact⟨_,G',S',B,U',[],L,hi,.d (.wild0 a 0 sz),rfl,List.nodup_nil,λi h=>absurd h (Nat.not_lt_zero i),λi bx hb=>by simp at hb⟩
 | cons x xs =>
  obtain ⟨n,h1,h2⟩:=hout 0 (.vec sz ((x::xs).map enc)) rfl
  have J:S' n=some (.vec sz ((x::xs).map enc)):=h2
  have W:yB ν (ax 0)=n:=by simp [yB,sJ,h1]
  have o:RepV G' w' v (.vs n sz 0 (x::xs).length):=by rw [<- W];exact M
  obtain ⟨N,i2,e2,X⟩:=Lr hi J o
  exact⟨v,N,_,B,U',[],L,i2,.d X,rfl,List.nodup_nil,λi h=>absurd h (Nat.not_lt_zero i),λi bx hb=>by simp at hb⟩
section
variable {C:Cfg} {sl:Nat->V} {H:Hp} {Q:QH} {c:Code}
theorem RV {α:Type} {enc:α->List D} {xs:List α} {sz:Nat} {n:Nm} (k i:Nat) (B:sl k=gV n sz xs) (h:H[i]? = some (n,gB sz enc xs)) (A:wH C c Q (upd sl k (.d (.wild sz xs.length))) (H.set i (n,none))):wH C c Q sl H:=by
 cases xs with
 | nil=>exact nP A (λS t o=>⟨S,Gst.wild0 ⟨sl,S,t⟩ k sz (.inl B),o.drop h⟩)
 | cons x xs=>exact nP A (λS t o=>⟨supd S n none,Gst.wild ⟨sl,S,t⟩ k n sz 0 _ _ (o.get h) B,o.set h (λx F=>F)⟩)
theorem Mo (k sz:Nat) (A:sl k = .nil) (o:wH C c Q (upd sl k (.d (.wild sz 0))) H):wH C c Q sl H:=nP o (λS t h=>⟨S,Gst.wild0 ⟨sl,S,t⟩ k sz (.inl A),h⟩)
theorem Ll {α:Type} {enc:α->List D} {xs:List α} {sz:Nat} {n:Nm} (k i:Nat) (B:sl k=dV n sz xs) (h:H[i]? = some (n,gB sz enc xs)) (A:wH C c Q (upd sl k (.d (.wild sz xs.length))) (H.set i (n,none))):wH C c Q sl H:=by
 cases xs with
 | nil=>exact nP A (λS t o=>⟨S,Gst.wild0 ⟨sl,S,t⟩ k sz (.inr B),o.drop h⟩)
 | cons x xs=>exact nP A (λS t o=>⟨supd S n none,Gst.wild ⟨sl,S,t⟩ k n sz 0 _ _ (o.get h) B,o.set h (λx F=>F)⟩)
theorem Rc {α β:Type} {enc:α->List D} {xs:List α} {sz a len:Nat} {n:Nm} (k i:Nat) (ys:List β) (A:ys.length=len) (B:sl k = .vs n sz a len) (h:H[i]? = some (n,some (bV sz enc xs))) (I:wH C c Q (upd sl k (.d (.wild sz ys.length))) (H.set i (n,none))):wH C c Q sl H:=by
 subst A
 exact nP I (λS t o=>⟨supd S n none,Gst.wild ⟨sl,S,t⟩ k n sz a _ _ (o.get h) B,o.set h (λx F=>F)⟩)
theorem Rl {α:Type} {xs:List α} {a len:Nat} (h:a+len<=xs.length):(IW xs a len).length=len:=by simp [IW];omega
end
section
variable {C:Cfg} {sl:Nat->V} {H:Hp} {q:Qm} {all rest:List Oper} {K:(Nat->V)->Hp->Prop}
variable {dst:Option Tmp} {d:Nat} {t ty:TypeId} {pos:String} {after:Array Edge} {g:Option (Nat×Bool)}
theorem GH {sz n:Nat} {x:Operand} {e:TypeId} (o:C.P.underlying t=some (.slice e)) (B:ev sl x = .d (.wild sz n)) (A:aQ all sl ⟨dst,.call ⟨.builtin .len,#[x],#[t]⟩,ty,pos,after,g⟩=some true)
  (h:bu q C all K rest (eF sl dst (vI n)) H):bu q C all K (⟨dst,.call ⟨.builtin .len,#[x],#[t]⟩,ty,pos,after,g⟩::rest) sl H :=
 BQ (by rw [B];simp only [EC,o]) A h
theorem OH {x i:Operand} {k:IntKind} {n:Int} {len size:Nat} (F:(bO C.P t).bind (szT C.P)=some size) (I:ev sl x = .d (.wild size len)) (hi:ev sl i = .d (.int k n)) (o:0<=n) (h1:n.toNat<len)
  (J:aQ all sl ⟨dst,.indexAddr t x i,ty,pos,after,g⟩=some true) (h:bu q C all K rest (eF sl dst (.d (.wildp size))) H):bu q C all K (⟨dst,.indexAddr t x i,ty,pos,after,g⟩::rest) sl H :=
 mV J (λS tk L _ B=>kU (A:=⟨[],[],.d (.wildp size)⟩) (λc e=>by cases e) (by
  show orE (lT C.P t (ev sl x) (ev sl i)) _=_
  refine Tx ?_
  rw [I,hi,xx F,decide_eq_true o]
  simp only [Nt,Nat.beq_refl,Bool.and_true,Nat.ble_eq_true_of_le h1,cond_true];rfl) (B _ rfl rfl rfl)) h
theorem PG {x y:Operand} {size k:Nat} (hs:szT C.P t=some size) (o:ev sl x = .d (.wildp k)) (hc:(Nat.beq (bB (ev sl y)).length size&&Nat.ble size k&&(bB (ev sl y)).all kw&&Nat.blt 0 size)=true)
  (F:aQ all sl ⟨dst,.store t x y,ty,pos,after,g⟩=some true) (h:bu q C all K rest (eF sl dst .none) H):bu q C all K (⟨dst,.store t x y,ty,pos,after,g⟩::rest) sl H :=
 mV F (λS tk I _ B=>kU (A:=⟨[],[],.none⟩) (λc e=>by cases e) (by
  show vN C.P t S (ev sl x) (ev sl y)=_
  rw [o]
  simp only [vN,hs,hc,cond_true]) (B _ rfl rfl rfl)) h
end
end Go.Eng

