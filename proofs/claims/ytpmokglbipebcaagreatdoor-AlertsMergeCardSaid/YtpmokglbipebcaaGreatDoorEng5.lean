/-
  The engine: what the machine does to data, shown once for all programs (part 5).
-/
import Derived.Test.YtpmokglbipebcaaGreatDoorEng4
import Derived.Lib.LaidTab
import Derived.Lib.ItoaNum
import Derived.Deep.Draws
import Derived.Below
import Derived.Lib.IndexMore
import Derived.Lib.TrimByte
import Derived.Lib.Join
import Derived.Lib.Repeat
import Derived.Lib.TrailingZeros
import Derived.Lib.SlTrimSet
import Derived.Shelf.Strings.FuncGrows
import Derived.Shelf.Unicode.DecodeSlow
import Derived.Lib.ValidU
/-
  THE ENGINE: a slice that is cut in its own box and grows again; boxes of slices that may be empty; maps whose keys are structs.
-/
namespace Go.Eng
set_option linter.unusedSectionVars false
variable [DM]
set_option linter.unusedVariables false
set_option linter.unusedSimpArgs false
section
variable {C:Cfg} {Q:QH} {sl:Nat->V} {H:Hp} {c:Code}
end
section
variable {C:Cfg} {sl:Nat->V} {H:Hp} {q:Qm} {all rest:List Oper} {K:(Nat->V)->Hp->Prop}
variable {dst:Option Tmp} {d:Nat} {t ty:TypeId} {pos:String} {after:Array Edge} {g:Option (Nat×Bool)}
end
def cutG {β:Type} (env:β->List (Nat×V)) (Hs:β->Hp) (R:β->Prop):(Nat->V)->Hp->Prop:=λsl H =>
 ∀(C:Cfg) (b:Code) (Q:QH),(∀x,R x->∀sl' H',Eng.pick (env x) sl'=env x->Eng.pre (Hs x) H'->wH C b Q sl' H')->wH C b Q sl H
theorem DV {C:Cfg} {c b:Code} {Q Q':QH} {sl:Nat->V} {H:Hp} {β:Type} (env:β->List (Nat×V)) (Hs:β->Hp) (R:β->Prop) (h1:wH C c (I5 (cutG env Hs R) (I5 (wH C b Q) Q')) sl H)
  (h2:∀x,R x->∀sl' H',Eng.pick (env x) sl'=env x->Eng.pre (Hs x) H'->wH C b Q sl' H'):wH C c (I5 (wH C b Q) Q') sl H:=by
 refine Fy (λe sl H h => ?_) h1
 cases e with
 | normal=>exact h C b Q h2
 | _=>exact h
end Go.Eng

/-
  THE ENGINE: rules for arrays of bytes in a box, and for bytes to a string and back.
-/
namespace Go.Eng
set_option linter.unusedSectionVars false
variable [DM]
open Go
set_option linter.unusedVariables false
set_option linter.unusedSimpArgs false
section
variable {C:Cfg} {sl:Nat->V} {H:Hp} {q:Qm} {all rest:List Oper} {K:(Nat->V)->Hp->Prop}
variable {dst:Option Tmp} {d:Nat} {t ty:TypeId} {pos:String} {after:Array Edge} {g:Option (Nat×Bool)}
section
variable {xs:List Int} {m:Nat} {nm:Nm} {x l hi:Operand} {k k':IntKind} {a b:Int} {u u':Unit}
end
end
end Go.Eng

/-
  THE ENGINE: strconv.Itoa, by its contract off the shelf; the table that it reads is known.
-/
namespace Go.Eng
set_option linter.unusedSectionVars false
variable [DM]
open Go.Sort
set_option linter.unusedVariables false
set_option linter.unusedSimpArgs false
theorem Js {P:Program} {G:Gh} {w:World} {name:String} {k:IntKind} {zs:List Int} (hl:∀w0,tH w0->Lib.TabIs P w0 name k zs) (hz:zs ≠ []) (h:Kn G w):Lib.TabIs P w name k zs:=by
 obtain ⟨w0,h1,h2⟩:=h
 have ht:=hl w0 h1
 unfold Lib.TabIs World.var? at ht ⊢
 cases hg:P.globalNamed name with
 | none=>rw [hg]at ht;simp at ht
 | some g =>
  rw [hg]at ht
  simp only [ob_]at ht ⊢
  have hlt:g<w0.heap.size:=by
   rcases Nat.lt_or_ge g w0.heap.size with h|h
   ·exact h
   ·rw [Array.getElem?_eq_none h]at ht;cases ht
  have hc:∀o,w.cell? ⟨g,o,Option.none⟩=w0.cell? ⟨g,o,Option.none⟩:=λo=>(h2 g o hlt).2
  cases hb:w0.heap[g]? with
  | none=>rw [hb]at ht;cases ht
  | some ob =>
   rw [hb]at ht
   cases ob with
   | cells cs t fr =>
    simp only [so_]at ht
    have e0:∀o,w0.cell? ⟨g,o,Option.none⟩=cs[o]? := λo=>by simp [World.cell?,hb]
    cases hw:w.heap[g]? with
    | none =>
     exfalso
     have:=hc 0
     rw [e0]at this
     simp only [World.cell?,hw]at this
     rw [ht]at this
     cases zs with
     | nil=>exact hz rfl
     | cons z zs=>simp at this
    | some ob' =>
     cases ob' with
     | cells cs' t' fr' =>
      have e1:∀o,w.cell? ⟨g,o,Option.none⟩=cs'[o]? := λo=>by simp [World.cell?,hw]
      have:cs'=cs:=Array.ext_getElem? (λo=>by rw [<- e1,<- e0,hc])
      rw [this,ht]
     | _ =>
      exfalso
      have:=hc 0
      rw [e0]at this
      simp only [World.cell?,hw]at this
      rw [ht]at this
      cases zs with
      | nil=>exact hz rfl
      | cons z zs=>simp at this
   | _=>cases ht
def FY (n:Int):Option ByteArray:=if -9223372036854775808<=n/\n<=9223372036854775807 then some ⟨(Lib.itoa n).toArray⟩else none
theorem itoa_ok {P:Program} {f:FuncId}
  (hC : ∀ (n : Int), -9223372036854775808 ≤ n → n ≤ 9223372036854775807 → ∀ w : World, Lib.TabIs P w "internal/strconv.uint64pow10" .u64 Lib.pow10Tab →
   Calls P f #[.int .i64 n] w λe w'=>e = .returned (.string ⟨(Lib.itoa n).toArray⟩)/\∃k os,w'=grow (w.drewN k) os)
  (hl : ∀ w0, tH w0 → Lib.TabIs P w0 "internal/strconv.uint64pow10" .u64 Lib.pow10Tab) {n : Int} {r : ByteArray} (hF : FY n = some r) : FnM P f [.d (.int .i64 n)] [] (.d (.str r)) [] := by
 unfold FY at hF
 split at hF
 ·rename_i hn
  simp only [so_]at hF
  subst hF
  intro G w vargs hinv hargs
  obtain ⟨v,rfl,hv⟩:=hargs.alone
  have hv':RepD G.imm w v (.int .i64 n):=hv.d_inv
  cases hv' with
  | int =>
   refine (hC n hn.1 hn.2 w (Js hl (by decide) hinv.kn)).mono ?_
   rintro e w' ⟨rfl,k,os,rfl⟩
   obtain ⟨i2,e2⟩:=hinv.more (w':=grow (w.drewN k) os) (G':=G) (U':=λ_=>False) (λb' hb'=>by
    show (w.heap++os)[b']? = _
    rw [Array.getElem?_append_left hb']) (by simp [grow,World.drewN]) rfl rfl rfl (λ_ _ h=>h) (λ_ _ h => .inl h) rfl (λ_ h=>h) (λ_=>Nat.le_add_right w.drawn k)
   exact⟨_,G,_,1,_,[],rfl,i2,.d (.str _),rfl,List.nodup_nil,λi hi=>absurd hi (Nat.not_lt_zero i),λi bx hb=>by simp at hb⟩
 ·cases hF
end Go.Eng

/-
  THE ENGINE: functions over literals, by their contracts off the shelf.
-/
namespace Go.Eng
set_option linter.unusedSectionVars false
variable [DM]
open Go.RowKit (Below)
set_option linter.unusedVariables false
set_option linter.unusedSimpArgs false
def isLit:D->Bool
 | .int _ _ | .bool _ | .str _=>true
 | _=>false
def lv:D->Value
 | .int k n => .int k n
 | .bool b => .bool b
 | .str s => .string s
 | _=>undef
theorem Co {I:Nat->Nat->Prop} {w:World} {v:Value} {d:D} (h:RepD I w v d) (hl:isLit d=true):v=lv d:=by
 cases h with
 | int k n=>rfl
 | bool b=>rfl
 | str s=>rfl
 | agg=>cases hl
 | sl0=>cases hl
 | sl=>cases hl
 | ptr=>cases hl
 | nilp=>cases hl
theorem Dk {G:Gh} {w:World}:∀{vs:List Value} {ds:List D},oO G w vs (ds.map V.d)->ds.all isLit=true->vs=ds.map lv
 | [],[],_,_=>rfl
 | [],d::ds,h,_=>by have:=h.1;simp at this
 | v::vs,[],h,_=>by have:=h.1;simp at this
 | v::vs,d::ds,h,hl=>by
  simp only [List.all_cons,Bool.and_eq_true]at hl
  obtain ⟨hlen,h⟩:=h
  have h0:RepV G w v (.d d):=h 0 (by simp) (by simp)
  have e:=Co h0.d_inv hl.1
  have:oO G w vs (ds.map V.d):=⟨by simpa using hlen,λi h1 h2=>by
   have:=h (i+1) (by simpa using h1) (by simpa using h2)
   simpa using this⟩
  rw [e,Dk this hl.2];rfl
theorem Dm {P:Program} {f:FuncId} (ds:List D) (v:Value) (r:V) (ha:ds.all isLit=true) (hr:∀G w,RepV G w v (ren [] r))
  (hC:∀(G:Gh) (w:World),Kn G w->Calls P f (ds.map lv).toArray w λe w'=>e = .returned v/\Below w.heap.size w w'/\(dmK=true->w.drawn<=w'.drawn)):FnM P f (ds.map V.d) [] r []:=by
 intro G w vargs hinv hargs
 rw [Dk hargs ha]
 refine (hC G w hinv.kn).mono ?_
 rintro e w' ⟨rfl,hb,hd⟩
 obtain ⟨i2,e2⟩:=hinv.more (w':=w') (G':=G) (U':=λ_=>False) (λb' hb'=>hb.block b' hb') hb.size hb.os hb.tape hb.output (λ_ _ h=>h) (λ_ _ h => .inl h) rfl (λ_ h=>h) hd
 exact⟨_,G,_,1,_,[],rfl,i2,hr _ _,rfl,List.nodup_nil,λi hi=>absurd hi (Nat.not_lt_zero i),λi bx hb=>by simp at hb⟩
def wy (s t:ByteArray):Option Bool:=if s.size<4294967281 then some (Lib.contains s.data.toList t.data.toList)else none
theorem Dv {P:Program} {f:FuncId} {g:Nat}
  (hC:∀(s t:ByteArray) (m:Int) (w:World),s.size<4294967281->w.cell? ⟨g,0,Option.none⟩=some (.int .i64 m)->Calls P f #[.string s,.string t] w λe w'=>e = .returned (.bool (Lib.contains s.data.toList t.data.toList))/\w'=w)
  (hl:∀w0,tH w0->∃m,w0.cell? ⟨g,0,Option.none⟩=some (.int .i64 m)) {s t:ByteArray} {r:Bool} (h:wy s t=some r):FnM P f [.d (.str s),.d (.str t)] [] (.d (.bool r)) []:=by
 unfold wy at h
 split at h
 ·rename_i hs
  simp only [so_]at h
  subst h
  refine Dm [.str s,.str t] _ _ rfl (λG w => .d (.bool _)) (λG w hk => ?_)
  obtain ⟨w0,h1,h2⟩:=hk
  obtain ⟨m,hm⟩:=hl w0 h1
  have hb:g<w0.heap.size:=by
   rcases Nat.lt_or_ge g w0.heap.size with h|h
   ·exact h
   ·have e:w0.heap[g]? = none:=Array.getElem?_eq_none h
    simp only [World.cell?,e]at hm
    cases hm
  exact (hC s t m w hs (by rw [(h2 g 0 hb).2];exact hm)).mono (λe w' hw=>⟨hw.1,by rw [hw.2];exact⟨Below.refl _ _,λ_=>Nat.le_refl _⟩⟩)
 ·cases h
end Go.Eng

/-
  THE ENGINE: strings.Join, strings.Repeat, bits.TrailingZeros, by their contracts off the shelf.
-/
namespace Go.Eng
set_option linter.unusedSectionVars false
variable [DM]
open Go
open Go.RowKit (Below)
set_option linter.unusedVariables false
set_option linter.unusedSimpArgs false
def FQ (xs:List ByteArray) (sep:ByteArray):Option ByteArray :=
 if xs.length<=140737488355328/\(Lib.join (xs.map (·.data.toList)) sep.data.toList).length<=140737488355328 then some ⟨(Lib.join (xs.map (·.data.toList)) sep.data.toList).toArray⟩else none
theorem join_ok (hdm:dmK=false) {P:Program} {f:FuncId}
  (h0:∀(a:Option Addr) (c:Nat) (sep:ByteArray) (w:World),Calls P f #[.slice a 0 c,.string sep] w λe w'=>e = .returned (.string ⟨#[]⟩)/\w'=w)
  (hC:∀(bk o c:Nat) (xs:List ByteArray) (sep:ByteArray) (w:World),(∀(j:Nat) x,xs[j]? = some x->w.cell? ⟨bk,o+j,none⟩=some (.string x))->bk<w.heap.size->xs.length<=140737488355328->xs.length<=c ->
   (Lib.join (xs.map (·.data.toList)) sep.data.toList).length<=140737488355328 ->
   Calls P f #[.slice (some ⟨bk,o,none⟩) xs.length c,.string sep] w λe w'=>e = .returned (.string ⟨(Lib.join (xs.map (·.data.toList)) sep.data.toList).toArray⟩)/\Below w.heap.size w w')
  {xs:List ByteArray} {sep r:ByteArray} (hF:FQ xs sep=some r):FnM P f [vL eS xs,vS sep] [] (vS r) []:=by
 unfold FQ at hF
 split at hF
 ·rename_i hx
  simp only [so_]at hF
  subst hF
  intro G w vargs hinv hargs
  have hfin:∀w',Below w.heap.size w w'->∃v G' S' tk' U' ν,Ending.returned (.string ⟨(Lib.join (xs.map (·.data.toList)) sep.data.toList).toArray⟩) = .returned v/\Inv ⟨G,w,xJ G []⟩ G' w' S' tk' U'/\RepV G' w' v (ren ν (vS ⟨(Lib.join (xs.map (·.data.toList)) sep.data.toList).toArray⟩)) /\
    ν.length=([]:List (Option Box)).length/\ν.Nodup/\(∀i,i<([]:List Box).length->ν[i]? = some (au i))/\∀(i:Nat) (bx:Box),([]:List (Option Box))[i]? = some (some bx)->∃n,ν[i]? = some n/\S' n=some (bx.ren ν):=by
   intro w' hb
   obtain ⟨i2,e2⟩:=hinv.more (w':=w') (G':=G) (U':=λ_=>False) (λb' hb'=>hb.block b' hb') hb.size hb.os hb.tape hb.output (λ_ _ h=>h) (λ_ _ h => .inl h) rfl (λ_ h=>h) (λh=>by rw [hdm]at h;cases h)
   exact⟨_,G,_,1,_,[],rfl,i2,.d (.str _),rfl,List.nodup_nil,λi hi=>absurd hi (Nat.not_lt_zero i),λi bx hb=>by simp at hb⟩
  obtain ⟨hl,ha⟩:=hargs
  obtain ⟨v0,v1,rfl⟩:∃v0 v1,vargs=[v0,v1]:=by
   match vargs,hl with
   | [v0,v1],_=>exact⟨v0,v1,rfl⟩
  have r0:RepV G w v0 (vL eS xs):=ha 0 (by simp) (by simp)
  have r1:RepV G w v1 (vS sep):=ha 1 (by simp) (by simp)
  rw [r1.d_inv.str_inv]
  have r0':=r0.d_inv
  generalize hys:xs.map eS=ys at r0'
  cases r0' with
  | sl0 a cap =>
   have hn:xs=[]:=by simpa using hys
   subst hn
   refine (h0 a cap sep w).mono ?_
   rintro e w' ⟨rfl,rfl⟩
   exact hfin _ (Below.refl _ _)
  | sl b off cap sz _ us hcap hsz hI hc ho hr =>
   have hlen:ys.length=xs.length:=by rw [<- hys];simp
   have hcell:∀(j:Nat) x,xs[j]? = some x->w.cell? ⟨b,off+j,none⟩=some (.string x):=by
    intro j x hj
    obtain ⟨hj1,hj2⟩:=List.getElem?_eq_some_iff.1 hj
    have hj':j<ys.length:=by omega
    have hy:ys[j]=[D.str x]:=by
     subst hys
     rw [List.getElem_map,hj2];rfl
    have hz:sz=1:=by rw [<- hsz j hj',hy];rfl
    subst hz
    have h2:=hc j 0 hj' (by omega)
    have h3:=hr j 0 hj' (by rw [hy];exact Nat.zero_lt_one)
    have h4:us j 0 = .string x:=by
     have:ys[j][0]'(by rw [hy];exact Nat.zero_lt_one)=D.str x:=by simp [hy]
     rw [this]at h3
     exact h3.str_inv
    rw [h4]at h2
    simpa using h2
   rw [hlen]
   cases xs with
   | nil =>
    refine (h0 (some ⟨b,off,none⟩) cap sep w).mono ?_
    rintro e w' ⟨rfl,rfl⟩
    exact hfin _ (Below.refl _ _)
   | cons x xs =>
    have hb:b<w.heap.size:=by
     rcases Nat.lt_or_ge b w.heap.size with h|h
     ·exact h
     ·have h1:=hcell 0 x rfl
      have e:w.heap[b]? = none:=Array.getElem?_eq_none h
      simp only [World.cell?,e]at h1
      cases h1
    refine (hC b off cap (x::xs) sep w hcell hb hx.1 (by omega) hx.2).mono ?_
    rintro e w' ⟨rfl,hbw⟩
    exact hfin _ hbw
 ·cases hF
end Go.Eng

/-
  THE ENGINE: results of which the first is a new slice and the others are data.
-/
namespace Go.Eng
set_option linter.unusedSectionVars false
variable [DM]
set_option linter.unusedVariables false
section
variable {C:Cfg} {sl:Nat->V} {H:Hp} {q:Qm} {all rest:List Oper} {K:(Nat->V)->Hp->Prop}
variable {dst:Option Tmp} {d:Nat} {t ty:TypeId} {pos:String} {after:Array Edge} {g:Option (Nat×Bool)}
end
end Go.Eng

/-
  THE ENGINE: strings.ContainsFunc by its contract off the shelf (only where draws are not counted).
-/
namespace Go.Eng
set_option linter.unusedSectionVars false
variable [DM]
open Go.Proofs
open Go.RowKit (Below)
set_option linter.unusedVariables false
set_option linter.unusedSimpArgs false
theorem GI {E:Env} {G:Gh} {w W:World} {S:Store} {tk:Nat} {U:Nat->Prop} (h:Inv E G w S tk U) (hb:Below w.heap.size w W):Inv ⟨⟨G.imm,λ_=>none⟩,W,xJ ⟨G.imm,λ_=>none⟩ []⟩ ⟨G.imm,λ_=>none⟩ W (gL []) 1 (λ_=>False):=by
 have hc:∀b' o',G.imm b' o'->W.cell? ⟨b',o',none⟩=w.cell? ⟨b',o',none⟩:=λb' o' hb'=>uI (hb.block b' (h.immB _ _ hb')) o'
 have hno':∀(n:Nm) (bx:Box),gL [] n=some bx->False:=λn bx hx=>by
  unfold gL at hx
  split at hx
  ·simp at hx
  ·cases hx
 have k1:Kn G w:=h.kn.ext h.ext.imm h.ext.cell
 have k2:Kn ⟨G.imm,λ_=>none⟩ W:=k1.ext (λ_ _ h=>h) hc
 exact⟨Ext.refl _ _,λ_ _ h => .inl h,λ_ _ _=>rfl,Nat.le_refl _,rfl,rfl,rfl,λn bx hx=>(hno' n bx hx).elim,λn m bx _ _ _ _ _ _ hx=>(hno' n bx hx).elim,λn x hx=>(by cases hx),λn b o sz hx=>(by cases hx),λb' o' hb'=>Nat.lt_of_lt_of_le (h.immB _ _ hb') hb.size,k2,λ_=>Nat.le_refl _⟩
open Classical in
noncomputable def nX (F:Int->Option Bool) (s:ByteArray):Option Bool :=
 if ∀n:Nat,n<=1114111->(F n).isSome=true then some (decide (0<=Lib.idxFunc (λn=>(F n).getD false) true s))else none
theorem zO {F:Int->Option Bool} {p:Nat->Bool} (h:∀n:Nat,F n=some (p n)) (s:ByteArray):nX F s=some (decide (0<=Lib.idxFunc p true s)):=by
 unfold nX
 rw [if_pos (λn _=>by rw [h];rfl)]
 have:(λn:Nat=>(F n).getD false)=p:=by funext n;rw [h];rfl
 rw [this]
theorem zV (hdm:dmK=false) {P:Program} {f g:FuncId} {F:Int->Option Bool} (hg:∀a b,F a=some b->FnM P g [.d (.int .i32 a)] [] (.d (.bool b)) []) (hb:aG P g=true)
  (hC:∀(s:ByteArray) (p:Nat->Bool) (w:World) (eg:∀args w,(callFunc g args).run P w = .ok (.enter g args) w) (hp:PredGrows P g #[] p w),Calls P f #[.string s,.func (.func g) #[] #[]] w λe w'=>e = .returned (.bool (decide (0<=Lib.idxFunc p true s)))/\Below w.heap.size w w')
  {s:ByteArray} {r:Bool} (h:nX F s=some r):FnM P f [.d (.str s),.fn g []] [] (.d (.bool r)) []:=by
 unfold nX at h
 split at h
 ·rename_i hF
  simp only [so_]at h
  subst h
  intro G w vargs hinv hargs
  obtain ⟨v,v2,rfl,hv,hf⟩:=hargs.two
  obtain rfl:v2 = .func (.func g) #[] #[]:=by
   cases hf with
   | fn _ arr _ hl _ =>
    obtain rfl:arr=[]:=List.eq_nil_of_length_eq_zero hl
    rfl
  obtain rfl:v = .string s:=Co hv.d_inv rfl
  have eg:∀args w,(callFunc g args).run P w = .ok (.enter g args) w:=λargs w=>zm (C:=⟨P,0,[],[]⟩) hb w
  have hp:PredGrows P g #[] (λn=>(F n).getD false) w:=λW x hx hbw=>by
   have i1:=GI hinv hbw
   have hs:=hF x hx
   obtain ⟨b,hb2⟩:=Option.isSome_iff_exists.1 hs
   have hargs1:oO ⟨G.imm,λ_=>none⟩ W [.int .i32 x] [.d (.int .i32 x)]:=by
    refine⟨rfl,λi h1 h2 => ?_⟩
    match i with
    | 0=>exact .d (.int _ _)
    | i+1=>exact absurd h1 (by simp)
   refine (hg x b hb2 _ W [.int .i32 x] i1 hargs1).mono ?_
   rintro e w' ⟨v,G',S',tk',U',ν,rfl,i2,rv,_,_,_,_⟩
   have hv2:v = .bool b:=by
    have:RepV G' w' v (.d (.bool b)):=rv
    exact Co this.d_inv rfl
   refine⟨by rw [hv2];show _=Ending.returned (.bool ((F (x:Int)).getD false));rw [hb2];rfl,⟨i2.os,i2.tape,i2.output,i2.size,λk hk=>i2.frame k hk (fun⟨i,bx,_,_,hx,_⟩=>by simp at hx)⟩⟩
  refine (hC s _ w eg hp).mono ?_
  rintro e w' ⟨rfl,hbw⟩
  obtain ⟨i2,e2⟩:=hinv.more (w':=w') (G':=G) (U':=λ_=>False) (λb' hb'=>hbw.block b' hb') hbw.size hbw.os hbw.tape hbw.output (λ_ _ h=>h) (λ_ _ h => .inl h) rfl (λ_ h=>h) (λhd=>by rw [hdm]at hd;cases hd)
  exact⟨_,G,_,1,_,[],rfl,i2,.d (.bool _),rfl,List.nodup_nil,λi hi=>absurd hi (Nat.not_lt_zero i),λi bx hb=>by simp at hb⟩
 ·cases h
def EW (s:ByteArray):Option Bool:=if s.size<=9223372036854775807 then some (Lib.validD s.data.toList)else none
theorem tabs_kn {G:Gh} {w:World} {g3 g4:Nat} (h:Kn G w) (hl:∀w0,tH w0->Lib.Utf8Tabs g3 g4 w0):Lib.Utf8Tabs g3 g4 w:=by
 obtain ⟨w0,h1,h2⟩:=h
 obtain ⟨a1,a2⟩:=hl w0 h1
 have key:∀(b o:Nat) (v:Value),w0.cell? ⟨b,o,Option.none⟩=some v->w.cell? ⟨b,o,Option.none⟩=some v:=λb o v hv=>by
  have hb:b<w0.heap.size:=by
   rcases Nat.lt_or_ge b w0.heap.size with h|h
   ·exact h
   ·have e:w0.heap[b]? = none:=Array.getElem?_eq_none h
    simp only [World.cell?,e]at hv
    cases hv
  rw [(h2 b o hb).2];exact hv
 exact⟨λc hc=>key _ _ _ (a1 c hc),λi hi=>⟨key _ _ _ (a2 i hi).1,key _ _ _ (a2 i hi).2⟩⟩
theorem Ir (hdm:dmK=false) {P:Program} {f:FuncId} {g3 g4:Nat}
  (hC:∀(s:ByteArray) (w:World),s.size<=9223372036854775807->Lib.Utf8Tabs g3 g4 w->Calls P f #[.string s] w λe w'=>e = .returned (.bool (Lib.validD s.data.toList))/\Below w.heap.size w w')
  (hl:∀w0,tH w0->Lib.Utf8Tabs g3 g4 w0) {s:ByteArray} {r:Bool} (h:EW s=some r):FnM P f [.d (.str s)] [] (.d (.bool r)) []:=by
 unfold EW at h
 split at h
 ·rename_i hs
  simp only [so_]at h
  subst h
  exact Dm [.str s] _ _ rfl (λG w => .d (.bool _)) (λG w hk=>(hC s w hs (tabs_kn hk hl)).mono (λe w' hw=>⟨hw.1,hw.2,λhd=>by rw [hdm]at hd;cases hd⟩))
 ·cases h
end Go.Eng

