/-
  The engine: what the machine does to data, shown once for all programs (part 5).
-/
import Derived.Test.YtnjnggakgeommaaGreatDoorEng4
import Derived.Lib.LaidTab
import Derived.Lib.ItoaNum
import Derived.Deep.Draws
import Derived.Below
import Derived.Lib.IndexMore
import Derived.Lib.TrimByte
import Derived.Lib.Join
import Derived.Lib.Repeat
import Derived.Lib.TrailingZeros
import Derived.Lib.SlTrimSet
import Derived.Sort.KeysCollected
import Derived.Laws.AppendOwn
/-
  THE ENGINE: a slice that is cut in its own box and grows again; boxes of slices that may be empty; maps whose keys are structs.
-/
namespace Go.Eng
set_option linter.unusedSectionVars false
variable [DM]
set_option linter.unusedVariables false
set_option linter.unusedSimpArgs false
section
variable {C:Cfg} {Q:QH} {sl:Nat->V} {H:Hp} {c:Code}
end
section
variable {C:Cfg} {sl:Nat->V} {H:Hp} {q:Qm} {all rest:List Oper} {K:(Nat->V)->Hp->Prop}
variable {dst:Option Tmp} {d:Nat} {t ty:TypeId} {pos:String} {after:Array Edge} {g:Option (Nat×Bool)}
end
end Go.Eng

/-
  THE ENGINE: rules for arrays of bytes in a box, and for bytes to a string and back.
-/
namespace Go.Eng
set_option linter.unusedSectionVars false
variable [DM]
open Go
set_option linter.unusedVariables false
set_option linter.unusedSimpArgs false
section
variable {C:Cfg} {sl:Nat->V} {H:Hp} {q:Qm} {all rest:List Oper} {K:(Nat->V)->Hp->Prop}
variable {dst:Option Tmp} {d:Nat} {t ty:TypeId} {pos:String} {after:Array Edge} {g:Option (Nat×Bool)}
section
variable {xs:List Int} {m:Nat} {nm:Nm} {x l hi:Operand} {k k':IntKind} {a b:Int} {u u':Unit}
end
end
end Go.Eng

/-
  THE ENGINE: strconv.Itoa, by its contract off the shelf; the table that it reads is known.
-/
namespace Go.Eng
set_option linter.unusedSectionVars false
variable [DM]
open Go.Sort
set_option linter.unusedVariables false
set_option linter.unusedSimpArgs false
theorem Ki {P:Program} {G:Gh} {w:World} {name:String} {k:IntKind} {zs:List Int} (hl:∀w0,FH w0->Lib.TabIs P w0 name k zs) (hz:zs ≠ []) (h:Kn G w):Lib.TabIs P w name k zs:=by
 obtain ⟨w0,h1,h2⟩:=h
 have ht:=hl w0 h1
 unfold Lib.TabIs World.var? at ht ⊢
 cases hg:P.globalNamed name with
 | none=>rw [hg]at ht;simp at ht
 | some g =>
  rw [hg]at ht
  simp only [ob_]at ht ⊢
  have hlt:g<w0.heap.size:=by
   rcases Nat.lt_or_ge g w0.heap.size with h|h
   ·exact h
   ·rw [Array.getElem?_eq_none h]at ht;cases ht
  have hc:∀o,w.cell? ⟨g,o,Option.none⟩=w0.cell? ⟨g,o,Option.none⟩:=λo=>(h2 g o hlt).2
  cases hb:w0.heap[g]? with
  | none=>rw [hb]at ht;cases ht
  | some ob =>
   rw [hb]at ht
   cases ob with
   | cells cs t fr =>
    simp only [so_]at ht
    have e0:∀o,w0.cell? ⟨g,o,Option.none⟩=cs[o]? := λo=>by simp [World.cell?,hb]
    cases hw:w.heap[g]? with
    | none =>
     exfalso
     have:=hc 0
     rw [e0]at this
     simp only [World.cell?,hw]at this
     rw [ht]at this
     cases zs with
     | nil=>exact hz rfl
     | cons z zs=>simp at this
    | some ob' =>
     cases ob' with
     | cells cs' t' fr' =>
      have e1:∀o,w.cell? ⟨g,o,Option.none⟩=cs'[o]? := λo=>by simp [World.cell?,hw]
      have:cs'=cs:=Array.ext_getElem? (λo=>by rw [<- e1,<- e0,hc])
      rw [this,ht]
     | _ =>
      exfalso
      have:=hc 0
      rw [e0]at this
      simp only [World.cell?,hw]at this
      rw [ht]at this
      cases zs with
      | nil=>exact hz rfl
      | cons z zs=>simp at this
   | _=>cases ht
def Iy (n:Int):Option ByteArray:=if -9223372036854775808<=n/\n<=9223372036854775807 then some ⟨(Lib.itoa n).toArray⟩else none
theorem itoa_ok {P:Program} {f:FuncId}
  (hC : ∀ (n : Int), -9223372036854775808 ≤ n → n ≤ 9223372036854775807 → ∀ w : World, Lib.TabIs P w "internal/strconv.uint64pow10" .u64 Lib.pow10Tab →
   Calls P f #[.int .i64 n] w λe w'=>e = .returned (.string ⟨(Lib.itoa n).toArray⟩)/\∃k os,w'=grow (w.drewN k) os)
  (hl : ∀ w0, FH w0 → Lib.TabIs P w0 "internal/strconv.uint64pow10" .u64 Lib.pow10Tab) {n : Int} {r : ByteArray} (hF : Iy n = some r) : FnM P f [.d (.int .i64 n)] [] (.d (.str r)) [] := by
 unfold Iy at hF
 split at hF
 ·rename_i hn
  simp only [so_]at hF
  subst hF
  intro G w vargs hinv hargs
  obtain ⟨v,rfl,hv⟩:=hargs.alone
  have hv':RepD G.imm w v (.int .i64 n):=hv.d_inv
  cases hv' with
  | int =>
   refine (hC n hn.1 hn.2 w (Ki hl (by decide) hinv.kn)).mono ?_
   rintro e w' ⟨rfl,k,os,rfl⟩
   obtain ⟨i2,e2⟩:=hinv.more (w':=grow (w.drewN k) os) (G':=G) (U':=λ_=>False) (λb' hb'=>by
    show (w.heap++os)[b']? = _
    rw [Array.getElem?_append_left hb']) (by simp [grow,World.drewN]) rfl rfl rfl (λ_ _ h=>h) (λ_ _ h => .inl h) rfl (λ_ h=>h) (λ_=>Nat.le_add_right w.drawn k)
   exact⟨_,G,_,1,_,[],rfl,i2,.d (.str _),rfl,List.nodup_nil,λi hi=>absurd hi (Nat.not_lt_zero i),λi bx hb=>by simp at hb⟩
 ·cases hF
end Go.Eng

/-
  THE ENGINE: functions over literals, by their contracts off the shelf.
-/
namespace Go.Eng
set_option linter.unusedSectionVars false
variable [DM]
open Go.RowKit (Below)
set_option linter.unusedVariables false
set_option linter.unusedSimpArgs false
end Go.Eng

/-
  THE ENGINE: strings.Join, strings.Repeat, bits.TrailingZeros, by their contracts off the shelf.
-/
namespace Go.Eng
set_option linter.unusedSectionVars false
variable [DM]
open Go
open Go.RowKit (Below)
set_option linter.unusedVariables false
set_option linter.unusedSimpArgs false
def Ic (xs:List ByteArray) (sep:ByteArray):Option ByteArray :=
 if xs.length<=140737488355328/\(Lib.join (xs.map (·.data.toList)) sep.data.toList).length<=140737488355328 then some ⟨(Lib.join (xs.map (·.data.toList)) sep.data.toList).toArray⟩else none
theorem join_ok (hdm:dmK=false) {P:Program} {f:FuncId}
  (h0:∀(a:Option Addr) (c:Nat) (sep:ByteArray) (w:World),Calls P f #[.slice a 0 c,.string sep] w λe w'=>e = .returned (.string ⟨#[]⟩)/\w'=w)
  (hC:∀(bk o c:Nat) (xs:List ByteArray) (sep:ByteArray) (w:World),(∀(j:Nat) x,xs[j]? = some x->w.cell? ⟨bk,o+j,none⟩=some (.string x))->bk<w.heap.size->xs.length<=140737488355328->xs.length<=c ->
   (Lib.join (xs.map (·.data.toList)) sep.data.toList).length<=140737488355328 ->
   Calls P f #[.slice (some ⟨bk,o,none⟩) xs.length c,.string sep] w λe w'=>e = .returned (.string ⟨(Lib.join (xs.map (·.data.toList)) sep.data.toList).toArray⟩)/\Below w.heap.size w w')
  {xs:List ByteArray} {sep r:ByteArray} (hF:Ic xs sep=some r):FnM P f [vL eS xs,vS sep] [] (vS r) []:=by
 unfold Ic at hF
 split at hF
 ·rename_i hx
  simp only [so_]at hF
  subst hF
  intro G w vargs hinv hargs
  have hfin:∀w',Below w.heap.size w w'->∃v G' S' tk' U' ν,Ending.returned (.string ⟨(Lib.join (xs.map (·.data.toList)) sep.data.toList).toArray⟩) = .returned v/\Inv ⟨G,w,zY G []⟩ G' w' S' tk' U'/\RepV G' w' v (ren ν (vS ⟨(Lib.join (xs.map (·.data.toList)) sep.data.toList).toArray⟩)) /\
    ν.length=([]:List (Option Box)).length/\ν.Nodup/\(∀i,i<([]:List Box).length->ν[i]? = some (aJ i))/\∀(i:Nat) (bx:Box),([]:List (Option Box))[i]? = some (some bx)->∃n,ν[i]? = some n/\S' n=some (bx.ren ν):=by
   intro w' hb
   obtain ⟨i2,e2⟩:=hinv.more (w':=w') (G':=G) (U':=λ_=>False) (λb' hb'=>hb.block b' hb') hb.size hb.os hb.tape hb.output (λ_ _ h=>h) (λ_ _ h => .inl h) rfl (λ_ h=>h) (λh=>by rw [hdm]at h;cases h)
   exact⟨_,G,_,1,_,[],rfl,i2,.d (.str _),rfl,List.nodup_nil,λi hi=>absurd hi (Nat.not_lt_zero i),λi bx hb=>by simp at hb⟩
  obtain ⟨hl,ha⟩:=hargs
  obtain ⟨v0,v1,rfl⟩:∃v0 v1,vargs=[v0,v1]:=by
   match vargs,hl with
   | [v0,v1],_=>exact⟨v0,v1,rfl⟩
  have r0:RepV G w v0 (vL eS xs):=ha 0 (by simp) (by simp)
  have r1:RepV G w v1 (vS sep):=ha 1 (by simp) (by simp)
  rw [r1.d_inv.str_inv]
  have r0':=r0.d_inv
  generalize hys:xs.map eS=ys at r0'
  cases r0' with
  | sl0 a cap =>
   have hn:xs=[]:=by simpa using hys
   subst hn
   refine (h0 a cap sep w).mono ?_
   rintro e w' ⟨rfl,rfl⟩
   exact hfin _ (Below.refl _ _)
  | sl b off cap sz _ us hcap hsz hI hc ho hr =>
   have hlen:ys.length=xs.length:=by rw [<- hys];simp
   have hcell:∀(j:Nat) x,xs[j]? = some x->w.cell? ⟨b,off+j,none⟩=some (.string x):=by
    intro j x hj
    obtain ⟨hj1,hj2⟩:=List.getElem?_eq_some_iff.1 hj
    have hj':j<ys.length:=by omega
    have hy:ys[j]=[D.str x]:=by
     subst hys
     rw [List.getElem_map,hj2];rfl
    have hz:sz=1:=by rw [<- hsz j hj',hy];rfl
    subst hz
    have h2:=hc j 0 hj' (by omega)
    have h3:=hr j 0 hj' (by rw [hy];exact Nat.zero_lt_one)
    have h4:us j 0 = .string x:=by
     have:ys[j][0]'(by rw [hy];exact Nat.zero_lt_one)=D.str x:=by simp [hy]
     rw [this]at h3
     exact h3.str_inv
    rw [h4]at h2
    simpa using h2
   rw [hlen]
   cases xs with
   | nil =>
    refine (h0 (some ⟨b,off,none⟩) cap sep w).mono ?_
    rintro e w' ⟨rfl,rfl⟩
    exact hfin _ (Below.refl _ _)
   | cons x xs =>
    have hb:b<w.heap.size:=by
     rcases Nat.lt_or_ge b w.heap.size with h|h
     ·exact h
     ·have h1:=hcell 0 x rfl
      have e:w.heap[b]? = none:=Array.getElem?_eq_none h
      simp only [World.cell?,e]at h1
      cases h1
    refine (hC b off cap (x::xs) sep w hcell hb hx.1 (by omega) hx.2).mono ?_
    rintro e w' ⟨rfl,hbw⟩
    exact hfin _ hbw
 ·cases hF
end Go.Eng

/-
  THE ENGINE: rows of strings that a function of the library makes; slices.Sorted(maps.Keys(m)), by the contracts off the shelf.
-/
namespace Go.Eng
set_option linter.unusedSectionVars false
variable [DM]
open Go
open Go.RowKit (Below)
open Go.WideElems (Fit rd rg)
set_option linter.unusedVariables false
set_option linter.unusedSimpArgs false
theorem row_rep {G:Gh} {w w':World} {t:TypeId} {v:Value} {xs:List ByteArray} (h:w'.ownsRow w.heap.size t 1 v xs.length (xs.map Value.string)) :
    ∃I':Nat->Nat->Prop,(∀b o,G.imm b o->I' b o)/\(∀b o,I' b o->G.imm b o\/(w.heap.size<=b/\b<w'.heap.size))/\RepD I' w' v (.sl (xs.map eS)):=by
  rcases h.2 with⟨rfl,h0⟩|⟨g,cap,cur,rfl,h1,h2,h3,h4,h5,h6⟩
  · have:xs=[]:=List.eq_nil_of_length_eq_zero h0
    subst this
    exact⟨G.imm,λ_ _ h=>h,λ_ _ h => .inl h,.sl0 _ _⟩
  · have hlt:g<w'.heap.size:=(Array.getElem?_eq_some_iff.1 h2).1
    refine⟨λb o=>G.imm b o\/(b=g/\o<xs.length),λ_ _ h => .inl h,λb o h=>h.imp id (λh=>by rw [h.1];exact⟨h1,hlt⟩),?_⟩
    have hl:(xs.map eS).length=xs.length:=by simp
    have hc:∀i (hi:i<xs.length),w'.cell? ⟨g,0+i*1+0,none⟩=some (.string xs[i]):=λi hi=>by
      have e1:cur.toList[i]? = some (.string xs[i]):=by
        have:=congrArg (λl=>l[i]?) h6
        simp only [List.getElem?_map,List.getElem?_eq_getElem hi,Option.map_some,Nat.mul_one]at this
        rwa [List.getElem?_take,if_pos hi]at this
      have e2:cur[i]? = some (.string xs[i]):=by simpa using e1
      simp [World.cell?,h2,e2]
    have:=RepD.sl (I:=λb o=>G.imm b o\/(b=g/\o<xs.length)) (w:=w') g 0 cap 1 (xs.map eS) (λi _ => .string (xs.getD i ⟨#[]⟩)) (by rw [hl];exact h3) (λi hi=>by rw [List.getElem_map];rfl)
      (λi j hi hj => .inr ⟨rfl,by rw [hl]at hi;omega⟩)
      (λi j hi hj=>by
        rw [hl]at hi
        obtain rfl:j=0:=by omega
        rw [hc i hi];simp [List.getD,List.getElem?_eq_getElem hi])
      (λi j hi hj=>rfl)
      (λi j hi hj=>by
        have hi':i<xs.length:=by rw [hl]at hi;exact hi
        have e:(xs.map eS)[i]=[D.str xs[i]]:=by rw [List.getElem_map];rfl
        have hj0:j=0:=by
          have:((xs.map eS)[i]).length=1:=by rw [e];rfl
          omega
        subst hj0
        have e2:(xs.map eS)[i][0]=D.str xs[i]:=by simp [eS]
        rw [e2]
        simp only [List.getD,List.getElem?_eq_getElem hi',Option.getD_some]
        exact .str _)
    rw [hl]at this
    exact this
theorem FnM.ofRow (hdm:dmK=false) {P:Program} {f:FuncId} {args:List V} {Sin:List Box} (xs:List ByteArray) (hok:∀b∈Sin,b.ok Sin.length=true)
    (h:∀(G:Gh) (w:World) (vargs:List Value),Inv ⟨G,w,zY G Sin⟩ G w (gp Sin) 1 (λ_=>False)->qR G w vargs args ->
      Calls P f vargs.toArray w λe w'=>∃v t,e = .returned v/\w'.ownsRow w.heap.size t 1 v xs.length (xs.map Value.string)/\Below w.heap.size w w'):FnM P f args Sin (vL eS xs) (Sin.map some):=by
  intro G w vargs hinv hargs
  refine (h G w vargs hinv hargs).mono ?_
  rintro e w' ⟨v,t,rfl,hrow,hb⟩
  obtain ⟨I',h1,h2,h3⟩:=row_rep (G:=G) hrow
  obtain ⟨i2,e2⟩:=hinv.more (w':=w') (G':=⟨I',G.mu⟩) (U':=λ_=>False) (λb' hb'=>hb.block b' hb') hb.size hb.os hb.tape hb.output h1 h2 rfl (λ_ h=>h) (λh=>by rw [hdm]at h;cases h)
  refine⟨_,_,_,1,_,(List.range Sin.length).map aJ,rfl,i2,.d h3,by simp,?_,λi hi=>by simp [hi],λi bx hb => ?_⟩
  · refine List.pairwise_map.2 (List.nodup_range.imp (λ{a b} hab he=>hab ?_))
    have:=congrArg rA he
    rw [jl,jl,so_]at this
    exact this
  · rw [List.getElem?_map,Option.map_eq_some_iff]at hb
    obtain ⟨b',hb1,hb2⟩:=hb
    obtain rfl:b'=bx:=by simpa using hb2
    have hi:i<Sin.length:=(List.getElem?_eq_some_iff.1 hb1).1
    refine⟨aJ i,by simp [hi],?_⟩
    rw [vJ (hok _ (List.mem_of_getElem? hb1)),qG]
    exact hb1
theorem LD {P:Program} {f f1:FuncId} {tm:TypeId} (hC:∀(mb:Option Nat) (w:World),Calls P f #[.map mb] w λe w'=>e = .returned (.func (.func f1) #[] #[.pointer (some ⟨w.heap.size,0,none⟩)])/\w'=w.alloc (.cells #[.map mb] tm)) (es:List (D×D)) :
    FnM P f [.map (aJ 0)] [.map es] (.fn f1 [.ref (aJ 1) 0 0]) [some (.map es),some (.cells 1 [.map (aJ 0)])]:=by
  intro G w vargs hinv hargs
  obtain ⟨v,rfl,hv⟩:=hargs.alone
  cases hv with
  | map hm =>
    rename_i b o sz
    refine (hC (some b) w).mono ?_
    rintro e w' ⟨rfl,rfl⟩
    obtain ⟨i2,e2⟩:=hinv.allocBox 0 (λh=>h) (.cells #[.map (some b)] tm) (.cells 1 [.map (aJ 0)]) (λG' hi he=>by
      have hst:Stands G' (w.alloc (.cells #[.map (some b)] tm)) (.cells 1 [.map (aJ 0)]) w.heap.size 0 1 :=
        { sz:=rfl,even:=trivial
          room:=by rw [bC (fZ w _)];show 0+1<=1;omega
          cell:=λj hj=>by
            have hj0:j=0:=by simp [Box.all]at hj;exact hj
            subst hj0
            exact⟨.map (some b),by rw [cell_of_row (fZ w _)];rfl,rfl,.map (he.mu _ _ hm)⟩
          free:=λ_=>⟨⟨_,_,fZ w _⟩,λo' ho'=>absurd (hinv.immB _ o' ((hi _ _).1 ho')) (Nat.lt_irrefl _)⟩
          froz:=λh=>by simp [Box.mut]at h
          cel:=⟨rfl,λh=>absurd h (by decide)⟩ }
      exact hst)
    refine⟨_,_,_,1,_,[aJ 0,(0,1)],rfl,i2,?_,rfl,by decide,λi hi => ?_,λi bx hb => ?_⟩
    · refine .fn f1 [_] [_] rfl (λi h1 h2 => ?_)
      have hi0:i=0:=by simpa using h1
      subst hi0
      have:RepV ⟨G.imm,λm=>if m=((0,1):Nm)then some (w.heap.size,0,(Box.cells 1 [V.map (aJ 0)]).sz)else G.mu m⟩ (w.alloc (.cells #[.map (some b)] tm)) (.pointer (some ⟨w.heap.size,0+0*1+0,none⟩)) (.ref ((0,1):Nm) 0 0) := .ref (sz:=1) 0 0 (by simp [Box.sz])
      have e1:ren [aJ 0,((0,1):Nm)] (.ref (aJ 1) 0 0) = .ref ((0,1):Nm) 0 0:=by simp only [ren,renN_1]
      simp only [renL,List.getElem_cons_zero,e1]
      exact this
    · have hi0:i=0:=by simpa using hi
      subst hi0;rfl
    · match i,hb with
      | 0,hb =>
        simp only [List.getElem?_cons_zero,so_]at hb
        subst hb
        refine⟨aJ 0,rfl,?_⟩
        show supd (gp [Box.map es]) (0,1) _ (aJ 0)=some (Box.map es)
        rw [supd,if_neg (by decide),qG];rfl
      | 1,hb =>
        simp only [List.getElem?_cons_succ,List.getElem?_cons_zero,so_]at hb
        subst hb
        refine⟨(0,1),rfl,?_⟩
        show supd _ (0,1) _ (0,1)=_
        rw [supd,if_pos rfl]
        simp only [Box.ren,renL,ren,renN_0]
      | i+2,hb=>simp at hb
def DX {β:Type} (es:List (ByteArray×β)):Option (List ByteArray) :=
  if es.length<=1000000000/\es.all (λe=>decide (e.1.size<=1000000000))=true then some (((es.map λe=>e.1.data.toList).mergeSort leB).map λl=>⟨l.toArray⟩)else none
theorem BJ (hdm:dmK=false) {P:Program} {f f1:FuncId} {kt et:TypeId} (hkt:P.underlying kt=some .string)
    (hC:∀(b nn Bm:Nat) (D0:DataW Unit) (w:World),w.cell? ⟨Bm,0,none⟩=some (.map (some b))->Bm<w.heap.size->w.ownsMap P kt (λ_=>some (.nil,[])) b nn D0->Maps.size D0<=maxLen->Maps.size D0*16<=140737488355328 ->
      Calls P f #[.func (.func f1) #[] #[.pointer (some ⟨Bm,0,none⟩)]] w λe w'=>∃(v:Value) (ss:List (List UInt8)),e = .returned v/\ss.Perm (strKeys D0) /\
        w'.ownsRow w.heap.size et 1 v ss.length ((ss.mergeSort leB).map Go.Proofs.encStr)/\Below w.heap.size w w')
    {β:Type} {eV:β->D} {es:List (ByteArray×β)} {r:List ByteArray} (hF:DX es=some r) :
    FnM P f [.fn f1 [.ref (aJ 0) 0 0]] [.cells 1 [.map (aJ 1)],.map (es.map λe=>(D.str e.1,eV e.2))] (vL eS r) [some (.cells 1 [.map (aJ 1)]),some (.map (es.map λe=>(D.str e.1,eV e.2)))]:=by
  unfold DX at hF
  split at hF
  case isFalse=>cases hF
  rename_i hx
  simp only [so_]at hF
  subst hF
  have hok:∀b ∈ [Box.cells 1 [.map (aJ 1)],Box.map (es.map λe=>(D.str e.1,eV e.2))],b.ok 2=true:=λb hb=>by
    simp only [List.mem_cons,List.not_mem_nil,or_false]at hb
    rcases hb with rfl|rfl
    · simp only [Box.ok,okL,okV,D7 (show 1<2 by omega),Bool.and_self]
    · rfl
  refine FnM.ofRow hdm _ hok (λG w vargs hinv hargs => ?_)
  obtain ⟨v,rfl,hv⟩:=hargs.alone
  cases hv with
  | fn _ arr vs hl hv =>
    obtain ⟨u,rfl⟩:∃u,arr=[u]:=List.length_eq_one_iff.1 (by simpa using hl)
    have h0:RepV G w u (.ref (aJ 0) 0 0):=hv 0 (by simp) (by simp)
    cases h0 with
    | ref _ _ hm =>
      rename_i bm om szm
      obtain ⟨b0,o0,s0,k1,k2,_⟩:=hinv.box (aJ 0) (.cells 1 [.map (aJ 1)]) (by rw [qG];rfl)
      rw [hm,so_,Prod.mk.injEq,Prod.mk.injEq]at k1
      obtain ⟨rfl,rfl,rfl⟩:=k1
      have k2':Stands G w (.cells 1 [.map (aJ 1)]) bm om szm:=k2
      obtain rfl:om=0:=k2'.cel.1
      obtain ⟨uv,c1,_,c3⟩:=k2'.cell 0 (by show 0<1;omega)
      have c3':RepV G w uv (.map (aJ 1)):=c3
      cases c3' with
      | map hm1 =>
        rename_i b1 o1 s1 _
        obtain ⟨b2,o2,s2,q1,q2,-⟩:=hinv.box (aJ 1) (.map (es.map λe=>(D.str e.1,eV e.2))) (by rw [qG];rfl)
        rw [hm1,so_,Prod.mk.injEq,Prod.mk.injEq]at q1
        obtain ⟨e1,e2,e3⟩:=q1
        subst e1 e2 e3
        have q3:DN G w (es.map λe=>(D.str e.1,eV e.2)) b1:=q2
        obtain ⟨_,arr,clock,⟨p1,ps⟩,p2,p3⟩:=q3
        have hlen:arr.size=es.length:=by rw [p2,List.length_map]
        have hkey:∀i (h1:i<arr.size) (h2:i<es.length),arr[i].key = .string es[i].1:=λi h1 h2=>by
          have:=(p3 i h1 (by rw [List.length_map];exact h2)).1
          simp only [List.getElem_map]at this
          exact this.str_inv
        have hsz:∀i (h:i<es.length),es[i].1.size<=maxLen:=λi h=>by
          have:=of_decide_eq_true (List.all_eq_true.1 hx.2 _ (List.getElem_mem h))
          unfold maxLen;omega
        have hrd:∀i (h1:i<arr.size) (h2:i<es.length),rd (H:=Unit) P kt (λ_=>some (.nil,[])) arr[i]=some (.string es[i].1.data.toList,.nil):=λi h1 h2=>by
          have h3:=hsz i h2
          simp [rd,keyOf,hkt,hkey i h1 h2,mapKey,h3]
        have hown:w.ownsMap (H:=Unit) P kt (λ_=>some (.nil,[])) b1 arr.size (.map ((arr.toList.map (rg P kt λ_=>some (.nil,[]))).foldr DataW.insert [])) :=
          ⟨arr,clock,p1,⟨by unfold maxLen;omega,ps,λx hx'=>by
            obtain ⟨i,hi,rfl⟩:=List.getElem_of_mem hx'
            have hi':i<arr.size:=by simpa using hi
            exact⟨_,by rw [Array.getElem_toList];exact hrd i hi' (by omega)⟩⟩,Nat.le_refl _,rfl⟩
        have hDs:Maps.size (DataW.map (H:=Unit) ((arr.toList.map (rg P kt λ_=>some (.nil,[]))).foldr DataW.insert []))=arr.size:=by
          show (List.foldr DataW.insert [] _).length=_
          rw [length_sorted];simp
        have hbm:bm<w.heap.size:=hinv.bound _ _ _ _ hm
        have c1':w.cell? ⟨bm,0,none⟩=some (.map (some b1)):=by simpa using c1
        have hcall:=hC b1 arr.size bm _ w c1' hbm hown (by rw [hDs];unfold maxLen;omega) (by rw [hDs];omega)
        have e0:(⟨bm,0+0*szm+0,none⟩:Addr)=⟨bm,0,none⟩:=by simp
        rw [e0]
        refine hcall.mono ?_
        rintro e w' ⟨v,ss,rfl,hperm,hrow,hb⟩
        have hkeys:(strKeys (DataW.map (H:=Unit) ((arr.toList.map (rg P kt λ_=>some (.nil,[]))).foldr DataW.insert []))).Perm (es.map λe=>e.1.data.toList):=by
          have h1:=(WideShapes.sorted_perm (arr.toList.map (rg (H:=Unit) P kt λ_=>some (.nil,[])))).map λp=>strOf p.1
          refine h1.trans (List.Perm.of_eq ?_)
          refine List.ext_getElem (by simp [hlen]) (λi a1 a2 => ?_)
          have a3:i<arr.size:=by simpa using a1
          have a4:i<es.length:=by omega
          simp only [List.getElem_map,Array.getElem_toList,WideElems.rg_of (hrd i a3 a4),strOf]
        have hs:ss.mergeSort leB=(es.map λe=>e.1.data.toList).mergeSort leB:=mergeSort_of_perm (hperm.trans hkeys)
        refine⟨v,et,rfl,?_,hb⟩
        have hl1:ss.length=(((es.map λe=>e.1.data.toList).mergeSort leB).map λl=>(⟨l.toArray⟩:ByteArray)).length:=by
          rw [List.length_map,<- hs,List.length_mergeSort]
        have hl2:(ss.mergeSort leB).map Go.Proofs.encStr=(((es.map λe=>e.1.data.toList).mergeSort leB).map λl=>(⟨l.toArray⟩:ByteArray)).map Value.string:=by
          rw [<- hs,List.map_map];rfl
        rw [<- hl1,<- hl2]
        exact hrow
end Go.Eng

