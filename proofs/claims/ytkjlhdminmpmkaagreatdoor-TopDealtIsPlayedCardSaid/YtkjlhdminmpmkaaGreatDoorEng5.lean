/-
  The engine: what the machine does to data, shown once for all programs (part 5).
-/
import Derived.Test.YtkjlhdminmpmkaaGreatDoorEng4
import Derived.Lib.LaidTab
import Derived.Lib.ItoaNum
import Derived.Deep.Draws
import Derived.Below
import Derived.Lib.IndexMore
import Derived.Lib.TrimByte
import Derived.Lib.Join
import Derived.Lib.Repeat
import Derived.Lib.TrailingZeros
import Derived.Lib.SlTrimSet
/-
  THE ENGINE: a slice that is cut in its own box and grows again; boxes of slices that may be empty; maps whose keys are structs.
-/
namespace Go.Eng
set_option linter.unusedSectionVars false
variable [DM]
set_option linter.unusedVariables false
set_option linter.unusedSimpArgs false
section
variable {C:Cfg} {Q:QH} {sl:Nat->V} {H:Hp} {c:Code}
end
section
variable {C:Cfg} {sl:Nat->V} {H:Hp} {q:Qm} {all rest:List Oper} {K:(Nat->V)->Hp->Prop}
variable {dst:Option Tmp} {d:Nat} {t ty:TypeId} {pos:String} {after:Array Edge} {g:Option (Nat×Bool)}
end
end Go.Eng

/-
  THE ENGINE: rules for arrays of bytes in a box, and for bytes to a string and back.
-/
namespace Go.Eng
set_option linter.unusedSectionVars false
variable [DM]
open Go
set_option linter.unusedVariables false
set_option linter.unusedSimpArgs false
def uT {α:Type} (xs:List α) (n:Nat):Option Unit:=if xs.length=n then some ()else none
theorem nR {α:Type} {xs:List α} {n:Nat} {u:Unit} (h:uT xs n=some u):xs.length=n:=by
 unfold uT at h;split at h
 ·assumption
 ·cases h
section
variable {C:Cfg} {sl:Nat->V} {H:Hp} {q:Qm} {all rest:List Oper} {K:(Nat->V)->Hp->Prop}
variable {dst:Option Tmp} {d:Nat} {t ty:TypeId} {pos:String} {after:Array Edge} {g:Option (Nat×Bool)}
theorem Ku {e:TypeId} {cs:List V} {m:Nat} (xs:List Int) (p:Nat) (hp:q=none\/Nat.beq all.length (p+(rest.length+1))=true) (hz:zeroCells C.P e=some cs) (ha:Ce cs=some (xs.map λn=>D.int .u8 n)) (ho:cs.all jd=true) (hm:yH C.P e=some m)
  (hw:aN all sl ⟨some d,.alloc e,ty,pos,after,g⟩=some true)
  (h:∀n:Nm,bf (lY q p [n] true) C all K rest (upd sl d (.ref n 0 0)) (H++[(n,some (bV 1 (eK .u8) xs))])):bf q C all K (⟨some d,.alloc e,ty,pos,after,g⟩::rest) sl H :=
 oV rfl p [] hp (λ_ _ _=>tK) (λm hm=>by cases hm) hw (λS tk K' ok ag hk=>iV (A:=⟨[],[((d,tk),some (bV 1 (eK .u8) xs))],.ref (d,tk) 0 0⟩) (λc e=>by cases e) (by
  show (bif (yH C.P e).isSome then tQ C.P e d tk else bif C.vm.contains d then vU C.P e d tk else xw C.P e d tk)=_
  rw [hm]
  simp only [Option.isSome_some,cond_true,tQ,hz,ha,ho,bV,List.map_map]
  rfl) (hk _ _ _ (.inl rfl) ⟨by simp,by simp⟩ (ag.new ok rfl _) (h (d,tk))))
theorem K7 {xs:List Int} {x i:Operand} {k:IntKind} {n:Int} {m:Nat} {nm:Nm} (p j:Nat) (hp:q=none\/Nat.beq all.length (p+(rest.length+1))=true)
  (hf:∀S tk,AgR H S tk (⟨dst,.indexAddr t x i,ty,pos,after,g⟩::rest)->okQ q all p [nm] false) (hm:yH C.P t=some m) (hx:ev sl x = .ref nm 0 0) (hi:ev sl i = .d (.int k n)) (hH:H[j]? = some (nm,some (bV 1 (eK .u8) xs))) (h0:0<=n) (h1:n.toNat<m)
  (hw:aN all sl ⟨dst,.indexAddr t x i,ty,pos,after,g⟩=some true) (h:bf (lY q p [nm] false) C all K rest (dL sl dst (.ref nm n.toNat 0)) H):bf q C all K (⟨dst,.indexAddr t x i,ty,pos,after,g⟩::rest) sl H:=by
 refine oD p [nm] false hp hf (wL hH) hw (λS tk K' ok' ag hk=>iV (A:=⟨[(nm,bV 1 (eK .u8) xs)],[],.ref nm n.toNat 0⟩) (λc e=>by cases e) ?_ (hk _ H ⟨by simp,by simp⟩ (λ_=>rfl) ag.tail h))
 show orE (iY C.P t (ev sl x) (ev sl i)) (tT C.P t S (ev sl x) (ev sl i))=_
 obtain ⟨e,hu,_,_⟩:=ym hm
 have he:bD C.P t=none:=by unfold bD;rw [hu]
 have h1':iY C.P t (ev sl x) (ev sl i)=none:=by
  unfold iY
  rw [he,hi];rfl
 rw [h1',hx,hi]
 show tT C.P t S (.ref nm 0 0) (.d (.int k n))=_
 have hc:(decide (0<=n)&&Nat.blt n.toNat m)=true:=by simp [h0,Nat.blt_eq,h1]
 simp only [tT,hm,ag.get hH,hc,cond_true]
theorem P6 {xs:List Int} {m:Nat} {nm:Nm} {S:Store} {lo hi:Option V} {a b:Int} {u u':Unit} (hm:yH C.P t=some m) (hS:S nm=some (bV 1 (eK .u8) xs)) (hl:uT xs m=some u') (h1:pg 0 lo=some a.toNat) (h2:pg m hi=some b.toNat) (hr:wP xs a b=some u) :
  orE ((kL C.P t (.ref nm 0 0) lo hi none).bind fJ) (lL C.P t S (.ref nm 0 0) lo hi none)=some ⟨[(nm,bV 1 (eK .u8) xs)],[],.vs nm 1 a.toNat (b.toNat-a.toNat)⟩:=by
 obtain ⟨e,hu,_,_⟩:=ym hm
 have hl':=nR hl
 obtain ⟨_,_,r3,r4⟩:=rP hr
 have h0:kL C.P t (.ref nm 0 0) lo hi none=none:=by simp only [kL,hu]
 rw [h0]
 show lL C.P t S (.ref nm 0 0) lo hi none=_
 simp only [lL,hm,hS,h1,h2]
 rw [if_pos ⟨r3,by omega,by simp [hl']⟩]
section
variable {xs:List Int} {m:Nat} {nm:Nm} {x l hi:Operand} {k k':IntKind} {a b:Int} {u u':Unit}
theorem J8 (p j:Nat) (hp:q=none\/Nat.beq all.length (p+(rest.length+1))=true) (hf:∀S tk,AgR H S tk (⟨dst,.slice t x (some l) none none,ty,pos,after,g⟩::rest)->okQ q all p [nm] false) (hm:yH C.P t=some m) (hx:ev sl x = .ref nm 0 0) (hl:ev sl l = .d (.int k a)) (hH:H[j]? = some (nm,some (bV 1 (eK .u8) xs))) (hn:uT xs m=some u') (hr:wP xs a xs.length=some u)
  (hw:aN all sl ⟨dst,.slice t x (some l) none none,ty,pos,after,g⟩=some true) (h:bf (lY q p [nm] false) C all K rest (dL sl dst (.vs nm 1 a.toNat (((xs.length:Int)).toNat-a.toNat))) H):bf q C all K (⟨dst,.slice t x (some l) none none,ty,pos,after,g⟩::rest) sl H :=
 oD p [nm] false hp hf (wL hH) hw (λS tk K' ok' ag hk=>iV (A:=⟨[(nm,bV 1 (eK .u8) xs)],[],.vs nm 1 a.toNat (((xs.length:Int)).toNat-a.toNat)⟩) (λc e=>by cases e) (by
  show orE ((kL C.P t (ev sl x) (some (ev sl l)) none none).bind fJ) (lL C.P t S (ev sl x) (some (ev sl l)) none none)=_
  rw [hx,hl];exact P6 hm (ag.get hH) hn (Oi (rP hr).1) (by show some m=_;rw [<- nR hn];rfl) hr) (hk _ H ⟨by simp,by simp⟩ (λ_=>rfl) ag.tail h))
end
theorem PI {P:Program} {e:TypeId} (h:P.underlying e=some (.int .u8)):wN P e=true:=by unfold wN;rw [h]
theorem Lm {P:Program} {s t e:TypeId} {x:V} (hs:P.underlying s=some (.slice e)) (ht:P.underlying t=some .string) (hx:∀s,x ≠ .d (.str s)):Az P s t x=none:=by
 unfold Az
 rw [hs,ht]
 split
 ·rename_i h;cases h
 ·exact absurd rfl (hx _)
 ·rename_i h h2;cases h
 ·rfl
theorem h_convp {xs:List Int} {x:Operand} {s e:TypeId} {nm:Nm} {a ln:Nat} (p j:Nat) (hp:q=none\/Nat.beq all.length (p+(rest.length+1))=true)
  (hf:∀S tk,AgR H S tk (⟨dst,.convert s t x,ty,pos,after,g⟩::rest)->okQ q all p [nm] false) (hs:C.P.underlying s=some (.slice e)) (ht:C.P.underlying t=some .string) (he:C.P.underlying e=some (.int .u8))
  (hx:ev sl x = .vs nm 1 a ln) (hH:H[j]? = some (nm,some (bV 1 (eK .u8) xs))) (hle:a+ln<=xs.length)
  (hw:aN all sl ⟨dst,.convert s t x,ty,pos,after,g⟩=some true) (h:bf (lY q p [nm] false) C all K rest (dL sl dst (vS (strOfNums (Dh xs a ln)))) H):bf q C all K (⟨dst,.convert s t x,ty,pos,after,g⟩::rest) sl H:=by
 refine oD p [nm] false hp hf (wL hH) hw (λS tk K' ok' ag hk=>iV (A:=⟨[(nm,bV 1 (eK .u8) xs)],[],vS (strOfNums (Dh xs a ln))⟩) (λc e=>by cases e) ?_ (hk _ H ⟨by simp,by simp⟩ (λ_=>rfl) ag.tail h))
 show orE ((Az C.P s t (ev sl x)).bind fJ) (vY C.P s t S (ev sl x))=_
 rw [hx,Lm hs ht (λ_ e=>by cases e)]
 show vY C.P s t S (.vs nm 1 a ln)=_
 have hg:S nm=some (.vec 1 (xs.map (eK .u8))):=ag.get hH
 simp only [vY,hs,ht,PI he,cond_true,hg]
 rw [if_pos ⟨trivial,by simpa using hle⟩]
 have:((xs.map (eK .u8)).drop a).take ln=(Dh xs a ln).map eU8:=by
  unfold Dh
  rw [<- List.map_drop,<- List.map_take];rfl
 rw [this,Me]
 rfl
end
end Go.Eng

/-
  THE ENGINE: strconv.Itoa, by its contract off the shelf; the table that it reads is known.
-/
namespace Go.Eng
set_option linter.unusedSectionVars false
variable [DM]
open Go.Sort
set_option linter.unusedVariables false
set_option linter.unusedSimpArgs false
theorem Lh {P:Program} {G:Gh} {w:World} {name:String} {k:IntKind} {zs:List Int} (hl:∀w0,FQ w0->Lib.TabIs P w0 name k zs) (hz:zs ≠ []) (h:Kn G w):Lib.TabIs P w name k zs:=by
 obtain ⟨w0,h1,h2⟩:=h
 have ht:=hl w0 h1
 unfold Lib.TabIs World.var? at ht ⊢
 cases hg:P.globalNamed name with
 | none=>rw [hg]at ht;simp at ht
 | some g =>
  rw [hg]at ht
  simp only [ob_]at ht ⊢
  have hlt:g<w0.heap.size:=by
   rcases Nat.lt_or_ge g w0.heap.size with h|h
   ·exact h
   ·rw [Array.getElem?_eq_none h]at ht;cases ht
  have hc:∀o,w.cell? ⟨g,o,Option.none⟩=w0.cell? ⟨g,o,Option.none⟩:=λo=>(h2 g o hlt).2
  cases hb:w0.heap[g]? with
  | none=>rw [hb]at ht;cases ht
  | some ob =>
   rw [hb]at ht
   cases ob with
   | cells cs t fr =>
    simp only [so_]at ht
    have e0:∀o,w0.cell? ⟨g,o,Option.none⟩=cs[o]? := λo=>by simp [World.cell?,hb]
    cases hw:w.heap[g]? with
    | none =>
     exfalso
     have:=hc 0
     rw [e0]at this
     simp only [World.cell?,hw]at this
     rw [ht]at this
     cases zs with
     | nil=>exact hz rfl
     | cons z zs=>simp at this
    | some ob' =>
     cases ob' with
     | cells cs' t' fr' =>
      have e1:∀o,w.cell? ⟨g,o,Option.none⟩=cs'[o]? := λo=>by simp [World.cell?,hw]
      have:cs'=cs:=Array.ext_getElem? (λo=>by rw [<- e1,<- e0,hc])
      rw [this,ht]
     | _ =>
      exfalso
      have:=hc 0
      rw [e0]at this
      simp only [World.cell?,hw]at this
      rw [ht]at this
      cases zs with
      | nil=>exact hz rfl
      | cons z zs=>simp at this
   | _=>cases ht
def Nt (n:Int):Option ByteArray:=if -9223372036854775808<=n/\n<=9223372036854775807 then some ⟨(Lib.itoa n).toArray⟩else none
theorem itoa_ok {P:Program} {f:FuncId}
  (hC : ∀ (n : Int), -9223372036854775808 ≤ n → n ≤ 9223372036854775807 → ∀ w : World, Lib.TabIs P w "internal/strconv.uint64pow10" .u64 Lib.pow10Tab →
   Calls P f #[.int .i64 n] w λe w'=>e = .returned (.string ⟨(Lib.itoa n).toArray⟩)/\∃k os,w'=grow (w.drewN k) os)
  (hl : ∀ w0, FQ w0 → Lib.TabIs P w0 "internal/strconv.uint64pow10" .u64 Lib.pow10Tab) {n : Int} {r : ByteArray} (hF : Nt n = some r) : FnM P f [.d (.int .i64 n)] [] (.d (.str r)) [] := by
 unfold Nt at hF
 split at hF
 ·rename_i hn
  simp only [so_]at hF
  subst hF
  intro G w vargs hinv hargs
  obtain ⟨v,rfl,hv⟩:=hargs.alone
  have hv':RepD G.imm w v (.int .i64 n):=hv.d_inv
  cases hv' with
  | int =>
   refine (hC n hn.1 hn.2 w (Lh hl (by decide) hinv.kn)).mono ?_
   rintro e w' ⟨rfl,k,os,rfl⟩
   obtain ⟨i2,e2⟩:=hinv.more (w':=grow (w.drewN k) os) (G':=G) (U':=λ_=>False) (λb' hb'=>by
    show (w.heap++os)[b']? = _
    rw [Array.getElem?_append_left hb']) (by simp [grow,World.drewN]) rfl rfl rfl (λ_ _ h=>h) (λ_ _ h => .inl h) rfl (λ_ h=>h) (λ_=>Nat.le_add_right w.drawn k)
   exact⟨_,G,_,1,_,[],rfl,i2,.d (.str _),rfl,List.nodup_nil,λi hi=>absurd hi (Nat.not_lt_zero i),λi bx hb=>by simp at hb⟩
 ·cases hF
end Go.Eng

/-
  THE ENGINE: functions over literals, by their contracts off the shelf.
-/
namespace Go.Eng
set_option linter.unusedSectionVars false
variable [DM]
open Go.RowKit (Below)
set_option linter.unusedVariables false
set_option linter.unusedSimpArgs false
def isLit:D->Bool
 | .int _ _ | .bool _ | .str _=>true
 | _=>false
def lv:D->Value
 | .int k n => .int k n
 | .bool b => .bool b
 | .str s => .string s
 | _=>undef
theorem lit_inv {I:Nat->Nat->Prop} {w:World} {v:Value} {d:D} (h:RepD I w v d) (hl:isLit d=true):v=lv d:=by
 cases h with
 | int k n=>rfl
 | bool b=>rfl
 | str s=>rfl
 | agg=>cases hl
 | sl0=>cases hl
 | sl=>cases hl
 | ptr=>cases hl
 | nilp=>cases hl
theorem JL {G:Gh} {w:World}:∀{vs:List Value} {ds:List D},sV G w vs (ds.map V.d)->ds.all isLit=true->vs=ds.map lv
 | [],[],_,_=>rfl
 | [],d::ds,h,_=>by have:=h.1;simp at this
 | v::vs,[],h,_=>by have:=h.1;simp at this
 | v::vs,d::ds,h,hl=>by
  simp only [List.all_cons,Bool.and_eq_true]at hl
  obtain ⟨hlen,h⟩:=h
  have h0:RepV G w v (.d d):=h 0 (by simp) (by simp)
  have e:=lit_inv h0.d_inv hl.1
  have:sV G w vs (ds.map V.d):=⟨by simpa using hlen,λi h1 h2=>by
   have:=h (i+1) (by simpa using h1) (by simpa using h2)
   simpa using this⟩
  rw [e,JL this hl.2];rfl
theorem Eb {P:Program} {f:FuncId} (ds:List D) (v:Value) (r:V) (ha:ds.all isLit=true) (hr:∀G w,RepV G w v (ren [] r))
  (hC:∀(G:Gh) (w:World),Kn G w->Calls P f (ds.map lv).toArray w λe w'=>e = .returned v/\Below w.heap.size w w'/\(dmK=true->w.drawn<=w'.drawn)):FnM P f (ds.map V.d) [] r []:=by
 intro G w vargs hinv hargs
 rw [JL hargs ha]
 refine (hC G w hinv.kn).mono ?_
 rintro e w' ⟨rfl,hb,hd⟩
 obtain ⟨i2,e2⟩:=hinv.more (w':=w') (G':=G) (U':=λ_=>False) (λb' hb'=>hb.block b' hb') hb.size hb.os hb.tape hb.output (λ_ _ h=>h) (λ_ _ h => .inl h) rfl (λ_ h=>h) hd
 exact⟨_,G,_,1,_,[],rfl,i2,hr _ _,rfl,List.nodup_nil,λi hi=>absurd hi (Nat.not_lt_zero i),λi bx hb=>by simp at hb⟩
end Go.Eng

/-
  THE ENGINE: strings.Join, strings.Repeat, bits.TrailingZeros, by their contracts off the shelf.
-/
namespace Go.Eng
set_option linter.unusedSectionVars false
variable [DM]
open Go
open Go.RowKit (Below)
set_option linter.unusedVariables false
set_option linter.unusedSimpArgs false
theorem Lp {P:Program} {w:World} {name:String} {k:IntKind} {zs:List Int} {g:Nat} (h:Lib.TabIs P w name k zs) (hg:P.globalNamed name=some g) {j:Nat} {z:Int} (hz:zs[j]? = some z):w.cell? ⟨g,j,none⟩=some (.int k z):=by
 unfold Lib.TabIs World.var? at h
 rw [hg]at h
 simp only [ob_]at h
 cases hb:w.heap[g]? with
 | none=>rw [hb]at h;cases h
 | some ob =>
  rw [hb]at h
  cases ob with
  | cells cs t fr =>
   simp only [so_]at h
   subst h
   simp [World.cell?,hb,hz]
  | _=>cases h
def dbTab:List Int:=Lib.deBruijn64tab.map (λ(n:Nat)=>(n:Int))
def tzF (x:Int):Option Int:=if 0<=x/\x<18446744073709551616 then some (Lib.ctz 64 x.toNat:Nat)else none
theorem tz_ok {P : Program} {f : FuncId} {g : Nat} (hg : P.globalNamed "math/bits.deBruijn64tab" = some g)
  (hC:∀(x:Nat),x<18446744073709551616->∀w:World,(x≠0->∀j,j<Lib.deBruijn64tab.length->w.cell? ⟨g,j,none⟩=some (.int .u8 (Lib.deBruijn64tab.getD j 0))) ->
   Calls P f #[.int .u64 x] w λe w'=>e = .returned (.int .i64 (Lib.ctz 64 x))/\w'=w)
  (hl : ∀ w0, FQ w0 → Lib.TabIs P w0 "math/bits.deBruijn64tab" .u8 dbTab) {x r : Int} (hF : tzF x = some r) : FnM P f [.d (.int .u64 x)] [] (.d (.int .i64 r)) [] := by
 unfold tzF at hF
 split at hF
 ·rename_i hx
  simp only [so_]at hF
  subst hF
  refine Eb [.int .u64 x] _ _ rfl (λG w => .d (.int _ _)) (λG w hk => ?_)
  have ht:=Lh hl (by decide) hk
  have h1:=hC x.toNat (by omega) w (λ_ j hj=>Lp ht hg (by unfold dbTab;rw [List.getElem?_map,List.getElem?_eq_getElem hj];simp [List.getD,List.getElem?_eq_getElem hj]))
  have e:(#[.int .u64 (x.toNat:Int)]:Array Value)=([D.int .u64 x].map lv).toArray:=by
   simp [lv,Int.toNat_of_nonneg hx.1]
  rw [<- e]
  exact h1.mono (λe w' hw=>⟨hw.1,by rw [hw.2];exact⟨Below.refl _ _,λ_=>Nat.le_refl _⟩⟩)
 ·cases hF
def Dn (s:ByteArray) (c:Int):Option ByteArray:=if 0<=c/\c<=9223372036854775807/\s.size*c.toNat<=140737488355328 then some ⟨(Lib.repeatL s.data.toList c.toNat).toArray⟩else none
theorem OW (hdm:dmK=false) {P:Program} {f:FuncId}
  (hC:∀(s:ByteArray) (c:Nat) (w:World),c<=9223372036854775807->s.size*c<=140737488355328 ->
   Calls P f #[.string s,.int .i64 c] w λe w'=>e = .returned (.string ⟨(Lib.repeatL s.data.toList c).toArray⟩)/\Below w.heap.size w w')
  {s r:ByteArray} {c:Int} (hF:Dn s c=some r):FnM P f [.d (.str s),.d (.int .i64 c)] [] (.d (.str r)) []:=by
 unfold Dn at hF
 split at hF
 ·rename_i hx
  simp only [so_]at hF
  subst hF
  refine Eb [.str s,.int .i64 c] _ _ rfl (λG w => .d (.str _)) (λG w hk => ?_)
  have h1:=hC s c.toNat w (by omega) hx.2.2
  have e:(#[.string s,.int .i64 (c.toNat:Int)]:Array Value)=([D.str s,D.int .i64 c].map lv).toArray:=by
   simp [lv,Int.toNat_of_nonneg hx.1]
  rw [<- e]
  exact h1.mono (λe w' hw=>⟨hw.1,hw.2,λh=>by rw [hdm]at h;cases h⟩)
 ·cases hF
def I4 (s t:ByteArray):Option ByteArray:=if s.size<=9223372036854775807/\t.size<4294967281/\t.data.toList.all (λb=>decide (b.toNat<128))=true then some ⟨(Lib.trimS s.data.toList t.data.toList).toArray⟩else none
theorem Rl (hdm:dmK=false) {P:Program} {f:FuncId}
  (hC:∀(s t:ByteArray) (w:World),s.size<=9223372036854775807->t.size<4294967281->(∀(j:Nat) b,t.data.toList[j]? = some b->b.toNat<128) ->
   Calls P f #[.string s,.string t] w λe w'=>e = .returned (.string ⟨(Lib.trimS s.data.toList t.data.toList).toArray⟩)/\Below w.heap.size w w')
  {s t r:ByteArray} (hF:I4 s t=some r):FnM P f [.d (.str s),.d (.str t)] [] (.d (.str r)) []:=by
 unfold I4 at hF
 split at hF
 ·rename_i hx
  simp only [so_]at hF
  subst hF
  exact Eb [.str s,.str t] _ _ rfl (λG w => .d (.str _)) (λG w hk=>(hC s t w hx.1 hx.2.1 (λj b hb=>of_decide_eq_true (List.all_eq_true.1 hx.2.2 b (List.mem_of_getElem? hb)))).mono (λe w' hw=>⟨hw.1,hw.2,λh=>by rw [hdm]at h;cases h⟩))
 ·cases hF
end Go.Eng

/-
  THE ENGINE: results of which the first is a new slice and the others are data.
-/
namespace Go.Eng
set_option linter.unusedSectionVars false
variable [DM]
set_option linter.unusedVariables false
def wI (ds:List D) (v:V):V:=En (v::ds.map V.d)
theorem Ht (ρ:List Nm):∀ds:List D,renL ρ (ds.map V.d)=ds.map V.d
 | []=>rfl
 | d::ds=>by simp only [List.map_cons,renL,ren,Ht ρ ds]
theorem KM (k:Nat):∀ds:List D,okL k (ds.map V.d)=true
 | []=>rfl
 | d::ds=>by simp only [List.map_cons,okL,okV,KM k ds,Bool.and_self]
theorem yx (ρ:List Nm) (ds:List D) (v:V):ren ρ (wI ds v)=wI ds (ren ρ v):=by
 cases ds with
 | nil=>rfl
 | cons d ds =>
  show V.tup (renL ρ (v::(d::ds).map V.d))=_
  simp only [renL,Ht];rfl
theorem Gv {k:Nat} (ds:List D) {v:V} (h:okV k v=true):okV k (wI ds v)=true:=by
 cases ds with
 | nil=>exact h
 | cons d ds =>
  show okL k (v::(d::ds).map V.d)=true
  simp only [okL,KM,h,Bool.and_self]
section
variable {C:Cfg} {sl:Nat->V} {H:Hp} {q:Qm} {all rest:List Oper} {K:(Nat->V)->Hp->Prop}
variable {dst:Option Tmp} {d:Nat} {t ty:TypeId} {pos:String} {after:Array Edge} {g:Option (Nat×Bool)}
theorem PK {α:Type} {enc:α->List D} {sz:Nat} {xs:List α} {f:Operand} {args:List Operand} {ats:Array TypeId} {fn:FuncId} {caps args0:List V} {Sin outs:List Box} (ds:List D) (is:List Nat) {l:List (Nm×Box)}
  (hc:FnM C.P fn args0 Sin (wI ds (gV (av is.length) sz xs)) (outs.map some++gO sz enc xs))
  (hf:ev sl f = .fn fn caps) (hb:aM C.P fn=true) (hl:lm H is=some l) (hS:Sin.map (λb=>b.ren (l.map (·.1)))=l.map (·.2)) (hSok:Sin.all (λb=>b.ok is.length)=true)
  (hn:((args.map (ev sl)++caps).flatMap frz).all (λn=>false)=true) (ha:(args.map (ev sl)++caps).map co0=renL (l.map (·.1)) args0) (hok:okL is.length args0=true)
  (hlen:outs.length=is.length) (hi:is.Nodup) (hO:outs.all (λb=>b.ok 0)=true)
  (hw:aN all sl ⟨some d,.call ⟨.value f,args.toArray,ats⟩,ty,pos,after,g⟩=some true)
  (H':Hp) (hH:∀ν,setH H (Eng.outs ν is (l.map (·.1)) (outs.map some))=H')
  (h:∀n:Nm,bf none C all K rest (upd sl d (wI ds (gV n sz xs))) (H'++[(n,gB sz enc xs)])) :
  bf none C all K (⟨some d,.call ⟨.value f,args.toArray,ats⟩,ty,pos,after,g⟩::rest) sl H:=by
 have hll:=(lJ hl).1
 have okO0:∀{k:Nat} {os:List Box},os.all (λb=>b.ok 0)=true->okOut k (os.map some)=true:=by
  intro k os
  induction os with
  | nil=>exact λ_=>rfl
  | cons b os ih =>
   intro h
   simp only [List.all_cons,Bool.and_eq_true]at h
   simp only [List.map_cons,okOut,Bool.and_eq_true]
   exact⟨Box.ok_mono (Nat.zero_le _) h.1,ih h.2⟩
 cases xs with
 | nil =>
  have hc':FnM C.P fn args0 Sin (wI ds .nil) (outs.map some):=by simpa [gO,gV]using hc
  refine Fz is 0 hc' hf hb hl hS hSok hn ha hok (Gv ds rfl) (by simp [hlen]) hi (okO0 hO) (by rw [List.drop_of_length_le (by simp [hlen])];rfl) hw (λν => ?_)
  simp only [List.range_zero,List.map_nil,List.append_nil,news,hH,yx]
  exact Dx (λn=>h n)
 | cons x xs =>
  refine Fz (r:=wI ds (gV (av is.length) sz (x::xs))) (Sout:=outs.map some++[some (.vec sz ((x::xs).map enc))]) is 1 hc hf hb hl hS hSok hn ha hok ?_ (by simp [hlen]) hi ?_ ?_ hw (λν => ?_)
  ·exact Gv ds (Mw (by simp [hlen]) _)
  ·have:∀{k:Nat} {a b:List (Option Box)},okOut k a=true->okOut k b=true->okOut k (a++b)=true:=by
    intro k a b
    induction a with
    | nil=>exact λ_ h=>h
    | cons y a ih =>
     intro h1 h2
     cases y with
     | none=>exact ih h1 h2
     | some y=>simp only [List.cons_append,okOut,Bool.and_eq_true]at h1 ⊢;exact⟨h1.1,ih h1.2 h2⟩
   exact this (okO0 hO) rfl
  ·rw [List.drop_append_of_le_length (by simp [hlen]),List.drop_of_length_le (by simp [hlen])];rfl
  ·have e1:ren (l.map (·.1)++(List.range 1).map ν) (gV (av is.length) sz (x::xs))=gV (ν 0) sz (x::xs):=by
    rw [LU,tC]
    simp [hll]
   have e2:∀ν,Eng.outs ν is (l.map (·.1)) (outs.map some++[some (.vec sz ((x::xs).map enc))])=Eng.outs ν is (l.map (·.1)) (outs.map some):=by
    intro ν
    have:∀(is:List Nat) (ns:List Nm) (a b:List (Option Box)),is.length=a.length->Eng.outs ν is ns (a++b)=Eng.outs ν is ns a:=by
     intro is
     induction is with
     | nil=>intro ns a b h;cases a with
      | nil=>cases b <;> rfl
      | cons _ _=>simp at h
     | cons i is ih=>intro ns a b h;cases a with
      | nil=>simp at h
      | cons y a=>cases ns with
       | nil=>rfl
       | cons n ns=>simp only [List.cons_append,Eng.outs];rw [ih ns a b (by simpa using h)]
    exact this _ _ _ _ (by simp [hlen])
   rw [yx,e1,e2,hH]
   rw [List.drop_append_of_le_length (by simp [hlen]),List.drop_of_length_le (by simp [hlen])]
   exact h (ν 0)
theorem QY {α:Type} {enc:α->List D} {sz t:Nat} {xs:List α} {n:Nm} {outs:List Box} {e:Exit} {rs:List ResultVar} (ds:List D) (he:e = .normal\/e = .ret) (j:Nat) (h1:sl t=gV n sz xs) (hr:F6 C sl H rs (ds.map V.d)) (h2:H[j]? = some (n,gB sz enc xs)) (hj:Nat.ble outs.length j=true) (hO:outs.all (λb=>b.ok 0)=true)
  (h3:H.take outs.length=xJ 0 outs):sW C (.tmp t::rs) outs.length (wI ds (gV (av outs.length) sz xs)) (outs.map some++gO sz enc xs) e sl H:=by
 have hj:=Nat.le_of_ble_eq_true hj
 have hget:∀i (h:i<outs.length),H[i]? = some (av i,some outs[i]):=λi hi=>by
  have:=x8 outs 0 i hi
  rw [Nat.zero_add,<- h3,List.getElem?_take,if_pos hi]at this
  exact this
 have ho:∀{ν:List Nm} {l:List Box} {j:Nat} {js:List Nat} {ns:List Nm} {bs:List (Option Box)},(∀b∈l,b.ok 0=true)->(∀i (h:i<l.length),H[j+i]? = some (av (j+i),some l[i]))->yG H ν js ns bs->yG H ν (List.range' j l.length++js) ((List.range' j l.length).map av++ns) (l.map some++bs):=by
  intro ν l
  induction l with
  | nil=>exact λ_ _ h=>h
  | cons b l ih =>
   intro j js ns bs hb hg hr
   simp only [List.length_cons,List.range'_succ,List.map_cons,List.cons_append]
   refine⟨?_,ih (λx hx=>hb x (by simp [hx])) (λi hi => ?_) hr⟩
   ·have:=hg 0 (by simp)
    simp only [Option.map_some,vJ (hb b (by simp))]
    exact this
   ·have:=hg (i+1) (by simpa using hi)
    rw [show j+1+i=j+(i+1) by omega]
    exact this
 have hO':∀b∈outs,b.ok 0=true:=λb hb=>List.all_eq_true.1 hO b hb
 have hco:∀vs:List V,CoL H vs vs:=λvs=>by
  induction vs with
  | nil=>exact .nil
  | cons v vs ih=>exact .cons (.inl rfl) ih
 cases xs with
 | nil =>
  refine⟨he,.nil::ds.map V.d,.nil::ds.map V.d,List.range' 0 outs.length++[],(List.range' 0 outs.length).map av++[],⟨h1,hr⟩,hco _,?_,ho hO' (λi hi=>by rw [Nat.zero_add];exact hget i hi) trivial,by simp [List.nodup_range'],λi hi=>by simp [hi]⟩
  show wI ds .nil=_
  rw [yx];rfl
 | cons x xs =>
  refine⟨he,.vs n sz 0 (x::xs).length::ds.map V.d,.vs n sz 0 (x::xs).length::ds.map V.d,List.range' 0 outs.length++[j],(List.range' 0 outs.length).map av++[n],⟨h1,hr⟩,hco _,?_,
   ho hO' (λi hi=>by rw [Nat.zero_add];exact hget i hi) ⟨h2,trivial⟩,?_,λi hi=>by rw [List.getElem?_append_left (by simpa using hi)];simp [hi]⟩
  ·show wI ds (.vs n sz 0 (x::xs).length)=ren _ (wI ds (.vs (av outs.length) sz 0 (x::xs).length))
   rw [yx]
   simp only [ren]
   rw [tC]
   rw [List.getElem?_append_right (by simp)];simp
  ·rw [List.nodup_append]
   refine⟨List.nodup_range',by simp,λa ha b hb => ?_⟩
   simp only [List.mem_singleton]at hb
   simp only [List.mem_range'_1]at ha
   omega
end
end Go.Eng

/-
  THE ENGINE: a function that reads a slice as data reads it out of its box, too: the box is as it was.
-/
namespace Go.Eng
set_option linter.unusedSectionVars false
variable [DM]
set_option linter.unusedVariables false
end Go.Eng

/-
  THE ENGINE: grids: slices of slices of which each row is a box of its own; the rows' boxes stand behind all others.
-/
namespace Go.Eng
set_option linter.unusedSectionVars false
variable [DM]
set_option linter.unusedVariables false
section rows
variable {α:Type} {enc:α->List D} {sz:Nat}
def wT (ns:Nat->Nm) (i:Nat) (m:Nm):Nat->Nm:=λj=>if j=i then m else ns j
theorem Ob (ns:Nat->Nm) (i:Nat) (m:Nm):wT ns i m i=m:=if_pos rfl
theorem G6 (ns:Nat->Nm) (i:Nat):wT ns i (ns i)=ns:=funext λj=>by unfold wT;split <;> simp_all
def aS (sz:Nat) (enc:α->List D) (ns:Nat->Nm) (rows:List (List α)):Hp:=rows.mapIdx λi r=>(ns i,gB sz enc r)
def aJ (sz:Nat) (ns:Nat->Nm) (rows:List (List α)):List V:=rows.mapIdx λi r=>gV (ns i) sz r
theorem xY {ns:Nat->Nm} {rows:List (List α)}:(aS sz enc ns rows).length=rows.length:=by simp [aS]
theorem sN {ns:Nat->Nm} {rows:List (List α)}:(aJ sz ns rows).length=rows.length:=by simp [aJ]
theorem O9 {ns:Nat->Nm} {rows:List (List α)} {i:Nat} {r:List α} (hr:rows[i]? = some r):(aS sz enc ns rows)[i]? = some (ns i,gB sz enc r):=by
 unfold aS;rw [List.getElem?_mapIdx,hr];rfl
theorem Ec {ns:Nat->Nm} {rows:List (List α)} {i:Nat} {r:List α} (hr:rows[i]? = some r):(aJ sz ns rows)[i]? = some (gV (ns i) sz r):=by
 unfold aJ;rw [List.getElem?_mapIdx,hr];rfl
theorem AO {C0:Hp} {ns:Nat->Nm} {rows:List (List α)} {i:Nat} {r:List α} (hr:rows[i]? = some r):(C0++aS sz enc ns rows)[C0.length+i]? = some (ns i,gB sz enc r):=by
 rw [List.getElem?_append_right (by omega),show C0.length+i-C0.length=i by omega];exact O9 hr
theorem QB {β γ:Type} (f:Nat->β->γ) (g:Nat->β->γ) (l:List β) (i:Nat) (b:β) (h:∀j x,j≠i->g j x=f j x):(l.set i b).mapIdx g=(l.mapIdx f).set i (g i b):=by
 refine List.ext_getElem? (λj => ?_)
 rw [List.getElem?_mapIdx,List.getElem?_set,List.getElem?_set,List.getElem?_mapIdx,List.length_mapIdx]
 by_cases hj:i=j
 ·subst hj
  simp only [if_true]
  split <;> rfl
 ·rw [if_neg hj,if_neg hj]
  cases l[j]? with
  | none=>rfl
  | some x=>simp only [Option.map_some];rw [h j x (λe=>hj e.symm)]
theorem Hy {ns:Nat->Nm} {rows:List (List α)} {i:Nat} {m:Nm} {r:List α}:(aS sz enc ns rows).set i (m,gB sz enc r)=aS sz enc (wT ns i m) (rows.set i r):=by
 unfold aS
 rw [QB (λi r=>(ns i,gB sz enc r)) _ rows i r (λj x h=>by simp only [wT,if_neg h]),Ob]
theorem EN {ns:Nat->Nm} {rows:List (List α)} {i:Nat} {m:Nm} {r:List α}:(aJ sz ns rows).set i (gV m sz r)=aJ sz (wT ns i m) (rows.set i r):=by
 unfold aJ
 rw [QB (λi r=>gV (ns i) sz r) _ rows i r (λj x h=>by simp only [wT,if_neg h]),Ob]
theorem Pi {C0:Hp} {ns:Nat->Nm} {rows:List (List α)} {i:Nat} {m:Nm} {r:List α}:(C0++aS sz enc ns rows).set (C0.length+i) (m,gB sz enc r)=C0++aS sz enc (wT ns i m) (rows.set i r):=by
 show List.set (C0++aS sz enc ns rows) _ _=_
 rw [List.set_append_right _ _ (by omega),show C0.length+i-C0.length=i by omega,Hy]
theorem QN {C0:Hp} {ns:Nat->Nm} {rows:List (List α)} {i:Nat} {r:List α}:(C0++aS sz enc ns rows).set (C0.length+i) (ns i,gB sz enc r)=C0++aS sz enc ns (rows.set i r):=by
 have:=Pi (sz:=sz) (enc:=enc) (C0:=C0) (ns:=ns) (rows:=rows) (i:=i) (m:=ns i) (r:=r)
 rw [G6]at this;exact this
theorem Pq {ns:Nat->Nm} {rows:List (List α)} {i:Nat} {r:List α} (hr:rows[i]? = some r):rdV false 1 ((aJ sz ns rows).drop (i*1+0))=some (gV (ns i) sz r):=by
 have h:=Ec (sz:=sz) (ns:=ns) hr
 obtain ⟨hi,e⟩:=List.getElem?_eq_some_iff.1 h
 rw [show i*1+0=i by omega,List.drop_eq_getElem_cons hi,e];rfl
theorem QQ {m:Nm} {r:List α}:bz (gV m sz r)=[gV m sz r]/\jd (gV m sz r)=true:=by cases r <;> exact⟨rfl,rfl⟩
theorem DU {β:Type}:∀(l:List β) (i:Nat) (b:β),i<l.length->splice l [b] i=l.set i b
 | [],i,b,h=>by cases h
 | x::l,0,b,h=>rfl
 | x::l,i+1,b,h=>by
  have:=DU l i b (by simpa using h)
  unfold splice at this ⊢
  simp only [List.length_cons,List.length_nil,List.take_succ_cons,List.cons_append,List.set_cons_succ]at this ⊢
  rw [<- this]
  simp only [show i+1+(0+1)=(i+(0+1))+1 by omega,List.drop_succ_cons]
theorem Py {ns:Nat->Nm} {rows:List (List α)} {i:Nat} {m:Nm} {r:List α} (hl:i<rows.length):stC 1 (aJ sz ns rows) (i*1+0) (gV m sz r)=some (aJ sz (wT ns i m) (rows.set i r)):=by
 have hl':i<(aJ sz ns rows).length:=by rw [sN];exact hl
 unfold stC
 rw [show i*1+0=i by omega,(QQ (m:=m) (sz:=sz) (r:=r)).1]
 have h1:(Nat.beq [gV m sz r].length 1&&Nat.ble (i+1) (aJ sz ns rows).length&&[gV m sz r].all jd)=true:=by
  simp only [List.length_cons,List.length_nil,List.all_cons,(QQ (m:=m) (sz:=sz) (r:=r)).2,List.all_nil,Bool.and_true,Bool.and_eq_true,Nat.ble_eq]
  exact⟨rfl,by omega⟩
 rw [h1,cond_true,DU _ _ _ hl',EN]
theorem O1 (ns:Nat->Nm) (n:Nat):aS sz enc ns (List.replicate n [])=(List.range n).map λi=>(ns i,none):=by
 refine List.ext_getElem? (λj => ?_)
 unfold aS
 rw [List.getElem?_mapIdx,List.getElem?_map,List.getElem?_replicate]
 by_cases hj:j<n
 ·rw [if_pos hj,List.getElem?_range hj];rfl
 ·rw [if_neg hj,List.getElem?_eq_none (by simpa using hj)];rfl
theorem Mr (ns:Nat->Nm) (n:Nat):aJ (α:=α) sz ns (List.replicate n [])=List.replicate n .nil:=by
 refine List.ext_getElem? (λj => ?_)
 unfold aJ
 rw [List.getElem?_mapIdx,List.getElem?_replicate,List.getElem?_replicate]
 by_cases hj:j<n
 ·rw [if_pos hj,if_pos hj];rfl
 ·rw [if_neg hj,if_neg hj];rfl
end rows
theorem Qf {H0 H:Hp} (hp:H0.Perm H):pre H0 H:=by
 induction hp with
 | nil=>exact⟨[],List.nodup_nil,rfl⟩
 | @cons x l1 l2 _ ih =>
  obtain ⟨is,h1,h2⟩:=ih
  refine⟨0::is.map (· + 1),?_,?_⟩
  ·refine List.nodup_cons.2 ⟨by simp,?_⟩
   exact List.Pairwise.map _ (λa b h e=>h (by omega)) h1
  ·simp only [List.map_cons,List.map_map,List.getElem?_cons_zero]
   congr 1
 | swap x y l =>
  refine⟨1::0::(List.range l.length).map (· + 2),?_,?_⟩
  ·refine List.nodup_cons.2 ⟨by simp,List.nodup_cons.2 ⟨by simp,?_⟩⟩
   exact List.Pairwise.map _ (λa b h e=>h (by omega)) List.nodup_range
  ·simp only [List.map_cons,List.map_map,List.getElem?_cons_zero,List.getElem?_cons_succ]
   congr 2
   refine List.ext_getElem (by simp) (λi h1 h2 => ?_)
   simp only [List.getElem_map,List.getElem_range,Function.comp_apply,List.getElem?_cons_succ]
   simp only [List.length_map,List.length_range]at h1
   rw [List.getElem?_eq_getElem h1]
 | trans _ _ ih1 ih2 =>
  obtain ⟨is,h1,h2⟩:=ih1
  obtain ⟨js,k1,k2⟩:=ih2
  obtain ⟨hl,hg⟩:=yn h2
  obtain ⟨kl,kg⟩:=yn k2
  have hb:∀i∈is,i<js.length:=λi hi=>by
   obtain ⟨j,hj,rfl⟩:=List.getElem_of_mem hi
   have:=(List.getElem?_eq_some_iff.1 (hg j hj (by omega))).1
   omega
  refine⟨is.map (λi=>js.getD i 0),?_,?_⟩
  ·rw [List.nodup_iff_pairwise_ne]at h1 k1 ⊢
   refine List.pairwise_map.2 ((List.Pairwise.and_mem.1 h1).imp (λ{a b} h e => ?_))
   obtain ⟨ha,hb',hne⟩:=h
   have la:=hb a ha
   have lb:=hb b hb'
   simp only [List.getD_eq_getElem?_getD,List.getElem?_eq_getElem la,List.getElem?_eq_getElem lb,Option.getD_some]at e
   rcases Nat.lt_or_gt_of_ne hne with h|h
   ·exact (List.pairwise_iff_getElem.1 k1) a b la lb h e
   ·exact (List.pairwise_iff_getElem.1 k1) b a lb la h e.symm
  ·rw [<- h2,List.map_map]
   refine List.map_congr_left (λi hi => ?_)
   have li:=hb i hi
   simp only [Function.comp_apply,List.getD_eq_getElem?_getD,List.getElem?_eq_getElem li,Option.getD_some]
   rw [kg i li (by omega),List.getElem?_eq_getElem (by omega)]
theorem Qq {C0 C1 T:Hp} (h:pre C0 C1):pre (C0++T) (C1++T):=by
 obtain ⟨is,h1,h2⟩:=h
 obtain ⟨hl,hg⟩:=yn h2
 have hb:∀i∈is,i<C1.length:=λi hi=>by
  obtain ⟨j,hj,rfl⟩:=List.getElem_of_mem hi
  exact (List.getElem?_eq_some_iff.1 (hg j hj (by omega))).1
 refine⟨is++(List.range T.length).map (· + C1.length),?_,?_⟩
 ·refine List.nodup_append.2 ⟨h1,?_,λa ha b hb' e => ?_⟩
  ·exact List.Pairwise.map _ (λa b h e=>h (by omega)) List.nodup_range
  ·obtain ⟨j,_,rfl⟩:=List.mem_map.1 hb'
   have:=hb a ha
   omega
 ·rw [List.map_append,List.map_append]
  congr 1
  ·rw [<- h2]
   exact List.map_congr_left (λi hi=>List.getElem?_append_left (hb i hi))
  ·refine List.ext_getElem (by simp) (λi k1 k2 => ?_)
   simp only [List.length_map,List.length_range]at k1
   simp only [List.getElem_map,List.getElem_range]
   rw [List.getElem?_append_right (by omega),show i+C1.length-C1.length=i by omega,List.getElem?_eq_getElem k1]
theorem JB (C0 T X:Hp):(C0++X++T).Perm (C0++T++X):=by
 rw [List.append_assoc,List.append_assoc]
 exact List.Perm.append_left C0 List.perm_append_comm
section
variable {C:Cfg} {sl:Nat->V} {H H0:Hp} {q:Qm} {all rest:List Oper} {K:(Nat->V)->Hp->Prop}
theorem AgR.perm {S:Store} {t:Nat} {l:List Oper} (hp:H0.Perm H) (ag:AgR H S t l):AgR H0 S t l :=
 ⟨ag.pos,(hp.map (·.1)).nodup_iff.2 ag.nd,λp h=>ag.at_ p (hp.mem_iff.1 h)⟩
theorem h_perm (hp:H0.Perm H) (h:bf q C all K rest sl H0):bf q C all K rest sl H:=λS tk ok ag=>h S tk ok (ag.perm hp)
theorem lu (e:H0=H) (h:bf q C all K rest sl H0):bf q C all K rest sl H:=e ▸ h
theorem E8:∀(n:Nat) {H:Hp},(∀ns:List Nm,ns.length=n->bf q C all K rest sl (H++ns.map λm=>(m,none)))->bf q C all K rest sl H
 | 0,H,h=>by have:=h [] rfl;simpa using this
 | n+1,H,h=>Dx (λm=>E8 n (λns hn=>by
   have:=h (m::ns) (by simp [hn])
   simpa using this))
theorem Ou {α:Type} {enc:α->List D} {sz:Nat} (n:Nat) (h:∀ns:Nat->Nm,bf q C all K rest sl (H++aS (α:=α) sz enc ns (List.replicate n []))):bf q C all K rest sl H :=
 E8 n (λns hn=>by
  have:=h (λi=>ns.getD i (0,0))
  rw [O1]at this
  have e:(ns.map λm=>((m,none):Nm×Option Box))=(List.range n).map λi=>(ns.getD i (0,0),none):=by
   refine List.ext_getElem (by simp [hn]) (λi h1 h2 => ?_)
   simp only [List.length_map]at h1
   simp only [List.getElem_map,List.getElem_range,List.getD_eq_getElem?_getD,List.getElem?_eq_getElem h1,Option.getD_some]
  rw [e];exact this)
theorem rF {C0 T X:Hp} (h:bf q C all K rest sl (C0++X++T)):bf q C all K rest sl (C0++T++X):=h_perm (JB C0 T X) h
theorem OH {α:Type} {enc:α->List D} {sz:Nat} {C0:Hp} {ns:Nat->Nm} {rows:List (List α)} {i:Nat} {m:Nm} {r:List α} (hi:i<rows.length):pre (C0++aS sz enc (wT ns i m) (rows.set i r)) (C0++[(m,gB sz enc r)]++aS sz enc ns rows):=by
 have hlen:(aS sz enc ns rows).length=rows.length:=xY
 refine⟨List.range C0.length++((List.range rows.length).map λj=>if j=i then C0.length else C0.length+1+j),?_,?_⟩
 ·refine List.nodup_append.2 ⟨List.nodup_range,?_,λa ha b hb e => ?_⟩
  ·refine List.pairwise_map.2 (List.nodup_range.imp (λ{a b} h e => ?_))
   split at e <;> split at e <;> omega
  ·simp only [List.mem_range]at ha
   obtain ⟨j,_,rfl⟩:=List.mem_map.1 hb
   split at e <;> omega
 ·rw [List.map_append,List.map_append,List.map_map]
  congr 1
  ·refine List.ext_getElem (by simp) (λj h1 h2 => ?_)
   simp only [List.length_map,List.length_range]at h1
   simp only [List.getElem_map,List.getElem_range]
   rw [List.append_assoc,List.getElem?_append_left h1,List.getElem?_eq_getElem h1]
  ·refine List.ext_getElem (by simp [xY]) (λj h1 h2 => ?_)
   simp only [List.length_map,List.length_range]at h1
   simp only [List.getElem_map,List.getElem_range,Function.comp_apply]
   have hg:=Hy (sz:=sz) (enc:=enc) (ns:=ns) (rows:=rows) (i:=i) (m:=m) (r:=r)
   by_cases hj:j=i
   ·subst hj
    rw [if_pos rfl,List.append_assoc,List.getElem?_append_right (by omega),Nat.sub_self]
    have:(aS sz enc (wT ns j m) (rows.set j r))[j]? = some (m,gB sz enc r):=by
     rw [<- hg,List.getElem?_set_self (by rw [hlen];exact hi)]
    rw [<- List.getElem?_eq_getElem,this];rfl
   ·rw [if_neg hj,List.append_assoc,List.getElem?_append_right (by omega),show C0.length+1+j-C0.length=j+1 by omega]
    have:(aS sz enc (wT ns i m) (rows.set i r))[j]? = (aS sz enc ns rows)[j]? := by
     rw [<- hg,List.getElem?_set_ne (λe=>hj e.symm)]
    rw [<- List.getElem?_eq_getElem,this];rfl
theorem AgR.pre {S:Store} {t:Nat} {l:List Oper} (h:Eng.pre H0 H) (ag:AgR H S t l):AgR H0 S t l:=by
 have ag1:Ag H S (t+1):=⟨Nat.succ_pos _,ag.nd,λp hp=>⟨by rcases (ag.at_ p hp).1 with h1 | ⟨h1,_⟩ <;> omega,(ag.at_ p hp).2⟩⟩
 refine⟨ag.pos,(ag1.pre h).nd,λp hp => ?_⟩
 obtain ⟨is,_,he⟩:=h
 obtain ⟨hl,hg⟩:=yn he
 obtain ⟨i,hi,rfl⟩:=List.getElem_of_mem hp
 exact ag.at_ _ (List.mem_of_getElem? (hg i (by omega) hi))
theorem h_pre (hp:Eng.pre H0 H) (h:bf q C all K rest sl H0):bf q C all K rest sl H:=λS tk ok ag=>h S tk ok (ag.pre hp)
theorem h_rowin {α:Type} {enc:α->List D} {sz:Nat} {C0:Hp} {ns:Nat->Nm} {rows:List (List α)} {i:Nat} {m:Nm} {r:List α} (hi:i<rows.length) (h:bf q C all K rest sl (C0++aS sz enc (wT ns i m) (rows.set i r))):bf q C all K rest sl (C0++[(m,gB sz enc r)]++aS sz enc ns rows):=h_pre (OH hi) h
variable {dst:Option Tmp} {d:Nat} {t ty:TypeId} {pos:String} {after:Array Edge} {g:Option (Nat×Bool)}
theorem pu {α:Type} {x:Operand} {n:Nm} {i sz:Nat} {ns:Nat->Nm} {rows:List (List α)} {r:List α} (p k:Nat) (hp:q=none\/Nat.beq all.length (p+(rest.length+1))=true) (hf:∀S tk,AgR H S tk (⟨dst,.load t x,ty,pos,after,g⟩::rest)->okQ q all p [n] false) (hs:szT C.P t=some 1) (ha:bT C.P t=false) (hx:ev sl x = .ref n i 0) (hH:H[k]? = some (n,some (.cells 1 (aJ sz ns rows)))) (hr:rows[i]? = some r)
  (hw:aN all sl ⟨dst,.load t x,ty,pos,after,g⟩=some true) (h:bf (lY q p [n] false) C all K rest (dL sl dst (gV (ns i) sz r)) H):bf q C all K (⟨dst,.load t x,ty,pos,after,g⟩::rest) sl H :=
 aH p k hp hf hs ha hx hH _ (Pq hr) hw h
theorem Hq {α:Type} {enc:α->List D} {C0:Hp} {x:Operand} {size:Nat} {agg:Bool} {i j o sz:Nat} {ns:Nat->Nm} {rows:List (List α)} {r:List α} {e:α} (p:Nat) (hp:q=none\/Nat.beq all.length (p+(rest.length+1))=true) (hf:∀S tk,AgR (C0++aS sz enc ns rows) S tk (⟨dst,.load t x,ty,pos,after,g⟩::rest)->okQ q all p [ns i] false) (hs:szT C.P t=some size) (ha:bT C.P t=agg) (hx:ev sl x = .ref (ns i) j o) (hr:rows[i]? = some r) (he:r[j]? = some e)
  (v:V) (hv:rdD agg size ((enc e).drop o)=some v) (hw:aN all sl ⟨dst,.load t x,ty,pos,after,g⟩=some true) (h:bf (lY q p [ns i] false) C all K rest (dL sl dst v) (C0++aS sz enc ns rows)):bf q C all K (⟨dst,.load t x,ty,pos,after,g⟩::rest) sl (C0++aS sz enc ns rows) :=
 nU p (C0.length+i) hp hf hs ha hx (AO hr) he v hv hw h
theorem AC {α:Type} {enc:α->List D} {C0:Hp} {x y:Operand} {size:Nat} {i j o sz:Nat} {ns:Nat->Nm} {rows:List (List α)} {r:List α} {e:α} (p:Nat) (hp:q=none\/Nat.beq all.length (p+(rest.length+1))=true) (hf:∀S tk,AgR (C0++aS sz enc ns rows) S tk (⟨dst,.store t x y,ty,pos,after,g⟩::rest)->okQ q all p [ns i] true) (hs:szT C.P t=some size) (hx:ev sl x = .ref (ns i) j o) (hr:rows[i]? = some r) (he:r[j]? = some e) (e':α) (hv:stD size (enc e) o (ev sl y)=some (enc e'))
  (hw:aN all sl ⟨dst,.store t x y,ty,pos,after,g⟩=some true) (h:bf (lY q p [ns i] true) C all K rest (dL sl dst .none) (C0++aS sz enc ns (rows.set i (r.set j e')))):bf q C all K (⟨dst,.store t x y,ty,pos,after,g⟩::rest) sl (C0++aS sz enc ns rows) :=
 vC p hp hf (C0.length+i) hs hx (AO hr) he e' hv hw (by rw [QN];exact h)
theorem h_gst {α:Type} {x y:Operand} {n:Nm} {i sz:Nat} {ns:Nat->Nm} {rows:List (List α)} {m:Nm} {r:List α} (p k:Nat) (hp:q=none\/Nat.beq all.length (p+(rest.length+1))=true) (hf:∀S tk,AgR H S tk (⟨dst,.store t x y,ty,pos,after,g⟩::rest)->okQ q all p [n] true) (hs:szT C.P t=some 1) (hx:ev sl x = .ref n i 0) (hy:ev sl y=gV m sz r) (hH:H[k]? = some (n,some (.cells 1 (aJ sz ns rows)))) (hi:i<rows.length)
  (hw:aN all sl ⟨dst,.store t x y,ty,pos,after,g⟩=some true) (h:bf (lY q p [n] true) C all K rest (dL sl dst .none) (H.set k (n,some (.cells 1 (aJ sz (wT ns i m) (rows.set i r)))))):bf q C all K (⟨dst,.store t x y,ty,pos,after,g⟩::rest) sl H :=
 gp p hp hf k hs hx hH _ (by rw [hy];exact Py hi) hw h
theorem Qv {α:Type} {enc:α->List D} {x y:Operand} {k k':IntKind} {n:Int} {m e sz by_:Nat} (p:Nat) (hp:q=none\/Nat.beq all.length (p+(rest.length+1))=true)
  (he:bD C.P t=some e) (hs:szT C.P e=some 1) (hz:zeroCells C.P e=some [.nil]) (hb:dN C.P e=by_)
  (hx:ev sl x = .d (.int k n)) (hy:ev sl y = .d (.int k' n)) (hn:mkN n by_=some m) (hn0:n≠0)
  (hw:aN all sl ⟨some d,.makeSlice t x y,ty,pos,after,g⟩=some true)
  (h:∀(nm:Nm) (ns:Nat->Nm),bf (lY q p [nm] true) C all K rest (upd sl d (.vs nm 1 0 m)) (H++[(nm,some (.cells 1 (aJ (α:=α) sz ns (List.replicate m []))))]++aS sz enc ns (List.replicate m []))):bf q C all K (⟨some d,.makeSlice t x y,ty,pos,after,g⟩::rest) sl H:=by
 unfold mkN at hn
 split at hn
 ·rename_i hc
  simp only [so_]at hn;subst hn
  refine oV rfl p [] hp (λ_ _ _=>tK) (λm hm=>by cases hm) hw (λS tk K' ok ag hk=>iV (A:=⟨[],[((d,tk),some (.cells 1 (List.replicate n.toNat .nil)))],.vs (d,tk) 1 0 n.toNat⟩) (λc e=>by cases e) ?_
   (hk _ _ _ (.inl rfl) ⟨by simp,by simp⟩ (ag.new ok rfl _) (Ou (α:=α) (enc:=enc) (sz:=sz) n.toNat (λns=>by
    have:=h (d,tk) ns
    rw [Mr]at this
    exact this))))
  show lc C.P t (ev sl x) (ev sl y) d tk=_
  unfold lc
  rw [he,hx,hy]
  simp only [hs,hz,hb]
  rw [if_neg (λh=>hn0 h.1)]
  rw [if_pos ⟨hc.1,trivial,hc.2.1,hc.2.2,rfl,by omega,rfl⟩]
  rfl
 ·cases hn
end
end Go.Eng

/-
  THE ENGINE: queues: a slice that is shortened from its head and appended to.
-/
namespace Go.Eng
set_option linter.unusedSectionVars false
variable [DM]
set_option linter.unusedVariables false
abbrev qV {α:Type} (n:Nm) (sz:Nat) (xs:List α) (k:Nat):V := .vs n sz k (xs.length-k)
section
variable {C:Cfg} {sl:Nat->V} {H:Hp} {q:Qm} {all rest:List Oper} {K:(Nat->V)->Hp->Prop}
variable {dst:Option Tmp} {d:Nat} {t ty:TypeId} {pos:String} {after:Array Edge} {g:Option (Nat×Bool)}
variable {α:Type} {enc:α->List D} {xs ys zs:List α} {x y:Operand} {t' e e':TypeId} {sz bytes i k:Nat} {n:Nm} {z:List V}
theorem h_appq (p:Nat) (hpp:q=none\/Nat.beq all.length (p+(rest.length+1))=true) (hf:∀S tk,AgR H S tk (⟨some d,.call ⟨.builtin .append,#[x,y],#[t,t']⟩,ty,pos,after,g⟩::rest)->okQ q all p [n] true) (he:bD C.P t=some e) (he':bD C.P t'=some e') (hs:szT C.P e=some sz) (hz:zeroCells C.P e=some z) (hzl:z.length=sz) (hp:0<sz) (hby:dN C.P e=bytes) (hbb:bytes<=100000)
  (henc:∀y,(enc y).length=sz) (hx:ev sl x=qV n sz xs k) (hk:k<=xs.length) (hH:H[i]? = some (n,some (bV sz enc xs))) (hy:ev sl y=vL enc ys) (hne:ys ≠ []) (ha:iJ (xs.drop k) ys=some zs)
  (hw:aN all sl ⟨some d,.call ⟨.builtin .append,#[x,y],#[t,t']⟩,ty,pos,after,g⟩=some true)
  (h:∀n':Nm,bf (lY q p [n,n'] true) C all K rest (upd sl d (vV n' sz zs)) (H.set i (n',some (bV sz enc zs)))):bf q C all K (⟨some d,.call ⟨.builtin .append,#[x,y],#[t,t']⟩,ty,pos,after,g⟩::rest) sl H:=by
 unfold iJ at ha
 split at ha
 case isFalse=>cases ha
 rename_i hle
 simp only [so_]at ha
 subst ha
 refine oV rfl p [n] hpp hf (wL hH) hw (λS tk K' ok ag hk' => ?_)
 have hall:=yC (sz:=sz) henc ys
 have hzz:z.length=sz/\0<sz:=⟨hzl,hp⟩
 have hb1:∀m,m<=1000000000->(2*m+192)*dN C.P e<=2 ^ 48/\m<=2 ^ 48:=λm hm=>by
  rw [hby]
  have:=Nat.mul_le_mul (show 2*m+192<=2000000192 by omega) hbb
  exact⟨by omega,by omega⟩
 have run:∀{A:Eff},jH C.P t t' S (ev sl x) (ev sl y) d tk=some A->K' A->opD C ⟨some d,.call ⟨.builtin .append,#[x,y],#[t,t']⟩,ty,pos,after,g⟩ sl S tk K':=λha hk=>uA (by show (bif mr C.P t' then _ else _)=_;rw [tq he',cond_false];exact ha) hk
 have hS:S n=some (.vec sz (xs.map enc)):=ag.get hH
 cases ys with
 | nil=>exact absurd rfl hne
 | cons y0 ys =>
  have hlen:(xs.length-k)+(y0::ys).length=(xs.drop k++(y0::ys)).length:=by simp
  refine run (A:=⟨[(n,.vec sz (xs.map enc))],[(n,none),((d,tk),some (.vec sz ((xs.drop k++(y0::ys)).map enc)))],.vs (d,tk) sz 0 (xs.drop k++(y0::ys)).length⟩) ?_ (hk' _ (H.set i ((d,tk),some (bV sz enc (xs.drop k++(y0::ys))))) (d,tk) (.inl rfl) ⟨by simp,by simp⟩ ?_ (h (d,tk)))
  ·rw [hx,hy]
   simp only [jH,he,rO he',hs,hz,if_pos hzz,ko,nT,hall,if_true,hS]
   have hle':(xs.length-k)+((y0::ys).map enc).length<=1000000000:=by
    rw [List.length_drop]at hle;rw [List.length_map];exact hle
   rw [if_pos ⟨trivial,by rw [List.length_map];omega,hb1 _ hle'⟩]
   simp [List.map_drop]
  ·exact ag.swap ok rfl hH _ _ (λm h1 h2=>by simp [eH,supd,h2,h1]) (λx hx=>by simp only [eH,supd,if_true];exact hx)
theorem qpop (hu:C.P.underlying t=some (.slice e)) (hs:szT C.P e=some sz) (h1:k<xs.length):kL C.P t (qV n sz xs k) (some (.d (.int .i64 1))) none none=some (qV n sz xs (k+1)):=by
 unfold kL
 rw [hu]
 simp only [qV,hs,pg]
 show (if 1<=xs.length-k/\xs.length-k<=xs.length-k/\sz=sz then some (V.vs n sz (k+1) (xs.length-k-1))else none)=_
 rw [if_pos ⟨by omega,Nat.le_refl _,rfl⟩,Nat.sub_sub]
theorem h_qpop {α:Type} {xs:List α} (hu:C.P.underlying t=some (.slice e)) (hs:szT C.P e=some sz) (hx:ev sl x=qV n sz xs k) (h1:k<xs.length)
  (hw:aN all sl ⟨dst,.slice t x (some (.const (.int .i64 1))) none none,ty,pos,after,g⟩=some true) (h:bf q C all K rest (dL sl dst (qV n sz xs (k+1))) H):bf q C all K (⟨dst,.slice t x (some (.const (.int .i64 1))) none none,ty,pos,after,g⟩::rest) sl H :=
 aL _ hw (by
  show kL C.P t (ev sl x) (some (.d (.int .i64 1))) none none=_
  rw [hx];exact qpop hu hs h1) h
end
end Go.Eng

/-
  THE ENGINE: structs with a grid: handed in, handed back, and made.
-/
namespace Go.Eng
set_option linter.unusedSectionVars false
variable [DM]
set_option linter.unusedVariables false
def ltN (k n:Nat):Option Unit:=if k<n then some ()else none
theorem ltN_lt {k n:Nat} {u:Unit} (h:ltN k n=some u):k<n:=by
 unfold ltN at h;split at h
 ·assumption
 ·cases h
def leN (k n:Nat):Option Unit:=if k<=n then some ()else none
theorem leN_le {k n:Nat} {u:Unit} (h:leN k n=some u):k<=n:=by
 unfold leN at h;split at h
 ·assumption
 ·cases h
def nzI (n:Int):Option Unit:=if n≠0 then some ()else none
theorem nzI_ne {n:Int} {u:Unit} (h:nzI n=some u):n≠0:=by
 unfold nzI at h;split at h
 ·assumption
 ·cases h
def neR {α:Type} (rows:List (List α)):Option Unit:=if rows.all (λr => !r.isEmpty)=true then some ()else none
theorem uo {α:Type} {rows:List (List α)} {u:Unit} (h:neR rows=some u):∀r∈rows,r ≠ []:=by
 unfold neR at h;split at h
 ·rename_i hc
  intro r hr e
  have:=List.all_eq_true.1 hc r hr
  rw [e]at this;cases this
 ·cases h
theorem QK {α:Type} {xs:List α} {i:Nat} {x:α} (h:xs[i]? = some x):i<xs.length:=(List.getElem?_eq_some_iff.1 h).1
theorem cz {C0 C1 T H:Hp} (is:List Nat) (hd:is.Nodup) (e:is.map (λi=>C1[i]?)=C0.map some) (h:H=C1++T):pre (C0++T) H:=by
 subst h;exact Qq ⟨is,hd,e⟩
section
variable {C:Cfg} {Q:QH} {sl:Nat->V} {H:Hp} {c:Code}
theorem R8 {C0 T X:Hp} (h:wH C c Q sl (C0++X++T)):wH C c Q sl (C0++T++X):=P5 (Qf (JB C0 T X)) h
end
section rows
variable {α:Type} {enc:α->List D} {sz:Nat}
theorem OG {β:Type} {l:List β} {i:Nat} {b:β} (h:l[i]? = some b):l.set i b=l:=by
 refine List.ext_getElem? (λk => ?_)
 rw [List.getElem?_set]
 by_cases hk:i=k
 ·subst hk
  rw [if_pos rfl]
  obtain ⟨hl,he⟩:=List.getElem?_eq_some_iff.1 h
  rw [if_pos hl,h]
 ·rw [if_neg hk]
theorem Ox {ns:Nat->Nm} {rows:List (List α)} {i j:Nat} {r:List α} {e:α} (hr:rows[i]? = some r):aJ sz ns rows=aJ sz ns (rows.set i (r.set j e)):=by
 have h:=EN (sz:=sz) (ns:=ns) (rows:=rows) (i:=i) (m:=ns i) (r:=r.set j e)
 rw [G6]at h
 rw [<- h]
 refine (OG ?_).symm
 rw [Ec hr,kW (List.length_set ..).symm]
theorem rJ {ns:Nat->Nm} {rows:List (List α)} {i j:Nat} {r:List α} {e:α} (hr:rows[i]? = some r):some (Box.cells 1 (aJ sz ns rows))=some (Box.cells 1 (aJ sz ns (rows.set i (r.set j e)))):=by rw [Ox hr]
def bO:Nat->Nm:=λi=>av (2+i)
def lh (k sz:Nat) (enc:α->List D) (cs:List V) (rows:List (List α)):List Box :=
 .cells k (.vs (av 1) 1 0 rows.length::cs) :: .cells 1 (aJ sz bO rows)::rows.map (bV sz enc)
def iq (k sz:Nat) (enc:α->List D) (cs:List V) (rows:List (List α)):List (Option Box) :=
 some (.cells k (.vs (av 1) 1 0 rows.length::cs))::some (.cells 1 (aJ sz bO rows))::rows.map (gB sz enc)
theorem MI {k:Nat} {cs:List V} {rows:List (List α)}:(lh k sz enc cs rows).length=2+rows.length:=by simp [lh];omega
theorem qi {k:Nat} {cs:List V} {rows:List (List α)}:(iq k sz enc cs rows).length=2+rows.length:=by simp [iq];omega
theorem NC {r:List α} (h:r ≠ []):gB sz enc r=some (bV sz enc r):=by
 cases r with
 | nil=>exact absurd rfl h
 | cons x r=>rfl
theorem LV {k:Nat} {cs:List V} {rows:List (List α)} (h:∀r∈rows,r ≠ []):iq k sz enc cs rows=(lh k sz enc cs rows).map some:=by
 simp only [iq,lh,List.map_cons,List.map_map]
 congr 2
 exact List.map_congr_left (λr hr=>NC (h r hr))
theorem Jb {r:List α} {ν:List Nm}:(gB sz enc r).map (·.ren ν)=gB sz enc r:=by cases r <;> rfl
theorem KX {ns:Nat->Nm} {rows:List (List α)}:(aS sz enc ns rows).map (·.1)=(List.range rows.length).map ns:=by
 refine List.ext_getElem (by simp [aS]) (λi h1 h2 => ?_)
 simp [aS]
theorem wy {ν:List Nm} {ns:Nat->Nm} {rows:List (List α)} (h:∀i,i<rows.length->ν[2+i]? = some (ns i)):renL ν (aJ sz bO rows)=aJ sz ns rows:=by
 refine List.ext_getElem (by rw [bM,sN,sN]) (λi h1 h2 => ?_)
 have h3:i<(aJ sz bO rows).length:=by rw [bM]at h1;exact h1
 have hi:i<rows.length:=by rw [sN]at h2;exact h2
 rw [kM ν _ i h1 h3]
 have e1:(aJ sz bO rows)[i]=gV (bO i) sz rows[i]:=by simp [aJ]
 have e2:(aJ sz ns rows)[i]=gV (ns i) sz rows[i]:=by simp [aJ]
 rw [e1,e2,LU]
 show gV (uF ν (av (2+i))) sz _=_
 rw [tC (h i hi)]
theorem GM {n:Nat}:∀(rows:List (List α)),2+rows.length<=n->okL n (aJ sz bO rows)=true:=λrows h=>by
 have:∀(l:List V),(∀v∈l,okV n v=true)->okL n l=true:=by
  intro l
  induction l with
  | nil=>exact λ_=>rfl
  | cons v l ih=>intro h;simp only [okL,Bool.and_eq_true];exact⟨h v (by simp),ih (λx hx=>h x (by simp [hx]))⟩
 refine this _ (λv hv => ?_)
 obtain ⟨i,hi,rfl⟩:=List.getElem_of_mem hv
 have hi':i<rows.length:=by rw [sN]at hi;exact hi
 have e1:(aJ sz bO rows)[i]=gV (bO i) sz rows[i]:=by simp [aJ]
 rw [e1]
 exact Mw (by omega) _
theorem Ba {ν:List Nm} {cs:List V} (h:okL 0 cs=true):renL ν cs=cs:=zV h
theorem FnM.of_wHg {P:Program} {f:FuncId} {fn:Func} {body:Code} (C:Cfg) (hP:C.P=P) (hf:P.funcs[f]? = some fn) (hb:fn.body=some body) (hn:C.n=fn.ntmps)
  {k:Nat} {cs args:List V} {rows:List (List α)} {r:V} {Sout:List (Option Box)} (hl:args.length<=fn.ntmps) (hok:oU C body=true)
  (h:wH C body (sW C fn.results.toList (lh k sz enc cs rows).length r Sout) (J9 args) (([(av 0,some (.cells k (.vs (av 1) 1 0 rows.length::cs))),(av 1,some (.cells 1 (aJ sz bO rows)))]:Hp)++aS sz enc bO rows)) :
  FnM P f args (lh k sz enc cs rows) r Sout:=by
 refine FnM.of_wpD' hf hb hP hn hl ?_
 have hag:Ag (([(av 0,some (.cells k (.vs (av 1) 1 0 rows.length::cs))),(av 1,some (.cells 1 (aJ sz bO rows)))]:Hp)++aS sz enc bO rows) (iP (lh k sz enc cs rows)) 1:=by
  refine⟨Nat.one_pos,?_,λp hp => ?_⟩
  ·rw [List.map_append,KX]
   have e:(([(av 0,some (.cells k (.vs (av 1) 1 0 rows.length::cs))),(av 1,some (.cells 1 (aJ sz bO rows)))]:Hp).map (·.1))++(List.range rows.length).map bO=(List.range (2+rows.length)).map av:=by
    refine List.ext_getElem (by simp;omega) (λi h1 h2 => ?_)
    simp only [List.getElem_map,List.getElem_range]
    match i with
    | 0=>rfl
    | 1=>rfl
    | i+2=>simp [bO];congr 1;omega
   rw [e]
   refine List.pairwise_map.2 (List.nodup_range.imp (λ{a b} h e=>h ?_))
   simp only [av,Prod.mk.injEq,and_true]at e
   omega
  ·rcases List.mem_append.1 hp with hp|hp
   ·simp only [List.mem_cons,List.not_mem_nil,or_false]at hp
    rcases hp with rfl|rfl
    ·exact⟨Nat.one_pos,λb hb=>by cases hb;rw [vZ];rfl⟩
    ·exact⟨Nat.one_pos,λb hb=>by cases hb;rw [vZ];rfl⟩
   ·obtain ⟨i,hi,rfl⟩:=List.getElem_of_mem hp
    have hi':i<rows.length:=by rw [xY]at hi;exact hi
    have e:(aS sz enc bO rows)[i]=(bO i,gB sz enc rows[i]):=by simp [aS]
    rw [e]
    refine⟨Nat.one_pos,λb hb => ?_⟩
    show iP _ (av (2+i))=some b
    rw [vZ,lh,show 2+i=i+1+1 by omega,List.getElem?_cons_succ,List.getElem?_cons_succ,List.getElem?_map,List.getElem?_eq_getElem hi']
    cases hr:rows[i]with
    | nil=>rw [hr]at hb;cases hb
    | cons x xs=>rw [hr]at hb;exact hb
 obtain ⟨σ',hg,hw⟩:=h hok _ 1 hag
 exact⟨σ',hg,jS body (λe σ h=>Jt h) hw⟩
section
variable {C:Cfg} {sl:Nat->V} {H:Hp}
theorem Oa {ν:List Nm}:∀{js:List Nat} {ns:List Nm} {bs:List (Option Box)},js.length=ns.length->ns.length=bs.length->(∀i (h1:i<js.length) (h2:i<ns.length) (h3:i<bs.length),H[js[i]]? = some (ns[i],bs[i].map (·.ren ν)))->yG H ν js ns bs
 | [],[],[],_,_,_=>trivial
 | j::js,n::ns,b::bs,h1,h2,h=>⟨h 0 (by simp) (by simp) (by simp),Oa (by simpa using h1) (by simpa using h2) (λi a b c=>h (i+1) (by simpa using a) (by simpa using b) (by simpa using c))⟩
 | [],[],_::_,_,h,_=>by simp at h
 | [],_::_,_,h,_,_=>by simp at h
 | _::_,[],_,h,_,_=>by simp at h
 | _::_,_::_,[],_,h,_=>by simp at h
theorem Hu {k m j0 j1:Nat} {cs:List V} {rows:List (List α)} {C0:Hp} {ns:Nat->Nm} {n0 n1:Nm} (hm:rows.length=m) (hcs:okL 0 cs=true) (h0:C0[j0]? = some (n0,some (.cells k (.vs n1 1 0 m::cs)))) (h1:C0[j1]? = some (n1,some (.cells 1 (aJ sz ns rows)))) :
  yG (C0++aS sz enc ns rows) (n0::n1::(List.range rows.length).map ns) (j0::j1::(List.range rows.length).map (C0.length + ·)) (n0::n1::(List.range rows.length).map ns) (iq k sz enc cs rows):=by
 refine⟨?_,?_,Oa (by simp) (by simp) (λi a b c => ?_)⟩
 ·rw [List.getElem?_append_left (List.getElem?_eq_some_iff.1 h0).1,h0]
  simp only [Option.map_some,Box.ren,renL,ren,IL,Ba hcs,hm]
 ·rw [List.getElem?_append_left (List.getElem?_eq_some_iff.1 h1).1,h1]
  simp only [Option.map_some,Box.ren]
  rw [wy (ns:=ns) (λi hi=>by
   rw [show 2+i=i+1+1 by omega,List.getElem?_cons_succ,List.getElem?_cons_succ,List.getElem?_map,List.getElem?_range hi];rfl)]
 ·simp only [List.length_map,List.length_range]at a c
  simp only [List.getElem_map,List.getElem_range]
  rw [AO (List.getElem?_eq_getElem c),Jb]
theorem NT {rs:List ResultVar} {r:V} {e:Exit} {k:Nat} {cs cs':List V} {rows rows':List (List α)} (X:Hp) (he:e = .normal\/e = .ret) (vs:List V) (h1:F6 C sl H rs vs) (h2:(vs.flatMap frz).all (λ_=>false)=true) (h3:En (vs.map co0)=r) (hr:okV 0 r=true) (hcs:okL 0 cs'=true)
  (hlen:rows'.length=rows.length) (hH:H=(([(av 0,some (.cells k (.vs (av 1) 1 0 rows.length::cs'))),(av 1,some (.cells 1 (aJ sz bO rows')))]:Hp)++X)++aS sz enc bO rows') :
  sW C rs (lh k sz enc cs rows).length r (iq k sz enc cs' rows') e sl H:=by
 have hn:vs.flatMap frz=[]:=by
  cases hx:vs.flatMap frz with
  | nil=>rfl
  | cons a b=>rw [hx]at h2;simp at h2
 have hc:∀{vs:List V},vs.flatMap frz=[]->CoL H vs (vs.map co0):=by
  intro vs
  induction vs with
  | nil=>exact λ_ => .nil
  | cons v vs ih=>exact λh => .cons (qa (rZ h v (by simp)) rfl) (ih (by simp only [List.flatMap_cons,List.append_eq_nil_iff]at h;exact h.2))
 refine⟨he,vs,vs.map co0,0::1::(List.range rows'.length).map (2+X.length + ·),av 0::av 1::(List.range rows'.length).map bO,h1,hc hn,by rw [h3,vM hr],?_,?_,?_⟩
 ·subst hH
  have:=Hu (sz:=sz) (enc:=enc) (k:=k) (m:=rows.length) (j0:=0) (j1:=1) (cs:=cs') (rows:=rows') (C0:=([(av 0,some (.cells k (.vs (av 1) 1 0 rows.length::cs'))),(av 1,some (.cells 1 (aJ sz bO rows')))]:Hp)++X) (ns:=bO) (n0:=av 0) (n1:=av 1) hlen hcs rfl rfl
  rw [show (([(av 0,some (.cells k (.vs (av 1) 1 0 rows.length::cs'))),(av 1,some (.cells 1 (aJ sz bO rows')))]:Hp)++X).length=2+X.length by simp;omega]at this
  exact this
 ·refine List.nodup_cons.2 ⟨λh => ?_,List.nodup_cons.2 ⟨λh => ?_,?_⟩⟩
  ·rcases List.mem_cons.1 h with h|h
   ·cases h
   ·obtain ⟨j,_,h⟩:=List.mem_map.1 h;omega
  ·obtain ⟨j,_,h⟩:=List.mem_map.1 h;omega
  ·exact List.pairwise_map.2 (List.nodup_range.imp (λ{a b} h e=>h (by omega)))
 ·intro i hi
  rw [MI,<- hlen]at hi
  match i,hi with
  | 0,_=>rfl
  | 1,_=>rfl
  | i+2,hi =>
   rw [List.getElem?_cons_succ,List.getElem?_cons_succ,List.getElem?_map,List.getElem?_range (by omega)]
   show some (av (2+i))=_
   rw [Nat.add_comm]
theorem finGrN {t:Tmp} {e:Exit} {k m:Nat} {cs:List V} {rows:List (List α)} {C0:Hp} {ns:Nat->Nm} {n0 n1:Nm} (j0 j1:Nat) (he:e = .normal\/e = .ret) (hs:sl t = .ref n0 0 0) (hcs:okL 0 cs=true) (hm:rows.length=m) (hj:j0≠j1)
  (h0:C0[j0]? = some (n0,some (.cells k (.vs n1 1 0 m::cs)))) (h1:C0[j1]? = some (n1,some (.cells 1 (aJ sz ns rows)))) (hH:H=C0++aS sz enc ns rows) :
  sW C [.tmp t] 0 (.ref (av 0) 0 0) (iq k sz enc cs rows) e sl H:=by
 subst hH
 refine⟨he,[.ref n0 0 0],[.ref n0 0 0],_,_,⟨hs,trivial⟩,.cons (Qc _) .nil,?_,Hu hm hcs h0 h1,?_,λi hi=>absurd hi (Nat.not_lt_zero i)⟩
 ·simp only [En,ren,RY]
 ·have l0:=(List.getElem?_eq_some_iff.1 h0).1
  have l1:=(List.getElem?_eq_some_iff.1 h1).1
  refine List.nodup_cons.2 ⟨λh => ?_,List.nodup_cons.2 ⟨λh => ?_,?_⟩⟩
  ·rcases List.mem_cons.1 h with h|h
   ·exact hj h
   ·obtain ⟨j,_,h⟩:=List.mem_map.1 h;omega
  ·obtain ⟨j,_,h⟩:=List.mem_map.1 h;omega
  ·exact List.pairwise_map.2 (List.nodup_range.imp (λ{a b} h e=>h (by omega)))
end
theorem JI {H:Hp}:∀{is:List Nat} {l:List (Nm×Box)},is.length=l.length->(∀j (h1:j<is.length) (h2:j<l.length),H[is[j]]? = some (l[j].1,some l[j].2))->lm H is=some l
 | [],[],_,_=>rfl
 | i::is,(n,b)::l,hl,h=>by
  have e0:=h 0 (by simp) (by simp)
  simp only [List.getElem_cons_zero]at e0
  simp only [lm,e0,JI (by simpa using hl) (λj h1 h2=>h (j+1) (by simpa using h1) (by simpa using h2))]
 | [],_::_,h,_=>by simp at h
 | _::_,[],h,_=>by simp at h
theorem Ho {ν:List Nm}:∀{ms:List Nm} {as1 C0:Hp} {bs:List (Option Box)},as1.length=ms.length->bs.length=ms.length->setH (C0++as1) (outs ν (List.range' C0.length ms.length) ms bs)=C0++ms.zip (bs.map (Option.map (·.ren ν)))
 | [],[],C0,[],_,_=>by simp [outs,setH]
 | m::ms,a::as1,C0,b::bs,h1,h2=>by
  have ih:=Ho (ν:=ν) (ms:=ms) (as1:=as1) (C0:=C0++[(m,b.map (·.ren ν))]) (bs:=bs) (by simpa using h1) (by simpa using h2)
  simp only [List.length_cons,List.range'_succ,outs,setH,List.zip_cons_cons,List.map_cons]
  have e:(C0++a::as1).set C0.length (m,b.map (·.ren ν))=C0++[(m,b.map (·.ren ν))]++as1:=by simp
  rw [show setH ((C0++a::as1).set C0.length (m,b.map (·.ren ν)))=setH (C0++[(m,b.map (·.ren ν))]++as1) by rw [e]]
  rw [List.length_append]at ih
  rw [show C0.length+1=C0.length+[(m,Option.map (λx=>x.ren ν) b)].length by rfl,ih]
  simp
 | [],_::_,_,_,h,_=>by simp at h
 | _::_,[],_,_,h,_=>by simp at h
 | [],[],_,_::_,_,h=>by simp at h
 | _::_,_::_,_,[],_,h=>by simp at h
theorem Kq {ν:List Nm} {ns:Nat->Nm} {rows:List (List α)}:((List.range rows.length).map ns).zip ((rows.map (gB sz enc)).map (Option.map (·.ren ν)))=aS sz enc ns rows:=by
 refine List.ext_getElem (by simp [aS]) (λi h1 h2 => ?_)
 simp only [aS,List.getElem_zip,List.getElem_map,List.getElem_range,List.getElem_mapIdx,Jb]
section
variable {C:Cfg} {sl:Nat->V} {C0:Hp} {q:Qm} {all rest:List Oper} {K:(Nat->V)->Hp->Prop}
variable {dst:Option Tmp} {d:Nat} {t ty:TypeId} {pos:String} {after:Array Edge} {g:Option (Nat×Bool)}
def EW (k sz:Nat) (enc:α->List D) (cs:List V) (rows:List (List α)) (n0 n1:Nm) (ns:Nat->Nm):List (Nm×Box) :=
 (n0,.cells k (.vs n1 1 0 rows.length::cs))::(n1,.cells 1 (aJ sz ns rows))::rows.mapIdx λi r=>(ns i,bV sz enc r)
theorem CE {k:Nat} {cs:List V} {rows:List (List α)} {n0 n1:Nm} {ns:Nat->Nm}:(EW k sz enc cs rows n0 n1 ns).map (·.1)=n0::n1::(List.range rows.length).map ns:=by
 simp only [EW,List.map_cons]
 congr 2
 refine List.ext_getElem (by simp) (λi h1 h2 => ?_)
 simp
theorem E5 {k j0 j1:Nat} {cs:List V} {rows:List (List α)} {n0 n1:Nm} {ns:Nat->Nm} (h0:C0[j0]? = some (n0,some (.cells k (.vs n1 1 0 rows.length::cs)))) (h1:C0[j1]? = some (n1,some (.cells 1 (aJ sz ns rows)))) (hne:∀r∈rows,r ≠ []) :
  lm (C0++aS sz enc ns rows) (j0::j1::List.range' C0.length rows.length)=some (EW k sz enc cs rows n0 n1 ns):=by
 refine JI (by simp [EW]) (λj a b => ?_)
 match j,a,b with
 | 0,_,_=>exact (List.getElem?_append_left (List.getElem?_eq_some_iff.1 h0).1).trans h0
 | 1,_,_=>exact (List.getElem?_append_left (List.getElem?_eq_some_iff.1 h1).1).trans h1
 | j+2,a,b =>
  have hj:j<rows.length:=by simp only [List.length_cons,List.length_range']at a;omega
  simp only [EW,List.getElem_cons_succ,List.getElem_range',List.getElem_mapIdx,Nat.one_mul]
  rw [AO (List.getElem?_eq_getElem hj),NC (hne _ (List.getElem_mem hj))]
theorem Gl {k:Nat} {cs:List V} {rows:List (List α)} {n0 n1:Nm} {ns:Nat->Nm} (hcs:okL 0 cs=true):(lh k sz enc cs rows).map (λb=>b.ren (n0::n1::(List.range rows.length).map ns))=(EW k sz enc cs rows n0 n1 ns).map (·.2):=by
 simp only [lh,EW,List.map_cons,Box.ren,renL,ren,IL,Ba hcs,List.map_map]
 rw [wy (ns:=ns) (λi hi=>by
   rw [show 2+i=i+1+1 by omega,List.getElem?_cons_succ,List.getElem?_cons_succ,List.getElem?_map,List.getElem?_range hi];rfl)]
 congr 2
 refine List.ext_getElem (by simp) (λi h1 h2 => ?_)
 simp only [List.getElem_map,List.getElem_mapIdx,Function.comp_apply]
theorem GA {k:Nat} {cs:List V} {rows:List (List α)} (hcs:okL 0 cs=true):(lh k sz enc cs rows).all (λb=>b.ok (2+rows.length))=true:=by
 refine List.all_eq_true.2 (λb hb => ?_)
 simp only [lh,List.mem_cons,List.mem_map]at hb
 rcases hb with rfl|rfl|⟨r,_,rfl⟩
 ·simp only [Box.ok,okL,okV,Bool.and_eq_true]
  exact⟨BO (by omega),nK (Nat.zero_le _) _ hcs⟩
 ·exact GM rows (Nat.le_refl _)
 ·rfl
theorem EA {k:Nat} {cs:List V} {rows:List (List α)} (hcs:okL 0 cs=true):okOut (2+rows.length) (iq k sz enc cs rows)=true:=by
 have key:∀(l:List (List α)) (n:Nat),okOut n (l.map (gB sz enc))=true:=by
  intro l n
  induction l with
  | nil=>rfl
  | cons r l ih=>cases r <;> simp [gB,okOut,Box.ok,ih]
 simp only [iq,okOut,Bool.and_eq_true]
 refine⟨?_,GM rows (Nat.le_refl _),key _ _⟩
 simp only [Box.ok,okL,okV,Bool.and_eq_true]
 exact⟨BO (by omega),nK (Nat.zero_le _) _ hcs⟩
theorem Hd {j0 j1 m:Nat} (h0:j0<C0.length) (h1:j1<C0.length) (hj:j0≠j1):(j0::j1::List.range' C0.length m).Nodup:=by
 refine List.nodup_cons.2 ⟨λh => ?_,List.nodup_cons.2 ⟨λh => ?_,List.nodup_range'⟩⟩
 ·rcases List.mem_cons.1 h with h|h
  ·exact hj h
  ·have:=(List.mem_range'_1.1 h).1;omega
 ·have:=(List.mem_range'_1.1 h).1;omega
theorem Kz {f:Operand} {args:List Operand} {ats:Array TypeId} {fn:FuncId} {caps args0:List V} {r:V} {k m:Nat} {cs cs':List V} {rows rows':List (List α)} {n0 n1:Nm} {ns:Nat->Nm} (p j0 j1:Nat) (hp:q=none\/Nat.beq all.length (p+(rest.length+1))=true)
  (hfp:∀S tk,AgR (C0++aS sz enc ns rows) S tk (⟨some d,.call ⟨.value f,args.toArray,ats⟩,ty,pos,after,g⟩::rest)->okQ q all p (n0::n1::(List.range rows.length).map ns) true)
  (hc:FnM C.P fn args0 (lh k sz enc cs rows) r (iq k sz enc cs' rows')) (hf:ev sl f = .fn fn caps) (hb:aM C.P fn=true)
  (h0:C0[j0]? = some (n0,some (.cells k (.vs n1 1 0 m::cs)))) (h1:C0[j1]? = some (n1,some (.cells 1 (aJ sz ns rows)))) (hj:j0≠j1) (hm:rows.length=m) (hne:∀r∈rows,r ≠ []) (hlen:rows'.length=rows.length) (hcs:okL 0 cs=true) (hcs':okL 0 cs'=true)
  (hn:((args.map (ev sl)++caps).flatMap frz).all (λn=>false)=true) (ha:∀L,(args.map (ev sl)++caps).map co0=renL (n0::L) args0) (hok:okL 1 args0=true) (hr:okV 0 r=true)
  (hw:aN all sl ⟨some d,.call ⟨.value f,args.toArray,ats⟩,ty,pos,after,g⟩=some true)
  (h:bf (lY q p (n0::n1::(List.range rows.length).map ns) true) C all K rest (upd sl d r) ((C0.set j0 (n0,some (.cells k (.vs n1 1 0 m::cs')))).set j1 (n1,some (.cells 1 (aJ sz ns rows')))++aS sz enc ns rows')) :
  bf q C all K (⟨some d,.call ⟨.value f,args.toArray,ats⟩,ty,pos,after,g⟩::rest) sl (C0++aS sz enc ns rows):=by
 subst hm
 have l0:=(List.getElem?_eq_some_iff.1 h0).1
 have l1:=(List.getElem?_eq_some_iff.1 h1).1
 have hnames:=CE (sz:=sz) (enc:=enc) (k:=k) (cs:=cs) (rows:=rows) (n0:=n0) (n1:=n1) (ns:=ns)
 have hil:(j0::j1::List.range' C0.length rows.length).length=2+rows.length:=by simp;omega
 refine jF p (j0::j1::List.range' C0.length rows.length) hp (by rw [hnames];exact hfp) hc hf hb (E5 h0 h1 hne) ?_ ?_ hn ?_ ?_ (xU (Nat.zero_le _) _ hr) ?_ (Hd l0 l1 hj) ?_ hw r (vM hr) _ ?_ (by rw [hnames];exact h)
 ·rw [hnames];exact Gl hcs
 ·rw [hil];exact GA hcs
 ·rw [hnames];exact ha _
 ·rw [hil];exact nK (by omega) _ hok
 ·rw [qi,hil,hlen]
 ·rw [qi];exact EA hcs'
 ·rw [hnames]
  simp only [iq,outs,setH,Option.map_some,Box.ren,renL,ren,IL,Ba hcs']
  rw [wy (ns:=ns) (λi hi=>by
   rw [show 2+i=i+1+1 by omega,List.getElem?_cons_succ,List.getElem?_cons_succ,List.getElem?_map,List.getElem?_range (by omega)];rfl)]
  rw [List.set_append_left _ _ l0,List.set_append_left _ _ (by rw [List.length_set];exact l1)]
  have e:=Ho (ν:=n0::n1::(List.range rows.length).map ns) (ms:=(List.range rows.length).map ns) (as1:=aS sz enc ns rows) (C0:=(C0.set j0 (n0,some (.cells k (.vs n1 1 0 rows'.length::cs')))).set j1 (n1,some (.cells 1 (aJ sz ns rows')))) (bs:=rows'.map (gB sz enc)) (by simp [xY]) (by simp [hlen])
  simp only [List.length_set,List.length_map,List.length_range]at e
  rw [e,<- hlen,Kq]
theorem sP {f:Operand} {args:List Operand} {ats:Array TypeId} {fn:FuncId} {caps args0:List V} {r:V} {k m:Nat} {cs:List V} {rows:List (List α)} {n0 n1:Nm} {ns:Nat->Nm} (p j0 j1:Nat) (hp:q=none\/Nat.beq all.length (p+(rest.length+1))=true)
  (hfp:∀S tk,AgR (C0++aS sz enc ns rows) S tk (⟨some d,.call ⟨.value f,args.toArray,ats⟩,ty,pos,after,g⟩::rest)->okQ q all p (n0::n1::(List.range rows.length).map ns) false)
  (hc:FnM C.P fn args0 (lh k sz enc cs rows) r (iq k sz enc cs rows)) (hf:ev sl f = .fn fn caps) (hb:aM C.P fn=true)
  (h0:C0[j0]? = some (n0,some (.cells k (.vs n1 1 0 m::cs)))) (h1:C0[j1]? = some (n1,some (.cells 1 (aJ sz ns rows)))) (hj:j0≠j1) (hm:rows.length=m) (hne:∀r∈rows,r ≠ []) (hcs:okL 0 cs=true)
  (hn:((args.map (ev sl)++caps).flatMap frz).all (λn=>false)=true) (ha:∀L,(args.map (ev sl)++caps).map co0=renL (n0::L) args0) (hok:okL 1 args0=true) (hr:okV 0 r=true)
  (hw:aN all sl ⟨some d,.call ⟨.value f,args.toArray,ats⟩,ty,pos,after,g⟩=some true)
  (h:bf (lY q p (n0::n1::(List.range rows.length).map ns) false) C all K rest (upd sl d r) (C0++aS sz enc ns rows)) :
  bf q C all K (⟨some d,.call ⟨.value f,args.toArray,ats⟩,ty,pos,after,g⟩::rest) sl (C0++aS sz enc ns rows):=by
 subst hm
 have l0:=(List.getElem?_eq_some_iff.1 h0).1
 have l1:=(List.getElem?_eq_some_iff.1 h1).1
 have hnames:=CE (sz:=sz) (enc:=enc) (k:=k) (cs:=cs) (rows:=rows) (n0:=n0) (n1:=n1) (ns:=ns)
 have hil:(j0::j1::List.range' C0.length rows.length).length=2+rows.length:=by simp;omega
 refine h_callr p (j0::j1::List.range' C0.length rows.length) hp (by rw [hnames];exact hfp) (by rw [<- LV hne];exact hc) hf hb (E5 h0 h1 hne) ?_ ?_ hn ?_ ?_ (xU (Nat.zero_le _) _ hr) (Hd l0 l1 hj) hw r (vM hr) (by rw [hnames];exact h)
 ·rw [hnames];exact Gl hcs
 ·rw [hil];exact GA hcs
 ·rw [hnames];exact ha _
 ·rw [hil];exact nK (by omega) _ hok
theorem Rt {H:Hp} {f:Operand} {args:List Operand} {ats:Array TypeId} {fn:FuncId} {caps args0:List V} {k:Nat} {cs:List V} {rows:List (List α)}
  (hc:FnM C.P fn args0 [] (.ref (av 0) 0 0) (iq k sz enc cs rows)) (hf:ev sl f = .fn fn caps) (hb:aM C.P fn=true) (hne:∀r∈rows,r ≠ []) (hcs:okL 0 cs=true)
  (hn:((args.map (ev sl)++caps).flatMap frz).all (λn=>false)=true) (ha:(args.map (ev sl)++caps).map co0=args0) (hok:okL 0 args0=true)
  (hw:aN all sl ⟨some d,.call ⟨.value f,args.toArray,ats⟩,ty,pos,after,g⟩=some true)
  (h:∀(n0 n1:Nm) (ns:Nat->Nm),bf none C all K rest (upd sl d (.ref n0 0 0)) (H++[(n0,some (.cells k (.vs n1 1 0 rows.length::cs))),(n1,some (.cells 1 (aJ sz ns rows)))]++aS sz enc ns rows)) :
  bf none C all K (⟨some d,.call ⟨.value f,args.toArray,ats⟩,ty,pos,after,g⟩::rest) sl H:=by
 have hmut:mutOut (iq k sz enc cs rows)=true:=by
  have key:∀(l:List (List α)),(∀r∈l,r ≠ [])->mutOut (l.map (gB sz enc))=true:=by
   intro l
   induction l with
   | nil=>exact λ_=>rfl
   | cons r l ih =>
    intro h
    cases r with
    | nil=>exact absurd rfl (h [] (by simp))
    | cons x r=>simp only [List.map_cons,gB,mutOut,Box.mut,Bool.true_and];exact ih (λr hr=>h r (by simp [hr]))
  simp only [iq,mutOut,Box.mut,Bool.true_and]
  exact key rows hne
 refine Fz [] (2+rows.length) (l:=[]) hc hf hb rfl rfl rfl hn ?_ hok ?_ ?_ List.nodup_nil ?_ (by rw [List.length_nil,List.drop_zero];exact hmut) hw (λν => ?_)
 ·rw [ha];exact (zV hok).symm
 ·show okN _ (av 0)=true
  exact BO (by rw [qi];omega)
 ·rw [qi,List.length_nil];omega
 ·rw [qi];exact EA hcs
 ·have hν:(List.range (2+rows.length)).map ν=ν 0::ν 1::(List.range rows.length).map (λi=>ν (2+i)):=by
   refine List.ext_getElem (by simp;omega) (λi h1 h2 => ?_)
   match i with
   | 0=>simp
   | 1=>simp
   | i+2=>simp;congr 1;omega
  simp only [List.map_nil,List.nil_append,outs,setH,List.length_nil,List.drop_zero]
  rw [hν]
  have:=h (ν 0) (ν 1) (λi=>ν (2+i))
  have e1:ren (ν 0::ν 1::(List.range rows.length).map (λi=>ν (2+i))) (.ref (av 0) 0 0) = .ref (ν 0) 0 0:=by simp only [ren,RY]
  have e2:news (ν 0::ν 1::(List.range rows.length).map (λi=>ν (2+i))) (ν 0::ν 1::(List.range rows.length).map (λi=>ν (2+i))) (iq k sz enc cs rows)
    = [(ν 0,some (.cells k (.vs (ν 1) 1 0 rows.length::cs))),(ν 1,some (.cells 1 (aJ sz (λi=>ν (2+i)) rows)))]++aS sz enc (λi=>ν (2+i)) rows:=by
   simp only [iq,news,Option.map_some,Box.ren,renL,ren,IL,Ba hcs,List.cons_append,List.nil_append]
   rw [wy (ns:=λi=>ν (2+i)) (λi hi=>by
    show (ν 0::ν 1::(List.range rows.length).map (λi=>ν (2+i)))[2+i]? = some (ν (2+i))
    rw [show (ν 0::ν 1::(List.range rows.length).map (λi=>ν (2+i)))[2+i]? = ((List.range rows.length).map (λi=>ν (2+i)))[i]? by rw [show 2+i=i+1+1 by omega,List.getElem?_cons_succ,List.getElem?_cons_succ],List.getElem?_map,List.getElem?_range hi];rfl)]
   congr 2
   have key:∀(ν' ms:List Nm) (l:List (List α)),ms.length=l.length->news ν' ms (l.map (gB sz enc))=ms.zip (l.map (gB sz enc)):=by
    intro ν' ms
    induction ms with
    | nil=>intro l hl;cases l <;> simp [news]at *
    | cons m ms ih =>
     intro l hl
     cases l with
     | nil=>simp at hl
     | cons r l=>simp only [List.map_cons,news,Jb,List.zip_cons_cons];rw [ih l (by simpa using hl)]
   rw [key _ _ _ (by simp)]
   have:=Kq (sz:=sz) (enc:=enc) (ν:=[]) (ns:=λi=>ν (2+i)) (rows:=rows)
   rw [<- this,List.map_map]
   congr 1
   exact List.map_congr_left (λr _=>Jb.symm)
  rw [e1,e2,<- List.append_assoc]
  exact this
end
end rows
end Go.Eng

/-
  THE ENGINE: a function that reads slices as data reads them out of their boxes, too: the boxes are as they were.
-/
namespace Go.Eng
set_option linter.unusedSectionVars false
variable [DM]
set_option linter.unusedVariables false
end Go.Eng

