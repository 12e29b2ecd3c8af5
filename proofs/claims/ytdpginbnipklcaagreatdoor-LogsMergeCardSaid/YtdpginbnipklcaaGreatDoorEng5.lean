/-
  The engine: what the machine does to data, shown once for all programs (part 5).
-/
import Derived.Test.YtdpginbnipklcaaGreatDoorEng4
import Derived.Lib.LaidTab
import Derived.Lib.ItoaNum
import Derived.Deep.Draws
import Derived.Below
import Derived.Lib.IndexMore
import Derived.Lib.TrimByte
import Derived.Lib.Join
import Derived.Lib.Repeat
import Derived.Lib.TrailingZeros
import Derived.Lib.SlTrimSet
/-
  THE ENGINE: a slice that is cut in its own box and grows again; boxes of slices that may be empty; maps whose keys are structs.
-/
namespace Go.Eng
set_option linter.unusedSectionVars false
variable [DM]
set_option linter.unusedVariables false
set_option linter.unusedSimpArgs false
def kE {α:Type} (b:Bool) (xs:List α):Option Unit:=match b,xs with
 | true,[]=>none
 | _,_=>some ()
theorem kV_g {α:Type} {b:Bool} {n:Nm} {sz:Nat} {xs:List α} {u:Unit} (h:kE b xs=some u):kV b n sz xs=gV n sz xs:=by
 cases b with
 | false=>rfl
 | true=>cases xs with
  | nil=>cases h
  | cons x xs=>rfl
theorem kB_g {α:Type} {b:Bool} {sz:Nat} {enc:α->List D} {xs:List α} {u:Unit} (h:kE b xs=some u):kB b sz enc xs=gB sz enc xs:=by
 cases b with
 | false=>rfl
 | true=>cases xs with
  | nil=>cases h
  | cons x xs=>rfl
section
variable {C:Cfg} {Q:QH} {sl:Nat->V} {H:Hp} {c:Code}
end
section
variable {C:Cfg} {sl:Nat->V} {H:Hp} {q:Qm} {all rest:List Oper} {K:(Nat->V)->Hp->Prop}
variable {dst:Option Tmp} {d:Nat} {t ty:TypeId} {pos:String} {after:Array Edge} {g:Option (Nat×Bool)}
end
def cutG {β:Type} (env:β->List (Nat×V)) (Hs:β->Hp) (R:β->Prop):(Nat->V)->Hp->Prop:=λsl H =>
 ∀(C:Cfg) (b:Code) (Q:QH),(∀x,R x->∀sl' H',Eng.pick (env x) sl'=env x->Eng.pre (Hs x) H'->wH C b Q sl' H')->wH C b Q sl H
theorem Jh {C:Cfg} {c b:Code} {Q Q':QH} {sl:Nat->V} {H:Hp} {β:Type} (env:β->List (Nat×V)) (Hs:β->Hp) (R:β->Prop) (h1:wH C c (CF (cutG env Hs R) (CF (wH C b Q) Q')) sl H)
  (h2:∀x,R x->∀sl' H',Eng.pick (env x) sl'=env x->Eng.pre (Hs x) H'->wH C b Q sl' H'):wH C c (CF (wH C b Q) Q') sl H:=by
 refine Gy (λe sl H h => ?_) h1
 cases e with
 | normal=>exact h C b Q h2
 | _=>exact h
end Go.Eng

/-
  THE ENGINE: rules for arrays of bytes in a box, and for bytes to a string and back.
-/
namespace Go.Eng
set_option linter.unusedSectionVars false
variable [DM]
open Go
set_option linter.unusedVariables false
set_option linter.unusedSimpArgs false
def De {α:Type} (xs:List α) (n:Nat):Option Unit:=if xs.length=n then some ()else none
theorem Gn {α:Type} {xs:List α} {n:Nat} {u:Unit} (h:De xs n=some u):xs.length=n:=by
 unfold De at h;split at h
 ·assumption
 ·cases h
section
variable {C:Cfg} {sl:Nat->V} {H:Hp} {q:Qm} {all rest:List Oper} {K:(Nat->V)->Hp->Prop}
variable {dst:Option Tmp} {d:Nat} {t ty:TypeId} {pos:String} {after:Array Edge} {g:Option (Nat×Bool)}
theorem EE {e:TypeId} {cs:List V} {m:Nat} (xs:List Int) (p:Nat) (hp:q=none\/Nat.beq all.length (p+(rest.length+1))=true) (hz:zeroCells C.P e=some cs) (ha:yj cs=some (xs.map λn=>D.int .u8 n)) (ho:cs.all kr=true) (hm:uD C.P e=some m)
  (hw:aS all sl ⟨some d,.alloc e,ty,pos,after,g⟩=some true)
  (h:∀n:Nm,bA (oK q p [n] true) C all K rest (upd sl d (.ref n 0 0)) (H++[(n,some (bV 1 (eK .u8) xs))])):bA q C all K (⟨some d,.alloc e,ty,pos,after,g⟩::rest) sl H :=
 rR rfl p [] hp (λ_ _ _=>vD) (λm hm=>by cases hm) hw (λS tk K' ok ag hk=>kg (A:=⟨[],[((d,tk),some (bV 1 (eK .u8) xs))],.ref (d,tk) 0 0⟩) (λc e=>by cases e) (by
  show (bif (uD C.P e).isSome then qp C.P e d tk else bif C.vm.contains d then rE C.P e d tk else sU C.P e d tk)=_
  rw [hm]
  simp only [Option.isSome_some,cond_true,qp,hz,ha,ho,bV,List.map_map]
  rfl) (hk _ _ _ (.inl rfl) ⟨by simp,by simp⟩ (ag.new ok rfl _) (h (d,tk))))
theorem DV {xs:List Int} {x i:Operand} {k:IntKind} {n:Int} {m:Nat} {nm:Nm} (p j:Nat) (hp:q=none\/Nat.beq all.length (p+(rest.length+1))=true)
  (hf:∀S tk,AgR H S tk (⟨dst,.indexAddr t x i,ty,pos,after,g⟩::rest)->okQ q all p [nm] false) (hm:uD C.P t=some m) (hx:ev sl x = .ref nm 0 0) (hi:ev sl i = .d (.int k n)) (hH:H[j]? = some (nm,some (bV 1 (eK .u8) xs))) (h0:0<=n) (h1:n.toNat<m)
  (hw:aS all sl ⟨dst,.indexAddr t x i,ty,pos,after,g⟩=some true) (h:bA (oK q p [nm] false) C all K rest (dM sl dst (.ref nm n.toNat 0)) H):bA q C all K (⟨dst,.indexAddr t x i,ty,pos,after,g⟩::rest) sl H:=by
 refine nY p [nm] false hp hf (sS hH) hw (λS tk K' ok' ag hk=>kg (A:=⟨[(nm,bV 1 (eK .u8) xs)],[],.ref nm n.toNat 0⟩) (λc e=>by cases e) ?_ (hk _ H ⟨by simp,by simp⟩ (λ_=>rfl) ag.tail h))
 show orE (jF C.P t (ev sl x) (ev sl i)) (qi C.P t S (ev sl x) (ev sl i))=_
 obtain ⟨e,hu,_,_⟩:=uz hm
 have he:dA C.P t=none:=by unfold dA;rw [hu]
 have h1':jF C.P t (ev sl x) (ev sl i)=none:=by
  unfold jF
  rw [he,hi];rfl
 rw [h1',hx,hi]
 show qi C.P t S (.ref nm 0 0) (.d (.int k n))=_
 have hc:(decide (0<=n)&&Nat.blt n.toNat m)=true:=by simp [h0,Nat.blt_eq,h1]
 simp only [qi,hm,ag.get hH,hc,cond_true]
theorem IL {xs:List Int} {m:Nat} {nm:Nm} {S:Store} {lo hi:Option V} {a b:Int} {u u':Unit} (hm:uD C.P t=some m) (hS:S nm=some (bV 1 (eK .u8) xs)) (hl:De xs m=some u') (h1:ny 0 lo=some a.toNat) (h2:ny m hi=some b.toNat) (hr:oV xs a b=some u) :
  orE ((kI C.P t (.ref nm 0 0) lo hi none).bind gJ) (lH C.P t S (.ref nm 0 0) lo hi none)=some ⟨[(nm,bV 1 (eK .u8) xs)],[],.vs nm 1 a.toNat (b.toNat-a.toNat)⟩:=by
 obtain ⟨e,hu,_,_⟩:=uz hm
 have hl':=Gn hl
 obtain ⟨_,_,r3,r4⟩:=pg hr
 have h0:kI C.P t (.ref nm 0 0) lo hi none=none:=by simp only [kI,hu]
 rw [h0]
 show lH C.P t S (.ref nm 0 0) lo hi none=_
 simp only [lH,hm,hS,h1,h2]
 rw [if_pos ⟨r3,by omega,by simp [hl']⟩]
section
variable {xs:List Int} {m:Nat} {nm:Nm} {x l hi:Operand} {k k':IntKind} {a b:Int} {u u':Unit}
theorem DU (p j:Nat) (hp:q=none\/Nat.beq all.length (p+(rest.length+1))=true) (hf:∀S tk,AgR H S tk (⟨dst,.slice t x (some l) none none,ty,pos,after,g⟩::rest)->okQ q all p [nm] false) (hm:uD C.P t=some m) (hx:ev sl x = .ref nm 0 0) (hl:ev sl l = .d (.int k a)) (hH:H[j]? = some (nm,some (bV 1 (eK .u8) xs))) (hn:De xs m=some u') (hr:oV xs a xs.length=some u)
  (hw:aS all sl ⟨dst,.slice t x (some l) none none,ty,pos,after,g⟩=some true) (h:bA (oK q p [nm] false) C all K rest (dM sl dst (.vs nm 1 a.toNat (((xs.length:Int)).toNat-a.toNat))) H):bA q C all K (⟨dst,.slice t x (some l) none none,ty,pos,after,g⟩::rest) sl H :=
 nY p [nm] false hp hf (sS hH) hw (λS tk K' ok' ag hk=>kg (A:=⟨[(nm,bV 1 (eK .u8) xs)],[],.vs nm 1 a.toNat (((xs.length:Int)).toNat-a.toNat)⟩) (λc e=>by cases e) (by
  show orE ((kI C.P t (ev sl x) (some (ev sl l)) none none).bind gJ) (lH C.P t S (ev sl x) (some (ev sl l)) none none)=_
  rw [hx,hl];exact IL hm (ag.get hH) hn (Ad (pg hr).1) (by show some m=_;rw [<- Gn hn];rfl) hr) (hk _ H ⟨by simp,by simp⟩ (λ_=>rfl) ag.tail h))
end
theorem EF {P:Program} {e:TypeId} (h:P.underlying e=some (.int .u8)):si P e=true:=by unfold si;rw [h]
theorem Fq {P:Program} {s t e:TypeId} {x:V} (hs:P.underlying s=some (.slice e)) (ht:P.underlying t=some .string) (hx:∀s,x ≠ .d (.str s)):rZ P s t x=none:=by
 unfold rZ
 rw [hs,ht]
 split
 ·rename_i h;cases h
 ·exact absurd rfl (hx _)
 ·rename_i h h2;cases h
 ·rfl
theorem h_convp {xs:List Int} {x:Operand} {s e:TypeId} {nm:Nm} {a ln:Nat} (p j:Nat) (hp:q=none\/Nat.beq all.length (p+(rest.length+1))=true)
  (hf:∀S tk,AgR H S tk (⟨dst,.convert s t x,ty,pos,after,g⟩::rest)->okQ q all p [nm] false) (hs:C.P.underlying s=some (.slice e)) (ht:C.P.underlying t=some .string) (he:C.P.underlying e=some (.int .u8))
  (hx:ev sl x = .vs nm 1 a ln) (hH:H[j]? = some (nm,some (bV 1 (eK .u8) xs))) (hle:a+ln<=xs.length)
  (hw:aS all sl ⟨dst,.convert s t x,ty,pos,after,g⟩=some true) (h:bA (oK q p [nm] false) C all K rest (dM sl dst (vS (strOfNums (yo xs a ln)))) H):bA q C all K (⟨dst,.convert s t x,ty,pos,after,g⟩::rest) sl H:=by
 refine nY p [nm] false hp hf (sS hH) hw (λS tk K' ok' ag hk=>kg (A:=⟨[(nm,bV 1 (eK .u8) xs)],[],vS (strOfNums (yo xs a ln))⟩) (λc e=>by cases e) ?_ (hk _ H ⟨by simp,by simp⟩ (λ_=>rfl) ag.tail h))
 show orE ((rZ C.P s t (ev sl x)).bind gJ) (oN C.P s t S (ev sl x))=_
 rw [hx,Fq hs ht (λ_ e=>by cases e)]
 show oN C.P s t S (.vs nm 1 a ln)=_
 have hg:S nm=some (.vec 1 (xs.map (eK .u8))):=ag.get hH
 simp only [oN,hs,ht,EF he,cond_true,hg]
 rw [if_pos ⟨trivial,by simpa using hle⟩]
 have:((xs.map (eK .u8)).drop a).take ln=(yo xs a ln).map eU8:=by
  unfold yo
  rw [<- List.map_drop,<- List.map_take];rfl
 rw [this,Fw]
 rfl
theorem h_convs {b:ByteArray} {x:Operand} {s e:TypeId} (hs:C.P.underlying s=some .string) (ht:C.P.underlying t=some (.slice e)) (he:C.P.underlying e=some (.int .u8)) (hx:ev sl x=vS b)
  (hw:aS all sl ⟨dst,.convert s t x,ty,pos,after,g⟩=some true) (h:bA q C all K rest (dM sl dst (vL (eK .u8) (gm b))) H):bA q C all K (⟨dst,.convert s t x,ty,pos,after,g⟩::rest) sl H :=
 lX hw (λS tk K' _ hk=>kg (A:=⟨[],[],vL (eK .u8) (gm b)⟩) (λc e=>by cases e) (by
  show orE ((rZ C.P s t (ev sl x)).bind gJ) (oN C.P s t S (ev sl x))=_
  have:rZ C.P s t (vS b)=none:=by unfold rZ;rw [hs,ht]
  rw [hx,this]
  show oN C.P s t S (vS b)=_
  simp only [oN,hs,ht,EF he,cond_true];rfl) (hk _ rfl rfl rfl)) h
end
end Go.Eng

/-
  THE ENGINE: strconv.Itoa, by its contract off the shelf; the table that it reads is known.
-/
namespace Go.Eng
set_option linter.unusedSectionVars false
variable [DM]
open Go.Sort
set_option linter.unusedVariables false
set_option linter.unusedSimpArgs false
theorem D6 {P:Program} {G:Gh} {w:World} {name:String} {k:IntKind} {zs:List Int} (hl:∀w0,Al w0->Lib.TabIs P w0 name k zs) (hz:zs ≠ []) (h:Kn G w):Lib.TabIs P w name k zs:=by
 obtain ⟨w0,h1,h2⟩:=h
 have ht:=hl w0 h1
 unfold Lib.TabIs World.var? at ht ⊢
 cases hg:P.globalNamed name with
 | none=>rw [hg]at ht;simp at ht
 | some g =>
  rw [hg]at ht
  simp only [ob_]at ht ⊢
  have hlt:g<w0.heap.size:=by
   rcases Nat.lt_or_ge g w0.heap.size with h|h
   ·exact h
   ·rw [Array.getElem?_eq_none h]at ht;cases ht
  have hc:∀o,w.cell? ⟨g,o,Option.none⟩=w0.cell? ⟨g,o,Option.none⟩:=λo=>(h2 g o hlt).2
  cases hb:w0.heap[g]? with
  | none=>rw [hb]at ht;cases ht
  | some ob =>
   rw [hb]at ht
   cases ob with
   | cells cs t fr =>
    simp only [so_]at ht
    have e0:∀o,w0.cell? ⟨g,o,Option.none⟩=cs[o]? := λo=>by simp [World.cell?,hb]
    cases hw:w.heap[g]? with
    | none =>
     exfalso
     have:=hc 0
     rw [e0]at this
     simp only [World.cell?,hw]at this
     rw [ht]at this
     cases zs with
     | nil=>exact hz rfl
     | cons z zs=>simp at this
    | some ob' =>
     cases ob' with
     | cells cs' t' fr' =>
      have e1:∀o,w.cell? ⟨g,o,Option.none⟩=cs'[o]? := λo=>by simp [World.cell?,hw]
      have:cs'=cs:=Array.ext_getElem? (λo=>by rw [<- e1,<- e0,hc])
      rw [this,ht]
     | _ =>
      exfalso
      have:=hc 0
      rw [e0]at this
      simp only [World.cell?,hw]at this
      rw [ht]at this
      cases zs with
      | nil=>exact hz rfl
      | cons z zs=>simp at this
   | _=>cases ht
def Gx (n:Int):Option ByteArray:=if -9223372036854775808<=n/\n<=9223372036854775807 then some ⟨(Lib.itoa n).toArray⟩else none
theorem itoa_ok {P:Program} {f:FuncId}
  (hC : ∀ (n : Int), -9223372036854775808 ≤ n → n ≤ 9223372036854775807 → ∀ w : World, Lib.TabIs P w "internal/strconv.uint64pow10" .u64 Lib.pow10Tab →
   Calls P f #[.int .i64 n] w λe w'=>e = .returned (.string ⟨(Lib.itoa n).toArray⟩)/\∃k os,w'=grow (w.drewN k) os)
  (hl : ∀ w0, Al w0 → Lib.TabIs P w0 "internal/strconv.uint64pow10" .u64 Lib.pow10Tab) {n : Int} {r : ByteArray} (hF : Gx n = some r) : FnM P f [.d (.int .i64 n)] [] (.d (.str r)) [] := by
 unfold Gx at hF
 split at hF
 ·rename_i hn
  simp only [so_]at hF
  subst hF
  intro G w vargs hinv hargs
  obtain ⟨v,rfl,hv⟩:=hargs.alone
  have hv':RepD G.imm w v (.int .i64 n):=hv.d_inv
  cases hv' with
  | int =>
   refine (hC n hn.1 hn.2 w (D6 hl (by decide) hinv.kn)).mono ?_
   rintro e w' ⟨rfl,k,os,rfl⟩
   obtain ⟨i2,e2⟩:=hinv.more (w':=grow (w.drewN k) os) (G':=G) (U':=λ_=>False) (λb' hb'=>by
    show (w.heap++os)[b']? = _
    rw [Array.getElem?_append_left hb']) (by simp [grow,World.drewN]) rfl rfl rfl (λ_ _ h=>h) (λ_ _ h => .inl h) rfl (λ_ h=>h) (λ_=>Nat.le_add_right w.drawn k)
   exact⟨_,G,_,1,_,[],rfl,i2,.d (.str _),rfl,List.nodup_nil,λi hi=>absurd hi (Nat.not_lt_zero i),λi bx hb=>by simp at hb⟩
 ·cases hF
end Go.Eng

/-
  THE ENGINE: functions over literals, by their contracts off the shelf.
-/
namespace Go.Eng
set_option linter.unusedSectionVars false
variable [DM]
open Go.RowKit (Below)
set_option linter.unusedVariables false
set_option linter.unusedSimpArgs false
def isLit:D->Bool
 | .int _ _ | .bool _ | .str _=>true
 | _=>false
def lv:D->Value
 | .int k n => .int k n
 | .bool b => .bool b
 | .str s => .string s
 | _=>undef
theorem lit_inv {I:Nat->Nat->Prop} {w:World} {v:Value} {d:D} (h:RepD I w v d) (hl:isLit d=true):v=lv d:=by
 cases h with
 | int k n=>rfl
 | bool b=>rfl
 | str s=>rfl
 | agg=>cases hl
 | sl0=>cases hl
 | sl=>cases hl
 | ptr=>cases hl
 | nilp=>cases hl
theorem Ed {G:Gh} {w:World}:∀{vs:List Value} {ds:List D},qh G w vs (ds.map V.d)->ds.all isLit=true->vs=ds.map lv
 | [],[],_,_=>rfl
 | [],d::ds,h,_=>by have:=h.1;simp at this
 | v::vs,[],h,_=>by have:=h.1;simp at this
 | v::vs,d::ds,h,hl=>by
  simp only [List.all_cons,Bool.and_eq_true]at hl
  obtain ⟨hlen,h⟩:=h
  have h0:RepV G w v (.d d):=h 0 (by simp) (by simp)
  have e:=lit_inv h0.d_inv hl.1
  have:qh G w vs (ds.map V.d):=⟨by simpa using hlen,λi h1 h2=>by
   have:=h (i+1) (by simpa using h1) (by simpa using h2)
   simpa using this⟩
  rw [e,Ed this hl.2];rfl
theorem zS {P:Program} {f:FuncId} (ds:List D) (v:Value) (r:V) (ha:ds.all isLit=true) (hr:∀G w,RepV G w v (ren [] r))
  (hC:∀(G:Gh) (w:World),Kn G w->Calls P f (ds.map lv).toArray w λe w'=>e = .returned v/\Below w.heap.size w w'/\(dmK=true->w.drawn<=w'.drawn)):FnM P f (ds.map V.d) [] r []:=by
 intro G w vargs hinv hargs
 rw [Ed hargs ha]
 refine (hC G w hinv.kn).mono ?_
 rintro e w' ⟨rfl,hb,hd⟩
 obtain ⟨i2,e2⟩:=hinv.more (w':=w') (G':=G) (U':=λ_=>False) (λb' hb'=>hb.block b' hb') hb.size hb.os hb.tape hb.output (λ_ _ h=>h) (λ_ _ h => .inl h) rfl (λ_ h=>h) hd
 exact⟨_,G,_,1,_,[],rfl,i2,hr _ _,rfl,List.nodup_nil,λi hi=>absurd hi (Nat.not_lt_zero i),λi bx hb=>by simp at hb⟩
end Go.Eng

/-
  THE ENGINE: strings.Join, strings.Repeat, bits.TrailingZeros, by their contracts off the shelf.
-/
namespace Go.Eng
set_option linter.unusedSectionVars false
variable [DM]
open Go
open Go.RowKit (Below)
set_option linter.unusedVariables false
set_option linter.unusedSimpArgs false
theorem FM {P:Program} {w:World} {name:String} {k:IntKind} {zs:List Int} {g:Nat} (h:Lib.TabIs P w name k zs) (hg:P.globalNamed name=some g) {j:Nat} {z:Int} (hz:zs[j]? = some z):w.cell? ⟨g,j,none⟩=some (.int k z):=by
 unfold Lib.TabIs World.var? at h
 rw [hg]at h
 simp only [ob_]at h
 cases hb:w.heap[g]? with
 | none=>rw [hb]at h;cases h
 | some ob =>
  rw [hb]at h
  cases ob with
  | cells cs t fr =>
   simp only [so_]at h
   subst h
   simp [World.cell?,hb,hz]
  | _=>cases h
def dbTab:List Int:=Lib.deBruijn64tab.map (λ(n:Nat)=>(n:Int))
def tzF (x:Int):Option Int:=if 0<=x/\x<18446744073709551616 then some (Lib.ctz 64 x.toNat:Nat)else none
theorem tz_ok {P : Program} {f : FuncId} {g : Nat} (hg : P.globalNamed "math/bits.deBruijn64tab" = some g)
  (hC:∀(x:Nat),x<18446744073709551616->∀w:World,(x≠0->∀j,j<Lib.deBruijn64tab.length->w.cell? ⟨g,j,none⟩=some (.int .u8 (Lib.deBruijn64tab.getD j 0))) ->
   Calls P f #[.int .u64 x] w λe w'=>e = .returned (.int .i64 (Lib.ctz 64 x))/\w'=w)
  (hl : ∀ w0, Al w0 → Lib.TabIs P w0 "math/bits.deBruijn64tab" .u8 dbTab) {x r : Int} (hF : tzF x = some r) : FnM P f [.d (.int .u64 x)] [] (.d (.int .i64 r)) [] := by
 unfold tzF at hF
 split at hF
 ·rename_i hx
  simp only [so_]at hF
  subst hF
  refine zS [.int .u64 x] _ _ rfl (λG w => .d (.int _ _)) (λG w hk => ?_)
  have ht:=D6 hl (by decide) hk
  have h1:=hC x.toNat (by omega) w (λ_ j hj=>FM ht hg (by unfold dbTab;rw [List.getElem?_map,List.getElem?_eq_getElem hj];simp [List.getD,List.getElem?_eq_getElem hj]))
  have e:(#[.int .u64 (x.toNat:Int)]:Array Value)=([D.int .u64 x].map lv).toArray:=by
   simp [lv,Int.toNat_of_nonneg hx.1]
  rw [<- e]
  exact h1.mono (λe w' hw=>⟨hw.1,by rw [hw.2];exact⟨Below.refl _ _,λ_=>Nat.le_refl _⟩⟩)
 ·cases hF
def yJ (s:ByteArray) (c:Int):Option ByteArray:=if 0<=c/\c<=9223372036854775807/\s.size*c.toNat<=140737488355328 then some ⟨(Lib.repeatL s.data.toList c.toNat).toArray⟩else none
theorem Ht (hdm:dmK=false) {P:Program} {f:FuncId}
  (hC:∀(s:ByteArray) (c:Nat) (w:World),c<=9223372036854775807->s.size*c<=140737488355328 ->
   Calls P f #[.string s,.int .i64 c] w λe w'=>e = .returned (.string ⟨(Lib.repeatL s.data.toList c).toArray⟩)/\Below w.heap.size w w')
  {s r:ByteArray} {c:Int} (hF:yJ s c=some r):FnM P f [.d (.str s),.d (.int .i64 c)] [] (.d (.str r)) []:=by
 unfold yJ at hF
 split at hF
 ·rename_i hx
  simp only [so_]at hF
  subst hF
  refine zS [.str s,.int .i64 c] _ _ rfl (λG w => .d (.str _)) (λG w hk => ?_)
  have h1:=hC s c.toNat w (by omega) hx.2.2
  have e:(#[.string s,.int .i64 (c.toNat:Int)]:Array Value)=([D.str s,D.int .i64 c].map lv).toArray:=by
   simp [lv,Int.toNat_of_nonneg hx.1]
  rw [<- e]
  exact h1.mono (λe w' hw=>⟨hw.1,hw.2,λh=>by rw [hdm]at h;cases h⟩)
 ·cases hF
def Ck (s t:ByteArray):Option ByteArray:=if s.size<=9223372036854775807/\t.size<4294967281/\t.data.toList.all (λb=>decide (b.toNat<128))=true then some ⟨(Lib.trimS s.data.toList t.data.toList).toArray⟩else none
theorem Jz (hdm:dmK=false) {P:Program} {f:FuncId}
  (hC:∀(s t:ByteArray) (w:World),s.size<=9223372036854775807->t.size<4294967281->(∀(j:Nat) b,t.data.toList[j]? = some b->b.toNat<128) ->
   Calls P f #[.string s,.string t] w λe w'=>e = .returned (.string ⟨(Lib.trimS s.data.toList t.data.toList).toArray⟩)/\Below w.heap.size w w')
  {s t r:ByteArray} (hF:Ck s t=some r):FnM P f [.d (.str s),.d (.str t)] [] (.d (.str r)) []:=by
 unfold Ck at hF
 split at hF
 ·rename_i hx
  simp only [so_]at hF
  subst hF
  exact zS [.str s,.str t] _ _ rfl (λG w => .d (.str _)) (λG w hk=>(hC s t w hx.1 hx.2.1 (λj b hb=>of_decide_eq_true (List.all_eq_true.1 hx.2.2 b (List.mem_of_getElem? hb)))).mono (λe w' hw=>⟨hw.1,hw.2,λh=>by rw [hdm]at h;cases h⟩))
 ·cases hF
def FY (xs:List ByteArray) (sep:ByteArray):Option ByteArray :=
 if xs.length<=140737488355328/\(Lib.join (xs.map (·.data.toList)) sep.data.toList).length<=140737488355328 then some ⟨(Lib.join (xs.map (·.data.toList)) sep.data.toList).toArray⟩else none
theorem join_ok (hdm:dmK=false) {P:Program} {f:FuncId}
  (h0:∀(a:Option Addr) (c:Nat) (sep:ByteArray) (w:World),Calls P f #[.slice a 0 c,.string sep] w λe w'=>e = .returned (.string ⟨#[]⟩)/\w'=w)
  (hC:∀(bk o c:Nat) (xs:List ByteArray) (sep:ByteArray) (w:World),(∀(j:Nat) x,xs[j]? = some x->w.cell? ⟨bk,o+j,none⟩=some (.string x))->bk<w.heap.size->xs.length<=140737488355328->xs.length<=c ->
   (Lib.join (xs.map (·.data.toList)) sep.data.toList).length<=140737488355328 ->
   Calls P f #[.slice (some ⟨bk,o,none⟩) xs.length c,.string sep] w λe w'=>e = .returned (.string ⟨(Lib.join (xs.map (·.data.toList)) sep.data.toList).toArray⟩)/\Below w.heap.size w w')
  {xs:List ByteArray} {sep r:ByteArray} (hF:FY xs sep=some r):FnM P f [vL eS xs,vS sep] [] (vS r) []:=by
 unfold FY at hF
 split at hF
 ·rename_i hx
  simp only [so_]at hF
  subst hF
  intro G w vargs hinv hargs
  have hfin:∀w',Below w.heap.size w w'->∃v G' S' tk' U' ν,Ending.returned (.string ⟨(Lib.join (xs.map (·.data.toList)) sep.data.toList).toArray⟩) = .returned v/\Inv ⟨G,w,zo G []⟩ G' w' S' tk' U'/\RepV G' w' v (ren ν (vS ⟨(Lib.join (xs.map (·.data.toList)) sep.data.toList).toArray⟩)) /\
    ν.length=([]:List (Option Box)).length/\ν.Nodup/\(∀i,i<([]:List Box).length->ν[i]? = some (ak i))/\∀(i:Nat) (bx:Box),([]:List (Option Box))[i]? = some (some bx)->∃n,ν[i]? = some n/\S' n=some (bx.ren ν):=by
   intro w' hb
   obtain ⟨i2,e2⟩:=hinv.more (w':=w') (G':=G) (U':=λ_=>False) (λb' hb'=>hb.block b' hb') hb.size hb.os hb.tape hb.output (λ_ _ h=>h) (λ_ _ h => .inl h) rfl (λ_ h=>h) (λh=>by rw [hdm]at h;cases h)
   exact⟨_,G,_,1,_,[],rfl,i2,.d (.str _),rfl,List.nodup_nil,λi hi=>absurd hi (Nat.not_lt_zero i),λi bx hb=>by simp at hb⟩
  obtain ⟨hl,ha⟩:=hargs
  obtain ⟨v0,v1,rfl⟩:∃v0 v1,vargs=[v0,v1]:=by
   match vargs,hl with
   | [v0,v1],_=>exact⟨v0,v1,rfl⟩
  have r0:RepV G w v0 (vL eS xs):=ha 0 (by simp) (by simp)
  have r1:RepV G w v1 (vS sep):=ha 1 (by simp) (by simp)
  rw [r1.d_inv.str_inv]
  have r0':=r0.d_inv
  generalize hys:xs.map eS=ys at r0'
  cases r0' with
  | sl0 a cap =>
   have hn:xs=[]:=by simpa using hys
   subst hn
   refine (h0 a cap sep w).mono ?_
   rintro e w' ⟨rfl,rfl⟩
   exact hfin _ (Below.refl _ _)
  | sl b off cap sz _ us hcap hsz hI hc ho hr =>
   have hlen:ys.length=xs.length:=by rw [<- hys];simp
   have hcell:∀(j:Nat) x,xs[j]? = some x->w.cell? ⟨b,off+j,none⟩=some (.string x):=by
    intro j x hj
    obtain ⟨hj1,hj2⟩:=List.getElem?_eq_some_iff.1 hj
    have hj':j<ys.length:=by omega
    have hy:ys[j]=[D.str x]:=by
     subst hys
     rw [List.getElem_map,hj2];rfl
    have hz:sz=1:=by rw [<- hsz j hj',hy];rfl
    subst hz
    have h2:=hc j 0 hj' (by omega)
    have h3:=hr j 0 hj' (by rw [hy];exact Nat.zero_lt_one)
    have h4:us j 0 = .string x:=by
     have:ys[j][0]'(by rw [hy];exact Nat.zero_lt_one)=D.str x:=by simp [hy]
     rw [this]at h3
     exact h3.str_inv
    rw [h4]at h2
    simpa using h2
   rw [hlen]
   cases xs with
   | nil =>
    refine (h0 (some ⟨b,off,none⟩) cap sep w).mono ?_
    rintro e w' ⟨rfl,rfl⟩
    exact hfin _ (Below.refl _ _)
   | cons x xs =>
    have hb:b<w.heap.size:=by
     rcases Nat.lt_or_ge b w.heap.size with h|h
     ·exact h
     ·have h1:=hcell 0 x rfl
      have e:w.heap[b]? = none:=Array.getElem?_eq_none h
      simp only [World.cell?,e]at h1
      cases h1
    refine (hC b off cap (x::xs) sep w hcell hb hx.1 (by omega) hx.2).mono ?_
    rintro e w' ⟨rfl,hbw⟩
    exact hfin _ hbw
 ·cases hF
end Go.Eng

