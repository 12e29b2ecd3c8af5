/-
  The engine: what the machine does to data, shown once for all programs (part 5).
-/
import Derived.Test.YtnfojnnfidnikaeGreatDoorEng4
import Derived.Lib.LaidTab
import Derived.Lib.ItoaNum
import Derived.Deep.Draws
import Derived.Below
import Derived.Lib.IndexMore
import Derived.Lib.TrimByte
import Derived.Lib.Join
import Derived.Lib.Repeat
import Derived.Lib.TrailingZeros
import Derived.Lib.SlTrimSet
import Derived.Shelf.Strings.FuncGrows
import Derived.Shelf.Unicode.DecodeSlow
import Derived.Lib.ValidU
/-
  THE ENGINE: a slice that is cut in its own box and grows again; boxes of slices that may be empty; maps whose keys are structs.
-/
namespace Go.Eng
set_option linter.unusedSectionVars false
variable [DM]
set_option linter.unusedVariables false
set_option linter.unusedSimpArgs false
theorem vV_take {α:Type} {n:Nm} {sz len:Nat} {xs:List α} (h:0+len<=xs.length):V.vs n sz 0 len=vV n sz (xs.take len):=by
 unfold vV
 rw [List.length_take,Nat.min_eq_left (by omega)]
def kE {α:Type} (b:Bool) (xs:List α):Option Unit:=match b,xs with
 | true,[]=>none
 | _,_=>some ()
theorem kV_g {α:Type} {b:Bool} {n:Nm} {sz:Nat} {xs:List α} {u:Unit} (h:kE b xs=some u):kV b n sz xs=gV n sz xs:=by
 cases b with
 | false=>rfl
 | true=>cases xs with
  | nil=>cases h
  | cons x xs=>rfl
theorem kB_g {α:Type} {b:Bool} {sz:Nat} {enc:α->List D} {xs:List α} {u:Unit} (h:kE b xs=some u):kB b sz enc xs=gB sz enc xs:=by
 cases b with
 | false=>rfl
 | true=>cases xs with
  | nil=>cases h
  | cons x xs=>rfl
section
variable {C:Cfg} {Q:QH} {sl:Nat->V} {H:Hp} {c:Code}
theorem wH_shr {α:Type} {enc:α->List D} {xs:List α} {sz:Nat} {n:Nm} (i m:Nat) (h:H[i]? = some (n,some (bV sz enc xs))) (o:wH C c Q sl (H.set i (n,some (bV sz enc (xs.take m))))):wH C c Q sl H :=
 wT o (λS t f=>⟨supd S n (some (.vec sz ((xs.map enc).take m))),Gst.shr ⟨sl,S,t⟩ n sz m (xs.map enc) (f.get h),by
  have:(xs.map enc).take m=(xs.take m).map enc:=by rw [List.map_take]
  rw [this]
  exact f.set h (λx j=>j)⟩)
end
section
variable {C:Cfg} {sl:Nat->V} {H:Hp} {q:Qm} {all rest:List Oper} {K:(Nat->V)->Hp->Prop}
variable {dst:Option Tmp} {d:Nat} {t ty:TypeId} {pos:String} {after:Array Edge} {g:Option (Nat×Bool)}
theorem Iq {a b:List Nm} {v:V} (h:okV a.length v=true):ren (a++b) v=ren a v:=by
 have:=xJ (a:=a) (b:=b) (vs:=[v]) (by simp only [okL,h,Bool.and_self])
 simpa only [renL,List.cons.injEq,and_true]using this
theorem Nr {a b:List Nm} {x:Box} (h:x.ok a.length=true):x.ren (a++b)=x.ren a:=by
 cases x with
 | cells sz cs=>simp only [Box.ok]at h;simp only [Box.ren,xJ h]
 | pmap es =>
  simp only [Box.ren,Box.pmap.injEq]
  exact List.map_congr_left (λe he=>by rw [Iq (List.all_eq_true.1 h e he)])
 | iter cur left =>
  simp only [Box.ok,Bool.and_eq_true]at h
  simp only [Box.ren,Box.iter.injEq]
  refine⟨?_,List.map_congr_left (λe he=>by rw [Iq (List.all_eq_true.1 h.2 e he)])⟩
  cases cur with
  | none=>rfl
  | some x=>simp only [Option.map_some,Iq (v:=x.2) (by simpa using h.1)]
 | _=>rfl
theorem Q7 {a b:List Nm} {bs:List Box} (h:bs.all (λx=>x.ok a.length)=true):bs.map (λx=>x.ren (a++b))=bs.map (λx=>x.ren a) :=
 List.map_congr_left (λx f=>Nr (List.all_eq_true.1 h x f))
theorem NL {a b:List Nm}:∀(f:List Nat) (ns:List Nm) (bs:List Box),bs.all (λx=>x.ok a.length)=true->Eng.outs (a++b) f ns (bs.map some)=Eng.outs a f ns (bs.map some)
 | [],_,_,_=>rfl
 | _::_,[],_,_=>rfl
 | _::_,_::_,[],_=>rfl
 | i::f,n::ns,b::bs,h=>by
  simp only [List.all_cons,Bool.and_eq_true]at h
  simp only [List.map_cons,Eng.outs,Option.map_some,Nr h.1,NL f ns bs h.2]
theorem Fx {k k':Nat} (f:k<=k') {os:List Box}:os.all (λb=>b.ok k)=true->okOut k' (os.map some)=true:=by
 induction os with
 | nil=>exact λ_=>rfl
 | cons b os j =>
  intro h
  simp only [List.all_cons,Bool.and_eq_true]at h
  simp only [List.map_cons,okOut,Bool.and_eq_true]
  exact⟨Box.ok_mono f h.1,j h.2⟩
theorem RH {α:Type} {enc:α->List D} {sz:Nat} {xs:List α} {f:Operand} {args:List Operand} {M:Array TypeId} {fn:FuncId} {caps j:List V} {r:V} {bs os:List Box} {o:Option Box} (p:Nat) (F:List Nat) (Z B:Nat) {l:List (Nm×Box)} {n:Nm}
  (hp:q=none\/Nat.beq all.length (p+(rest.length+1))=true)
  (hfp:∀S tk,AgR H S tk (⟨some d,.call ⟨.value f,args.toArray,M⟩,ty,pos,after,g⟩::rest)->okQ q all p (l.map (·.1)++[n]) true)
  (hc:FnM C.P fn j (bs++[bV sz enc xs]) r (os.map some++[o]))
  (hf:ev sl f = .fn fn caps) (hb:aJ C.P fn=true) (hl:oU H F=some l) (hv:H[Z]? = some (n,some (bV sz enc xs)))
  (hS:bs.map (λb=>b.ren (l.map (·.1)))=l.map (·.2)) (L:bs.all (λb=>b.ok F.length)=true)
  (Y:(args.map (ev sl)++caps)[B]? = some (vV n sz xs)) (W:j[B]? = some (vV (aA F.length) sz xs))
  (hn:(((args.map (ev sl)++caps).set B .none).flatMap frz).all (λn=>false)=true)
  (ha:((args.map (ev sl)++caps).map co0).set B .none=(renL (l.map (·.1)) j).set B .none) (T:okL F.length (j.set B .none)=true) (hr:okV (F.length+1) r=true)
  (I:os.length=F.length) (hi:(F++[Z]).Nodup) (hO:os.all (λb=>b.ok F.length)=true) (ho:∀b,o=some b->b.ok 0=true)
  (hw:aQ all sl ⟨some d,.call ⟨.value f,args.toArray,M⟩,ty,pos,after,g⟩=some true)
  (v:V) (hvr:ren (l.map (·.1)++[n]) r=v)
  (H':Hp) (hH:(setH H (outs (l.map (·.1)) F (l.map (·.1)) (os.map some))).set Z (n,o)=H')
  (h:aZ (pO q p (l.map (·.1)++[n]) true) C all K rest (upd sl d v) H') :
  aZ q C all K (⟨some d,.call ⟨.value f,args.toArray,M⟩,ty,pos,after,g⟩::rest) sl H:=by
 have J:=(mD hl).1
 have hbs:bs.length=l.length:=by have:=congrArg List.length hS;simpa using this
 have hln:(l.map (·.1)).length=F.length:=by rw [List.length_map,J]
 have N:bs.all (λb=>b.ok (l.map (·.1)).length)=true:=by rw [hln];exact L
 have hO':os.all (λb=>b.ok (l.map (·.1)).length)=true:=by rw [hln];exact hO
 have hp1:=D9 (l:=l) hl hv
 have A:(l++[(n,bV sz enc xs)]).map (·.1)=l.map (·.1)++[n]:=by simp
 have hq:okL (F++[Z]).length j=true:=by
  have:=CY (v:=vV (aA F.length) sz xs) (vX (Nat.le_add_right F.length 1) _ T) (GK (ls_ _))
  rw [nZ W]at this
  simpa using this
 refine Gm p (F++[Z]) hp (λS tk ag=>by rw [A];exact hfp S tk ag) hc hf hb hp1 ?_ ?_ ?_ ?_ hq ?_ (by simp [I]) hi ?_ hw v (by rw [A];exact hvr) H' ?_ ?_
 ·rw [List.map_append,A,Q7 N,hS]
  simp only [List.map_cons,List.map_nil,List.map_append,Box.ren]
 ·rw [List.all_append]
  simp only [Bool.and_eq_true]
  exact⟨List.all_eq_true.2 (λb hb'=>Box.ok_mono (by simp) (List.all_eq_true.1 L b hb')),rfl⟩
 ·intro m hm
  obtain ⟨v',R,hv2⟩:=DI hn hm
  rw [Y]at R
  simp only [so_]at R
  subst R
  rw [A]
  have:m=n:=by simpa [frz,Rh,vV]using hv2
  rw [this];simp
 ·intro S tk ag
  refine ArgsOK.of_map ?_
  have hcw:co S (vV n sz xs)=vV n sz xs:=by
   have hS':S n=some (.vec sz (xs.map enc)):=ag.get hv
   simp only [vV,co,co1,hS']
  have O:(args.map (ev sl)++caps).map (co S)=((args.map (ev sl)++caps).map co0).set B (vV n sz xs):=by
   have h1:(args.map (ev sl)++caps)=((args.map (ev sl)++caps).set B .none).set B (vV n sz xs):=by
    rw [List.set_set,nZ Y]
   have h2:(((args.map (ev sl)++caps).set B .none)).map (co S)=(((args.map (ev sl)++caps).set B .none)).map co0:=Ck (by
    cases hx:((args.map (ev sl)++caps).set B .none).flatMap frz with
    | nil=>rfl
    | cons a b=>rw [hx]at hn;simp at hn)
   have h3:(args.map (ev sl)++caps).map (co S)=((((args.map (ev sl)++caps).set B .none)).map (co S)).set B (co S (vV n sz xs)):=by
    rw [<- List.map_set,<- h1]
   rw [h3,h2,hcw,List.map_set,List.set_set]
  rw [O,Cy ha,A]
  have h1:j=(j.set B .none).set B (vV (aA F.length) sz xs):=by rw [List.set_set,nZ W]
  have h2:renL (l.map (·.1)++[n]) j=(renL (l.map (·.1)) (j.set B .none)).set B (vV n sz xs):=by
   conv=>lhs;rw [h1]
   rw [wI,xJ (by simp only [List.length_map,J];exact T)]
   simp only [vV,ren]
   rw [tJ (n:=n) (by rw [List.getElem?_append_right (by simp [J])];simp [J])]
  rw [h2,wI,List.set_set]
 ·have e:(os.map some++[o]).length=F.length+1:=by simp [I]
  rw [e];exact hr
 ·refine BD (Fx (by simp [I]) hO) ?_
  cases o with
  | none=>rfl
  | some b=>simp only [okOut,Bool.and_true];exact Box.ok_mono (Nat.zero_le _) (ho b rfl)
 ·rw [<- hH,A,H9 _ _ _ _ _ _ _ (by simp [I]) (by simp [J]),Mh,NL _ _ _ hO']
  simp only [setH]
  cases o with
  | none=>rfl
  | some b=>simp only [Option.map_some,vo (ho b rfl)]
 ·rw [A];exact h
end
end Go.Eng

/-
  THE ENGINE: rules for arrays of bytes in a box, and for bytes to a string and back.
-/
namespace Go.Eng
set_option linter.unusedSectionVars false
variable [DM]
open Go
set_option linter.unusedVariables false
set_option linter.unusedSimpArgs false
def M5 {α:Type} (xs:List α) (n:Nat):Option Unit:=if xs.length=n then some ()else none
theorem Qq {α:Type} {xs:List α} {n:Nat} {u:Unit} (h:M5 xs n=some u):xs.length=n:=by
 unfold M5 at h;split at h
 ·assumption
 ·cases h
section
variable {C:Cfg} {sl:Nat->V} {H:Hp} {q:Qm} {all rest:List Oper} {K:(Nat->V)->Hp->Prop}
variable {dst:Option Tmp} {d:Nat} {t ty:TypeId} {pos:String} {after:Array Edge} {g:Option (Nat×Bool)}
theorem MR {e:TypeId} {cs:List V} {m:Nat} (xs:List Int) (p:Nat) (F:q=none\/Nat.beq all.length (p+(rest.length+1))=true) (j:zeroCells C.P e=some cs) (I:EE cs=some (xs.map λn=>D.int .u8 n)) (ho:cs.all kW=true) (f:BP C.P e=some m)
  (o:aQ all sl ⟨some d,.alloc e,ty,pos,after,g⟩=some true)
  (h:∀n:Nm,aZ (pO q p [n] true) C all K rest (upd sl d (.ref n 0 0)) (H++[(n,some (bV 1 (eK .u8) xs))])):aZ q C all K (⟨some d,.alloc e,ty,pos,after,g⟩::rest) sl H :=
 vH rfl p [] F (λ_ _ _=>yM) (λm f=>by cases f) o (λS tk L ok B J=>jb (A:=⟨[],[((d,tk),some (bV 1 (eK .u8) xs))],.ref (d,tk) 0 0⟩) (λc e=>by cases e) (by
  show (bif (BP C.P e).isSome then xD C.P e d tk else bif C.vm.contains d then zb C.P e d tk else Ae C.P e d tk)=_
  rw [f]
  simp only [Option.isSome_some,cond_true,xD,j,I,ho,bV,List.map_map]
  rfl) (J _ _ _ (.inl rfl) ⟨by simp,by simp⟩ (B.new ok rfl _) (h (d,tk))))
theorem Mx {xs:List Int} {x i:Operand} {k:IntKind} {n:Int} {m:Nat} {nm:Nm} (p j:Nat) (N:q=none\/Nat.beq all.length (p+(rest.length+1))=true)
  (R:∀S tk,AgR H S tk (⟨dst,.indexAddr t x i,ty,pos,after,g⟩::rest)->okQ q all p [nm] false) (o:BP C.P t=some m) (L:ev sl x = .ref nm 0 0) (hi:ev sl i = .d (.int k n)) (F:H[j]? = some (nm,some (bV 1 (eK .u8) xs))) (I:0<=n) (h1:n.toNat<m)
  (M:aQ all sl ⟨dst,.indexAddr t x i,ty,pos,after,g⟩=some true) (h:aZ (pO q p [nm] false) C all K rest (dI sl dst (.ref nm n.toNat 0)) H):aZ q C all K (⟨dst,.indexAddr t x i,ty,pos,after,g⟩::rest) sl H:=by
 refine ol p [nm] false N R (wP F) M (λS tk W J B O=>jb (A:=⟨[(nm,bV 1 (eK .u8) xs)],[],.ref nm n.toNat 0⟩) (λc e=>by cases e) ?_ (O _ H ⟨by simp,by simp⟩ (λ_=>rfl) B.tail h))
 show orE (kr C.P t (ev sl x) (ev sl i)) (xE C.P t S (ev sl x) (ev sl i))=_
 obtain ⟨e,T,_,_⟩:=Bi o
 have he:bG C.P t=none:=by unfold bG;rw [T]
 have f:kr C.P t (ev sl x) (ev sl i)=none:=by
  unfold kr
  rw [he,hi];rfl
 rw [f,L,hi]
 show xE C.P t S (.ref nm 0 0) (.d (.int k n))=_
 have hc:(decide (0<=n)&&Nat.blt n.toNat m)=true:=by simp [I,Nat.blt_eq,h1]
 simp only [xE,o,B.get F,hc,cond_true]
theorem SK {xs:List Int} {m:Nat} {nm:Nm} {S:Store} {lo hi:Option V} {a b:Int} {u u':Unit} (h:BP C.P t=some m) (o:S nm=some (bV 1 (eK .u8) xs)) (hl:M5 xs m=some u') (h1:rD 0 lo=some a.toNat) (h2:rD m hi=some b.toNat) (B:xX xs a b=some u) :
  orE ((mo C.P t (.ref nm 0 0) lo hi none).bind gM) (nS C.P t S (.ref nm 0 0) lo hi none)=some ⟨[(nm,bV 1 (eK .u8) xs)],[],.vs nm 1 a.toNat (b.toNat-a.toNat)⟩:=by
 obtain ⟨e,F,_,_⟩:=Bi h
 have f:=Qq hl
 obtain ⟨_,_,A,I⟩:=vJ B
 have j:mo C.P t (.ref nm 0 0) lo hi none=none:=by simp only [mo,F]
 rw [j]
 show nS C.P t S (.ref nm 0 0) lo hi none=_
 simp only [nS,h,o,h1,h2]
 rw [if_pos ⟨A,by omega,by simp [f]⟩]
section
variable {xs:List Int} {m:Nat} {nm:Nm} {x l hi:Operand} {k k':IntKind} {a b:Int} {u u':Unit}
theorem LX (p j:Nat) (N:q=none\/Nat.beq all.length (p+(rest.length+1))=true) (R:∀S tk,AgR H S tk (⟨dst,.slice t x (some l) none none,ty,pos,after,g⟩::rest)->okQ q all p [nm] false) (J:BP C.P t=some m) (L:ev sl x = .ref nm 0 0) (hl:ev sl l = .d (.int k a)) (F:H[j]? = some (nm,some (bV 1 (eK .u8) xs))) (f:M5 xs m=some u') (B:xX xs a xs.length=some u)
  (M:aQ all sl ⟨dst,.slice t x (some l) none none,ty,pos,after,g⟩=some true) (h:aZ (pO q p [nm] false) C all K rest (dI sl dst (.vs nm 1 a.toNat (((xs.length:Int)).toNat-a.toNat))) H):aZ q C all K (⟨dst,.slice t x (some l) none none,ty,pos,after,g⟩::rest) sl H :=
 ol p [nm] false N R (wP F) M (λS tk T I o O=>jb (A:=⟨[(nm,bV 1 (eK .u8) xs)],[],.vs nm 1 a.toNat (((xs.length:Int)).toNat-a.toNat)⟩) (λc e=>by cases e) (by
  show orE ((mo C.P t (ev sl x) (some (ev sl l)) none none).bind gM) (nS C.P t S (ev sl x) (some (ev sl l)) none none)=_
  rw [L,hl];exact SK J (o.get F) f (JB (vJ B).1) (by show some m=_;rw [<- Qq f];rfl) B) (O _ H ⟨by simp,by simp⟩ (λ_=>rfl) o.tail h))
end
theorem Mg {P:Program} {e:TypeId} (h:P.underlying e=some (.int .u8)):zJ P e=true:=by unfold zJ;rw [h]
theorem NT {P:Program} {s t e:TypeId} {x:V} (hs:P.underlying s=some (.slice e)) (j:P.underlying t=some .string) (f:∀s,x ≠ .d (.str s)):zI P s t x=none:=by
 unfold zI
 rw [hs,j]
 split
 ·rename_i h;cases h
 ·exact absurd rfl (f _)
 ·rename_i h h2;cases h
 ·rfl
theorem h_convp {xs:List Int} {x:Operand} {s e:TypeId} {nm:Nm} {a f:Nat} (p j:Nat) (O:q=none\/Nat.beq all.length (p+(rest.length+1))=true)
  (T:∀S tk,AgR H S tk (⟨dst,.convert s t x,ty,pos,after,g⟩::rest)->okQ q all p [nm] false) (hs:C.P.underlying s=some (.slice e)) (I:C.P.underlying t=some .string) (he:C.P.underlying e=some (.int .u8))
  (L:ev sl x = .vs nm 1 a f) (F:H[j]? = some (nm,some (bV 1 (eK .u8) xs))) (o:a+f<=xs.length)
  (N:aQ all sl ⟨dst,.convert s t x,ty,pos,after,g⟩=some true) (h:aZ (pO q p [nm] false) C all K rest (dI sl dst (vS (strOfNums (FI xs a f)))) H):aZ q C all K (⟨dst,.convert s t x,ty,pos,after,g⟩::rest) sl H:=by
 refine ol p [nm] false O T (wP F) N (λS tk W J B M=>jb (A:=⟨[(nm,bV 1 (eK .u8) xs)],[],vS (strOfNums (FI xs a f))⟩) (λc e=>by cases e) ?_ (M _ H ⟨by simp,by simp⟩ (λ_=>rfl) B.tail h))
 show orE ((zI C.P s t (ev sl x)).bind gM) (uL C.P s t S (ev sl x))=_
 rw [L,NT hs I (λ_ e=>by cases e)]
 show uL C.P s t S (.vs nm 1 a f)=_
 have R:S nm=some (.vec 1 (xs.map (eK .u8))):=B.get F
 simp only [uL,hs,I,Mg he,cond_true,R]
 rw [if_pos ⟨trivial,by simpa using o⟩]
 have:((xs.map (eK .u8)).drop a).take f=(FI xs a f).map eU8:=by
  unfold FI
  rw [<- List.map_drop,<- List.map_take];rfl
 rw [this,Om]
 rfl
theorem h_convs {b:ByteArray} {x:Operand} {s e:TypeId} (hs:C.P.underlying s=some .string) (f:C.P.underlying t=some (.slice e)) (he:C.P.underlying e=some (.int .u8)) (j:ev sl x=vS b)
  (o:aQ all sl ⟨dst,.convert s t x,ty,pos,after,g⟩=some true) (h:aZ q C all K rest (dI sl dst (vL (eK .u8) (fU b))) H):aZ q C all K (⟨dst,.convert s t x,ty,pos,after,g⟩::rest) sl H :=
 nW o (λS tk F _ B=>jb (A:=⟨[],[],vL (eK .u8) (fU b)⟩) (λc e=>by cases e) (by
  show orE ((zI C.P s t (ev sl x)).bind gM) (uL C.P s t S (ev sl x))=_
  have:zI C.P s t (vS b)=none:=by unfold zI;rw [hs,f]
  rw [j,this]
  show uL C.P s t S (vS b)=_
  simp only [uL,hs,f,Mg he,cond_true];rfl) (B _ rfl rfl rfl)) h
end
end Go.Eng

/-
  THE ENGINE: strconv.Itoa, by its contract off the shelf; the table that it reads is known.
-/
namespace Go.Eng
set_option linter.unusedSectionVars false
variable [DM]
open Go.Sort
set_option linter.unusedVariables false
set_option linter.unusedSimpArgs false
theorem Mk {P:Program} {G:Gh} {w:World} {name:String} {k:IntKind} {zs:List Int} (hl:∀j,zH j->Lib.TabIs P j name k zs) (J:zs ≠ []) (h:Kn G w):Lib.TabIs P w name k zs:=by
 obtain ⟨j,h1,h2⟩:=h
 have f:=hl j h1
 unfold Lib.TabIs World.var? at f ⊢
 cases hg:P.globalNamed name with
 | none=>rw [hg]at f;simp at f
 | some g =>
  rw [hg]at f
  simp only [ob_]at f ⊢
  have F:g<j.heap.size:=by
   rcases Nat.lt_or_ge g j.heap.size with h|h
   ·exact h
   ·rw [Array.getElem?_eq_none h]at f;cases f
  have hc:∀o,w.cell? ⟨g,o,Option.none⟩=j.cell? ⟨g,o,Option.none⟩:=λo=>(h2 g o F).2
  cases hb:j.heap[g]? with
  | none=>rw [hb]at f;cases f
  | some L =>
   rw [hb]at f
   cases L with
   | cells cs t O =>
    simp only [so_]at f
    have B:∀o,j.cell? ⟨g,o,Option.none⟩=cs[o]? := λo=>by simp [World.cell?,hb]
    cases hw:w.heap[g]? with
    | none =>
     exfalso
     have:=hc 0
     rw [B]at this
     simp only [World.cell?,hw]at this
     rw [f]at this
     cases zs with
     | nil=>exact J rfl
     | cons z zs=>simp at this
    | some I =>
     cases I with
     | cells A t' M =>
      have N:∀o,w.cell? ⟨g,o,Option.none⟩=A[o]? := λo=>by simp [World.cell?,hw]
      have:A=cs:=Array.ext_getElem? (λo=>by rw [<- N,<- B,hc])
      rw [this,f]
     | _ =>
      exfalso
      have:=hc 0
      rw [B]at this
      simp only [World.cell?,hw]at this
      rw [f]at this
      cases zs with
      | nil=>exact J rfl
      | cons z zs=>simp at this
   | _=>cases f
def Qn (n:Int):Option ByteArray:=if -9223372036854775808<=n/\n<=9223372036854775807 then some ⟨(Lib.itoa n).toArray⟩else none
theorem itoa_ok {P:Program} {f:FuncId}
  (M : ∀ (n : Int), -9223372036854775808 ≤ n → n ≤ 9223372036854775807 → ∀ w : World, Lib.TabIs P w "internal/strconv.uint64pow10" .u64 Lib.pow10Tab →
   Calls P f #[.int .i64 n] w λe w'=>e = .returned (.string ⟨(Lib.itoa n).toArray⟩)/\∃k os,w'=grow (w.drewN k) os)
  (hl : ∀ L, zH L → Lib.TabIs P L "internal/strconv.uint64pow10" .u64 Lib.pow10Tab) {n : Int} {r : ByteArray} (A : Qn n = some r) : FnM P f [.d (.int .i64 n)] [] (.d (.str r)) [] := by
 unfold Qn at A
 split at A
 ·rename_i J
  simp only [so_]at A
  subst A
  intro G w I j o
  obtain ⟨v,rfl,N⟩:=o.alone
  have F:RepD G.imm w v (.int .i64 n):=N.d_inv
  cases F with
  | int =>
   refine (M n J.1 J.2 w (Mk hl (by decide) j.kn)).mono ?_
   rintro e w' ⟨rfl,k,os,rfl⟩
   obtain ⟨i2,O⟩:=j.more (w':=grow (w.drewN k) os) (G':=G) (U':=λ_=>False) (λb' B=>by
    show (w.heap++os)[b']? = _
    rw [Array.getElem?_append_left B]) (by simp [grow,World.drewN]) rfl rfl rfl (λ_ _ h=>h) (λ_ _ h => .inl h) rfl (λ_ h=>h) (λ_=>Nat.le_add_right w.drawn k)
   exact⟨_,G,_,1,_,[],rfl,i2,.d (.str _),rfl,List.nodup_nil,λi hi=>absurd hi (Nat.not_lt_zero i),λi bx hb=>by simp at hb⟩
 ·cases A
end Go.Eng

/-
  THE ENGINE: functions over literals, by their contracts off the shelf.
-/
namespace Go.Eng
set_option linter.unusedSectionVars false
variable [DM]
open Go.RowKit (Below)
set_option linter.unusedVariables false
set_option linter.unusedSimpArgs false
def isLit:D->Bool
 | .int _ _ | .bool _ | .str _=>true
 | _=>false
def lv:D->Value
 | .int k n => .int k n
 | .bool b => .bool b
 | .str s => .string s
 | _=>undef
theorem lit_inv {I:Nat->Nat->Prop} {w:World} {v:Value} {d:D} (h:RepD I w v d) (hl:isLit d=true):v=lv d:=by
 cases h with
 | int k n=>rfl
 | bool b=>rfl
 | str s=>rfl
 | agg=>cases hl
 | sl0=>cases hl
 | sl=>cases hl
 | ptr=>cases hl
 | nilp=>cases hl
theorem NH {G:Gh} {w:World}:∀{vs:List Value} {ds:List D},xm G w vs (ds.map V.d)->ds.all isLit=true->vs=ds.map lv
 | [],[],_,_=>rfl
 | [],d::ds,h,_=>by have:=h.1;simp at this
 | v::vs,[],h,_=>by have:=h.1;simp at this
 | v::vs,d::ds,h,hl=>by
  simp only [List.all_cons,Bool.and_eq_true]at hl
  obtain ⟨f,h⟩:=h
  have j:RepV G w v (.d d):=h 0 (by simp) (by simp)
  have e:=lit_inv j.d_inv hl.1
  have:xm G w vs (ds.map V.d):=⟨by simpa using f,λi h1 h2=>by
   have:=h (i+1) (by simpa using h1) (by simpa using h2)
   simpa using this⟩
  rw [e,NH this hl.2];rfl
theorem AA {P:Program} {f:FuncId} (ds:List D) (v:Value) (r:V) (J:ds.all isLit=true) (F:∀G w,RepV G w v (ren [] r))
  (I:∀(G:Gh) (w:World),Kn G w->Calls P f (ds.map lv).toArray w λe w'=>e = .returned v/\Below w.heap.size w w'/\(dmK=true->w.drawn<=w'.drawn)):FnM P f (ds.map V.d) [] r []:=by
 intro G w B j o
 rw [NH o J]
 refine (I G w j.kn).mono ?_
 rintro e w' ⟨rfl,hb,hd⟩
 obtain ⟨i2,L⟩:=j.more (w':=w') (G':=G) (U':=λ_=>False) (λb' A=>hb.block b' A) hb.size hb.os hb.tape hb.output (λ_ _ h=>h) (λ_ _ h => .inl h) rfl (λ_ h=>h) hd
 exact⟨_,G,_,1,_,[],rfl,i2,F _ _,rfl,List.nodup_nil,λi hi=>absurd hi (Nat.not_lt_zero i),λi bx hb=>by simp at hb⟩
def EH (s t:ByteArray):Option Bool:=if s.size<4294967281 then some (Lib.contains s.data.toList t.data.toList)else none
theorem NA {P:Program} {f:FuncId} {g:Nat}
  (B:∀(s t:ByteArray) (m:Int) (w:World),s.size<4294967281->w.cell? ⟨g,0,Option.none⟩=some (.int .i64 m)->Calls P f #[.string s,.string t] w λe w'=>e = .returned (.bool (Lib.contains s.data.toList t.data.toList))/\w'=w)
  (hl:∀j,zH j->∃m,j.cell? ⟨g,0,Option.none⟩=some (.int .i64 m)) {s t:ByteArray} {r:Bool} (h:EH s t=some r):FnM P f [.d (.str s),.d (.str t)] [] (.d (.bool r)) []:=by
 unfold EH at h
 split at h
 ·rename_i hs
  simp only [so_]at h
  subst h
  refine AA [.str s,.str t] _ _ rfl (λG w => .d (.bool _)) (λG w F => ?_)
  obtain ⟨j,h1,h2⟩:=F
  obtain ⟨m,o⟩:=hl j h1
  have hb:g<j.heap.size:=by
   rcases Nat.lt_or_ge g j.heap.size with h|h
   ·exact h
   ·have e:j.heap[g]? = none:=Array.getElem?_eq_none h
    simp only [World.cell?,e]at o
    cases o
  exact (B s t m w hs (by rw [(h2 g 0 hb).2];exact o)).mono (λe w' A=>⟨A.1,by rw [A.2];exact⟨Below.refl _ _,λ_=>Nat.le_refl _⟩⟩)
 ·cases h
end Go.Eng

/-
  THE ENGINE: strings.Join, strings.Repeat, bits.TrailingZeros, by their contracts off the shelf.
-/
namespace Go.Eng
set_option linter.unusedSectionVars false
variable [DM]
open Go
open Go.RowKit (Below)
set_option linter.unusedVariables false
set_option linter.unusedSimpArgs false
theorem OA {P:Program} {w:World} {name:String} {k:IntKind} {zs:List Int} {g:Nat} (h:Lib.TabIs P w name k zs) (f:P.globalNamed name=some g) {j:Nat} {z:Int} (A:zs[j]? = some z):w.cell? ⟨g,j,none⟩=some (.int k z):=by
 unfold Lib.TabIs World.var? at h
 rw [f]at h
 simp only [ob_]at h
 cases hb:w.heap[g]? with
 | none=>rw [hb]at h;cases h
 | some o =>
  rw [hb]at h
  cases o with
  | cells cs t B =>
   simp only [so_]at h
   subst h
   simp [World.cell?,hb,A]
  | _=>cases h
def dbTab:List Int:=Lib.deBruijn64tab.map (λ(n:Nat)=>(n:Int))
def tzF (x:Int):Option Int:=if 0<=x/\x<18446744073709551616 then some (Lib.ctz 64 x.toNat:Nat)else none
theorem tz_ok {P : Program} {f : FuncId} {g : Nat} (F : P.globalNamed "math/bits.deBruijn64tab" = some g)
  (I:∀(x:Nat),x<18446744073709551616->∀w:World,(x≠0->∀j,j<Lib.deBruijn64tab.length->w.cell? ⟨g,j,none⟩=some (.int .u8 (Lib.deBruijn64tab.getD j 0))) ->
   Calls P f #[.int .u64 x] w λe w'=>e = .returned (.int .i64 (Lib.ctz 64 x))/\w'=w)
  (hl : ∀ A, zH A → Lib.TabIs P A "math/bits.deBruijn64tab" .u8 dbTab) {x r : Int} (h : tzF x = some r) : FnM P f [.d (.int .u64 x)] [] (.d (.int .i64 r)) [] := by
 unfold tzF at h
 split at h
 ·rename_i B
  simp only [so_]at h
  subst h
  refine AA [.int .u64 x] _ _ rfl (λG w => .d (.int _ _)) (λG w J => ?_)
  have L:=Mk hl (by decide) J
  have h1:=I x.toNat (by omega) w (λ_ j hj=>OA L F (by unfold dbTab;rw [List.getElem?_map,List.getElem?_eq_getElem hj];simp [List.getD,List.getElem?_eq_getElem hj]))
  have e:(#[.int .u64 (x.toNat:Int)]:Array Value)=([D.int .u64 x].map lv).toArray:=by
   simp [lv,Int.toNat_of_nonneg B.1]
  rw [<- e]
  exact h1.mono (λe w' o=>⟨o.1,by rw [o.2];exact⟨Below.refl _ _,λ_=>Nat.le_refl _⟩⟩)
 ·cases h
def Gr (s:ByteArray) (c:Int):Option ByteArray:=if 0<=c/\c<=9223372036854775807/\s.size*c.toNat<=140737488355328 then some ⟨(Lib.repeatL s.data.toList c.toNat).toArray⟩else none
theorem Q4 (o:dmK=false) {P:Program} {f:FuncId}
  (F:∀(s:ByteArray) (c:Nat) (w:World),c<=9223372036854775807->s.size*c<=140737488355328 ->
   Calls P f #[.string s,.int .i64 c] w λe w'=>e = .returned (.string ⟨(Lib.repeatL s.data.toList c).toArray⟩)/\Below w.heap.size w w')
  {s r:ByteArray} {c:Int} (j:Gr s c=some r):FnM P f [.d (.str s),.d (.int .i64 c)] [] (.d (.str r)) []:=by
 unfold Gr at j
 split at j
 ·rename_i A
  simp only [so_]at j
  subst j
  refine AA [.str s,.int .i64 c] _ _ rfl (λG w => .d (.str _)) (λG w I => ?_)
  have h1:=F s c.toNat w (by omega) A.2.2
  have e:(#[.string s,.int .i64 (c.toNat:Int)]:Array Value)=([D.str s,D.int .i64 c].map lv).toArray:=by
   simp [lv,Int.toNat_of_nonneg A.1]
  rw [<- e]
  exact h1.mono (λe w' B=>⟨B.1,B.2,λh=>by rw [o]at h;cases h⟩)
 ·cases j
def Kj (s t:ByteArray):Option ByteArray:=if s.size<=9223372036854775807/\t.size<4294967281/\t.data.toList.all (λb=>decide (b.toNat<128))=true then some ⟨(Lib.trimS s.data.toList t.data.toList).toArray⟩else none
theorem SQ (A:dmK=false) {P:Program} {f:FuncId}
  (I:∀(s t:ByteArray) (w:World),s.size<=9223372036854775807->t.size<4294967281->(∀(j:Nat) b,t.data.toList[j]? = some b->b.toNat<128) ->
   Calls P f #[.string s,.string t] w λe w'=>e = .returned (.string ⟨(Lib.trimS s.data.toList t.data.toList).toArray⟩)/\Below w.heap.size w w')
  {s t r:ByteArray} (o:Kj s t=some r):FnM P f [.d (.str s),.d (.str t)] [] (.d (.str r)) []:=by
 unfold Kj at o
 split at o
 ·rename_i B
  simp only [so_]at o
  subst o
  exact AA [.str s,.str t] _ _ rfl (λG w => .d (.str _)) (λG w J=>(I s t w B.1 B.2.1 (λj b hb=>of_decide_eq_true (List.all_eq_true.1 B.2.2 b (List.mem_of_getElem? hb)))).mono (λe w' F=>⟨F.1,F.2,λh=>by rw [A]at h;cases h⟩))
 ·cases o
def Pg (xs:List ByteArray) (f:ByteArray):Option ByteArray :=
 if xs.length<=140737488355328/\(Lib.join (xs.map (·.data.toList)) f.data.toList).length<=140737488355328 then some ⟨(Lib.join (xs.map (·.data.toList)) f.data.toList).toArray⟩else none
theorem join_ok (hdm:dmK=false) {P:Program} {f:FuncId}
  (h0:∀(a:Option Addr) (c:Nat) (A:ByteArray) (w:World),Calls P f #[.slice a 0 c,.string A] w λe w'=>e = .returned (.string ⟨#[]⟩)/\w'=w)
  (hC:∀(bk o c:Nat) (xs:List ByteArray) (A:ByteArray) (w:World),(∀(j:Nat) x,xs[j]? = some x->w.cell? ⟨bk,o+j,none⟩=some (.string x))->bk<w.heap.size->xs.length<=140737488355328->xs.length<=c ->
   (Lib.join (xs.map (·.data.toList)) A.data.toList).length<=140737488355328 ->
   Calls P f #[.slice (some ⟨bk,o,none⟩) xs.length c,.string A] w λe w'=>e = .returned (.string ⟨(Lib.join (xs.map (·.data.toList)) A.data.toList).toArray⟩)/\Below w.heap.size w w')
  {xs:List ByteArray} {A r:ByteArray} (T:Pg xs A=some r):FnM P f [vL eS xs,vS A] [] (vS r) []:=by
 unfold Pg at T
 split at T
 ·rename_i hx
  simp only [so_]at T
  subst T
  intro G w B R J
  have I:∀w',Below w.heap.size w w'->∃v G' S' tk' U' ν,Ending.returned (.string ⟨(Lib.join (xs.map (·.data.toList)) A.data.toList).toArray⟩) = .returned v/\Inv ⟨G,w,Ii G []⟩ G' w' S' tk' U'/\RepV G' w' v (ren ν (vS ⟨(Lib.join (xs.map (·.data.toList)) A.data.toList).toArray⟩)) /\
    ν.length=([]:List (Option Box)).length/\ν.Nodup/\(∀i,i<([]:List Box).length->ν[i]? = some (aA i))/\∀(i:Nat) (bx:Box),([]:List (Option Box))[i]? = some (some bx)->∃n,ν[i]? = some n/\S' n=some (bx.ren ν):=by
   intro w' hb
   obtain ⟨i2,e2⟩:=R.more (w':=w') (G':=G) (U':=λ_=>False) (λb' Z=>hb.block b' Z) hb.size hb.os hb.tape hb.output (λ_ _ h=>h) (λ_ _ h => .inl h) rfl (λ_ h=>h) (λh=>by rw [hdm]at h;cases h)
   exact⟨_,G,_,1,_,[],rfl,i2,.d (.str _),rfl,List.nodup_nil,λi hi=>absurd hi (Nat.not_lt_zero i),λi bx hb=>by simp at hb⟩
  obtain ⟨hl,ha⟩:=J
  obtain ⟨v0,O,rfl⟩:∃v0 O,B=[v0,O]:=by
   match B,hl with
   | [v0,O],_=>exact⟨v0,O,rfl⟩
  have r0:RepV G w v0 (vL eS xs):=ha 0 (by simp) (by simp)
  have r1:RepV G w O (vS A):=ha 1 (by simp) (by simp)
  rw [r1.d_inv.str_inv]
  have W:=r0.d_inv
  generalize L:xs.map eS=ys at W
  cases W with
  | sl0 a cap =>
   have hn:xs=[]:=by simpa using L
   subst hn
   refine (h0 a cap A w).mono ?_
   rintro e w' ⟨rfl,rfl⟩
   exact I _ (Below.refl _ _)
  | sl b off cap sz _ us hcap hsz hI hc ho hr =>
   have N:ys.length=xs.length:=by rw [<- L];simp
   have F:∀(j:Nat) x,xs[j]? = some x->w.cell? ⟨b,off+j,none⟩=some (.string x):=by
    intro j x hj
    obtain ⟨hj1,hj2⟩:=List.getElem?_eq_some_iff.1 hj
    have M:j<ys.length:=by omega
    have Y:ys[j]=[D.str x]:=by
     subst L
     rw [List.getElem_map,hj2];rfl
    have hz:sz=1:=by rw [<- hsz j M,Y];rfl
    subst hz
    have h2:=hc j 0 M (by omega)
    have h3:=hr j 0 M (by rw [Y];exact Nat.zero_lt_one)
    have h4:us j 0 = .string x:=by
     have:ys[j][0]'(by rw [Y];exact Nat.zero_lt_one)=D.str x:=by simp [Y]
     rw [this]at h3
     exact h3.str_inv
    rw [h4]at h2
    simpa using h2
   rw [N]
   cases xs with
   | nil =>
    refine (h0 (some ⟨b,off,none⟩) cap A w).mono ?_
    rintro e w' ⟨rfl,rfl⟩
    exact I _ (Below.refl _ _)
   | cons x xs =>
    have hb:b<w.heap.size:=by
     rcases Nat.lt_or_ge b w.heap.size with h|h
     ·exact h
     ·have h1:=F 0 x rfl
      have e:w.heap[b]? = none:=Array.getElem?_eq_none h
      simp only [World.cell?,e]at h1
      cases h1
    refine (hC b off cap (x::xs) A w F hb hx.1 (by omega) hx.2).mono ?_
    rintro e w' ⟨rfl,hbw⟩
    exact I _ hbw
 ·cases T
end Go.Eng

/-
  THE ENGINE: results of which the first is a new slice and the others are data.
-/
namespace Go.Eng
set_option linter.unusedSectionVars false
variable [DM]
set_option linter.unusedVariables false
def nN (ds:List D) (v:V):V:=Jp (v::ds.map V.d)
theorem JF (ρ:List Nm):∀ds:List D,renL ρ (ds.map V.d)=ds.map V.d
 | []=>rfl
 | d::ds=>by simp only [List.map_cons,renL,ren,JF ρ ds]
theorem Mo (k:Nat):∀ds:List D,okL k (ds.map V.d)=true
 | []=>rfl
 | d::ds=>by simp only [List.map_cons,okL,okV,Mo k ds,Bool.and_self]
theorem rq (ρ:List Nm) (ds:List D) (v:V):ren ρ (nN ds v)=nN ds (ren ρ v):=by
 cases ds with
 | nil=>rfl
 | cons d ds =>
  show V.tup (renL ρ (v::(d::ds).map V.d))=_
  simp only [renL,JF];rfl
theorem Bj {k:Nat} (ds:List D) {v:V} (h:okV k v=true):okV k (nN ds v)=true:=by
 cases ds with
 | nil=>exact h
 | cons d ds =>
  show okL k (v::(d::ds).map V.d)=true
  simp only [okL,Mo,h,Bool.and_self]
section
variable {C:Cfg} {sl:Nat->V} {H:Hp} {q:Qm} {all rest:List Oper} {K:(Nat->V)->Hp->Prop}
variable {dst:Option Tmp} {d:Nat} {t ty:TypeId} {pos:String} {after:Array Edge} {g:Option (Nat×Bool)}
theorem DD {α:Type} {enc:α->List D} {sz:Nat} {xs:List α} {f:Operand} {args:List Operand} {L:Array TypeId} {fn:FuncId} {caps A:List V} {Sin outs:List Box} (ds:List D) (o:List Nat) {l:List (Nm×Box)}
  (hc:FnM C.P fn A Sin (nN ds (gV (aA o.length) sz xs)) (outs.map some++gO sz enc xs))
  (O:ev sl f = .fn fn caps) (hb:aJ C.P fn=true) (hl:oU H o=some l) (Y:Sin.map (λb=>b.ren (l.map (·.1)))=l.map (·.2)) (F:Sin.all (λb=>b.ok o.length)=true)
  (Z:((args.map (ev sl)++caps).flatMap frz).all (λn=>false)=true) (ha:(args.map (ev sl)++caps).map co0=renL (l.map (·.1)) A) (J:okL o.length A=true)
  (j:outs.length=o.length) (hi:o.Nodup) (hO:outs.all (λb=>b.ok 0)=true)
  (W:aQ all sl ⟨some d,.call ⟨.value f,args.toArray,L⟩,ty,pos,after,g⟩=some true)
  (T:Hp) (R:∀ν,setH H (Eng.outs ν o (l.map (·.1)) (outs.map some))=T)
  (h:∀n:Nm,aZ none C all K rest (upd sl d (nN ds (gV n sz xs))) (T++[(n,gB sz enc xs)])) :
  aZ none C all K (⟨some d,.call ⟨.value f,args.toArray,L⟩,ty,pos,after,g⟩::rest) sl H:=by
 have M:=(mD hl).1
 have B:∀{k:Nat} {os:List Box},os.all (λb=>b.ok 0)=true->okOut k (os.map some)=true:=by
  intro k os
  induction os with
  | nil=>exact λ_=>rfl
  | cons b os I =>
   intro h
   simp only [List.all_cons,Bool.and_eq_true]at h
   simp only [List.map_cons,okOut,Bool.and_eq_true]
   exact⟨Box.ok_mono (Nat.zero_le _) h.1,I h.2⟩
 cases xs with
 | nil =>
  have N:FnM C.P fn A Sin (nN ds .nil) (outs.map some):=by simpa [gO,gV]using hc
  refine KN o 0 N O hb hl Y F Z ha J (Bj ds rfl) (by simp [j]) hi (B hO) (by rw [List.drop_of_length_le (by simp [j])];rfl) W (λν => ?_)
  simp only [List.range_zero,List.map_nil,List.append_nil,news,R,rq]
  exact KT (λn=>h n)
 | cons x xs =>
  refine KN (r:=nN ds (gV (aA o.length) sz (x::xs))) (Sout:=outs.map some++[some (.vec sz ((x::xs).map enc))]) o 1 hc O hb hl Y F Z ha J ?_ (by simp [j]) hi ?_ ?_ W (λν => ?_)
  ·exact Bj ds (R3 (by simp [j]) _)
  ·have:∀{k:Nat} {a b:List (Option Box)},okOut k a=true->okOut k b=true->okOut k (a++b)=true:=by
    intro k a b
    induction a with
    | nil=>exact λ_ h=>h
    | cons y a I =>
     intro h1 h2
     cases y with
     | none=>exact I h1 h2
     | some y=>simp only [List.cons_append,okOut,Bool.and_eq_true]at h1 ⊢;exact⟨h1.1,I h1.2 h2⟩
   exact this (B hO) rfl
  ·rw [List.drop_append_of_le_length (by simp [j]),List.drop_of_length_le (by simp [j])];rfl
  ·have e1:ren (l.map (·.1)++(List.range 1).map ν) (gV (aA o.length) sz (x::xs))=gV (ν 0) sz (x::xs):=by
    rw [R5,tJ]
    simp [M]
   have e2:∀ν,Eng.outs ν o (l.map (·.1)) (outs.map some++[some (.vec sz ((x::xs).map enc))])=Eng.outs ν o (l.map (·.1)) (outs.map some):=by
    intro ν
    have:∀(o:List Nat) (ns:List Nm) (a b:List (Option Box)),o.length=a.length->Eng.outs ν o ns (a++b)=Eng.outs ν o ns a:=by
     intro o
     induction o with
     | nil=>intro ns a b h;cases a with
      | nil=>cases b <;> rfl
      | cons _ _=>simp at h
     | cons i o I=>intro ns a b h;cases a with
      | nil=>simp at h
      | cons y a=>cases ns with
       | nil=>rfl
       | cons n ns=>simp only [List.cons_append,Eng.outs];rw [I ns a b (by simpa using h)]
    exact this _ _ _ _ (by simp [j])
   rw [rq,e1,e2,R]
   rw [List.drop_append_of_le_length (by simp [j]),List.drop_of_length_le (by simp [j])]
   exact h (ν 0)
theorem yD {α:Type} {enc:α->List D} {sz t:Nat} {xs:List α} {n:Nm} {outs:List Box} {e:Exit} {L:List ResultVar} (ds:List D) (he:e = .normal\/e = .ret) (j:Nat) (h1:sl t=gV n sz xs) (B:GX C sl H L (ds.map V.d)) (h2:H[j]? = some (n,gB sz enc xs)) (hj:Nat.ble outs.length j=true) (R:outs.all (λb=>b.ok 0)=true)
  (M:H.take outs.length=qW 0 outs):qI C (.tmp t::L) outs.length (nN ds (gV (aA outs.length) sz xs)) (outs.map some++gO sz enc xs) e sl H:=by
 have hj:=Nat.le_of_ble_eq_true hj
 have f:∀i (h:i<outs.length),H[i]? = some (aA i,some outs[i]):=λi hi=>by
  have:=sQ outs 0 i hi
  rw [Nat.zero_add,<- M,List.getElem?_take,if_pos hi]at this
  exact this
 have ho:∀{ν:List Nm} {l:List Box} {j:Nat} {F:List Nat} {ns:List Nm} {bs:List (Option Box)},(∀b∈l,b.ok 0=true)->(∀i (h:i<l.length),H[j+i]? = some (aA (j+i),some l[i]))->Ba H ν F ns bs->Ba H ν (List.range' j l.length++F) ((List.range' j l.length).map aA++ns) (l.map some++bs):=by
  intro ν l
  induction l with
  | nil=>exact λ_ _ h=>h
  | cons b l I =>
   intro j F ns bs hb J B
   simp only [List.length_cons,List.range'_succ,List.map_cons,List.cons_append]
   refine⟨?_,I (λx N=>hb x (by simp [N])) (λi hi => ?_) B⟩
   ·have:=J 0 (by simp)
    simp only [Option.map_some,vo (hb b (by simp))]
    exact this
   ·have:=J (i+1) (by simpa using hi)
    rw [show j+1+i=j+(i+1) by omega]
    exact this
 have o:∀b∈outs,b.ok 0=true:=λb hb=>List.all_eq_true.1 R b hb
 have A:∀vs:List V,CoL H vs vs:=λvs=>by
  induction vs with
  | nil=>exact .nil
  | cons v vs I=>exact .cons (.inl rfl) I
 cases xs with
 | nil =>
  refine⟨he,.nil::ds.map V.d,.nil::ds.map V.d,List.range' 0 outs.length++[],(List.range' 0 outs.length).map aA++[],⟨h1,B⟩,A _,?_,ho o (λi hi=>by rw [Nat.zero_add];exact f i hi) trivial,by simp [List.nodup_range'],λi hi=>by simp [hi]⟩
  show nN ds .nil=_
  rw [rq];rfl
 | cons x xs =>
  refine⟨he,.vs n sz 0 (x::xs).length::ds.map V.d,.vs n sz 0 (x::xs).length::ds.map V.d,List.range' 0 outs.length++[j],(List.range' 0 outs.length).map aA++[n],⟨h1,B⟩,A _,?_,
   ho o (λi hi=>by rw [Nat.zero_add];exact f i hi) ⟨h2,trivial⟩,?_,λi hi=>by rw [List.getElem?_append_left (by simpa using hi)];simp [hi]⟩
  ·show nN ds (.vs n sz 0 (x::xs).length)=ren _ (nN ds (.vs (aA outs.length) sz 0 (x::xs).length))
   rw [rq]
   simp only [ren]
   rw [tJ]
   rw [List.getElem?_append_right (by simp)];simp
  ·rw [List.nodup_append]
   refine⟨List.nodup_range',by simp,λa O b hb => ?_⟩
   simp only [List.mem_singleton]at hb
   simp only [List.mem_range'_1]at O
   omega
end
end Go.Eng

/-
  THE ENGINE: strings.ContainsFunc by its contract off the shelf (only where draws are not counted).
-/
namespace Go.Eng
set_option linter.unusedSectionVars false
variable [DM]
open Go.Proofs
open Go.RowKit (Below)
set_option linter.unusedVariables false
set_option linter.unusedSimpArgs false
def OW (s:ByteArray):Option Bool:=if s.size<=9223372036854775807 then some (Lib.validD s.data.toList)else none
theorem tabs_kn {G:Gh} {w:World} {g3 g4:Nat} (h:Kn G w) (hl:∀f,zH f->Lib.Utf8Tabs g3 g4 f):Lib.Utf8Tabs g3 g4 w:=by
 obtain ⟨f,h1,h2⟩:=h
 obtain ⟨A,a2⟩:=hl f h1
 have key:∀(b o:Nat) (v:Value),f.cell? ⟨b,o,Option.none⟩=some v->w.cell? ⟨b,o,Option.none⟩=some v:=λb o v j=>by
  have hb:b<f.heap.size:=by
   rcases Nat.lt_or_ge b f.heap.size with h|h
   ·exact h
   ·have e:f.heap[b]? = none:=Array.getElem?_eq_none h
    simp only [World.cell?,e]at j
    cases j
  rw [(h2 b o hb).2];exact j
 exact⟨λc hc=>key _ _ _ (A c hc),λi hi=>⟨key _ _ _ (a2 i hi).1,key _ _ _ (a2 i hi).2⟩⟩
theorem Uu (j:dmK=false) {P:Program} {f:FuncId} {g3 g4:Nat}
  (F:∀(s:ByteArray) (w:World),s.size<=9223372036854775807->Lib.Utf8Tabs g3 g4 w->Calls P f #[.string s] w λe w'=>e = .returned (.bool (Lib.validD s.data.toList))/\Below w.heap.size w w')
  (hl:∀B,zH B->Lib.Utf8Tabs g3 g4 B) {s:ByteArray} {r:Bool} (h:OW s=some r):FnM P f [.d (.str s)] [] (.d (.bool r)) []:=by
 unfold OW at h
 split at h
 ·rename_i hs
  simp only [so_]at h
  subst h
  exact AA [.str s] _ _ rfl (λG w => .d (.bool _)) (λG w I=>(F s w hs (tabs_kn I hl)).mono (λe w' o=>⟨o.1,o.2,λA=>by rw [j]at A;cases A⟩))
 ·cases h
end Go.Eng

/-
  THE ENGINE: functions that hand a slice through: it is handed in with its box, and handed back (or nil), with data behind it.
-/
namespace Go.Eng
set_option linter.unusedSectionVars false
variable [DM]
set_option linter.unusedVariables false
def RB {α β:Type} (xs:List α) (ys:List β):Option Unit:=bif xs.isEmpty && !ys.isEmpty then none else some ()
theorem Rl {α β:Type} {xs:List α} {ys:List β} {u:Unit} (h:RB xs ys=some u):xs=[]->ys=[]:=by
 rintro rfl
 cases ys with
 | nil=>rfl
 | cons y ys=>cases h
theorem O5 {α β:Type} {xs:List α} {ys:List β} (h:xs=[]->ys=[]):RB xs ys=some ():=by
 cases xs with
 | nil=>rw [h rfl];rfl
 | cons x xs=>rfl
section
variable {C:Cfg} {sl:Nat->V} {H:Hp} {q:Qm} {all rest:List Oper} {K:(Nat->V)->Hp->Prop}
variable {dst:Option Tmp} {d:Nat} {t ty:TypeId} {pos:String} {after:Array Edge} {g:Option (Nat×Bool)}
def cutO {α β:Type} (xs:List α) (ys:List β):Option Unit:=bif xs.isEmpty||ys.isEmpty then none else some ()
theorem Qv {α β:Type} {xs:List α} {ys:List β} {u:Unit} (h:cutO xs ys=some u):ys ≠ []:=by
 rintro rfl
 unfold cutO at h
 rw [List.isEmpty_nil,Bool.or_true]at h
 cases h
theorem Uw {α β:Type} {xs:List α} {ys:List β} {u:Unit} (h:cutO xs ys=some u):xs=[]->ys=[]:=by
 rintro rfl
 cases h
theorem KA {α:Type} {enc:α->List D} {sz t:Nat} {xs ys:List α} {bs os:List Box} {e:Exit} {N:List ResultVar} (ds:List D) (he:e = .normal\/e = .ret) (h1:sl t=gV (aA os.length) sz ys) (F:GX C sl H N (ds.map V.d)) (L:xs=[]->ys=[])
  (o:bs.length=os.length) (hj:H[os.length]? = some (aA os.length,gB sz enc ys)) (Z:os.all (λb=>b.ok 0)=true) (R:H.take os.length=qW 0 os) :
  qI C (.tmp t::N) (bs++gI sz enc xs).length (nN ds (gV (aA os.length) sz ys)) (os.map some++gT xs (gB sz enc ys)) e sl H:=by
 have f:∀i (h:i<os.length),H[i]? = some (aA i,some os[i]):=λi hi=>by
  have:=sQ os 0 i hi
  rw [Nat.zero_add,<- R,List.getElem?_take,if_pos hi]at this
  exact this
 have ho:∀{ν:List Nm} {l:List Box} {j:Nat} {I:List Nat} {ns:List Nm} {bs:List (Option Box)},(∀b∈l,b.ok 0=true)->(∀i (h:i<l.length),H[j+i]? = some (aA (j+i),some l[i]))->Ba H ν I ns bs->Ba H ν (List.range' j l.length++I) ((List.range' j l.length).map aA++ns) (l.map some++bs):=by
  intro ν l
  induction l with
  | nil=>exact λ_ _ h=>h
  | cons b l J =>
   intro j I ns bs hb M F
   simp only [List.length_cons,List.range'_succ,List.map_cons,List.cons_append]
   refine⟨?_,J (λx T=>hb x (by simp [T])) (λi hi => ?_) F⟩
   ·have:=M 0 (by simp)
    simp only [Option.map_some,vo (hb b (by simp))]
    exact this
   ·have:=M (i+1) (by simpa using hi)
    rw [show j+1+i=j+(i+1) by omega]
    exact this
 have A:∀b∈os,b.ok 0=true:=λb hb=>List.all_eq_true.1 Z b hb
 have B:∀vs:List V,CoL H vs vs:=λvs=>by
  induction vs with
  | nil=>exact .nil
  | cons v vs J=>exact .cons (.inl rfl) J
 cases xs with
 | nil =>
  have O:=L rfl
  subst O
  refine⟨he,.nil::ds.map V.d,.nil::ds.map V.d,List.range' 0 os.length++[],(List.range' 0 os.length).map aA++[],⟨h1,F⟩,B _,?_,ho A (λi hi=>by rw [Nat.zero_add];exact f i hi) trivial,by simp [List.nodup_range'],λi hi => ?_⟩
  ·show nN ds .nil=_
   rw [rq];rfl
  ·have:i<os.length:=by simpa [gI,o]using hi
   simp [this]
 | cons x xs =>
  refine⟨he,gV (aA os.length) sz ys::ds.map V.d,gV (aA os.length) sz ys::ds.map V.d,List.range' 0 os.length++[os.length],(List.range' 0 os.length).map aA++[aA os.length],⟨h1,F⟩,B _,?_,
   ho A (λi hi=>by rw [Nat.zero_add];exact f i hi) ⟨?_,trivial⟩,?_,λi hi => ?_⟩
  ·show nN ds (gV (aA os.length) sz ys)=_
   rw [rq]
   cases ys with
   | nil=>rfl
   | cons y ys =>
    simp only [gV,ren]
    rw [tJ (n:=aA os.length) (by rw [List.getElem?_append_right (by simp)];simp)]
  ·rw [hj]
   cases ys with
   | nil=>rfl
   | cons y ys=>rfl
  ·rw [List.nodup_append]
   refine⟨List.nodup_range',by simp,λa W b hb => ?_⟩
   simp only [List.mem_singleton]at hb
   simp only [List.mem_range'_1]at W
   omega
  ·have Y:i<os.length+1:=by simpa [gI,o]using hi
   by_cases hlt:i<os.length
   ·rw [List.getElem?_append_left (by simpa using hlt)];simp [hlt]
   ·have:i=os.length:=by omega
    subst this
    rw [List.getElem?_append_right (by simp)];simp
theorem NZ {α:Type} {enc:α->List D} {sz:Nat} {xs ys:List α} {f:Operand} {args:List Operand} {ats:Array TypeId} {fn:FuncId} {caps j:List V} {bs os:List Box} (ds:List D) (p:Nat) (A:List Nat) (M B:Nat) {l:List (Nm×Box)} {n:Nm}
  (F:q=none\/Nat.beq all.length (p+(rest.length+1))=true)
  (hfp:∀S tk,AgR H S tk (⟨some d,.call ⟨.value f,args.toArray,ats⟩,ty,pos,after,g⟩::rest)->okQ q all p (l.map (·.1)++[n]) true)
  (hc:FnM C.P fn j (bs++gI sz enc xs) (nN ds (gV (aA A.length) sz ys)) (os.map some++gT xs (gB sz enc ys))) (hxy:xs=[]->ys=[])
  (hf:ev sl f = .fn fn caps) (hb:aJ C.P fn=true) (hl:oU H A=some l) (hv:H[M]? = some (n,gB sz enc xs))
  (hS:bs.map (λb=>b.ren (l.map (·.1)))=l.map (·.2)) (T:bs.all (λb=>b.ok A.length)=true)
  (hw1:(args.map (ev sl)++caps)[B]? = some (gV n sz xs)) (Y:j[B]? = some (gV (aA A.length) sz xs))
  (hn:(((args.map (ev sl)++caps).set B .none).flatMap frz).all (λn=>false)=true)
  (ha:((args.map (ev sl)++caps).map co0).set B .none=(renL (l.map (·.1)) j).set B .none) (hok:okL A.length (j.set B .none)=true)
  (N:os.length=A.length) (hi:(A++[M]).Nodup) (hO:os.all (λb=>b.ok A.length)=true)
  (hw:aQ all sl ⟨some d,.call ⟨.value f,args.toArray,ats⟩,ty,pos,after,g⟩=some true)
  (H':Hp) (hH:(setH H (outs (l.map (·.1)) A (l.map (·.1)) (os.map some))).set M (n,gB sz enc ys)=H')
  (h:aZ (pO q p (l.map (·.1)++[n]) true) C all K rest (upd sl d (nN ds (gV n sz ys))) H') :
  aZ q C all K (⟨some d,.call ⟨.value f,args.toArray,ats⟩,ty,pos,after,g⟩::rest) sl H:=by
 have hll:=(mD hl).1
 by_cases hbx:xs=[]
 ·subst hbx
  have hys:=hxy rfl
  subst hys
  have hwn:(args.map (ev sl)++caps)[B]? = some .nil:=hw1
  have J:j[B]? = some .nil:=Y
  have hivs:M∉A:=by
   rw [List.nodup_append]at hi
   exact λI=>hi.2.2 M I M (by simp) rfl
  have hset:∀{l':List (Nat×Nm×Option Box)} {H0:Hp},(∀p∈l',p.1≠M)->(setH H0 l')[M]? = H0[M]? := by
   intro l'
   induction l' with
   | nil=>intro H0 _;rfl
   | cons x l' ih =>
    intro H0 R
    obtain ⟨i,m,b⟩:=x
    simp only [setH]
    rw [ih (λp F=>R p (by simp [F]))]
    have:i≠M:=R (i,m,b) (by simp)
    rw [List.getElem?_set_ne this]
  have Z:∀(ν:List Nm) (A:List Nat) (ns:List Nm) (os:List (Option Box)),∀p∈outs ν A ns os,p.1∈A:=by
   intro ν A
   induction A with
   | nil=>intro ns os p F;simp [outs]at F
   | cons i A ih =>
    intro ns os p F
    cases ns with
    | nil=>simp [outs]at F
    | cons m ns=>cases os with
     | nil=>simp [outs]at F
     | cons o os =>
      simp only [outs,List.mem_cons]at F
      rcases F with rfl|F
      ·simp
      ·exact List.mem_cons_of_mem _ (ih _ _ _ F)
  have O:j=(j.set B .none).set B .nil:=by rw [List.set_set,nZ J]
  have hq:okL A.length j=true:=by
   have:=CY (v := .nil) hok rfl
   rwa [nZ J]at this
  have hc0:FnM C.P fn j bs (nN ds .nil) (os.map some):=by simpa [gI,gT,gV]using hc
  refine Gm p A F (λS tk ag=>Lc (λm I=>by simp [I]) (hfp S tk ag)) hc0 hf hb hl hS T ?_ ?_ hq (Bj ds rfl) (by simp [N]) (List.nodup_append.1 hi).1 (Fx (by simp [N]) hO) hw (nN ds .nil) (by rw [rq];rfl) H' ?_ ?_
  ·intro m I
   obtain ⟨v',hv1,hv2⟩:=DI hn I
   rw [hwn]at hv1
   simp only [so_]at hv1
   subst hv1
   cases hv2
  ·intro S tk ag
   have h2:((args.map (ev sl)++caps).set B .none).map (co S)=((args.map (ev sl)++caps).set B .none).map co0:=Ck (by
    cases R:((args.map (ev sl)++caps).set B .none).flatMap frz with
    | nil=>rfl
    | cons a b=>rw [R]at hn;simp at hn)
   have W:ArgsOK S ((args.map (ev sl)++caps).set B .none) ((renL (l.map (·.1)) j).set B .none):=by
    refine ArgsOK.of_map ?_
    rw [h2,List.map_set]
    exact ha
   have:=ArgsOK.set (x' := .nil) (y' := .nil) (.inl rfl) W
   have e:(renL (l.map (·.1)) j).set B .nil=renL (l.map (·.1)) j:=by
    conv=>rhs;rw [O,wI]
    conv=>lhs;rw [O,wI,List.set_set]
    rfl
   rw [nZ hwn,e]at this
   exact this
  ·rw [<- hH]
   symm
   apply nZ
   rw [hset (λp F e=>hivs (e ▸ Z _ _ _ _ p F)),hv]
  ·cases q with
   | none=>exact h
   | some Γ =>
    intro S tk ok ag k L hk hL hO'
    refine h S tk ok ag k L hk (λp0 J => ?_) (λe he m I => ?_)
    ·rcases hL p0 J with h1|⟨e,h1,h2,h3,h4,h5⟩
     ·exact .inl h1
     ·refine .inr ?_
      rcases List.mem_append.1 h1 with h1|h1
      ·exact⟨e,List.mem_append.2 (.inl h1),h2,h3,h4,h5⟩
      ·rw [List.mem_singleton]at h1;subst h1
       exact⟨(p,l.map (·.1)++[n],true),by simp,h2,λx R=>by simp only [List.mem_append];exact .inl (h3 x R),λx R=>by simp only [List.mem_append];exact .inl (h4 x R),λe=>by cases e⟩
    ·rcases List.mem_append.1 he with he|he
     ·exact hO' e (List.mem_append.2 (.inl he)) m I
     ·rw [List.mem_singleton]at he;subst he
      simp only at I
      rcases List.mem_append.1 I with I|I
      ·exact hO' (p,l.map (·.1),true) (by simp) m I
      ·rw [List.mem_singleton]at I;subst I
       rw [<- hH]at ag
       have:((setH H (outs (l.map (·.1)) A (l.map (·.1)) (os.map some))).set M (m,none))[M]? = some (m,none):=by
        have h1:=(List.getElem?_eq_some_iff.1 hv).1
        rw [List.getElem?_set_self (by rw [Qi];exact h1)]
       exact (ag.at_ _ (List.mem_of_getElem? this)).1
 ·rw [Gb hbx]at hv
  rw [Qh hbx]at hw1 Y
  have hc':FnM C.P fn j (bs++[bV sz enc xs]) (nN ds (gV (aA A.length) sz ys)) (os.map some++[gB sz enc ys]):=by
   cases xs with
   | nil=>exact absurd rfl hbx
   | cons x xs=>exact hc
  refine RH (v:=nN ds (gV n sz ys)) p A M B F hfp hc' hf hb hl hv hS T hw1 Y hn ha hok ?_ N hi hO jm hw ?_ H' hH h
  ·refine Bj ds ?_
   cases ys with
   | nil=>rfl
   | cons y ys=>exact GK (ls_ _)
  ·rw [rq]
   cases ys with
   | nil=>rfl
   | cons y ys =>
    simp only [gV,ren]
    rw [tJ (n:=n) (by rw [List.getElem?_append_right (by simp [hll])];simp [hll])]
end
end Go.Eng

/-
  THE ENGINE: a function that reads a slice as data reads it out of its box, too: the box is as it was.
-/
namespace Go.Eng
set_option linter.unusedSectionVars false
variable [DM]
set_option linter.unusedVariables false
end Go.Eng

/-
  THE ENGINE: grids: slices of slices of which each row is a box of its own; the rows' boxes stand behind all others.
-/
namespace Go.Eng
set_option linter.unusedSectionVars false
variable [DM]
set_option linter.unusedVariables false
section rows
variable {α:Type} {enc:α->List D} {sz:Nat}
def Dh (ns:Nat->Nm) (i:Nat) (m:Nm):Nat->Nm:=λj=>if j=i then m else ns j
theorem P9 (ns:Nat->Nm) (i:Nat) (m:Nm):Dh ns i m i=m:=if_pos rfl
theorem R9 {β γ:Type} (f:Nat->β->γ) (g:Nat->β->γ) (l:List β) (i:Nat) (b:β) (h:∀j x,j≠i->g j x=f j x):(l.set i b).mapIdx g=(l.mapIdx f).set i (g i b):=by
 refine List.ext_getElem? (λj => ?_)
 rw [List.getElem?_mapIdx,List.getElem?_set,List.getElem?_set,List.getElem?_mapIdx,List.length_mapIdx]
 by_cases hj:i=j
 ·subst hj
  simp only [if_true]
  split <;> rfl
 ·rw [if_neg hj,if_neg hj]
  cases l[j]? with
  | none=>rfl
  | some x=>simp only [Option.map_some];rw [h j x (λe=>hj e.symm)]
end rows
theorem TY {H0 H:Hp} (O:H0.Perm H):pre H0 H:=by
 induction O with
 | nil=>exact⟨[],List.nodup_nil,rfl⟩
 | @cons x l1 l2 _ R =>
  obtain ⟨f,h1,h2⟩:=R
  refine⟨0::f.map (· + 1),?_,?_⟩
  ·refine List.nodup_cons.2 ⟨by simp,?_⟩
   exact List.Pairwise.map _ (λa b h e=>h (by omega)) h1
  ·simp only [List.map_cons,List.map_map,List.getElem?_cons_zero]
   congr 1
 | swap x y l =>
  refine⟨1::0::(List.range l.length).map (· + 2),?_,?_⟩
  ·refine List.nodup_cons.2 ⟨by simp,List.nodup_cons.2 ⟨by simp,?_⟩⟩
   exact List.Pairwise.map _ (λa b h e=>h (by omega)) List.nodup_range
  ·simp only [List.map_cons,List.map_map,List.getElem?_cons_zero,List.getElem?_cons_succ]
   congr 2
   refine List.ext_getElem (by simp) (λi h1 h2 => ?_)
   simp only [List.getElem_map,List.getElem_range,Function.comp_apply,List.getElem?_cons_succ]
   simp only [List.length_map,List.length_range]at h1
   rw [List.getElem?_eq_getElem h1]
 | trans _ _ J I =>
  obtain ⟨f,h1,h2⟩:=J
  obtain ⟨N,L,W⟩:=I
  obtain ⟨hl,T⟩:=Bv h2
  obtain ⟨kl,Z⟩:=Bv W
  have hb:∀i∈f,i<N.length:=λi hi=>by
   obtain ⟨j,hj,rfl⟩:=List.getElem_of_mem hi
   have:=(List.getElem?_eq_some_iff.1 (T j hj (by omega))).1
   omega
  refine⟨f.map (λi=>N.getD i 0),?_,?_⟩
  ·rw [List.nodup_iff_pairwise_ne]at h1 L ⊢
   refine List.pairwise_map.2 ((List.Pairwise.and_mem.1 h1).imp (λ{a b} h e => ?_))
   obtain ⟨Y,o,B⟩:=h
   have F:=hb a Y
   have A:=hb b o
   simp only [List.getD_eq_getElem?_getD,List.getElem?_eq_getElem F,List.getElem?_eq_getElem A,Option.getD_some]at e
   rcases Nat.lt_or_gt_of_ne B with h|h
   ·exact (List.pairwise_iff_getElem.1 L) a b F A h e
   ·exact (List.pairwise_iff_getElem.1 L) b a A F h e.symm
  ·rw [<- h2,List.map_map]
   refine List.map_congr_left (λi hi => ?_)
   have M:=hb i hi
   simp only [Function.comp_apply,List.getD_eq_getElem?_getD,List.getElem?_eq_getElem M,Option.getD_some]
   rw [Z i M (by omega),List.getElem?_eq_getElem (by omega)]
theorem Uj {C0 C1 T:Hp} (h:pre C0 C1):pre (C0++T) (C1++T):=by
 obtain ⟨o,h1,h2⟩:=h
 obtain ⟨hl,B⟩:=Bv h2
 have hb:∀i∈o,i<C1.length:=λi hi=>by
  obtain ⟨j,hj,rfl⟩:=List.getElem_of_mem hi
  exact (List.getElem?_eq_some_iff.1 (B j hj (by omega))).1
 refine⟨o++(List.range T.length).map (· + C1.length),?_,?_⟩
 ·refine List.nodup_append.2 ⟨h1,?_,λa F b f e => ?_⟩
  ·exact List.Pairwise.map _ (λa b h e=>h (by omega)) List.nodup_range
  ·obtain ⟨j,_,rfl⟩:=List.mem_map.1 f
   have:=hb a F
   omega
 ·rw [List.map_append,List.map_append]
  congr 1
  ·rw [<- h2]
   exact List.map_congr_left (λi hi=>List.getElem?_append_left (hb i hi))
  ·refine List.ext_getElem (by simp) (λi A I => ?_)
   simp only [List.length_map,List.length_range]at A
   simp only [List.getElem_map,List.getElem_range]
   rw [List.getElem?_append_right (by omega),show i+C1.length-C1.length=i by omega,List.getElem?_eq_getElem A]
theorem MV (C0 T X:Hp):(C0++X++T).Perm (C0++T++X):=by
 rw [List.append_assoc,List.append_assoc]
 exact List.Perm.append_left C0 List.perm_append_comm
section
variable {C:Cfg} {sl:Nat->V} {H H0:Hp} {q:Qm} {all rest:List Oper} {K:(Nat->V)->Hp->Prop}
theorem AgR.perm {S:Store} {t:Nat} {l:List Oper} (j:H0.Perm H) (f:AgR H S t l):AgR H0 S t l :=
 ⟨f.pos,(j.map (·.1)).nodup_iff.2 f.nd,λp h=>f.at_ p (j.mem_iff.1 h)⟩
theorem h_perm (j:H0.Perm H) (h:aZ q C all K rest sl H0):aZ q C all K rest sl H:=λS tk ok f=>h S tk ok (f.perm j)
theorem J3 (e:H0=H) (h:aZ q C all K rest sl H0):aZ q C all K rest sl H:=e ▸ h
theorem Ll {C0 T X:Hp} (h:aZ q C all K rest sl (C0++X++T)):aZ q C all K rest sl (C0++T++X):=h_perm (MV C0 T X) h
theorem AgR.pre {S:Store} {t:Nat} {l:List Oper} (h:Eng.pre H0 H) (f:AgR H S t l):AgR H0 S t l:=by
 have o:Ag H S (t+1):=⟨Nat.succ_pos _,f.nd,λp j=>⟨by rcases (f.at_ p j).1 with h1 | ⟨h1,_⟩ <;> omega,(f.at_ p j).2⟩⟩
 refine⟨f.pos,(o.pre h).nd,λp j => ?_⟩
 obtain ⟨B,_,he⟩:=h
 obtain ⟨hl,A⟩:=Bv he
 obtain ⟨i,hi,rfl⟩:=List.getElem_of_mem j
 exact f.at_ _ (List.mem_of_getElem? (A i (by omega) hi))
variable {dst:Option Tmp} {d:Nat} {t ty:TypeId} {pos:String} {after:Array Edge} {g:Option (Nat×Bool)}
end
end Go.Eng

/-
  THE ENGINE: queues: a slice that is shortened from its head and appended to.
-/
namespace Go.Eng
set_option linter.unusedSectionVars false
variable [DM]
set_option linter.unusedVariables false
section
variable {C:Cfg} {sl:Nat->V} {H:Hp} {q:Qm} {all rest:List Oper} {K:(Nat->V)->Hp->Prop}
variable {dst:Option Tmp} {d:Nat} {t ty:TypeId} {pos:String} {after:Array Edge} {g:Option (Nat×Bool)}
variable {α:Type} {enc:α->List D} {xs ys zs:List α} {x y:Operand} {t' e e':TypeId} {sz bytes i k:Nat} {n:Nm} {z:List V}
end
end Go.Eng

/-
  THE ENGINE: structs with a grid: handed in, handed back, and made.
-/
namespace Go.Eng
set_option linter.unusedSectionVars false
variable [DM]
set_option linter.unusedVariables false
theorem Au {C0 C1 T H:Hp} (f:List Nat) (j:f.Nodup) (e:f.map (λi=>C1[i]?)=C0.map some) (h:H=C1++T):pre (C0++T) H:=by
 subst h;exact Uj ⟨f,j,e⟩
section
variable {C:Cfg} {Q:QH} {sl:Nat->V} {H:Hp} {c:Code}
theorem UF {C0 T X:Hp} (h:wH C c Q sl (C0++X++T)):wH C c Q sl (C0++T++X):=UG (TY (MV C0 T X)) h
end
section rows
variable {α:Type} {enc:α->List D} {sz:Nat}
section
variable {C:Cfg} {sl:Nat->V} {H:Hp}
end
section
variable {C:Cfg} {sl:Nat->V} {C0:Hp} {q:Qm} {all rest:List Oper} {K:(Nat->V)->Hp->Prop}
variable {dst:Option Tmp} {d:Nat} {t ty:TypeId} {pos:String} {after:Array Edge} {g:Option (Nat×Bool)}
end
end rows
end Go.Eng

/-
  THE ENGINE: a function that reads slices as data reads them out of their boxes, too: the boxes are as they were.
-/
namespace Go.Eng
set_option linter.unusedSectionVars false
variable [DM]
set_option linter.unusedVariables false
end Go.Eng

/-
  THE ENGINE: ranges over maps, in any order; maps of pointers to cells of their own (the cells' boxes stand behind all others).
-/
namespace Go.Eng
set_option linter.unusedSectionVars false
variable [DM]
set_option linter.unusedVariables false
def CW {α σ ρ:Type} (body:α->σ->Option (Ctl σ ρ)):List α->σ->Option (Ctl σ ρ)
 | [],s=>some (.go s)
 | x::xs,s=>(body x s).bind λc=>match c with
  | .go f=>CW body xs f
  | .brk f=>some (.go f)
  | .ret r=>some (.ret r)
open Classical in
noncomputable def MH {α β:Type} (l:List α) (f:List α->Option β):Option β:=if h:∃r,∀j,j.Perm l->f j=some r then some h.choose else none
theorem Oj {α β:Type} {l:List α} {f:List α->Option β} {r:β} (h:MH l f=some r):∀j,j.Perm l->f j=some r:=by
 unfold MH at h
 split at h
 ·rename_i o
  simp only [so_]at h
  rw [<- h];exact o.choose_spec
 ·cases h
theorem Un {α β:Type} {l:List α} {f:List α->Option β} {r:β} (h:∀j,j.Perm l->f j=some r):MH l f=some r:=by
 have o:∃r,∀j,j.Perm l->f j=some r:=⟨r,h⟩
 unfold MH
 rw [dif_pos o]
 have h1:=o.choose_spec l (List.Perm.refl _)
 rw [h l (List.Perm.refl _)]at h1
 exact h1.symm
theorem Cq {α:Type}:∀{l:List α} {i:Nat} (h:i<l.length),(l[i]::l.eraseIdx i).Perm l
 | _::_,0,_=>List.Perm.refl _
 | a::l,i+1,h=>by
  simp only [List.getElem_cons_succ,List.eraseIdx_cons_succ]
  exact (List.Perm.swap _ _ _).trans ((Cq (by simpa using h)).cons a)
theorem Q3 {α σ ρ β:Type} {body:α->σ->Option (Ctl σ ρ)} {K:Ctl σ ρ->Option β} {r:β} {left:List α} {s:σ} {i:Nat} {x:α} (h:∀f,f.Perm left->(CW body f s).bind K=some r) (hi:left[i]? = some x) :
  ∃c,body x s=some c/\∀o,c = .go o->∀f,f.Perm (left.eraseIdx i)->(CW body f o).bind K=some r:=by
 have B:∀f,f.Perm (left.eraseIdx i)->(x::f).Perm left:=λf hl=>by
  obtain ⟨j,rfl⟩:=List.getElem?_eq_some_iff.1 hi
  exact (hl.cons _).trans (Cq j)
 have A:=h _ (B _ (List.Perm.refl _))
 simp only [CW,Option.bind_assoc,Option.bind_eq_some_iff]at A
 obtain ⟨c,hc,-⟩:=A
 refine⟨c,hc,λo e f hl => ?_⟩
 subst e
 have:=h _ (B f hl)
 simpa only [CW,hc,ob_]using this
theorem Um {α:Type} {left:List α} {i:Nat} {x:α} (hi:left[i]? = some x):(left.eraseIdx i).length<left.length:=by
 obtain ⟨f,_⟩:=List.getElem?_eq_some_iff.1 hi
 rw [List.length_eraseIdx,if_pos f];omega
abbrev iB {α:Type} (f:α->D×V) (cur:Option α) (left:List α):Box := .iter (cur.map f) (left.map f)
section
variable {C:Cfg} {Q:QH} {sl:Nat->V} {H:Hp} {c:Code}
theorem Sz {id:Nat} {σ ρ N α β:Type} (f:(σ×N)->List (Nat×V)) (B:(σ×N)->Hp) (j:(σ×N)->List (Nat×V)) (o:List α->Option α->(σ×N)->Hp) (body:α->σ->Option (Ctl σ ρ)) (A:Ctl σ ρ->Option β) (r:β) (xs:List α) (F:σ×N)
  (hj:∀h,h.Perm xs->(CW body h F.1).bind A=some r) (he:Eng.pick (j F) sl=j F) (J:Eng.pre (o xs none F) H)
  (h1:∀x:List α×Option α×(σ×N),(∀h,h.Perm x.1->(CW body h x.2.2.1).bind A=some r)->wH C c (Ke (λp:List α×Option α×(σ×N)=>j p.2.2) (λp=>o p.1 p.2.1 p.2.2) (λp=>∀h,h.Perm p.1->(CW body h p.2.2.1).bind A=some r) (λp=>p.1.length) x (Oh id (Nv (KL f B (λp=>A (.go p.1)=some r)) Q))) (envS (j x.2.2)) (o x.1 x.2.1 x.2.2))
  (h2:∀x,A (.go x.1)=some r->∀sl' I,Eng.pick (f x) sl'=f x->Eng.pre (B x) I->Q .normal sl' I):wH C (.block id (.loop c)) Q sl H :=
 lu f B (λp=>A (.go p.1)=some r) (aM (DL (β:=List α×Option α×(σ×N)) (λp=>j p.2.2) (λp=>o p.1 p.2.1 p.2.2) (λp=>∀h,h.Perm p.1->(CW body h p.2.2.1).bind A=some r) (λp=>p.1.length) (xs,none,F) hj he J h1)) h2
end
section
variable {C:Cfg} {sl:Nat->V} {H:Hp} {q:Qm} {all rest:List Oper} {K:(Nat->V)->Hp->Prop}
variable {dst:Option Tmp} {d:Nat} {t ty:TypeId} {pos:String} {after:Array Edge} {g:Option (Nat×Bool)}
theorem h_range {α:Type} {f:α->D×V} {left:List α} {x:Operand} {n:Nm} {bx:Box} (j:Nat) (F:(CU C.P t).isSome=true) (I:ev sl x = .map n) (B:H[j]? = some (n,some bx)) (o:Ik bx=some (left.map f))
  (J:aQ all sl ⟨some d,.range t x,ty,pos,after,g⟩=some true)
  (h:∀m:Nm,aZ none C all K rest (upd sl d (.ref m 0 0)) (H.set j (m,some (iB f none left)))):aZ none C all K (⟨some d,.range t x,ty,pos,after,g⟩::rest) sl H:=λS tk ok A=>by
 refine⟨sl,S,.refl _,?_⟩
 simp only [J]
 refine .inr ⟨d,n,bx,left.map f,rfl,I,A.get B,o,F,?_⟩
 refine h (d,tk) _ tk ok.tail (A.swap ok rfl B _ _ (λm h1 h2 => ?_) (λb hb => ?_))
 ·simp only [fo,supd,if_neg h1,if_neg h2]
 ·simp only [fo,supd,if_true];exact hb
theorem h_next {α:Type} {f:α->D×V} {cur:Option α} {left:List α} {x:Operand} {n:Nm} (j:Nat) (h:ev sl x = .ref n 0 0) (A:H[j]? = some (n,some (iB f cur left)))
  (F:aQ all sl ⟨some d,.next x false,ty,pos,after,g⟩=some true)
  (B:left=[]->aZ none C all K rest (upd sl d (.tup [vB false])) H)
  (h1:∀(i:Nat) (e:α),left[i]? = some e->aZ none C all K rest (upd sl d (.tup [vB true,.any,.any])) (H.set j (n,some (iB f (some e) (left.eraseIdx i))))):aZ none C all K (⟨some d,.next x false,ty,pos,after,g⟩::rest) sl H:=λS tk ok o=>by
 refine⟨sl,S,.refl _,?_⟩
 simp only [F]
 refine .inr ⟨n,cur.map f,left.map f,h,o.get A,λhl => ?_,λi e he => ?_⟩
 ·exact B (List.map_eq_nil_iff.1 hl) S tk ok.tail o.tail
 ·rw [List.getElem?_map,Option.map_eq_some_iff]at he
  obtain ⟨a,I,rfl⟩:=he
  refine h1 i a I _ tk ok.tail ?_
  have e:(left.map f).eraseIdx i=(left.eraseIdx i).map f:=(Go.ChangeMaps.map_eraseIdx f left i).symm
  rw [e]
  exact o.tail.set A (λx h=>h)
theorem h_entry {α:Type} {f:α->D×V} {e:α} {left:List α} {x:Operand} {n:Nm} (j:Nat) (A:ev sl x = .ref n 0 0) (B:H[j]? = some (n,some (iB f (some e) left))) (v:V) (F:V.tup [.d (f e).1,(f e).2]=v)
  (I:aQ all sl ⟨some d,.entry x,ty,pos,after,g⟩=some true)
  (h:aZ none C all K rest (upd sl d v) H):aZ none C all K (⟨some d,.entry x,ty,pos,after,g⟩::rest) sl H:=λS tk ok o=>by
 subst F
 refine⟨sl,S,.refl _,?_⟩
 simp only [I]
 exact .inr ⟨n,f e,left.map f,A,o.get B,h S tk ok.tail o.tail⟩
end
section
variable {Kt X:Type} {kD:Kt->D} {enc:X->List D} {sz:Nat}
def pmE (kD:Kt->D) (ns:Nat->Nm) (es:List (Kt×X)):List (D×V):=es.mapIdx λi e=>(kD e.1,V.ref (ns i) 0 0)
abbrev pmB (kD:Kt->D) (ns:Nat->Nm) (es:List (Kt×X)):Box := .pmap (pmE kD ns es)
def pmT (sz:Nat) (enc:X->List D) (ns:Nat->Nm) (es:List (Kt×X)):Hp:=es.mapIdx λi e=>(ns i,some (.cells sz ((enc e.2).map .d)))
def pV (ns:Nat->Nm):Option Nat->V
 | some i => .ref (ns i) 0 0
 | none => .d .nilp
def ns0:Nat->Nm:=λ_=>(0,0)
theorem pmT_get {ns:Nat->Nm} {es:List (Kt×X)} {i:Nat} {e:Kt×X} (h:es[i]? = some e):(pmT sz enc ns es)[i]? = some (ns i,some (.cells sz ((enc e.2).map .d))):=by
 unfold pmT;rw [List.getElem?_mapIdx,h];rfl
theorem Ux {C0:Hp} {ns:Nat->Nm} {es:List (Kt×X)} {i:Nat} {e:Kt×X} (h:es[i]? = some e):(C0++pmT sz enc ns es)[C0.length+i]? = some (ns i,some (.cells sz ((enc e.2).map .d))):=by
 rw [List.getElem?_append_right (by omega),show C0.length+i-C0.length=i by omega];exact pmT_get h
theorem pmT_set {ns:Nat->Nm} {es:List (Kt×X)} {i:Nat} {k:Kt} {x:X}:(pmT sz enc ns es).set i (ns i,some (.cells sz ((enc x).map .d)))=pmT sz enc ns (es.set i (k,x)):=by
 unfold pmT
 rw [R9 (λi (e:Kt×X)=>((ns i,some (Box.cells sz ((enc e.2).map .d))):Nm×Option Box)) _ es i (k,x) (λ_ _ _=>rfl)]
theorem pmT_put {C0:Hp} {ns:Nat->Nm} {es:List (Kt×X)} {i:Nat} {k:Kt} {x:X}:(C0++pmT sz enc ns es).set (C0.length+i) (ns i,some (.cells sz ((enc x).map .d)))=C0++pmT sz enc ns (es.set i (k,x)):=by
 show List.set (C0++pmT sz enc ns es) _ _=_
 rw [List.set_append_right _ _ (by omega),show C0.length+i-C0.length=i by omega,pmT_set]
theorem pmE_set {ns:Nat->Nm} {es:List (Kt×X)} {i:Nat} {k:Kt} {x x':X} (h:es[i]? = some (k,x)):pmE kD ns (es.set i (k,x'))=pmE kD ns es:=by
 unfold pmE
 rw [R9 (λi (e:Kt×X)=>((kD e.1,V.ref (ns i) 0 0):D×V)) _ es i (k,x') (λ_ _ _=>rfl)]
 refine List.ext_getElem? (λj => ?_)
 rw [List.getElem?_set]
 split
 ·rename_i hj;subst hj
  have f:=(List.getElem?_eq_some_iff.1 h).1
  simp only [List.length_mapIdx,f,if_true,List.getElem?_mapIdx,h,Option.map_some]
 ·rfl
theorem SL {ns:Nat->Nm} {es:List (Kt×X)} {m:Nm} {k:Kt} {x:X}:pmE kD (Dh ns es.length m) (es++[(k,x)])=pmE kD ns es++[(kD k,.ref m 0 0)]:=by
 unfold pmE
 rw [List.mapIdx_append]
 congr 1
 ·refine List.ext_getElem (by simp) (λi h1 h2 => ?_)
  simp only [List.length_mapIdx]at h1
  simp only [List.getElem_mapIdx,Dh]
  rw [if_neg (by omega)]
 ·simp only [List.mapIdx_cons,List.mapIdx_nil,Nat.zero_add,P9]
theorem Ta {ns:Nat->Nm} {es:List (Kt×X)} {m:Nm} {k:Kt} {x:X}:pmT sz enc (Dh ns es.length m) (es++[(k,x)])=pmT sz enc ns es++[(m,some (.cells sz ((enc x).map .d)))]:=by
 unfold pmT
 rw [List.mapIdx_append]
 congr 1
 ·refine List.ext_getElem (by simp) (λi h1 h2 => ?_)
  simp only [List.length_mapIdx]at h1
  simp only [List.getElem_mapIdx,Dh]
  rw [if_neg (by omega)]
 ·simp only [List.mapIdx_cons,List.mapIdx_nil,Nat.zero_add,P9]
theorem NG {eq:Kt->Kt->Bool} {k:Kt} {ns:Nat->Nm} (he:∀a b,uZ (kD a) (kD b)=some (eq a b)) (es:List (Kt×X)):Ho (kD k) (pmE kD ns es)=some (vW eq k es):=by
 unfold Ho pmE
 rw [<- yP (vD:=λ_=>D.nilp) he es]
 congr 1
 refine List.ext_getElem (by simp) (λi h1 h2 => ?_)
 simp only [List.getElem_map,List.getElem_mapIdx]
def RI {α:Type}:Option α->Option Unit
 | none=>some ()
 | some _=>none
theorem RU {α:Type} {o:Option α} {u:Unit} (h:RI o=some u):o=none:=by
 cases o with
 | none=>rfl
 | some x=>cases h
theorem P8 {ns:Nat->Nm} {o:Option Nat} {i:Nat} (h:o=some i):pV ns o = .ref (ns i) 0 0:=by subst h;rfl
def Ql (P:Program) (t:TypeId):Bool:=match P.underlying t with | some (.pointer _)=>true | _=>false
theorem Rn {P:Program} {t:TypeId} (h:Ql P t=true):∃e,P.underlying t=some (.pointer e):=by
 unfold Ql at h
 split at h
 ·rename_i e f;exact⟨e,f⟩
 ·cases h
end
section
variable {C:Cfg} {Q:QH} {sl:Nat->V} {H:Hp} {c:Code}
theorem wH_pm {Kt X:Type} {kD:Kt->D} {enc:X->List D} {sz:Nat} {n:Nm} (j:Nat) (f:H[j]? = some (n,some (.map []))) (h:wH C c Q sl (H.set j (n,some (pmB kD ns0 ([]:List (Kt×X))))++pmT sz enc ns0 ([]:List (Kt×X)))):wH C c Q sl H:=by
 have e:(H.set j (n,some (pmB kD ns0 ([]:List (Kt×X))))++pmT sz enc ns0 ([]:List (Kt×X)))=H.set j (n,some (.pmap [])):=by simp [pmT,pmB,pmE]
 rw [e]at h
 exact wT h (λS t o=>⟨supd S n (some (.pmap [])),Gst.pm ⟨sl,S,t⟩ n (o.get f),o.set f (λx A=>A)⟩)
end
section
variable {C:Cfg} {sl:Nat->V} {H:Hp} {q:Qm} {all rest:List Oper} {K:(Nat->V)->Hp->Prop}
variable {dst:Option Tmp} {d:Nat} {t ty:TypeId} {pos:String} {after:Array Edge} {g:Option (Nat×Bool)}
variable {Kt X:Type} {kD:Kt->D} {enc:X->List D} {sz:Nat}
theorem Es {eq:Kt->Kt->Bool} {es:List (Kt×X)} {k:Kt} {x i:Operand} {kt et:TypeId} {n:Nm} {ns:Nat->Nm} (p j:Nat) (R:q=none\/Nat.beq all.length (p+(rest.length+1))=true)
  (T:∀S tk,AgR H S tk (⟨dst,.lookup t x i false,ty,pos,after,g⟩::rest)->okQ q all p [n] false) (he:∀a b,uZ (kD a) (kD b)=some (eq a b)) (J:CU C.P t=some (kt,et)) (o:uY C.P kt (kD k)=true) (L:zeroV C.P et=some (.d .nilp))
  (M:ev sl x = .map n) (hi:ev sl i = .d (kD k)) (F:H[j]? = some (n,some (pmB kD ns es)))
  (O:aQ all sl ⟨dst,.lookup t x i false,ty,pos,after,g⟩=some true) (h:aZ (pO q p [n] false) C all K rest (dI sl dst (pV ns (vW eq k es))) H):aZ q C all K (⟨dst,.lookup t x i false,ty,pos,after,g⟩::rest) sl H:=by
 refine ol p [n] false R T (wP F) O (λS tk W I B N=>jb (A:=⟨[(n,pmB kD ns es)],[],pV ns (vW eq k es)⟩) (λc e=>by cases e) ?_ (N _ H ⟨by simp,by simp⟩ (λ_=>rfl) B.tail h))
 show vF C.P t S (ev sl x) (ev sl i) false=_
 unfold vF
 rw [J,hi,M]
 simp only [o,cond_true,B.get F,NG he]
 cases hj:vW eq k es with
 | none=>simp only [L,Option.map_some,C8,cond_false,pV]
 | some j =>
  have f:=Ld hj
  have:(pmE kD ns es)[j]? = some (kD es[j].1,.ref (ns j) 0 0):=by unfold pmE;rw [List.getElem?_mapIdx,List.getElem?_eq_getElem f];rfl
  simp only [this,C8,cond_false,pV]
theorem h_peq {x y:Operand} {e e':TypeId} {ns:Nat->Nm} {o:Option Nat} (f:Ql C.P e=true) (j:ev sl x=pV ns o) (A:ev sl y = .d .nilp) (B:aQ all sl ⟨dst,.binOp .eql e x y e',ty,pos,after,g⟩=some true)
  (h:aZ q C all K rest (dI sl dst (vB o.isNone)) H):aZ q C all K (⟨dst,.binOp .eql e x y e',ty,pos,after,g⟩::rest) sl H:=by
 obtain ⟨F,f⟩:=Rn f
 refine aL _ B ?_ h
 show DY C.P .eql e x y (ev sl x) (ev sl y)=_
 rw [j,A]
 cases o with
 | none=>simp only [pV,DY,sH,I7,RL,RY,HV,f,Option.isNone_none]
 | some i=>simp only [pV,DY,sH,I7,RL,RY,HV,f,Option.isNone_some]
theorem h_pset {eq:Kt->Kt->Bool} {C0 C1:Hp} {es:List (Kt×X)} {k:Kt} {v:X} {m i x:Operand} {kt et:TypeId} {n nm:Nm} {ns:Nat->Nm} {cs:List V} (j F:Nat)
  (he:∀a b,uZ (kD a) (kD b)=some (eq a b)) (Z:CU C.P t=some (kt,et)) (N:uY C.P kt (kD k)=true)
  (M:ev sl m = .map n) (hi:ev sl i = .d (kD k)) (hd:ev sl x = .ref nm 0 0) (W:C0[j]? = some (n,some (pmB kD ns es))) (hc:C0[F]? = some (nm,some (.cells sz cs))) (R:(enc v).map V.d=cs) (J:F≠j) (hn:vW eq k es=none)
  (I:(C0.set j (n,some (pmB kD (Dh ns es.length nm) (es++[(k,v)])))).eraseIdx F=C1)
  (hw:aQ all sl ⟨dst,.mapUpdate t m i x,ty,pos,after,g⟩=some true) (h:aZ none C all K rest (dI sl dst .none) (C1++pmT sz enc (Dh ns es.length nm) (es++[(k,v)]))) :
  aZ none C all K (⟨dst,.mapUpdate t m i x,ty,pos,after,g⟩::rest) sl (C0++pmT sz enc ns es):=by
 have B:j<C0.length:=(List.getElem?_eq_some_iff.1 W).1
 have hcl:F<C0.length:=(List.getElem?_eq_some_iff.1 hc).1
 have f:(C0++pmT sz enc ns es)[j]? = some (n,some (pmB kD ns es)):=by rw [List.getElem?_append_left B];exact W
 refine ol 0 [n] true (.inl rfl) (λ_ _ _=>trivial) (wP f) hw (λS tk K' ok' Y hk=>jb (A:=⟨[(n,pmB kD ns es)],[(n,some (pmB kD (Dh ns es.length nm) (es++[(k,v)])))],.none⟩) (λc e=>by cases e) ?_ (hk _ _ ⟨by simp,by simp⟩ (λe=>by cases e) ((Y.tail.set f (b:=some (pmB kD (Dh ns es.length nm) (es++[(k,v)]))) (λx M=>M)).perm ?_) h))
 ·show kY C.P t S (ev sl m) (ev sl i) (ev sl x)=_
  rw [M,hi,hd]
  unfold kY rf IR
  simp only [Z,cond_true,N,Y.get f,NG he,hn,pmB,SL]
 ·subst I
  rw [Ta,R,List.set_append_left _ _ B]
  have o:(C0.set j (n,some (pmB kD (Dh ns es.length nm) (es++[(k,v)]))))[F]? = some (nm,some (.cells sz cs)):=by
   rw [List.getElem?_set_ne (Ne.symm J)];exact hc
  obtain ⟨L,O⟩:=List.getElem?_eq_some_iff.1 o
  have T:=Cq L
  rw [O]at T
  refine List.Perm.trans ?_ (T.append_right _)
  rw [<- List.append_assoc]
  exact List.perm_append_comm (l₁:=_++_) (l₂:=[_]) |>.trans (List.Perm.of_eq rfl)
theorem Ut {C0:Hp} {x:Operand} {size:Nat} {agg:Bool} {i o:Nat} {ns:Nat->Nm} {es:List (Kt×X)} {e:Kt×X} (p:Nat) (A:q=none\/Nat.beq all.length (p+(rest.length+1))=true) (I:∀S tk,AgR (C0++pmT sz enc ns es) S tk (⟨dst,.load t x,ty,pos,after,g⟩::rest)->okQ q all p [ns i] false) (hs:szT C.P t=some size) (B:bU C.P t=agg) (f:ev sl x = .ref (ns i) 0 o) (he:es[i]? = some e)
  (v:V) (F:rdV agg size (((enc e.2).map V.d).drop (0*sz+o))=some v) (j:aQ all sl ⟨dst,.load t x,ty,pos,after,g⟩=some true) (h:aZ (pO q p [ns i] false) C all K rest (dI sl dst v) (C0++pmT sz enc ns es)):aZ q C all K (⟨dst,.load t x,ty,pos,after,g⟩::rest) sl (C0++pmT sz enc ns es) :=
 aI p (C0.length+i) A I hs B f (Ux he) v F j h
theorem h_pst {C0:Hp} {x y:Operand} {size:Nat} {i o:Nat} {ns:Nat->Nm} {es:List (Kt×X)} {e:Kt×X} (p:Nat) (A:q=none\/Nat.beq all.length (p+(rest.length+1))=true) (I:∀S tk,AgR (C0++pmT sz enc ns es) S tk (⟨dst,.store t x y,ty,pos,after,g⟩::rest)->okQ q all p [ns i] true) (hs:szT C.P t=some size) (f:ev sl x = .ref (ns i) 0 o) (he:es[i]? = some e) (e':X)
  (B:stC size ((enc e.2).map V.d) (0*sz+o) (ev sl y)=some ((enc e').map V.d)) (j:aQ all sl ⟨dst,.store t x y,ty,pos,after,g⟩=some true) (h:aZ (pO q p [ns i] true) C all K rest (dI sl dst .none) (C0++pmT sz enc ns (es.set i (e.1,e')))) (F:Nat.blt sz 1048576=true:=by rfl):aZ q C all K (⟨dst,.store t x y,ty,pos,after,g⟩::rest) sl (C0++pmT sz enc ns es) :=
 jw p A I (C0.length+i) hs f (Ux he) _ B j (by rw [pmT_put (k:=e.1)];exact h) F
theorem Pt {ns:Nat->Nm} {es:List (Kt×X)} {i:Nat} {e:Kt×X} {x':X} (h:es[i]? = some e):(some (pmB kD ns es):Option Box)=some (pmB kD ns (es.set i (e.1,x'))):=by
 obtain ⟨k,x⟩:=e
 unfold pmB;rw [pmE_set h]
def pmL (es:List (Kt×X)):List (Nat×Kt):=es.mapIdx λi e=>(i,e.1)
theorem SN {ns:Nat->Nm} (es:List (Kt×X)):Ik (pmB kD ns es)=some ((pmL es).map λe=>(kD e.2,V.ref (ns e.1) 0 0)):=by
 show some (pmE kD ns es)=_
 congr 1
 unfold pmE pmL
 refine List.ext_getElem (by simp) (λi h1 h2 => ?_)
 simp only [List.getElem_map,List.getElem_mapIdx]
end
end Go.Eng

