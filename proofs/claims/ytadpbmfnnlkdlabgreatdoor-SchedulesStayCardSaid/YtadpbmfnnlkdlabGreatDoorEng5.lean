/-
  The engine: what the machine does to data, shown once for all programs (part 5).
-/
import Derived.Test.YtadpbmfnnlkdlabGreatDoorEng4
import Derived.Lib.LaidTab
import Derived.Lib.ItoaNum
import Derived.Deep.Draws
import Derived.Below
import Derived.Lib.IndexMore
import Derived.Lib.TrimByte
import Derived.Lib.Join
import Derived.Lib.Repeat
import Derived.Lib.TrailingZeros
import Derived.Lib.SlTrimSet
import Derived.Sort.KeysCollected
import Derived.Laws.AppendOwn
import Derived.Shelf.SlSortCmp.InsertionK
import Derived.Sort.AssemblyPlain
/-
  THE ENGINE: a slice that is cut in its own box and grows again; boxes of slices that may be empty; maps whose keys are structs.
-/
namespace Go.Eng
set_option linter.unusedSectionVars false
variable [DM]
set_option linter.unusedVariables false
set_option linter.unusedSimpArgs false
def leL {α β:Type} (xs:List α) (ys:List β):Option Unit:=if xs.length<=ys.length then some ()else none
theorem leL_le {α β:Type} {xs:List α} {ys:List β} {u:Unit} (h:leL xs ys=some u):xs.length<=ys.length:=by
 unfold leL at h;split at h
 ·assumption
 ·cases h
theorem vV_take {α:Type} {n:Nm} {sz len:Nat} {xs:List α} (h:0+len<=xs.length):V.vs n sz 0 len=vV n sz (xs.take len):=by
 unfold vV
 rw [List.length_take,Nat.min_eq_left (by omega)]
theorem Ec {α:Type} {b:Bool} {n:Nm} {sz:Nat} {xs:List α} (h:xs ≠ []):kV b n sz xs=gV n sz xs:=by
 cases b with
 | true=>exact (Ns h).symm
 | false=>rfl
theorem kB_gB {α:Type} {b:Bool} {sz:Nat} {enc:α->List D} {xs:List α} (h:xs ≠ []):kB b sz enc xs=gB sz enc xs:=by
 cases b with
 | true=>exact (EO h).symm
 | false=>rfl
theorem nU {α:Type} (enc:α->List D) (o:Option α):iK (.d (dP enc o))=true:=by cases o <;> rfl
theorem bX {v:V} {vs:List V} (h:iK v=true) (t:vs.all iK=true):(v::vs).all iK=true:=by rw [List.all_cons,h,t];rfl
theorem PY {size k:Nat} {v:V} {ds:List D} {xs:List (List D)} {rest:List (Nat×V)} (h1:qy (bu v)=some ds) (h2:(Nat.beq k k&&Nat.beq ds.length size)=true) (h3:(bu v).all iK=true) (h4:mY size (k+1) rest=some xs):mY size k ((k,v)::rest)=some (ds::xs):=by
 simp only [mY,h1,h4]
 rw [h2,h3];rfl
theorem Aa {size o:Nat} {cs new cs':List V} {x:V} (h1:bu x=new) (h2:new.all iK=true) (h3:(Nat.beq new.length size&&Nat.ble (o+size) cs.length)=true) (h4:splice cs new o=cs'):stC size cs o x=some cs':=by
 unfold stC
 rw [h1,h2,h3,h4];rfl
theorem stD_one {size o:Nat} {cs nd cs':List D} {new:List V} {x:V} (h1:bu x=new) (h0:qy new=some nd) (h2:new.all iK=true) (h3:(Nat.beq nd.length size&&Nat.ble (o+size) cs.length)=true) (h4:splice cs nd o=cs'):stD size cs o x=some cs':=by
 unfold stD
 rw [h1,h0]
 simp only []
 rw [h2,h3,h4];rfl
section
variable {C:Cfg} {Q:QH} {sl:Nat->V} {H:Hp} {c:Code}
theorem wH_shr {α:Type} {enc:α->List D} {xs:List α} {sz:Nat} {n:Nm} (i m:Nat) (h:H[i]? = some (n,some (bV sz enc xs))) (hw:wH C c Q sl (H.set i (n,some (bV sz enc (xs.take m))))):wH C c Q sl H :=
 qV hw (λS t ag=>⟨supd S n (some (.vec sz ((xs.map enc).take m))),Gst.shr ⟨sl,S,t⟩ n sz m (xs.map enc) (ag.get h),by
  have:(xs.map enc).take m=(xs.take m).map enc:=by rw [List.map_take]
  rw [this]
  exact ag.set h (λx hx=>hx)⟩)
end
section
variable {C:Cfg} {sl:Nat->V} {H:Hp} {q:Qm} {all rest:List Oper} {K:(Nat->V)->Hp->Prop}
variable {dst:Option Tmp} {d:Nat} {t ty:TypeId} {pos:String} {after:Array Edge} {g:Option (Nat×Bool)}
theorem h_lenk {α:Type} {b:Bool} {n:Nm} {sz:Nat} {xs:List α} {x:Operand} {e:TypeId} (hu:C.P.underlying t=some (.slice e)) (hx:ev sl x=kV b n sz xs) (hw:aO all sl ⟨dst,.call ⟨.builtin .len,#[x],#[t]⟩,ty,pos,after,g⟩=some true)
  (h:aX q C all K rest (dZ sl dst (vI xs.length)) H):aX q C all K (⟨dst,.call ⟨.builtin .len,#[x],#[t]⟩,ty,pos,after,g⟩::rest) sl H:=by
 cases b with
 | true=>exact Ki hu hx hw h
 | false=>exact BC hu hx hw h
theorem FW {a b:List Nm} {v:V} (h:okV a.length v=true):ren (a++b) v=ren a v:=by
 have:=vQ (a:=a) (b:=b) (vs:=[v]) (by simp only [okL,h,Bool.and_self])
 simpa only [renL,List.cons.injEq,and_true]using this
theorem Kz {a b:List Nm} {x:Box} (h:x.ok a.length=true):x.ren (a++b)=x.ren a:=by
 cases x with
 | cells sz cs=>simp only [Box.ok]at h;simp only [Box.ren,vQ h]
 | pmap es =>
  simp only [Box.ren,Box.pmap.injEq]
  exact List.map_congr_left (λe he=>by rw [FW (List.all_eq_true.1 h e he)])
 | iter cur left =>
  simp only [Box.ok,Bool.and_eq_true]at h
  simp only [Box.ren,Box.iter.injEq]
  refine⟨?_,List.map_congr_left (λe he=>by rw [FW (List.all_eq_true.1 h.2 e he)])⟩
  cases cur with
  | none=>rfl
  | some x=>simp only [Option.map_some,FW (v:=x.2) (by simpa using h.1)]
 | _=>rfl
theorem OH {a b:List Nm} {bs:List Box} (h:bs.all (λx=>x.ok a.length)=true):bs.map (λx=>x.ren (a++b))=bs.map (λx=>x.ren a) :=
 List.map_congr_left (λx hx=>Kz (List.all_eq_true.1 h x hx))
theorem Lu {a b:List Nm}:∀(is:List Nat) (ns:List Nm) (bs:List Box),bs.all (λx=>x.ok a.length)=true->Eng.outs (a++b) is ns (bs.map some)=Eng.outs a is ns (bs.map some)
 | [],_,_,_=>rfl
 | _::_,[],_,_=>rfl
 | _::_,_::_,[],_=>rfl
 | i::is,n::ns,b::bs,h=>by
  simp only [List.all_cons,Bool.and_eq_true]at h
  simp only [List.map_cons,Eng.outs,Option.map_some,Kz h.1,Lu is ns bs h.2]
theorem Et {k k':Nat} (hk:k<=k') {os:List Box}:os.all (λb=>b.ok k)=true->okOut k' (os.map some)=true:=by
 induction os with
 | nil=>exact λ_=>rfl
 | cons b os ih =>
  intro h
  simp only [List.all_cons,Bool.and_eq_true]at h
  simp only [List.map_cons,okOut,Bool.and_eq_true]
  exact⟨Box.ok_mono hk h.1,ih h.2⟩
theorem KL {α:Type} {enc:α->List D} {sz:Nat} {xs:List α} {f:Operand} {args:List Operand} {ats:Array TypeId} {fn:FuncId} {caps args0:List V} {r:V} {bs os:List Box} {o:Option Box} (p:Nat) (is:List Nat) (iv po:Nat) {l:List (Nm×Box)} {n:Nm}
  (hp:q=none\/Nat.beq all.length (p+(rest.length+1))=true)
  (hfp:∀S tk,AgR H S tk (⟨some d,.call ⟨.value f,args.toArray,ats⟩,ty,pos,after,g⟩::rest)->okQ q all p (l.map (·.1)++[n]) true)
  (hc:FnM C.P fn args0 (bs++[bV sz enc xs]) r (os.map some++[o]))
  (hf:ev sl f = .fn fn caps) (hb:aJ C.P fn=true) (hl:mF H is=some l) (hv:H[iv]? = some (n,some (bV sz enc xs)))
  (hS:bs.map (λb=>b.ren (l.map (·.1)))=l.map (·.2)) (hSok:bs.all (λb=>b.ok is.length)=true)
  (hw1:(args.map (ev sl)++caps)[po]? = some (vV n sz xs)) (hp0:args0[po]? = some (vV (aG is.length) sz xs))
  (hn:(((args.map (ev sl)++caps).set po .none).flatMap frz).all (λn=>false)=true)
  (ha:((args.map (ev sl)++caps).map co0).set po .none=(renL (l.map (·.1)) args0).set po .none) (hok:okL is.length (args0.set po .none)=true) (hr:okV (is.length+1) r=true)
  (hlen:os.length=is.length) (hi:(is++[iv]).Nodup) (hO:os.all (λb=>b.ok is.length)=true) (ho:∀b,o=some b->b.ok 0=true)
  (hw:aO all sl ⟨some d,.call ⟨.value f,args.toArray,ats⟩,ty,pos,after,g⟩=some true)
  (v:V) (hvr:ren (l.map (·.1)++[n]) r=v)
  (H':Hp) (hH:(setH H (outs (l.map (·.1)) is (l.map (·.1)) (os.map some))).set iv (n,o)=H')
  (h:aX (qB q p (l.map (·.1)++[n]) true) C all K rest (upd sl d v) H') :
  aX q C all K (⟨some d,.call ⟨.value f,args.toArray,ats⟩,ty,pos,after,g⟩::rest) sl H:=by
 have hll:=(lg hl).1
 have hbs:bs.length=l.length:=by have:=congrArg List.length hS;simpa using this
 have hln:(l.map (·.1)).length=is.length:=by rw [List.length_map,hll]
 have hSok':bs.all (λb=>b.ok (l.map (·.1)).length)=true:=by rw [hln];exact hSok
 have hO':os.all (λb=>b.ok (l.map (·.1)).length)=true:=by rw [hln];exact hO
 have hp1:=DF (l:=l) hl hv
 have hmap:(l++[(n,bV sz enc xs)]).map (·.1)=l.map (·.1)++[n]:=by simp
 have hq:okL (is++[iv]).length args0=true:=by
  have:=Ct (v:=vV (aG is.length) sz xs) (uB (Nat.le_add_right is.length 1) _ hok) (Da (ls_ _))
  rw [nT hp0]at this
  simpa using this
 refine ER p (is++[iv]) hp (λS tk ag=>by rw [hmap];exact hfp S tk ag) hc hf hb hp1 ?_ ?_ ?_ ?_ hq ?_ (by simp [hlen]) hi ?_ hw v (by rw [hmap];exact hvr) H' ?_ ?_
 ·rw [List.map_append,hmap,OH hSok',hS]
  simp only [List.map_cons,List.map_nil,List.map_append,Box.ren]
 ·rw [List.all_append]
  simp only [Bool.and_eq_true]
  exact⟨List.all_eq_true.2 (λb hb'=>Box.ok_mono (by simp) (List.all_eq_true.1 hSok b hb')),rfl⟩
 ·intro m hm
  obtain ⟨v',hv1,hv2⟩:=BQ hn hm
  rw [hw1]at hv1
  simp only [so_]at hv1
  subst hv1
  rw [hmap]
  have:m=n:=by simpa [frz,OL,vV]using hv2
  rw [this];simp
 ·intro S tk ag
  refine ArgsOK.of_map ?_
  have hcw:co S (vV n sz xs)=vV n sz xs:=by
   have hS':S n=some (.vec sz (xs.map enc)):=ag.get hv
   simp only [vV,co,co1,hS']
  have hargs:(args.map (ev sl)++caps).map (co S)=((args.map (ev sl)++caps).map co0).set po (vV n sz xs):=by
   have h1:(args.map (ev sl)++caps)=((args.map (ev sl)++caps).set po .none).set po (vV n sz xs):=by
    rw [List.set_set,nT hw1]
   have h2:(((args.map (ev sl)++caps).set po .none)).map (co S)=(((args.map (ev sl)++caps).set po .none)).map co0:=Be (by
    cases hx:((args.map (ev sl)++caps).set po .none).flatMap frz with
    | nil=>rfl
    | cons a b=>rw [hx]at hn;simp at hn)
   have h3:(args.map (ev sl)++caps).map (co S)=((((args.map (ev sl)++caps).set po .none)).map (co S)).set po (co S (vV n sz xs)):=by
    rw [<- List.map_set,<- h1]
   rw [h3,h2,hcw,List.map_set,List.set_set]
  rw [hargs,Br ha,hmap]
  have h1:args0=(args0.set po .none).set po (vV (aG is.length) sz xs):=by rw [List.set_set,nT hp0]
  have h2:renL (l.map (·.1)++[n]) args0=(renL (l.map (·.1)) (args0.set po .none)).set po (vV n sz xs):=by
   conv=>lhs;rw [h1]
   rw [uP,vQ (by simp only [List.length_map,hll];exact hok)]
   simp only [vV,ren]
   rw [ug (n:=n) (by rw [List.getElem?_append_right (by simp [hll])];simp [hll])]
  rw [h2,uP,List.set_set]
 ·have e:(os.map some++[o]).length=is.length+1:=by simp [hlen]
  rw [e];exact hr
 ·refine zT (Et (by simp [hlen]) hO) ?_
  cases o with
  | none=>rfl
  | some b=>simp only [okOut,Bool.and_true];exact Box.ok_mono (Nat.zero_le _) (ho b rfl)
 ·rw [<- hH,hmap,GG _ _ _ _ _ _ _ (by simp [hlen]) (by simp [hll]),KZ,Lu _ _ _ hO']
  simp only [setH]
  cases o with
  | none=>rfl
  | some b=>simp only [Option.map_some,vN (ho b rfl)]
 ·rw [hmap];exact h
theorem bV_ok {α:Type} {sz:Nat} {enc:α->List D} {xs:List α}:∀b,some (bV sz enc xs)=some b->b.ok 0=true:=λb h=>by cases h;rfl
theorem Ob {α:Type} {enc:α->List D} {sz:Nat} {xs ys:List α} {b:Bool} {f:Operand} {args:List Operand} {ats:Array TypeId} {fn:FuncId} {caps args0 args1:List V} {bs bs0 bs1:List Box} (is:List Nat) (iv po:Nat) {l:List (Nm×Box)} {n:Nm}
  (hc:FnM C.P fn args0 (bs++[bV sz enc xs]) (vV (aG is.length) sz ys) (bs1.map some++[some (bV sz enc ys)]))
  (hc0:FnM C.P fn args1 bs .nil (bs0.map some))
  (hle:ys.length<=xs.length) (hsame:b=false->xs=[]->bs1=bs0)
  (hf:ev sl f = .fn fn caps) (hb:aJ C.P fn=true) (hl:mF H is=some l) (hv:H[iv]? = some (n,kB b sz enc xs))
  (hS:bs.map (λb=>b.ren (l.map (·.1)))=l.map (·.2)) (hSok:bs.all (λb=>b.ok is.length)=true) (hOok:bs1.all (λb=>b.ok is.length)=true)
  (hw1:(args.map (ev sl)++caps)[po]? = some (kV b n sz xs)) (hp0:args0[po]? = some (vV (aG is.length) sz xs)) (hp1:args1=args0.set po .nil)
  (hn:(((args.map (ev sl)++caps).set po .none).flatMap frz).all (λn=>false)=true)
  (ha:((args.map (ev sl)++caps).map co0).set po .none=(renL (l.map (·.1)) args0).set po .none) (hok:okL is.length (args0.set po .none)=true)
  (hlen:bs.length=is.length) (hlen1:bs1.length=is.length) (hi:(is++[iv]).Nodup)
  (hw:aO all sl ⟨some d,.call ⟨.value f,args.toArray,ats⟩,ty,pos,after,g⟩=some true)
  (H':Hp) (hH:(setH H (outs (l.map (·.1)) is (l.map (·.1)) (bs1.map some))).set iv (n,kB (b || !xs.isEmpty) sz enc ys)=H')
  (h:aX none C all K rest (upd sl d (kV (b || !xs.isEmpty) n sz ys)) H') :
  aX none C all K (⟨some d,.call ⟨.value f,args.toArray,ats⟩,ty,pos,after,g⟩::rest) sl H:=by
 have hll:=(lg hl).1
 by_cases hbx:b=false/\xs=[]
 ·obtain ⟨rfl,rfl⟩:=hbx
  have hys:ys=[]:=List.eq_nil_of_length_eq_zero (by simpa using hle)
  subst hys
  have hbb:=hsame rfl rfl
  subst hbb
  have hwn:(args.map (ev sl)++caps)[po]? = some .nil:=hw1
  have hivs:iv∉is:=by
   rw [List.nodup_append]at hi
   exact λhm=>hi.2.2 iv hm iv (by simp) rfl
  have hset:∀{l':List (Nat×Nm×Option Box)} {H0:Hp},(∀p∈l',p.1≠iv)->(setH H0 l')[iv]? = H0[iv]? := by
   intro l'
   induction l' with
   | nil=>intro H0 _;rfl
   | cons x l' ih =>
    intro H0 hx
    obtain ⟨i,m,b⟩:=x
    simp only [setH]
    rw [ih (λp hp=>hx p (by simp [hp]))]
    have:i≠iv:=hx (i,m,b) (by simp)
    rw [List.getElem?_set_ne this]
  have houts:∀(ν:List Nm) (is:List Nat) (ns:List Nm) (os:List (Option Box)),∀p∈outs ν is ns os,p.1∈is:=by
   intro ν is
   induction is with
   | nil=>intro ns os p hp;simp [outs]at hp
   | cons i is ih =>
    intro ns os p hp
    cases ns with
    | nil=>simp [outs]at hp
    | cons m ns=>cases os with
     | nil=>simp [outs]at hp
     | cons o os =>
      simp only [outs,List.mem_cons]at hp
      rcases hp with rfl|hp
      ·simp
      ·exact List.mem_cons_of_mem _ (ih _ _ _ hp)
  have hq:okL is.length args1=true:=by rw [hp1];exact Ct hok rfl
  have hpl:po<args0.length:=(List.getElem?_eq_some_iff.1 hp0).1
  refine ER 0 is (.inl rfl) (λ_ _ _=>trivial) hc0 hf hb hl ?_ ?_ ?_ ?_ hq rfl (by simp [hlen1]) (List.nodup_append.1 hi).1 (Et (by simp [hlen1]) hOok) hw .nil rfl H' ?_ h
  ·exact hS
  ·exact hSok
  ·intro m hm
   obtain ⟨v',hv1,hv2⟩:=BQ hn hm
   rw [hwn]at hv1
   simp only [so_]at hv1
   subst hv1
   cases hv2
  ·intro S tk ag
   have h1:(args.map (ev sl)++caps)=((args.map (ev sl)++caps).set po .none).set po .nil:=by rw [List.set_set,nT hwn]
   have h2:((args.map (ev sl)++caps).set po .none).map (co S)=((args.map (ev sl)++caps).set po .none).map co0:=Be (by
    cases hx:((args.map (ev sl)++caps).set po .none).flatMap frz with
    | nil=>rfl
    | cons a b=>rw [hx]at hn;simp at hn)
   have hbase:ArgsOK S ((args.map (ev sl)++caps).set po .none) ((renL (l.map (·.1)) args1).set po .none):=by
    refine ArgsOK.of_map ?_
    rw [h2,List.map_set,hp1,uP,List.set_set]
    exact ha
   have:=ArgsOK.set (x' := .nil) (y' := .nil) (.inl rfl) hbase
   have e:(renL (l.map (·.1)) args1).set po .nil=renL (l.map (·.1)) args1:=by
    rw [hp1,uP,List.set_set];rfl
   rw [nT hwn,e]at this
   exact this
  ·rw [<- hH]
   symm
   apply nT
   rw [hset (λp hp e=>hivs (e ▸ houts _ _ _ _ p hp)),hv];rfl
 ·have e1:kB b sz enc xs=some (bV sz enc xs):=by
   cases b with
   | true=>rfl
   | false=>exact EO (λe=>hbx ⟨rfl,e⟩)
  have e2:kV b n sz xs=vV n sz xs:=by
   cases b with
   | true=>rfl
   | false=>exact Ns (λe=>hbx ⟨rfl,e⟩)
  have e3:(b || !xs.isEmpty)=true:=by
   cases b with
   | true=>rfl
   | false=>cases xs with
    | nil=>exact absurd ⟨rfl,rfl⟩ hbx
    | cons x xs=>rfl
  rw [e3]at hH h
  rw [e1]at hv
  rw [e2]at hw1
  refine KL (v:=vV n sz ys) 0 is iv po (.inl rfl) (λ_ _ _=>trivial) hc hf hb hl hv hS hSok hw1 hp0 hn ha hok (Da (ls_ _)) (by simp [hlen1]) hi hOok bV_ok hw ?_ H' hH h
  simp only [vV,ren]
  rw [ug (n:=n) (by rw [List.getElem?_append_right (by simp [hll])];simp [hll])]
end
end Go.Eng

/-
  THE ENGINE: rules for arrays of bytes in a box, and for bytes to a string and back.
-/
namespace Go.Eng
set_option linter.unusedSectionVars false
variable [DM]
open Go
set_option linter.unusedVariables false
set_option linter.unusedSimpArgs false
section
variable {C:Cfg} {sl:Nat->V} {H:Hp} {q:Qm} {all rest:List Oper} {K:(Nat->V)->Hp->Prop}
variable {dst:Option Tmp} {d:Nat} {t ty:TypeId} {pos:String} {after:Array Edge} {g:Option (Nat×Bool)}
section
variable {xs:List Int} {m:Nat} {nm:Nm} {x l hi:Operand} {k k':IntKind} {a b:Int} {u u':Unit}
end
end
end Go.Eng

/-
  THE ENGINE: strconv.Itoa, by its contract off the shelf; the table that it reads is known.
-/
namespace Go.Eng
set_option linter.unusedSectionVars false
variable [DM]
open Go.Sort
set_option linter.unusedVariables false
set_option linter.unusedSimpArgs false
theorem O9 {P:Program} {G:Gh} {w:World} {name:String} {k:IntKind} {zs:List Int} (hl:∀w0,LB w0->Lib.TabIs P w0 name k zs) (hz:zs ≠ []) (h:Kn G w):Lib.TabIs P w name k zs:=by
 obtain ⟨w0,h1,h2⟩:=h
 have ht:=hl w0 h1
 unfold Lib.TabIs World.var? at ht ⊢
 cases hg:P.globalNamed name with
 | none=>rw [hg]at ht;simp at ht
 | some g =>
  rw [hg]at ht
  simp only [ob_]at ht ⊢
  have hlt:g<w0.heap.size:=by
   rcases Nat.lt_or_ge g w0.heap.size with h|h
   ·exact h
   ·rw [Array.getElem?_eq_none h]at ht;cases ht
  have hc:∀o,w.cell? ⟨g,o,Option.none⟩=w0.cell? ⟨g,o,Option.none⟩:=λo=>(h2 g o hlt).2
  cases hb:w0.heap[g]? with
  | none=>rw [hb]at ht;cases ht
  | some ob =>
   rw [hb]at ht
   cases ob with
   | cells cs t fr =>
    simp only [so_]at ht
    have e0:∀o,w0.cell? ⟨g,o,Option.none⟩=cs[o]? := λo=>by simp [World.cell?,hb]
    cases hw:w.heap[g]? with
    | none =>
     exfalso
     have:=hc 0
     rw [e0]at this
     simp only [World.cell?,hw]at this
     rw [ht]at this
     cases zs with
     | nil=>exact hz rfl
     | cons z zs=>simp at this
    | some ob' =>
     cases ob' with
     | cells cs' t' fr' =>
      have e1:∀o,w.cell? ⟨g,o,Option.none⟩=cs'[o]? := λo=>by simp [World.cell?,hw]
      have:cs'=cs:=Array.ext_getElem? (λo=>by rw [<- e1,<- e0,hc])
      rw [this,ht]
     | _ =>
      exfalso
      have:=hc 0
      rw [e0]at this
      simp only [World.cell?,hw]at this
      rw [ht]at this
      cases zs with
      | nil=>exact hz rfl
      | cons z zs=>simp at this
   | _=>cases ht
def Nb (n:Int):Option ByteArray:=if -9223372036854775808<=n/\n<=9223372036854775807 then some ⟨(Lib.itoa n).toArray⟩else none
theorem itoa_ok {P:Program} {f:FuncId}
  (hC : ∀ (n : Int), -9223372036854775808 ≤ n → n ≤ 9223372036854775807 → ∀ w : World, Lib.TabIs P w "internal/strconv.uint64pow10" .u64 Lib.pow10Tab →
   Calls P f #[.int .i64 n] w λe w'=>e = .returned (.string ⟨(Lib.itoa n).toArray⟩)/\∃k os,w'=grow (w.drewN k) os)
  (hl : ∀ w0, LB w0 → Lib.TabIs P w0 "internal/strconv.uint64pow10" .u64 Lib.pow10Tab) {n : Int} {r : ByteArray} (hF : Nb n = some r) : FnM P f [.d (.int .i64 n)] [] (.d (.str r)) [] := by
 unfold Nb at hF
 split at hF
 ·rename_i hn
  simp only [so_]at hF
  subst hF
  intro G w vargs hinv hargs
  obtain ⟨v,rfl,hv⟩:=hargs.alone
  have hv':RepD G.imm w v (.int .i64 n):=hv.d_inv
  cases hv' with
  | int =>
   refine (hC n hn.1 hn.2 w (O9 hl (by decide) hinv.kn)).mono ?_
   rintro e w' ⟨rfl,k,os,rfl⟩
   obtain ⟨i2,e2⟩:=hinv.more (w':=grow (w.drewN k) os) (G':=G) (U':=λ_=>False) (λb' hb'=>by
    show (w.heap++os)[b']? = _
    rw [Array.getElem?_append_left hb']) (by simp [grow,World.drewN]) rfl rfl rfl (λ_ _ h=>h) (λ_ _ h => .inl h) rfl (λ_ h=>h) (λ_=>Nat.le_add_right w.drawn k)
   exact⟨_,G,_,1,_,[],rfl,i2,.d (.str _),rfl,List.nodup_nil,λi hi=>absurd hi (Nat.not_lt_zero i),λi bx hb=>by simp at hb⟩
 ·cases hF
end Go.Eng

/-
  THE ENGINE: functions over literals, by their contracts off the shelf.
-/
namespace Go.Eng
set_option linter.unusedSectionVars false
variable [DM]
open Go.RowKit (Below)
set_option linter.unusedVariables false
set_option linter.unusedSimpArgs false
end Go.Eng

/-
  THE ENGINE: strings.Join, strings.Repeat, bits.TrailingZeros, by their contracts off the shelf.
-/
namespace Go.Eng
set_option linter.unusedSectionVars false
variable [DM]
open Go
open Go.RowKit (Below)
set_option linter.unusedVariables false
set_option linter.unusedSimpArgs false
def NP (xs:List ByteArray) (sep:ByteArray):Option ByteArray :=
 if xs.length<=140737488355328/\(Lib.join (xs.map (·.data.toList)) sep.data.toList).length<=140737488355328 then some ⟨(Lib.join (xs.map (·.data.toList)) sep.data.toList).toArray⟩else none
theorem join_ok (hdm:dmK=false) {P:Program} {f:FuncId}
  (h0:∀(a:Option Addr) (c:Nat) (sep:ByteArray) (w:World),Calls P f #[.slice a 0 c,.string sep] w λe w'=>e = .returned (.string ⟨#[]⟩)/\w'=w)
  (hC:∀(bk o c:Nat) (xs:List ByteArray) (sep:ByteArray) (w:World),(∀(j:Nat) x,xs[j]? = some x->w.cell? ⟨bk,o+j,none⟩=some (.string x))->bk<w.heap.size->xs.length<=140737488355328->xs.length<=c ->
   (Lib.join (xs.map (·.data.toList)) sep.data.toList).length<=140737488355328 ->
   Calls P f #[.slice (some ⟨bk,o,none⟩) xs.length c,.string sep] w λe w'=>e = .returned (.string ⟨(Lib.join (xs.map (·.data.toList)) sep.data.toList).toArray⟩)/\Below w.heap.size w w')
  {xs:List ByteArray} {sep r:ByteArray} (hF:NP xs sep=some r):FnM P f [vL eS xs,vS sep] [] (vS r) []:=by
 unfold NP at hF
 split at hF
 ·rename_i hx
  simp only [so_]at hF
  subst hF
  intro G w vargs hinv hargs
  have hfin:∀w',Below w.heap.size w w'->∃v G' S' tk' U' ν,Ending.returned (.string ⟨(Lib.join (xs.map (·.data.toList)) sep.data.toList).toArray⟩) = .returned v/\Inv ⟨G,w,Cq G []⟩ G' w' S' tk' U'/\RepV G' w' v (ren ν (vS ⟨(Lib.join (xs.map (·.data.toList)) sep.data.toList).toArray⟩)) /\
    ν.length=([]:List (Option Box)).length/\ν.Nodup/\(∀i,i<([]:List Box).length->ν[i]? = some (aG i))/\∀(i:Nat) (bx:Box),([]:List (Option Box))[i]? = some (some bx)->∃n,ν[i]? = some n/\S' n=some (bx.ren ν):=by
   intro w' hb
   obtain ⟨i2,e2⟩:=hinv.more (w':=w') (G':=G) (U':=λ_=>False) (λb' hb'=>hb.block b' hb') hb.size hb.os hb.tape hb.output (λ_ _ h=>h) (λ_ _ h => .inl h) rfl (λ_ h=>h) (λh=>by rw [hdm]at h;cases h)
   exact⟨_,G,_,1,_,[],rfl,i2,.d (.str _),rfl,List.nodup_nil,λi hi=>absurd hi (Nat.not_lt_zero i),λi bx hb=>by simp at hb⟩
  obtain ⟨hl,ha⟩:=hargs
  obtain ⟨v0,v1,rfl⟩:∃v0 v1,vargs=[v0,v1]:=by
   match vargs,hl with
   | [v0,v1],_=>exact⟨v0,v1,rfl⟩
  have r0:RepV G w v0 (vL eS xs):=ha 0 (by simp) (by simp)
  have r1:RepV G w v1 (vS sep):=ha 1 (by simp) (by simp)
  rw [r1.d_inv.str_inv]
  have r0':=r0.d_inv
  generalize hys:xs.map eS=ys at r0'
  cases r0' with
  | sl0 a cap =>
   have hn:xs=[]:=by simpa using hys
   subst hn
   refine (h0 a cap sep w).mono ?_
   rintro e w' ⟨rfl,rfl⟩
   exact hfin _ (Below.refl _ _)
  | sl b off cap sz _ us hcap hsz hI hc ho hr =>
   have hlen:ys.length=xs.length:=by rw [<- hys];simp
   have hcell:∀(j:Nat) x,xs[j]? = some x->w.cell? ⟨b,off+j,none⟩=some (.string x):=by
    intro j x hj
    obtain ⟨hj1,hj2⟩:=List.getElem?_eq_some_iff.1 hj
    have hj':j<ys.length:=by omega
    have hy:ys[j]=[D.str x]:=by
     subst hys
     rw [List.getElem_map,hj2];rfl
    have hz:sz=1:=by rw [<- hsz j hj',hy];rfl
    subst hz
    have h2:=hc j 0 hj' (by omega)
    have h3:=hr j 0 hj' (by rw [hy];exact Nat.zero_lt_one)
    have h4:us j 0 = .string x:=by
     have:ys[j][0]'(by rw [hy];exact Nat.zero_lt_one)=D.str x:=by simp [hy]
     rw [this]at h3
     exact h3.str_inv
    rw [h4]at h2
    simpa using h2
   rw [hlen]
   cases xs with
   | nil =>
    refine (h0 (some ⟨b,off,none⟩) cap sep w).mono ?_
    rintro e w' ⟨rfl,rfl⟩
    exact hfin _ (Below.refl _ _)
   | cons x xs =>
    have hb:b<w.heap.size:=by
     rcases Nat.lt_or_ge b w.heap.size with h|h
     ·exact h
     ·have h1:=hcell 0 x rfl
      have e:w.heap[b]? = none:=Array.getElem?_eq_none h
      simp only [World.cell?,e]at h1
      cases h1
    refine (hC b off cap (x::xs) sep w hcell hb hx.1 (by omega) hx.2).mono ?_
    rintro e w' ⟨rfl,hbw⟩
    exact hfin _ hbw
 ·cases hF
end Go.Eng

/-
  THE ENGINE: rows of strings that a function of the library makes; slices.Sorted(maps.Keys(m)), by the contracts off the shelf.
-/
namespace Go.Eng
set_option linter.unusedSectionVars false
variable [DM]
open Go
open Go.RowKit (Below)
open Go.WideElems (Fit rd rg)
set_option linter.unusedVariables false
set_option linter.unusedSimpArgs false
theorem row_rep {G:Gh} {w w':World} {t:TypeId} {v:Value} {xs:List ByteArray} (h:w'.ownsRow w.heap.size t 1 v xs.length (xs.map Value.string)) :
    ∃I':Nat->Nat->Prop,(∀b o,G.imm b o->I' b o)/\(∀b o,I' b o->G.imm b o\/(w.heap.size<=b/\b<w'.heap.size))/\RepD I' w' v (.sl (xs.map eS)):=by
  rcases h.2 with⟨rfl,h0⟩|⟨g,cap,cur,rfl,h1,h2,h3,h4,h5,h6⟩
  · have:xs=[]:=List.eq_nil_of_length_eq_zero h0
    subst this
    exact⟨G.imm,λ_ _ h=>h,λ_ _ h => .inl h,.sl0 _ _⟩
  · have hlt:g<w'.heap.size:=(Array.getElem?_eq_some_iff.1 h2).1
    refine⟨λb o=>G.imm b o\/(b=g/\o<xs.length),λ_ _ h => .inl h,λb o h=>h.imp id (λh=>by rw [h.1];exact⟨h1,hlt⟩),?_⟩
    have hl:(xs.map eS).length=xs.length:=by simp
    have hc:∀i (hi:i<xs.length),w'.cell? ⟨g,0+i*1+0,none⟩=some (.string xs[i]):=λi hi=>by
      have e1:cur.toList[i]? = some (.string xs[i]):=by
        have:=congrArg (λl=>l[i]?) h6
        simp only [List.getElem?_map,List.getElem?_eq_getElem hi,Option.map_some,Nat.mul_one]at this
        rwa [List.getElem?_take,if_pos hi]at this
      have e2:cur[i]? = some (.string xs[i]):=by simpa using e1
      simp [World.cell?,h2,e2]
    have:=RepD.sl (I:=λb o=>G.imm b o\/(b=g/\o<xs.length)) (w:=w') g 0 cap 1 (xs.map eS) (λi _ => .string (xs.getD i ⟨#[]⟩)) (by rw [hl];exact h3) (λi hi=>by rw [List.getElem_map];rfl)
      (λi j hi hj => .inr ⟨rfl,by rw [hl]at hi;omega⟩)
      (λi j hi hj=>by
        rw [hl]at hi
        obtain rfl:j=0:=by omega
        rw [hc i hi];simp [List.getD,List.getElem?_eq_getElem hi])
      (λi j hi hj=>rfl)
      (λi j hi hj=>by
        have hi':i<xs.length:=by rw [hl]at hi;exact hi
        have e:(xs.map eS)[i]=[D.str xs[i]]:=by rw [List.getElem_map];rfl
        have hj0:j=0:=by
          have:((xs.map eS)[i]).length=1:=by rw [e];rfl
          omega
        subst hj0
        have e2:(xs.map eS)[i][0]=D.str xs[i]:=by simp [eS]
        rw [e2]
        simp only [List.getD,List.getElem?_eq_getElem hi',Option.getD_some]
        exact .str _)
    rw [hl]at this
    exact this
theorem FnM.ofRow (hdm:dmK=false) {P:Program} {f:FuncId} {args:List V} {Sin:List Box} (xs:List ByteArray) (hok:∀b∈Sin,b.ok Sin.length=true)
    (h:∀(G:Gh) (w:World) (vargs:List Value),Inv ⟨G,w,Cq G Sin⟩ G w (fO Sin) 1 (λ_=>False)->u6 G w vargs args ->
      Calls P f vargs.toArray w λe w'=>∃v t,e = .returned v/\w'.ownsRow w.heap.size t 1 v xs.length (xs.map Value.string)/\Below w.heap.size w w'):FnM P f args Sin (vL eS xs) (Sin.map some):=by
  intro G w vargs hinv hargs
  refine (h G w vargs hinv hargs).mono ?_
  rintro e w' ⟨v,t,rfl,hrow,hb⟩
  obtain ⟨I',h1,h2,h3⟩:=row_rep (G:=G) hrow
  obtain ⟨i2,e2⟩:=hinv.more (w':=w') (G':=⟨I',G.mu⟩) (U':=λ_=>False) (λb' hb'=>hb.block b' hb') hb.size hb.os hb.tape hb.output h1 h2 rfl (λ_ h=>h) (λh=>by rw [hdm]at h;cases h)
  refine⟨_,_,_,1,_,(List.range Sin.length).map aG,rfl,i2,.d h3,by simp,?_,λi hi=>by simp [hi],λi bx hb => ?_⟩
  · refine List.pairwise_map.2 (List.nodup_range.imp (λ{a b} hab he=>hab ?_))
    have:=congrArg xh he
    rw [kG,kG,so_]at this
    exact this
  · rw [List.getElem?_map,Option.map_eq_some_iff]at hb
    obtain ⟨b',hb1,hb2⟩:=hb
    obtain rfl:b'=bx:=by simpa using hb2
    have hi:i<Sin.length:=(List.getElem?_eq_some_iff.1 hb1).1
    refine⟨aG i,by simp [hi],?_⟩
    rw [zU (hok _ (List.mem_of_getElem? hb1)),tQ]
    exact hb1
theorem Pn {P:Program} {f f1:FuncId} {tm:TypeId} (hC:∀(mb:Option Nat) (w:World),Calls P f #[.map mb] w λe w'=>e = .returned (.func (.func f1) #[] #[.pointer (some ⟨w.heap.size,0,none⟩)])/\w'=w.alloc (.cells #[.map mb] tm)) (es:List (D×D)) :
    FnM P f [.map (aG 0)] [.map es] (.fn f1 [.ref (aG 1) 0 0]) [some (.map es),some (.cells 1 [.map (aG 0)])]:=by
  intro G w vargs hinv hargs
  obtain ⟨v,rfl,hv⟩:=hargs.alone
  cases hv with
  | map hm =>
    rename_i b o sz
    refine (hC (some b) w).mono ?_
    rintro e w' ⟨rfl,rfl⟩
    obtain ⟨i2,e2⟩:=hinv.allocBox 0 (λh=>h) (.cells #[.map (some b)] tm) (.cells 1 [.map (aG 0)]) (λG' hi he=>by
      have hst:Stands G' (w.alloc (.cells #[.map (some b)] tm)) (.cells 1 [.map (aG 0)]) w.heap.size 0 1 :=
        { sz:=rfl,even:=trivial
          room:=by rw [bf (gW w _)];show 0+1<=1;omega
          cell:=λj hj=>by
            have hj0:j=0:=by simp [Box.all]at hj;exact hj
            subst hj0
            exact⟨.map (some b),by rw [cell_of_row (gW w _)];rfl,rfl,.map (he.mu _ _ hm)⟩
          free:=λ_=>⟨⟨_,_,gW w _⟩,λo' ho'=>absurd (hinv.immB _ o' ((hi _ _).1 ho')) (Nat.lt_irrefl _)⟩
          froz:=λh=>by simp [Box.mut]at h
          cel:=⟨λ_=>rfl,λh=>absurd h (by decide)⟩ }
      exact hst)
    refine⟨_,_,_,1,_,[aG 0,(0,1)],rfl,i2,?_,rfl,by decide,λi hi => ?_,λi bx hb => ?_⟩
    · refine .fn f1 [_] [_] rfl (λi h1 h2 => ?_)
      have hi0:i=0:=by simpa using h1
      subst hi0
      have:RepV ⟨G.imm,λm=>if m=((0,1):Nm)then some (w.heap.size,0,(Box.cells 1 [V.map (aG 0)]).sz)else G.mu m⟩ (w.alloc (.cells #[.map (some b)] tm)) (.pointer (some ⟨w.heap.size,0+0*1+0,none⟩)) (.ref ((0,1):Nm) 0 0) := .ref (sz:=1) 0 0 (by simp [Box.sz])
      have e1:ren [aG 0,((0,1):Nm)] (.ref (aG 1) 0 0) = .ref ((0,1):Nm) 0 0:=by simp only [ren,renN_1]
      simp only [renL,List.getElem_cons_zero,e1]
      exact this
    · have hi0:i=0:=by simpa using hi
      subst hi0;rfl
    · match i,hb with
      | 0,hb =>
        simp only [List.getElem?_cons_zero,so_]at hb
        subst hb
        refine⟨aG 0,rfl,?_⟩
        show supd (fO [Box.map es]) (0,1) _ (aG 0)=some (Box.map es)
        rw [supd,if_neg (by decide),tQ];rfl
      | 1,hb =>
        simp only [List.getElem?_cons_succ,List.getElem?_cons_zero,so_]at hb
        subst hb
        refine⟨(0,1),rfl,?_⟩
        show supd _ (0,1) _ (0,1)=_
        rw [supd,if_pos rfl]
        simp only [Box.ren,renL,ren,renN_0]
      | i+2,hb=>simp at hb
def IK {β:Type} (es:List (ByteArray×β)):Option (List ByteArray) :=
  if es.length<=1000000000/\es.all (λe=>decide (e.1.size<=1000000000))=true then some (((es.map λe=>e.1.data.toList).mergeSort leB).map λl=>⟨l.toArray⟩)else none
theorem FU (hdm:dmK=false) {P:Program} {f f1:FuncId} {kt et:TypeId} (hkt:P.underlying kt=some .string)
    (hC:∀(b nn Bm:Nat) (D0:DataW Unit) (w:World),w.cell? ⟨Bm,0,none⟩=some (.map (some b))->Bm<w.heap.size->w.ownsMap P kt (λ_=>some (.nil,[])) b nn D0->Maps.size D0<=maxLen->Maps.size D0*16<=140737488355328 ->
      Calls P f #[.func (.func f1) #[] #[.pointer (some ⟨Bm,0,none⟩)]] w λe w'=>∃(v:Value) (ss:List (List UInt8)),e = .returned v/\ss.Perm (strKeys D0) /\
        w'.ownsRow w.heap.size et 1 v ss.length ((ss.mergeSort leB).map Go.Proofs.encStr)/\Below w.heap.size w w')
    {β:Type} {eV:β->D} {es:List (ByteArray×β)} {r:List ByteArray} (hF:IK es=some r) :
    FnM P f [.fn f1 [.ref (aG 0) 0 0]] [.cells 1 [.map (aG 1)],.map (es.map λe=>(D.str e.1,eV e.2))] (vL eS r) [some (.cells 1 [.map (aG 1)]),some (.map (es.map λe=>(D.str e.1,eV e.2)))]:=by
  unfold IK at hF
  split at hF
  case isFalse=>cases hF
  rename_i hx
  simp only [so_]at hF
  subst hF
  have hok:∀b ∈ [Box.cells 1 [.map (aG 1)],Box.map (es.map λe=>(D.str e.1,eV e.2))],b.ok 2=true:=λb hb=>by
    simp only [List.mem_cons,List.not_mem_nil,or_false]at hb
    rcases hb with rfl|rfl
    · simp only [Box.ok,okL,okV,Da (show 1<2 by omega),Bool.and_self]
    · rfl
  refine FnM.ofRow hdm _ hok (λG w vargs hinv hargs => ?_)
  obtain ⟨v,rfl,hv⟩:=hargs.alone
  cases hv with
  | fn _ arr vs hl hv =>
    obtain ⟨u,rfl⟩:∃u,arr=[u]:=List.length_eq_one_iff.1 (by simpa using hl)
    have h0:RepV G w u (.ref (aG 0) 0 0):=hv 0 (by simp) (by simp)
    cases h0 with
    | ref _ _ hm =>
      rename_i bm om szm
      obtain ⟨b0,o0,s0,k1,k2,_⟩:=hinv.box (aG 0) (.cells 1 [.map (aG 1)]) (by rw [tQ];rfl)
      rw [hm,so_,Prod.mk.injEq,Prod.mk.injEq]at k1
      obtain ⟨rfl,rfl,rfl⟩:=k1
      have k2':Stands G w (.cells 1 [.map (aG 1)]) bm om szm:=k2
      obtain rfl:om=0:=k2'.cel.1 (.inl rfl)
      obtain ⟨uv,c1,_,c3⟩:=k2'.cell 0 (by show 0<1;omega)
      have c3':RepV G w uv (.map (aG 1)):=c3
      cases c3' with
      | map hm1 =>
        rename_i b1 o1 s1 _
        obtain ⟨b2,o2,s2,q1,q2,-⟩:=hinv.box (aG 1) (.map (es.map λe=>(D.str e.1,eV e.2))) (by rw [tQ];rfl)
        rw [hm1,so_,Prod.mk.injEq,Prod.mk.injEq]at q1
        obtain ⟨e1,e2,e3⟩:=q1
        subst e1 e2 e3
        have q3:IW G w (es.map λe=>(D.str e.1,eV e.2)) b1:=q2
        obtain ⟨_,arr,clock,⟨p1,ps⟩,p2,p3⟩:=q3
        have hlen:arr.size=es.length:=by rw [p2,List.length_map]
        have hkey:∀i (h1:i<arr.size) (h2:i<es.length),arr[i].key = .string es[i].1:=λi h1 h2=>by
          have:=(p3 i h1 (by rw [List.length_map];exact h2)).1
          simp only [List.getElem_map]at this
          exact this.str_inv
        have hsz:∀i (h:i<es.length),es[i].1.size<=maxLen:=λi h=>by
          have:=of_decide_eq_true (List.all_eq_true.1 hx.2 _ (List.getElem_mem h))
          unfold maxLen;omega
        have hrd:∀i (h1:i<arr.size) (h2:i<es.length),rd (H:=Unit) P kt (λ_=>some (.nil,[])) arr[i]=some (.string es[i].1.data.toList,.nil):=λi h1 h2=>by
          have h3:=hsz i h2
          simp [rd,keyOf,hkt,hkey i h1 h2,mapKey,h3]
        have hown:w.ownsMap (H:=Unit) P kt (λ_=>some (.nil,[])) b1 arr.size (.map ((arr.toList.map (rg P kt λ_=>some (.nil,[]))).foldr DataW.insert [])) :=
          ⟨arr,clock,p1,⟨by unfold maxLen;omega,ps,λx hx'=>by
            obtain ⟨i,hi,rfl⟩:=List.getElem_of_mem hx'
            have hi':i<arr.size:=by simpa using hi
            exact⟨_,by rw [Array.getElem_toList];exact hrd i hi' (by omega)⟩⟩,Nat.le_refl _,rfl⟩
        have hDs:Maps.size (DataW.map (H:=Unit) ((arr.toList.map (rg P kt λ_=>some (.nil,[]))).foldr DataW.insert []))=arr.size:=by
          show (List.foldr DataW.insert [] _).length=_
          rw [length_sorted];simp
        have hbm:bm<w.heap.size:=hinv.bound _ _ _ _ hm
        have c1':w.cell? ⟨bm,0,none⟩=some (.map (some b1)):=by simpa using c1
        have hcall:=hC b1 arr.size bm _ w c1' hbm hown (by rw [hDs];unfold maxLen;omega) (by rw [hDs];omega)
        have e0:(⟨bm,0+0*szm+0,none⟩:Addr)=⟨bm,0,none⟩:=by simp
        rw [e0]
        refine hcall.mono ?_
        rintro e w' ⟨v,ss,rfl,hperm,hrow,hb⟩
        have hkeys:(strKeys (DataW.map (H:=Unit) ((arr.toList.map (rg P kt λ_=>some (.nil,[]))).foldr DataW.insert []))).Perm (es.map λe=>e.1.data.toList):=by
          have h1:=(WideShapes.sorted_perm (arr.toList.map (rg (H:=Unit) P kt λ_=>some (.nil,[])))).map λp=>strOf p.1
          refine h1.trans (List.Perm.of_eq ?_)
          refine List.ext_getElem (by simp [hlen]) (λi a1 a2 => ?_)
          have a3:i<arr.size:=by simpa using a1
          have a4:i<es.length:=by omega
          simp only [List.getElem_map,Array.getElem_toList,WideElems.rg_of (hrd i a3 a4),strOf]
        have hs:ss.mergeSort leB=(es.map λe=>e.1.data.toList).mergeSort leB:=mergeSort_of_perm (hperm.trans hkeys)
        refine⟨v,et,rfl,?_,hb⟩
        have hl1:ss.length=(((es.map λe=>e.1.data.toList).mergeSort leB).map λl=>(⟨l.toArray⟩:ByteArray)).length:=by
          rw [List.length_map,<- hs,List.length_mergeSort]
        have hl2:(ss.mergeSort leB).map Go.Proofs.encStr=(((es.map λe=>e.1.data.toList).mergeSort leB).map λl=>(⟨l.toArray⟩:ByteArray)).map Value.string:=by
          rw [<- hs,List.map_map];rfl
        rw [<- hl1,<- hl2]
        exact hrow
end Go.Eng

/-
  THE ENGINE: results of which the first is a new slice and the others are data.
-/
namespace Go.Eng
set_option linter.unusedSectionVars false
variable [DM]
set_option linter.unusedVariables false
def vM (ds:List D) (v:V):V:=FC (v::ds.map V.d)
theorem Ia (ρ:List Nm):∀ds:List D,renL ρ (ds.map V.d)=ds.map V.d
 | []=>rfl
 | d::ds=>by simp only [List.map_cons,renL,ren,Ia ρ ds]
theorem KO (k:Nat):∀ds:List D,okL k (ds.map V.d)=true
 | []=>rfl
 | d::ds=>by simp only [List.map_cons,okL,okV,KO k ds,Bool.and_self]
theorem zZ (ρ:List Nm) (ds:List D) (v:V):ren ρ (vM ds v)=vM ds (ren ρ v):=by
 cases ds with
 | nil=>rfl
 | cons d ds =>
  show V.tup (renL ρ (v::(d::ds).map V.d))=_
  simp only [renL,Ia];rfl
theorem I6 {k:Nat} (ds:List D) {v:V} (h:okV k v=true):okV k (vM ds v)=true:=by
 cases ds with
 | nil=>exact h
 | cons d ds =>
  show okL k (v::(d::ds).map V.d)=true
  simp only [okL,KO,h,Bool.and_self]
section
variable {C:Cfg} {sl:Nat->V} {H:Hp} {q:Qm} {all rest:List Oper} {K:(Nat->V)->Hp->Prop}
variable {dst:Option Tmp} {d:Nat} {t ty:TypeId} {pos:String} {after:Array Edge} {g:Option (Nat×Bool)}
theorem Gm {α:Type} {enc:α->List D} {sz:Nat} {xs:List α} {f:Operand} {args:List Operand} {ats:Array TypeId} {fn:FuncId} {caps args0:List V} {Sin outs:List Box} (ds:List D) (is:List Nat) {l:List (Nm×Box)}
  (hc:FnM C.P fn args0 Sin (vM ds (gV (aG is.length) sz xs)) (outs.map some++gO sz enc xs))
  (hf:ev sl f = .fn fn caps) (hb:aJ C.P fn=true) (hl:mF H is=some l) (hS:Sin.map (λb=>b.ren (l.map (·.1)))=l.map (·.2)) (hSok:Sin.all (λb=>b.ok is.length)=true)
  (hn:((args.map (ev sl)++caps).flatMap frz).all (λn=>false)=true) (ha:(args.map (ev sl)++caps).map co0=renL (l.map (·.1)) args0) (hok:okL is.length args0=true)
  (hlen:outs.length=is.length) (hi:is.Nodup) (hO:outs.all (λb=>b.ok 0)=true)
  (hw:aO all sl ⟨some d,.call ⟨.value f,args.toArray,ats⟩,ty,pos,after,g⟩=some true)
  (H':Hp) (hH:∀ν,setH H (Eng.outs ν is (l.map (·.1)) (outs.map some))=H')
  (h:∀n:Nm,aX none C all K rest (upd sl d (vM ds (gV n sz xs))) (H'++[(n,gB sz enc xs)])) :
  aX none C all K (⟨some d,.call ⟨.value f,args.toArray,ats⟩,ty,pos,after,g⟩::rest) sl H:=by
 have hll:=(lg hl).1
 have okO0:∀{k:Nat} {os:List Box},os.all (λb=>b.ok 0)=true->okOut k (os.map some)=true:=by
  intro k os
  induction os with
  | nil=>exact λ_=>rfl
  | cons b os ih =>
   intro h
   simp only [List.all_cons,Bool.and_eq_true]at h
   simp only [List.map_cons,okOut,Bool.and_eq_true]
   exact⟨Box.ok_mono (Nat.zero_le _) h.1,ih h.2⟩
 cases xs with
 | nil =>
  have hc':FnM C.P fn args0 Sin (vM ds .nil) (outs.map some):=by simpa [gO,gV]using hc
  refine FO is 0 hc' hf hb hl hS hSok hn ha hok (I6 ds rfl) (by simp [hlen]) hi (okO0 hO) (by rw [List.drop_of_length_le (by simp [hlen])];rfl) hw (λν => ?_)
  simp only [List.range_zero,List.map_nil,List.append_nil,news,hH,zZ]
  exact JI (λn=>h n)
 | cons x xs =>
  refine FO (r:=vM ds (gV (aG is.length) sz (x::xs))) (Sout:=outs.map some++[some (.vec sz ((x::xs).map enc))]) is 1 hc hf hb hl hS hSok hn ha hok ?_ (by simp [hlen]) hi ?_ ?_ hw (λν => ?_)
  ·exact I6 ds (QE (by simp [hlen]) _)
  ·have:∀{k:Nat} {a b:List (Option Box)},okOut k a=true->okOut k b=true->okOut k (a++b)=true:=by
    intro k a b
    induction a with
    | nil=>exact λ_ h=>h
    | cons y a ih =>
     intro h1 h2
     cases y with
     | none=>exact ih h1 h2
     | some y=>simp only [List.cons_append,okOut,Bool.and_eq_true]at h1 ⊢;exact⟨h1.1,ih h1.2 h2⟩
   exact this (okO0 hO) rfl
  ·rw [List.drop_append_of_le_length (by simp [hlen]),List.drop_of_length_le (by simp [hlen])];rfl
  ·have e1:ren (l.map (·.1)++(List.range 1).map ν) (gV (aG is.length) sz (x::xs))=gV (ν 0) sz (x::xs):=by
    rw [Pg,ug]
    simp [hll]
   have e2:∀ν,Eng.outs ν is (l.map (·.1)) (outs.map some++[some (.vec sz ((x::xs).map enc))])=Eng.outs ν is (l.map (·.1)) (outs.map some):=by
    intro ν
    have:∀(is:List Nat) (ns:List Nm) (a b:List (Option Box)),is.length=a.length->Eng.outs ν is ns (a++b)=Eng.outs ν is ns a:=by
     intro is
     induction is with
     | nil=>intro ns a b h;cases a with
      | nil=>cases b <;> rfl
      | cons _ _=>simp at h
     | cons i is ih=>intro ns a b h;cases a with
      | nil=>simp at h
      | cons y a=>cases ns with
       | nil=>rfl
       | cons n ns=>simp only [List.cons_append,Eng.outs];rw [ih ns a b (by simpa using h)]
    exact this _ _ _ _ (by simp [hlen])
   rw [zZ,e1,e2,hH]
   rw [List.drop_append_of_le_length (by simp [hlen]),List.drop_of_length_le (by simp [hlen])]
   exact h (ν 0)
theorem Ep {α:Type} {enc:α->List D} {sz t:Nat} {xs:List α} {n:Nm} {outs:List Box} {e:Exit} {rs:List ResultVar} (ds:List D) (he:e = .normal\/e = .ret) (j:Nat) (h1:sl t=gV n sz xs) (hr:Fv C sl H rs (ds.map V.d)) (h2:H[j]? = some (n,gB sz enc xs)) (hj:Nat.ble outs.length j=true) (hO:outs.all (λb=>b.ok 0)=true)
  (h3:H.take outs.length=p9 0 outs):uz C (.tmp t::rs) outs.length (vM ds (gV (aG outs.length) sz xs)) (outs.map some++gO sz enc xs) e sl H:=by
 have hj:=Nat.le_of_ble_eq_true hj
 have hget:∀i (h:i<outs.length),H[i]? = some (aG i,some outs[i]):=λi hi=>by
  have:=uj outs 0 i hi
  rw [Nat.zero_add,<- h3,List.getElem?_take,if_pos hi]at this
  exact this
 have ho:∀{ν:List Nm} {l:List Box} {j:Nat} {js:List Nat} {ns:List Nm} {bs:List (Option Box)},(∀b∈l,b.ok 0=true)->(∀i (h:i<l.length),H[j+i]? = some (aG (j+i),some l[i]))->Bz H ν js ns bs->Bz H ν (List.range' j l.length++js) ((List.range' j l.length).map aG++ns) (l.map some++bs):=by
  intro ν l
  induction l with
  | nil=>exact λ_ _ h=>h
  | cons b l ih =>
   intro j js ns bs hb hg hr
   simp only [List.length_cons,List.range'_succ,List.map_cons,List.cons_append]
   refine⟨?_,ih (λx hx=>hb x (by simp [hx])) (λi hi => ?_) hr⟩
   ·have:=hg 0 (by simp)
    simp only [Option.map_some,vN (hb b (by simp))]
    exact this
   ·have:=hg (i+1) (by simpa using hi)
    rw [show j+1+i=j+(i+1) by omega]
    exact this
 have hO':∀b∈outs,b.ok 0=true:=λb hb=>List.all_eq_true.1 hO b hb
 have hco:∀vs:List V,CoL H vs vs:=λvs=>by
  induction vs with
  | nil=>exact .nil
  | cons v vs ih=>exact .cons (.inl rfl) ih
 cases xs with
 | nil =>
  refine⟨he,.nil::ds.map V.d,.nil::ds.map V.d,List.range' 0 outs.length++[],(List.range' 0 outs.length).map aG++[],⟨h1,hr⟩,hco _,?_,ho hO' (λi hi=>by rw [Nat.zero_add];exact hget i hi) trivial,by simp [List.nodup_range'],λi hi=>by simp [hi]⟩
  show vM ds .nil=_
  rw [zZ];rfl
 | cons x xs =>
  refine⟨he,.vs n sz 0 (x::xs).length::ds.map V.d,.vs n sz 0 (x::xs).length::ds.map V.d,List.range' 0 outs.length++[j],(List.range' 0 outs.length).map aG++[n],⟨h1,hr⟩,hco _,?_,
   ho hO' (λi hi=>by rw [Nat.zero_add];exact hget i hi) ⟨h2,trivial⟩,?_,λi hi=>by rw [List.getElem?_append_left (by simpa using hi)];simp [hi]⟩
  ·show vM ds (.vs n sz 0 (x::xs).length)=ren _ (vM ds (.vs (aG outs.length) sz 0 (x::xs).length))
   rw [zZ]
   simp only [ren]
   rw [ug]
   rw [List.getElem?_append_right (by simp)];simp
  ·rw [List.nodup_append]
   refine⟨List.nodup_range',by simp,λa ha b hb => ?_⟩
   simp only [List.mem_singleton]at hb
   simp only [List.mem_range'_1]at ha
   omega
end
end Go.Eng

/-
  THE ENGINE: a sort by a comparison of the program's, by its contract off the shelf.
-/
namespace Go.Eng
set_option linter.unusedSectionVars false
variable [dM:DM]
open Go.Sort Go.Proofs
set_option linter.unusedVariables false
set_option linter.unusedSimpArgs false
theorem PW {E:Env} {G:Gh} {w W:World} {S:Store} {tk:Nat} {U:Nat->Prop} (h:Inv E G w S tk U) {b:Nat} (hno:∀o,¬G.imm b o)
  (hh:∀b',b'≠b->b'<w.heap.size->W.heap[b']? = w.heap[b']?) (hs:w.heap.size<=W.heap.size) :
  Inv ⟨G.whole,W,Cq G.whole []⟩ G.whole W (fO []) 1 (λ_=>False)/\∀b' o',G.imm b' o'->W.cell? ⟨b',o',none⟩=w.cell? ⟨b',o',none⟩:=by
 have hc:∀b' o',G.imm b' o'->W.cell? ⟨b',o',none⟩=w.cell? ⟨b',o',none⟩:=λb' o' hb=>xO (hh b' (λe=>by subst e;exact hno _ hb) (h.immB _ _ hb)) o'
 have hno':∀(n:Nm) (bx:Box),fO [] n=some bx->False:=λn bx hx=>by
  unfold fO at hx
  split at hx
  ·simp at hx
  ·cases hx
 have k1:Kn G w:=h.kn.ext h.ext.imm h.ext.cell
 have k2:Kn G.whole W:=k1.ext (λ_ o h=>⟨o,h⟩) hc
 refine⟨⟨Ext.refl _ _,λ_ _ h => .inl h,λ_ _ _ _=>rfl,Nat.le_refl _,rfl,rfl,rfl,λn bx hx=>(hno' n bx hx).elim,λn m bx _ _ _ _ _ _ hx=>(hno' n bx hx).elim,λn x hx => ?_,λn b o sz hx => ?_,λb' o' ⟨m,hb⟩=>Nat.lt_of_lt_of_le (h.immB _ m hb) hs,k2,λ_=>Nat.le_refl _⟩,hc⟩
 ·cases hx
 ·cases hx
theorem Inv.toT {E:Env} {G:Gh} {w:World} {S:Store} {tk:Nat} {U:Nat->Prop} (h:Inv E G w S tk U) (hd:E.w.drawn<=w.drawn) : @Inv dmT E G w S tk U :=
 @Inv.mk dmT E G w S tk U h.ext h.newI h.frame h.size h.os h.tape h.output h.box h.one h.tick h.bound h.immB h.kn (λ_=>hd)
theorem Pw {α:Type} {E:α->List D} {dp:Nat} (hnw:∀a,(E a).all (nwD dp)=true) {P:Program} {g:FuncId} {F:α->α->Option Int} (hg:∀a b r,F a b=some r -> @FnM dmT P g [.d (.agg (E a)),.d (.agg (E b))] [] (vI r) [])
  {β:Type} [Inhabited β] (at_:β->α) (enc:β->List Value) {k:Nat} (cf:β->β->Int) (hcf:∀i j,F (at_ i) (at_ j)=some (cf i j))
  {Ev:Env} {G:Gh} {w:World} {S:Store} {tk:Nat} {U:Nat->Prop} (h:Inv Ev G w S tk U) {b o n:Nat} (hno:∀o',¬G.imm b o') (hblk:b<w.heap.size)
  (hl:∀i,(enc i).length=(E (at_ i)).length) (hr:∀i j (h1:j<(enc i).length) (h2:j<(E (at_ i)).length),RepD G.imm w (enc i)[j] (E (at_ i))[j]) :
  CmpLays P g #[] enc k cf b o n w:=by
 intro m os dk _ x y
 have hW:∀b',b'≠b->b'<w.heap.size->(sortWorldK enc k w b o m dk os).heap[b']? = w.heap[b']? := λb' h1 h2=>by
  show ((putRow id (Sort.ahead w m) b o (flatK enc k dk)).heap++os)[b']? = _
  have hsz:(putRow id (Sort.ahead w m) b o (flatK enc k dk)).heap.size=w.heap.size:=by simp [putRow,mapBlock,Sort.ahead]
  rw [Array.getElem?_append_left (by rw [hsz];exact h2),ym h1];rfl
 have hWs:w.heap.size<=(sortWorldK enc k w b o m dk os).heap.size:=by
  show w.heap.size<=((putRow id (Sort.ahead w m) b o (flatK enc k dk)).heap++os).size
  simp [putRow,mapBlock,Sort.ahead]
 generalize hWe:sortWorldK enc k w b o m dk os=W at hW hWs ⊢
 obtain ⟨i0,hc⟩:=PW (W:=W) h hno hW hWs
 have i1:=i0.toT (Nat.le_refl _)
 have rep:∀i,RepV G.whole W (.agg (enc i).toArray) (.d (.agg (E (at_ i)))):=λi => .d (.agg _ _ (hl i) (λj h1 h2=>(hr i j h1 h2).whole hc dp (List.all_eq_true.1 (hnw _) _ (List.getElem_mem h2))))
 have hargs:u6 G.whole W [.agg (enc x).toArray,.agg (enc y).toArray] [.d (.agg (E (at_ x))),.d (.agg (E (at_ y)))]:=by
  refine⟨rfl,λi h1 h2 => ?_⟩
  match i with
  | 0=>exact rep x
  | 1=>exact rep y
  | i+2=>exact absurd h1 (by simp)
 refine (hg _ _ _ (hcf x y) _ W [.agg (enc x).toArray,.agg (enc y).toArray] i1 hargs).mono ?_
 rintro e w' ⟨v,G',S',tk',U',ν,rfl,i2,rv,_,_,_,_⟩
 have hv:v = .int .i64 (cf x y):=by
  have:RepV G' w' v (.d (.int .i64 (cf x y))):=rv
  exact this.int_inv
 refine⟨by rw [hv],w'.drawn-W.drawn,w'.heap.extract W.heap.size,?_⟩
 have hM:∀k',¬Cq G.whole [] k':=λk' ⟨i,bx,_,_,hx,_⟩=>by simp at hx
 have hheap:w'.heap=W.heap++w'.heap.extract W.heap.size:=by
  have hsz:=(@Inv.size dmT _ _ _ _ _ _ i2)
  have hfr:=λk' hk=>(@Inv.frame dmT _ _ _ _ _ _ i2) k' hk (hM k') (PR _ _ _)
  refine Array.ext_getElem? (λj => ?_)
  by_cases hj:j<W.heap.size
  ·rw [Array.getElem?_append_left hj];exact hfr j hj
  ·rw [Array.getElem?_append_right (by omega),Array.getElem?_extract]
   split
   ·rw [show W.heap.size+(j-W.heap.size)=j by omega]
   ·rename_i hx
    simp only [Nat.not_lt]at hx
    have:w'.heap.size<=j:=by have h1:W.heap.size<=w'.heap.size:=hsz;omega
    simp [this]
 have hd:W.drawn+(w'.drawn-W.drawn)=w'.drawn:=by have:W.drawn<=w'.drawn:=(@Inv.dr dmT _ _ _ _ _ _ i2) rfl;omega
 have e1:w'.tape=W.tape:=(@Inv.tape dmT _ _ _ _ _ _ i2)
 have e2:w'.os=W.os:=(@Inv.os dmT _ _ _ _ _ _ i2)
 have e3:w'.output=W.output:=(@Inv.output dmT _ _ _ _ _ _ i2)
 unfold grow World.drewN
 show w' = { heap:=W.heap++w'.heap.extract W.heap.size,tape:=W.tape,drawn:=W.drawn+(w'.drawn-W.drawn),os:=W.os,output:=W.output }
 rw [hd,<- hheap,<- e1,<- e2,<- e3]
section
variable {α:Type}
def rR (F:α->α->Option Int) (x:α) (l:List α) (i j:Fin (l.length+1)):Int:=(F ((x::l).get i) ((x::l).get j)).getD 0
def zn {n:Nat} (lt:Fin (n+1)->Fin (n+1)->Bool):List (Fin (n+1)):=(pdq lt (Array.ofFn λi=>i) 0 (n+1) (Lib.bitLen (n+1)) true true).toList
open Classical in
noncomputable def zC (F:α->α->Option Int):List α->Option (List α)
 | []=>some []
 | x::l=>if l.length+1<4611686018427387904/\(∀i j:Fin (l.length+1),(F ((x::l).get i) ((x::l).get j)).isSome=true)/\SWO (ltOf (rR F x l))then
   some ((zn (ltOf (rR F x l))).map (x::l).get)else none
theorem OP {F:α->α->Option Int} {x:α} {l r:List α} (h:zC F (x::l)=some r) :
  (l.length+1<4611686018427387904/\(∀i j:Fin (l.length+1),(F ((x::l).get i) ((x::l).get j)).isSome=true)/\SWO (ltOf (rR F x l)))/\(zn (ltOf (rR F x l))).map (x::l).get=r:=by
 by_cases hc:l.length+1<4611686018427387904/\(∀i j:Fin (l.length+1),(F ((x::l).get i) ((x::l).get j)).isSome=true)/\SWO (ltOf (rR F x l))
 ·have e:zC F (x::l)=some ((zn (ltOf (rR F x l))).map (x::l).get):=if_pos hc
  rw [e]at h
  exact⟨hc,Option.some.inj h⟩
 ·have e:zC F (x::l)=none:=if_neg hc
  rw [e]at h
  cases h
theorem extract_all {β:Type} (d:Array β) {m:Nat} (h:d.size=m):d.extract 0 m=d:=by subst h;exact Array.extract_size
theorem G6 {n:Nat} {lt:Fin (n+1)->Fin (n+1)->Bool} (hO:SWO lt) :
  (zn lt).Perm (List.finRange (n+1))/\(zn lt).Pairwise (λa b=>lt b a=false)/\(zn lt).length=n+1/\(pdq lt (Array.ofFn λi=>i) 0 (n+1) (Lib.bitLen (n+1)) true true).size=n+1:=by
 have hs:(Array.ofFn λi:Fin (n+1)=>i).size=n+1:=by simp
 obtain ⟨⟨h1,_,h2⟩,h3⟩:=pdq_sorts lt hO (Array.ofFn λi=>i) 0 (n+1) (Lib.bitLen (n+1)) true true (Nat.zero_le _) (by rw [hs];exact Nat.le_refl _) (Or.inl rfl)
 have hsz:(pdq lt (Array.ofFn λi=>i) 0 (n+1) (Lib.bitLen (n+1)) true true).size=n+1:=h1.trans hs
 refine⟨?_,?_,?_,hsz⟩
 ·unfold zn
  generalize pdq lt (Array.ofFn λi=>i) 0 (n+1) (Lib.bitLen (n+1)) true true=d' at *
  have e1:d'.extract 0 (n+1)=d':=extract_all d' hsz
  have e2:(Array.ofFn λi:Fin (n+1)=>i).extract 0 (n+1)=Array.ofFn λi:Fin (n+1)=>i:=extract_all _ hs
  rw [e1,e2]at h2
  refine h2.trans (List.Perm.of_eq ?_)
  rw [Array.toList_ofFn];rfl
 ·unfold zn
  generalize pdq lt (Array.ofFn λi=>i) 0 (n+1) (Lib.bitLen (n+1)) true true=d' at *
  refine List.pairwise_iff_getElem.2 (λi j hi hj hij => ?_)
  have:=h3 i j (Nat.zero_le _) hij (by rw [<- hsz];simpa using hj)
  have a1:i<d'.size:=by simpa using hi
  have a2:j<d'.size:=by simpa using hj
  simpa [getElem!_pos d' i a1,getElem!_pos d' j a2]using this
 ·unfold zn;simpa using hsz
theorem Gp {F:α->α->Option Int} (c:α->α->Int) {xs:List α} (hl:xs.length<4611686018427387904) (hF:∀a∈xs,∀b∈xs,F a b=some (c a b))
  (hi:∀a∈xs,¬c a a<0) (ht:∀a∈xs,∀b∈xs,∀d∈xs,c a b<0->c b d<0->c a d<0) (hn:∀a∈xs,∀b∈xs,∀d∈xs,¬c a b<0->¬c b d<0->¬c a d<0) :
  ∃r,zC F xs=some r/\r.Perm xs/\r.Pairwise (λa b=>¬c b a<0):=by
 cases xs with
 | nil=>exact⟨[],rfl,.refl _,.nil⟩
 | cons x l =>
  have hm:∀i:Fin (l.length+1),(x::l).get i∈x::l:=λi=>List.get_mem (x::l) i
  have hc:∀i j,rR F x l i j=c ((x::l).get i) ((x::l).get j):=λi j=>by unfold rR;rw [hF _ (hm i) _ (hm j)];rfl
  have hO:SWO (ltOf (rR F x l)):=by
   constructor
   ·intro i;unfold ltOf;rw [hc];exact decide_eq_false (hi _ (hm i))
   ·intro i j k h1 h2
    unfold ltOf at *;rw [hc]at *
    exact decide_eq_true (ht _ (hm i) _ (hm j) _ (hm k) (of_decide_eq_true h1) (of_decide_eq_true h2))
   ·intro i j k h1 h2
    unfold ltOf at *;rw [hc]at *
    exact decide_eq_false (hn _ (hm i) _ (hm j) _ (hm k) (of_decide_eq_false h1) (of_decide_eq_false h2))
  obtain ⟨p1,p2,p3,_⟩:=G6 hO
  refine⟨(zn (ltOf (rR F x l))).map (x::l).get,?_,?_,?_⟩
  ·exact if_pos ⟨hl,λi j=>by rw [hF _ (hm i) _ (hm j)];rfl,hO⟩
  ·refine (p1.map _).trans (List.Perm.of_eq ?_)
   exact List.ext_getElem (by simp) (λi h1 h2=>by simp)
  ·rw [List.pairwise_map]
   exact p2.imp (λ{i j} h=>by unfold ltOf at h;rw [hc]at h;exact of_decide_eq_false h)
end
theorem FM {α:Type} (E:α->List D) (k:Nat) (hE:∀x,(E x).length=k) (xs:List α):(Box.vec k (xs.map E)).all.length=xs.length*k:=by
 induction xs with
 | nil=>simp [Box.all]
 | cons x xs ih =>
  simp only [Box.all,List.map_cons,List.flatten_cons,List.length_append,List.length_map,List.length_cons,hE]at ih ⊢
  rw [ih,Nat.add_mul];omega
theorem iU {p:D->Bool} {d:D} {l:List D} (h:p d=true) (k:l.all p=true):(d::l).all p=true:=by rw [List.all_cons,h,k];rfl
theorem J4 {α:Type} {enc:α->List D} {xs:List α} {n:Nat} (h:∀x,(enc x).all (nwD n)=true):nwD (n+1) (dl enc xs)=true:=by
 show (xs.map enc).all (λx=>x.all (nwD n))=true
 rw [List.all_map,List.all_eq_true]
 exact λx _=>h x
theorem Pf {α:Type} {enc:α->List D} {x:Option α} {n:Nat} (h:∀x,(enc x).all (nwD n)=true):nwD (n+1) (dP enc x)=true:=by
 cases x with
 | none=>rfl
 | some y=>exact h y
theorem II {α:Type} {E:α->List D} {k dp:Nat} (hnw:∀a,(E a).all (nwD dp)=true) (hE:∀x,(E x).length=k) {P:Program} {f g:FuncId} {F:α->α->Option Int}
  (hg:∀a b r,F a b=some r -> @FnM dmT P g [.d (.agg (E a)),.d (.agg (E b))] [] (vI r) []) (hb:aJ P g=true)
  (hC:∀(β:Type) [Inhabited β] (enc:β->List Value) (hk:∀x,(enc x).length=k) (h1:∀x,∀v∈enc x,v.oneCell'=true) (cf:β->β->Int) (hO:SWO (ltOf cf)) (g:Nat) (cb:Array Value) (blk off cap:Nat) (d:Array β) (w:World)
   (eg:∀args w,(callFunc g args).run P w = .ok (.enter g args) w) (hcmp:CmpLays P g cb enc k cf blk off d.size w) (hH:HoldsK enc k w blk off d) (hblk:blk<w.heap.size) (hsz:d.size<4611686018427387904),
   Calls P f #[.slice (some ⟨blk,off,none⟩) d.size cap,.func (.func g) #[] cb] w λe w'=>e = .returned (.tuple #[])/\∃n os,w'=sortWorldK enc k w blk off n (pdq (ltOf cf) d 0 d.size (Lib.bitLen d.size) true true) os)
  (h0:∀(p:Option Addr) (cap:Nat) (fv:Value) (w:World),Calls P f #[.slice p 0 cap,fv] w λe w'=>e = .returned (.tuple #[])/\w'=w)
  {xs r:List α} (hF:zC F xs=some r) :
  FnM P f [dV (aG 0) k xs,.fn g []] (([]:List Box)++gI k E xs) (.tup []) (([]:List Box).map some++gT xs (gB k E r)):=by
 have unit:∀G w,RepV G w (.tuple #[]) (.tup []):=λG w => .tup [] [] rfl (λi h1=>absurd h1 (Nat.not_lt_zero i))
 intro G w vargs hinv hargs
 obtain ⟨v,v2,rfl,hv,hf⟩:=hargs.two
 obtain rfl:v2 = .func (.func g) #[] #[]:=by
  cases hf with
  | fn _ arr _ hl _ =>
   obtain rfl:arr=[]:=List.eq_nil_of_length_eq_zero hl
   rfl
 cases xs with
 | nil =>
  have hv':RepD G.imm w v (.sl []):=hv.d_inv
  obtain ⟨p,cap,rfl⟩:∃p cap,v = .slice p 0 cap:=by
   cases hv' with
   | sl0 a cap=>exact⟨_,_,rfl⟩
   | sl b off cap sz xs us=>exact⟨_,_,rfl⟩
  refine (h0 p cap _ w).mono ?_
  rintro e w' ⟨rfl,rfl⟩
  exact⟨_,G,fO [],1,_,[],rfl,hinv,unit _ _,rfl,List.nodup_nil,λi hi=>absurd hi (Nat.not_lt_zero i),λi bx hb=>by simp [gT]at hb⟩
 | cons x l =>
  obtain ⟨⟨hlen,hsome,hO⟩,hF⟩:=OP hF
  ·skip
   obtain ⟨p1,p2,p3,p4⟩:=G6 hO
   have hrl:r.length=l.length+1:=by rw [<- hF,List.length_map,p3]
   have hB:gB k E r=some (.vec k (r.map E)):=by
    cases r with
    | nil=>simp at hrl
    | cons a b=>rfl
   have hI:(([]:List Box)++gI k E (x::l))=[.vec k ((x::l).map E)]:=rfl
   have hT:(([]:List Box).map some++gT (x::l) (gB k E r))=[some (.vec k (r.map E))]:=by rw [hB];rfl
   rw [hI]at hinv ⊢
   rw [hT]
   have hS:fO [.vec k ((x::l).map E)] (aG 0)=some (.vec k ((x::l).map E)):=by rw [tQ];rfl
   obtain ⟨b,o,sz,hmu,hst,hEv⟩:=hinv.box _ _ hS
   have hst':Stands G w (.vec k ((x::l).map E)) b o sz:=hst
   obtain rfl:sz=k:=hst'.sz
   have hv':RepV G w v (.vs (aG 0) sz 0 (l.length+1)):=hv
   generalize hk:l.length+1=n at hv'
   cases hv' with
   | vs0=>omega
   | @vs _ b2 o2 _ _ _ cap hm hcap hb2 =>
    rw [hmu]at hm
    simp only [so_,Prod.mk.injEq]at hm
    obtain ⟨rfl,rfl,_⟩:=hm
    subst hk
    obtain ⟨⟨arr,elem,harr⟩,hnoimm⟩:=hst'.free rfl
    have hgl:∀i:Fin (l.length+1),i.1<((x::l).map E).length:=λi=>by rw [List.length_map];exact i.2
    have hex:∀i:Fin (l.length+1),∃us:Nat->Value,(∀j,j<sz->w.cell? ⟨b,o+i.1*sz+j,none⟩=some (us j)/\(us j).oneCell'=true)/\∀j (hj:j<(E ((x::l).get i)).length),RepD G.imm w (us j) (E ((x::l).get i))[j]:=λi=>by
     obtain ⟨hl,us,u1,u2⟩:=hst'.elem (.inl rfl) i.1 (hgl i)
     have e:((x::l).map E)[i.1]'(hgl i)=E ((x::l).get i):=by rw [List.getElem_map];rfl
     rw [e]at hl
     refine⟨us,λj hj=>u1 j (by rw [e,hl];exact hj),λj hj => ?_⟩
     have:=u2 j (by rw [e];exact hj)
     simp only [e]at this
     exact this
    let enc:Fin (l.length+1)->List Value:=λi=>(List.range sz).map λj=>(w.cell? ⟨b,o+i.1*sz+j,none⟩).getD undef
    have henc:∀i,(enc i).length=sz:=λi=>by simp [enc]
    have hencj:∀i j (hj:j<(enc i).length),∃u,(enc i)[j]=u/\w.cell? ⟨b,o+i.1*sz+j,none⟩=some u/\u.oneCell'=true/\∀(h2:j<(E ((x::l).get i)).length),RepD G.imm w u (E ((x::l).get i))[j]:=λi j hj=>by
     obtain ⟨us,u1,u2⟩:=hex i
     have hj':j<sz:=by rw [henc]at hj;exact hj
     refine⟨us j,?_,(u1 j hj').1,(u1 j hj').2,λh2=>u2 j h2⟩
     simp [enc,(u1 j hj').1]
    have h1:∀i,∀v∈enc i,v.oneCell'=true:=λi v hv=>by
     obtain ⟨j,hj,rfl⟩:=List.getElem_of_mem hv
     obtain ⟨u,e,_,h,_⟩:=hencj i j hj
     rw [e];exact h
    have hds:(Array.ofFn λi:Fin (l.length+1)=>i).size=l.length+1:=by simp
    have hdg:∀t (h:t<l.length+1),(Array.ofFn λi:Fin (l.length+1)=>i)[t]! = ⟨t,h⟩:=λt h=>by
     rw [getElem!_pos _ t (by simpa using h)];simp
    have hget:∀(i:Fin (l.length+1)) c,c<sz->w.cell? ⟨b,o+i.1*sz+c,none⟩=some (enc i)[c]! := λi c hc=>by
     obtain ⟨u,e,h,_⟩:=hencj i c (by rw [henc];exact hc)
     rw [getElem!_pos _ c (by rw [henc];exact hc),e];exact h
    have hH:HoldsK enc sz w b o (Array.ofFn λi:Fin (l.length+1)=>i):=λt ht=>by
     have ht':t<(l.length+1)*sz:=by simpa using ht
     have hk0:0<sz:=by
      rcases Nat.eq_zero_or_pos sz with h|h
      ·rw [h]at ht';omega
      ·exact h
     have htd:t / sz<l.length+1:=Nat.div_lt_of_lt_mul (by rw [Nat.mul_comm];exact ht')
     refine⟨?_,by simp only [World.frozen?,harr];simp⟩
     rw [get_flatK _ _ _ _ (by rw [hds];exact ht'),hdg _ htd]
     have:=hget ⟨t / sz,htd⟩ (t % sz) (Nat.mod_lt _ hk0)
     have e:o+t / sz*sz+t % sz=o+t:=by have:=Nat.div_add_mod t sz;rw [Nat.mul_comm]at this;omega
     simp only [e]at this
     exact this
    have hcf:∀i j,F ((x::l).get i) ((x::l).get j)=some (rR F x l i j):=λi j=>by
     have:=hsome i j
     unfold rR
     cases hx:F ((x::l).get i) ((x::l).get j)with
     | none=>rw [hx]at this;cases this
     | some a=>rfl
    have hcmp:=Pw (E:=E) (P:=P) (g:=g) hnw hg (x::l).get enc (k:=sz) (rR F x l) hcf hinv (b:=b) (o:=o) (n:=l.length+1) hnoimm (hinv.bound _ _ _ _ hmu) (λi=>by rw [henc,hE]) (λi j k1 k2=>by
     obtain ⟨u,e,_,_,h⟩:=hencj i j k1
     rw [e];exact h k2)
    have hadr:(⟨b,o+0*sz,none⟩:Addr)=⟨b,o,none⟩:=by simp
    show Calls P f #[.slice (some ⟨b,o+0*sz,none⟩) (l.length+1) cap,.func (.func g) #[] #[]] w _
    rw [hadr]
    have hcall:=hC (Fin (l.length+1)) enc henc h1 (rR F x l) hO g #[] b o cap (Array.ofFn λi=>i) w (λargs w=>Fq (C:=⟨P,0,[],[]⟩) hb w) (by rw [hds];exact hcmp) hH (hinv.bound _ _ _ _ hmu) (by rw [hds];exact hlen)
    rw [hds]at hcall
    refine hcall.mono ?_
    rintro e w' ⟨rfl,m,os,rfl⟩
    generalize hd':pdq (ltOf (rR F x l)) (Array.ofFn λi=>i) 0 (l.length+1) (Lib.bitLen (l.length+1)) true true=d' at *
    have hrd:r=d'.toList.map (x::l).get:=by rw [<- hF];unfold zn;rw [hd']
    have hput:=Gt (ev:=(id:Value->Value)) (o:=o) (d:=flatK enc sz d') (w:=Sort.ahead w m) (b:=b) (arr:=arr) (t:=elem) (fr:=(0,0)) harr
    have hpsz:(putCells (id:Value->Value) o (flatK enc sz d') arr).size=arr.size:=by simp [putCells]
    have hHp:HoldsK enc sz (putRowK enc sz (Sort.ahead w m) b o d') b o d':=holdsK_putRowK enc sz (Sort.ahead w m) b o (Array.ofFn λi=>i) d' (holdsK_ahead enc sz w m b o _ hH) (by rw [p4,hds])
    have hroom0:=hst'.room
    rw [FM E sz hE,bf harr]at hroom0
    obtain ⟨i1,e1⟩:=hinv.write (w':=putRowK enc sz (Sort.ahead w m) b o d') hS rfl hmu (λb' hb'=>ym hb') (by simp [putRowK,putRow,mapBlock,Sort.ahead]) (by rw [bf harr];show _<=bsize (putRow id (Sort.ahead w m) b o (flatK enc sz d')) b;rw [bf hput,hpsz];exact Nat.le_refl _) (λe he=>by rw [jT harr]at he;show elemAt (putRow id (Sort.ahead w m) b o (flatK enc sz d')) b=_;rw [jT hput];exact he) hnoimm rfl rfl rfl (.vec sz (r.map E)) (λex=>by
     show Stands _ _ _ _ _ _
     refine { sz:=rfl,even:=λy hy=>by obtain ⟨z,_,rfl⟩:=List.mem_map.1 hy;exact hE z,room := ?_,cell:=λj hj => ?_,free:=λ_=>⟨⟨_,_,hput⟩,hnoimm⟩,froz:=λe=>by cases e }
     ·rw [FM E sz hE]
      show _<=bsize (putRow id (Sort.ahead w m) b o (flatK enc sz d')) b
      rw [bf hput,hpsz,hrl];simpa using hroom0
     ·have hj':j<(l.length+1)*sz:=by rw [FM E sz hE,hrl]at hj;exact hj
      have hk0:0<sz:=by
       rcases Nat.eq_zero_or_pos sz with h|h
       ·rw [h]at hj';omega
       ·exact h
      have htd:j / sz<d'.size:=by rw [p4];exact Nat.div_lt_of_lt_mul (by rw [Nat.mul_comm];exact hj')
      have hmod:=Nat.mod_lt j hk0
      obtain ⟨c1,_⟩:=hHp.cell htd hmod
      have ej:o+j / sz*sz+j % sz=o+j:=by have:=Nat.div_add_mod j sz;rw [Nat.mul_comm]at this;omega
      rw [ej]at c1
      obtain ⟨u,e,_,h,hrep⟩:=hencj d'[j / sz]! (j % sz) (by rw [henc];exact hmod)
      have hel:(E ((x::l).get d'[j / sz]!)).length=sz:=hE _
      have hrep':=hrep (by rw [hel];exact hmod)
      refine⟨u,?_,h,?_⟩
      ·rw [c1,getElem!_pos _ (j % sz) (by rw [henc];exact hmod),e]
      ·have hev:∀y∈(r.map E).map (λx=>x.map V.d),y.length=sz:=λy hy=>by
        obtain ⟨z,hz,rfl⟩:=List.mem_map.1 hy
        obtain ⟨z',_,rfl⟩:=List.mem_map.1 hz
        rw [List.length_map];exact hE z'
       have hri:j / sz<r.length:=by rw [hrl,<- p4];exact htd
       have hrg:r[j / sz]=(x::l).get d'[j / sz]! := by
        have:r[j / sz]? = some ((x::l).get d'[j / sz]!):=by
         rw [hrd,List.getElem?_map,Array.getElem?_toList,Array.getElem?_eq_getElem htd,getElem!_pos d' _ htd];rfl
        rw [List.getElem?_eq_getElem hri]at this
        exact Option.some.inj this
       obtain ⟨g1,g2⟩:=flat_get sz _ hev (j / sz) (j % sz) (by simpa using hri) (by simpa [hE]using hmod)
       have ei:j / sz*sz+j % sz=j:=by have:=Nat.div_add_mod j sz;rw [Nat.mul_comm]at this;omega
       have eall:(Box.vec sz (r.map E)).all[j]'hj=V.d ((E (r[j / sz]))[j % sz]'(by rw [hE];exact hmod)):=by
        have:(Box.vec sz (r.map E)).all[j]? = some (V.d ((E (r[j / sz]))[j % sz]'(by rw [hE];exact hmod))):=by
         show ((r.map E).map λx=>x.map V.d).flatten[j]? = _
         have g1':j / sz*sz+j % sz<((r.map E).map λx=>x.map V.d).flatten.length:=g1
         rw [ei]at g1'
         rw [List.getElem?_eq_getElem g1']
         have g2':=g2
         simp only [ei]at g2'
         rw [g2'];simp
        rw [List.getElem?_eq_getElem hj]at this
        exact Option.some.inj this
       rw [eall]
       refine .d ?_
       simp only [hrg]
       exact hrep'.ext ex.imm ex.cell ex.still ex.sizeI) (λ_=>Nat.le_add_right _ _)
    obtain ⟨i2,e2⟩:=i1.more (w':=sortWorldK enc sz w b o m d' os) (λb' hb'=>by
     show ((putRowK enc sz (Sort.ahead w m) b o d').heap++os)[b']? = _
     rw [Array.getElem?_append_left hb']) (by simp [sortWorldK,grow]) rfl rfl rfl (λ_ _ h=>h) (λ_ _ h => .inl h) rfl (λ_ h=>h)
    refine⟨_,G,_,1,_,[aG 0],rfl,i2,unit _ _,rfl,by simp,λi hi => ?_,λi bx hb => ?_⟩
    ·have:i=0:=by simpa using hi
     subst this;rfl
    ·cases i with
     | zero =>
      simp only [List.getElem?_cons_zero,so_]at hb
      subst hb
      exact⟨aG 0,rfl,by simp [supd,Box.ren]⟩
     | succ i=>simp at hb
end Go.Eng

/-
  THE ENGINE: memory that nobody owns: it was made new, may be written, and is never read again.
-/
namespace Go.Eng
set_option linter.unusedSectionVars false
set_option linter.unusedVariables false
variable [DM]
theorem FnM.wild {α:Type} {P:Program} {f:FuncId} {args:List V} {enc:α->List D} {sz:Nat} {r:List α} (h:FnM P f args [] (gV (aG 0) sz r) (([]:List Box).map some++gO sz enc r)):FnM P f args [] (.d (.wild sz r.length)) []:=by
 intro G w vargs hinv hrep
 refine (h G w vargs hinv hrep).mono (λe w' hq => ?_)
 obtain ⟨v,G',S',tk',U',ν,he,hi,hv,hν,hnd,hin,hout⟩:=hq
 cases r with
 | nil =>
  have hv':RepV G' w' v .nil:=hv
  cases hv' with
  | nil a=>exact⟨_,G',S',tk',U',[],he,hi,.d (.wild0 a 0 sz),rfl,List.nodup_nil,λi h=>absurd h (Nat.not_lt_zero i),λi bx hb=>by simp at hb⟩
 | cons x xs =>
  obtain ⟨n,h1,h2⟩:=hout 0 (.vec sz ((x::xs).map enc)) rfl
  have h2':S' n=some (.vec sz ((x::xs).map enc)):=h2
  have hn:uN ν (aG 0)=n:=by simp [uN,kG,h1]
  have hv':RepV G' w' v (.vs n sz 0 (x::xs).length):=by rw [<- hn];exact hv
  obtain ⟨G2,i2,e2,r2⟩:=LH hi h2' hv'
  exact⟨v,G2,_,tk',U',[],he,i2,.d r2,rfl,List.nodup_nil,λi h=>absurd h (Nat.not_lt_zero i),λi bx hb=>by simp at hb⟩
section
variable {C:Cfg} {sl:Nat->V} {H:Hp} {Q:QH} {c:Code}
theorem OY {α:Type} {enc:α->List D} {xs:List α} {sz:Nat} {n:Nm} (k i:Nat) (hk:sl k=gV n sz xs) (h:H[i]? = some (n,gB sz enc xs)) (hw:wH C c Q (upd sl k (.d (.wild sz xs.length))) (H.set i (n,none))):wH C c Q sl H:=by
 cases xs with
 | nil=>exact qV hw (λS t ag=>⟨S,Gst.wild0 ⟨sl,S,t⟩ k sz (.inl hk),ag.drop h⟩)
 | cons x xs=>exact qV hw (λS t ag=>⟨supd S n none,Gst.wild ⟨sl,S,t⟩ k n sz 0 _ _ (ag.get h) hk,ag.set h (λx hx=>hx)⟩)
end
section
variable {C:Cfg} {sl:Nat->V} {H:Hp} {q:Qm} {all rest:List Oper} {K:(Nat->V)->Hp->Prop}
variable {dst:Option Tmp} {d:Nat} {t ty:TypeId} {pos:String} {after:Array Edge} {g:Option (Nat×Bool)}
theorem Me {sz n:Nat} {x:Operand} {e:TypeId} (hu:C.P.underlying t=some (.slice e)) (hx:ev sl x = .d (.wild sz n)) (hw:aO all sl ⟨dst,.call ⟨.builtin .len,#[x],#[t]⟩,ty,pos,after,g⟩=some true)
  (h:aX q C all K rest (dZ sl dst (vI n)) H):aX q C all K (⟨dst,.call ⟨.builtin .len,#[x],#[t]⟩,ty,pos,after,g⟩::rest) sl H :=
 Bt (by rw [hx];simp only [Cs,hu]) hw h
theorem P7 {x i:Operand} {k:IntKind} {n:Int} {len size:Nat} (hT:(bR C.P t).bind (szT C.P)=some size) (hx:ev sl x = .d (.wild size len)) (hi:ev sl i = .d (.int k n)) (h0:0<=n) (h1:n.toNat<len)
  (hw:aO all sl ⟨dst,.indexAddr t x i,ty,pos,after,g⟩=some true) (h:aX q C all K rest (dZ sl dst (.d (.wildp size))) H):aX q C all K (⟨dst,.indexAddr t x i,ty,pos,after,g⟩::rest) sl H :=
 lL hw (λS tk K' _ hk=>jy (A:=⟨[],[],.d (.wildp size)⟩) (λc e=>by cases e) (by
  show orE (kE C.P t (ev sl x) (ev sl i)) _=_
  refine Pb ?_
  rw [hx,hi,vU hT,decide_eq_true h0]
  simp only [MN,Nat.beq_refl,Bool.and_true,Nat.ble_eq_true_of_le h1,cond_true];rfl) (hk _ rfl rfl rfl)) h
theorem QG {x y:Operand} {size k:Nat} (hs:szT C.P t=some size) (hx:ev sl x = .d (.wildp k)) (hc:(Nat.beq (bu (ev sl y)).length size&&Nat.ble size k&&(bu (ev sl y)).all iK&&Nat.blt 0 size)=true)
  (hw:aO all sl ⟨dst,.store t x y,ty,pos,after,g⟩=some true) (h:aX q C all K rest (dZ sl dst .none) H):aX q C all K (⟨dst,.store t x y,ty,pos,after,g⟩::rest) sl H :=
 lL hw (λS tk K' _ hk=>jy (A:=⟨[],[],.none⟩) (λc e=>by cases e) (by
  show uW C.P t S (ev sl x) (ev sl y)=_
  rw [hx]
  simp only [uW,hs,hc,cond_true]) (hk _ rfl rfl rfl)) h
end
end Go.Eng

