/-
  The engine: what the machine does to data, shown once for all programs (part 5).
-/
import Derived.Test.YthcdokkcamcnmabEng4
/-
  THE ENGINE: a slice that is cut in its own box and grows again; boxes of slices that may be empty; maps whose keys are structs.
-/
namespace Go.Eng
set_option linter.unusedSectionVars false
variable [DM]
set_option linter.unusedVariables false
set_option linter.unusedSimpArgs false
def leL {α β:Type} (xs:List α) (ys:List β):Option Unit:=if xs.length≤ys.length then some ()else none
theorem leL_le {α β:Type} {xs:List α} {ys:List β} {u:Unit} (h:leL xs ys=some u):xs.length≤ys.length:=by
 unfold leL at h; split at h
 ·assumption
 ·cases h
theorem vV_take {α:Type} {n:Nm} {sz len:Nat} {xs:List α} (h:0 + len≤xs.length):V.vs n sz 0 len=vV n sz (xs.take len):=by
 unfold vV
 rw [List.length_take,Nat.min_eq_left (by omega)]
section
variable {C:Cfg} {Q:QH} {sl:Nat→V} {H:Hp} {c:Code}
theorem wH_shr {α:Type} {enc:α→List D} {xs:List α} {sz:Nat} {n:Nm} (i m:Nat) (h:H[i]? = some (n,some (bV sz enc xs))) (hw:wH C c Q sl (H.set i (n,some (bV sz enc (xs.take m))))):wH C c Q sl H :=
 wH_gst hw (fun S t ag=>⟨supd S n (some (.vec sz ((xs.map enc).take m))),Gst.shr ⟨sl,S,t⟩ n sz m (xs.map enc) (ag.get h),by
  have:(xs.map enc).take m=(xs.take m).map enc:=by rw [List.map_take]
  rw [this]
  exact ag.set h (fun x hx=>hx)⟩)
end
section
variable {C:Cfg} {sl:Nat→V} {H:Hp} {q:Qm} {all rest:List Oper} {K:(Nat→V)→Hp→Prop}
variable {dst:Option Tmp} {d:Nat} {t ty:TypeId} {pos:String} {after:Array Edge} {g:Option (Nat×Bool)}
theorem h_lenk {α:Type} {b:Bool} {n:Nm} {sz:Nat} {xs:List α} {x:Operand} {e:TypeId} (hu:C.P.underlying t=some (.slice e)) (hx:ev sl x=kV b n sz xs) (hw:wantedD all sl ⟨dst,.call ⟨.builtin .len,#[x],#[t]⟩,ty,pos,after,g⟩=some true)
  (h:opsH q C all K rest (putS sl dst (vI xs.length)) H):opsH q C all K (⟨dst,.call ⟨.builtin .len,#[x],#[t]⟩,ty,pos,after,g⟩::rest) sl H:=by
 cases b with
 | true=>exact h_lenw hu hx hw h
 | false=>exact h_leng hu hx hw h
theorem ren_ext1 {a b:List Nm} {v:V} (h:okV a.length v=true):ren (a++b) v=ren a v:=by
 have:=renL_ok_ext (a:=a) (b:=b) (vs := [v]) (by simp only [okL,h,Bool.and_self])
 simpa only [renL,List.cons.injEq,and_true]using this
theorem bren_ext {a b:List Nm} {x:Box} (h:x.ok a.length=true):x.ren (a++b)=x.ren a:=by
 cases x with
 | cells sz cs=>simp only [Box.ok]at h; simp only [Box.ren,renL_ok_ext h]
 | pmap es =>
  simp only [Box.ren,Box.pmap.injEq]
  exact List.map_congr_left (fun e he=>by rw [ren_ext1 (List.all_eq_true.1 h e he)])
 | iter cur left =>
  simp only [Box.ok,Bool.and_eq_true]at h
  simp only [Box.ren,Box.iter.injEq]
  refine⟨?_,List.map_congr_left (fun e he=>by rw [ren_ext1 (List.all_eq_true.1 h.2 e he)])⟩
  cases cur with
  | none=>rfl
  | some x=>simp only [Option.map_some,ren_ext1 (v:=x.2) (by simpa using h.1)]
 | _=>rfl
theorem bren_exts {a b:List Nm} {bs:List Box} (h:bs.all (fun x=>x.ok a.length)=true):bs.map (fun x=>x.ren (a++b))=bs.map (fun x=>x.ren a) :=
 List.map_congr_left (fun x hx=>bren_ext (List.all_eq_true.1 h x hx))
theorem outs_ext {a b:List Nm}:∀ (is:List Nat) (ns:List Nm) (bs:List Box),bs.all (fun x=>x.ok a.length)=true→Eng.outs (a++b) is ns (bs.map some)=Eng.outs a is ns (bs.map some)
 | [],_,_,_=>rfl
 | _::_,[],_,_=>rfl
 | _::_,_::_,[],_=>rfl
 | i::is,n::ns,b::bs,h=>by
  simp only [List.all_cons,Bool.and_eq_true]at h
  simp only [List.map_cons,Eng.outs,Option.map_some,bren_ext h.1,outs_ext is ns bs h.2]
theorem okOut_some' {k k':Nat} (hk:k≤k') {os:List Box}:os.all (fun b=>b.ok k)=true→okOut k' (os.map some)=true:=by
 induction os with
 | nil=>exact fun _=>rfl
 | cons b os ih =>
  intro h
  simp only [List.all_cons,Bool.and_eq_true]at h
  simp only [List.map_cons,okOut,Bool.and_eq_true]
  exact⟨Box.ok_mono hk h.1,ih h.2⟩
theorem h_callvb {α:Type} {enc:α→List D} {sz:Nat} {xs:List α} {f:Operand} {args:List Operand} {ats:Array TypeId} {fn:FuncId} {caps args0:List V} {r:V} {bs os:List Box} {o:Option Box} (p:Nat) (is:List Nat) (iv po:Nat) {l:List (Nm×Box)} {n:Nm}
  (hp:q=none∨Nat.beq all.length (p + (rest.length + 1))=true)
  (hfp:∀ S tk,AgR H S tk (⟨some d,.call ⟨.value f,args.toArray,ats⟩,ty,pos,after,g⟩::rest)→okQ q all p (l.map (·.1) ++ [n]) true)
  (hc:FnM C.P fn args0 (bs ++ [bV sz enc xs]) r (os.map some ++ [o]))
  (hf:ev sl f = .fn fn caps) (hb:hasBody C.P fn=true) (hl:pickH H is=some l) (hv:H[iv]? = some (n,some (bV sz enc xs)))
  (hS:bs.map (fun b=>b.ren (l.map (·.1)))=l.map (·.2)) (hSok:bs.all (fun b=>b.ok is.length)=true)
  (hw1:(args.map (ev sl)++caps)[po]? = some (vV n sz xs)) (hp0:args0[po]? = some (vV (extN is.length) sz xs))
  (hn:(((args.map (ev sl)++caps).set po .none).flatMap frz).all (fun n=>false)=true)
  (ha:((args.map (ev sl)++caps).map co0).set po .none=(renL (l.map (·.1)) args0).set po .none) (hok:okL is.length (args0.set po .none)=true) (hr:okV (is.length + 1) r=true)
  (hlen:os.length=is.length) (hi:(is ++ [iv]).Nodup) (hO:os.all (fun b=>b.ok is.length)=true) (ho:∀ b,o=some b→b.ok 0=true)
  (hw:wantedD all sl ⟨some d,.call ⟨.value f,args.toArray,ats⟩,ty,pos,after,g⟩=some true)
  (v:V) (hvr:ren (l.map (·.1) ++ [n]) r=v)
  (H':Hp) (hH:(setH H (outs (l.map (·.1)) is (l.map (·.1)) (os.map some))).set iv (n,o)=H')
  (h:opsH (addQ q p (l.map (·.1) ++ [n]) true) C all K rest (upd sl d v) H') :
  opsH q C all K (⟨some d,.call ⟨.value f,args.toArray,ats⟩,ty,pos,after,g⟩::rest) sl H:=by
 have hll:=(pickH_mem hl).1
 have hbs:bs.length=l.length:=by have:=congrArg List.length hS; simpa using this
 have hln:(l.map (·.1)).length=is.length:=by rw [List.length_map,hll]
 have hSok':bs.all (fun b=>b.ok (l.map (·.1)).length)=true:=by rw [hln]; exact hSok
 have hO':os.all (fun b=>b.ok (l.map (·.1)).length)=true:=by rw [hln]; exact hO
 have hp1:=pickH_app (l:=l) hl hv
 have hmap:(l ++ [(n,bV sz enc xs)]).map (·.1)=l.map (·.1) ++ [n]:=by simp
 have hq:okL (is ++ [iv]).length args0=true:=by
  have:=okL_set (v:=vV (extN is.length) sz xs) (okL_mono (Nat.le_add_right is.length 1) _ hok) (okN_lt (Nat.lt_succ_self _))
  rw [set_get hp0]at this
  simpa using this
 refine h_callX p (is ++ [iv]) hp (fun S tk ag=>by rw [hmap]; exact hfp S tk ag) hc hf hb hp1 ?_ ?_ ?_ ?_ hq ?_ (by simp [hlen]) hi ?_ hw v (by rw [hmap]; exact hvr) H' ?_ ?_
 ·rw [List.map_append,hmap,bren_exts hSok',hS]
  simp only [List.map_cons,List.map_nil,List.map_append,Box.ren]
 ·rw [List.all_append]
  simp only [Bool.and_eq_true]
  exact⟨List.all_eq_true.2 (fun b hb'=>Box.ok_mono (by simp) (List.all_eq_true.1 hSok b hb')),rfl⟩
 ·intro m hm
  obtain ⟨v',hv1,hv2⟩:=flat_set hn hm
  rw [hw1]at hv1
  simp only [Option.some.injEq]at hv1
  subst hv1
  rw [hmap]
  have:m=n:=by simpa [frz,frz1,vV]using hv2
  rw [this]; simp
 ·intro S tk ag
  refine ArgsOK.of_map ?_
  have hcw:co S (vV n sz xs)=vV n sz xs:=by
   have hS':S n=some (.vec sz (xs.map enc)):=ag.get hv
   simp only [vV,co,co1,hS']
  have hargs:(args.map (ev sl)++caps).map (co S)=((args.map (ev sl)++caps).map co0).set po (vV n sz xs):=by
   have h1:(args.map (ev sl)++caps)=((args.map (ev sl)++caps).set po .none).set po (vV n sz xs):=by
    rw [List.set_set,set_get hw1]
   have h2:(((args.map (ev sl)++caps).set po .none)).map (co S)=(((args.map (ev sl)++caps).set po .none)).map co0:=map_co (by
    cases hx:((args.map (ev sl)++caps).set po .none).flatMap frz with
    | nil=>rfl
    | cons a b=>rw [hx]at hn; simp at hn)
   have h3:(args.map (ev sl)++caps).map (co S)=((((args.map (ev sl)++caps).set po .none)).map (co S)).set po (co S (vV n sz xs)):=by
    rw [← List.map_set,← h1]
   rw [h3,h2,hcw,List.map_set,List.set_set]
  rw [hargs,set_eq_set ha,hmap]
  have h1:args0=(args0.set po .none).set po (vV (extN is.length) sz xs):=by rw [List.set_set,set_get hp0]
  have h2:renL (l.map (·.1) ++ [n]) args0=(renL (l.map (·.1)) (args0.set po .none)).set po (vV n sz xs):=by
   conv=>lhs; rw [h1]
   rw [renL_set,renL_ok_ext (by simp only [List.length_map,hll]; exact hok)]
   simp only [vV,ren]
   rw [renN_at (n:=n) (by rw [List.getElem?_append_right (by simp [hll])]; simp [hll])]
  rw [h2,renL_set,List.set_set]
 ·have e:(os.map some ++ [o]).length=is.length + 1:=by simp [hlen]
  rw [e]; exact hr
 ·refine okOut_app (okOut_some' (by simp [hlen]) hO) ?_
  cases o with
  | none=>rfl
  | some b=>simp only [okOut,Bool.and_true]; exact Box.ok_mono (Nat.zero_le _) (ho b rfl)
 ·rw [← hH,hmap,outs_app _ _ _ _ _ _ _ (by simp [hlen]) (by simp [hll]),setH_app,outs_ext _ _ _ hO']
  simp only [setH]
  cases o with
  | none=>rfl
  | some b=>simp only [Option.map_some,bren_ok (ho b rfl)]
 ·rw [hmap]; exact h
theorem bV_ok {α:Type} {sz:Nat} {enc:α→List D} {xs:List α}:∀ b,some (bV sz enc xs)=some b→b.ok 0=true:=fun b h=>by cases h; rfl
theorem h_callcut {α:Type} {enc:α→List D} {sz:Nat} {xs ys:List α} {b:Bool} {f:Operand} {args:List Operand} {ats:Array TypeId} {fn:FuncId} {caps args0 args1:List V} {bs bs0 bs1:List Box} (is:List Nat) (iv po:Nat) {l:List (Nm×Box)} {n:Nm}
  (hc:FnM C.P fn args0 (bs ++ [bV sz enc xs]) (vV (extN is.length) sz ys) (bs1.map some ++ [some (bV sz enc ys)]))
  (hc0:FnM C.P fn args1 bs .nil (bs0.map some))
  (hle:ys.length≤xs.length) (hsame:b=false→xs = []→bs1=bs0)
  (hf:ev sl f = .fn fn caps) (hb:hasBody C.P fn=true) (hl:pickH H is=some l) (hv:H[iv]? = some (n,kB b sz enc xs))
  (hS:bs.map (fun b=>b.ren (l.map (·.1)))=l.map (·.2)) (hSok:bs.all (fun b=>b.ok is.length)=true) (hOok:bs1.all (fun b=>b.ok is.length)=true)
  (hw1:(args.map (ev sl)++caps)[po]? = some (kV b n sz xs)) (hp0:args0[po]? = some (vV (extN is.length) sz xs)) (hp1:args1=args0.set po .nil)
  (hn:(((args.map (ev sl)++caps).set po .none).flatMap frz).all (fun n=>false)=true)
  (ha:((args.map (ev sl)++caps).map co0).set po .none=(renL (l.map (·.1)) args0).set po .none) (hok:okL is.length (args0.set po .none)=true)
  (hlen:bs.length=is.length) (hlen1:bs1.length=is.length) (hi:(is ++ [iv]).Nodup)
  (hw:wantedD all sl ⟨some d,.call ⟨.value f,args.toArray,ats⟩,ty,pos,after,g⟩=some true)
  (H':Hp) (hH:(setH H (outs (l.map (·.1)) is (l.map (·.1)) (bs1.map some))).set iv (n,kB (b || !xs.isEmpty) sz enc ys)=H')
  (h:opsH none C all K rest (upd sl d (kV (b || !xs.isEmpty) n sz ys)) H') :
  opsH none C all K (⟨some d,.call ⟨.value f,args.toArray,ats⟩,ty,pos,after,g⟩::rest) sl H:=by
 have hll:=(pickH_mem hl).1
 by_cases hbx:b=false∧xs = []
 ·obtain ⟨rfl,rfl⟩:=hbx
  have hys:ys = []:=List.eq_nil_of_length_eq_zero (by simpa using hle)
  subst hys
  have hbb:=hsame rfl rfl
  subst hbb
  have hwn:(args.map (ev sl)++caps)[po]? = some .nil:=hw1
  have hivs:iv∉is:=by
   rw [List.nodup_append]at hi
   exact fun hm=>hi.2.2 iv hm iv (by simp) rfl
  have hset:∀ {l':List (Nat×Nm×Option Box)} {H0:Hp},(∀ p∈l',p.1≠iv)→(setH H0 l')[iv]? = H0[iv]? := by
   intro l'
   induction l' with
   | nil=>intro H0 _; rfl
   | cons x l' ih =>
    intro H0 hx
    obtain ⟨i,m,b⟩:=x
    simp only [setH]
    rw [ih (fun p hp=>hx p (by simp [hp]))]
    have:i≠iv:=hx (i,m,b) (by simp)
    rw [List.getElem?_set_ne this]
  have houts:∀ (ν:List Nm) (is:List Nat) (ns:List Nm) (os:List (Option Box)),∀ p∈outs ν is ns os,p.1∈is:=by
   intro ν is
   induction is with
   | nil=>intro ns os p hp; simp [outs]at hp
   | cons i is ih =>
    intro ns os p hp
    cases ns with
    | nil=>simp [outs]at hp
    | cons m ns=>cases os with
     | nil=>simp [outs]at hp
     | cons o os =>
      simp only [outs,List.mem_cons]at hp
      rcases hp with rfl | hp
      ·simp
      ·exact List.mem_cons_of_mem _ (ih _ _ _ hp)
  have hq:okL is.length args1=true:=by rw [hp1]; exact okL_set hok rfl
  have hpl:po < args0.length:=(List.getElem?_eq_some_iff.1 hp0).1
  refine h_callX 0 is (.inl rfl) (fun _ _ _=>trivial) hc0 hf hb hl ?_ ?_ ?_ ?_ hq rfl (by simp [hlen1]) (List.nodup_append.1 hi).1 (okOut_some' (by simp [hlen1]) hOok) hw .nil rfl H' ?_ h
  ·exact hS
  ·exact hSok
  ·intro m hm
   obtain ⟨v',hv1,hv2⟩:=flat_set hn hm
   rw [hwn]at hv1
   simp only [Option.some.injEq]at hv1
   subst hv1
   cases hv2
  ·intro S tk ag
   have h1:(args.map (ev sl)++caps)=((args.map (ev sl)++caps).set po .none).set po .nil:=by rw [List.set_set,set_get hwn]
   have h2:((args.map (ev sl)++caps).set po .none).map (co S)=((args.map (ev sl)++caps).set po .none).map co0:=map_co (by
    cases hx:((args.map (ev sl)++caps).set po .none).flatMap frz with
    | nil=>rfl
    | cons a b=>rw [hx]at hn; simp at hn)
   have hbase:ArgsOK S ((args.map (ev sl)++caps).set po .none) ((renL (l.map (·.1)) args1).set po .none):=by
    refine ArgsOK.of_map ?_
    rw [h2,List.map_set,hp1,renL_set,List.set_set]
    exact ha
   have:=ArgsOK.set (x' := .nil) (y' := .nil) (.inl rfl) hbase
   have e:(renL (l.map (·.1)) args1).set po .nil=renL (l.map (·.1)) args1:=by
    rw [hp1,renL_set,List.set_set]; rfl
   rw [set_get hwn,e]at this
   exact this
  ·rw [← hH]
   symm
   apply set_get
   rw [hset (fun p hp e=>hivs (e ▸ houts _ _ _ _ p hp)),hv]; rfl
 ·have e1:kB b sz enc xs=some (bV sz enc xs):=by
   cases b with
   | true=>rfl
   | false=>exact gB_cons (fun e=>hbx ⟨rfl,e⟩)
  have e2:kV b n sz xs=vV n sz xs:=by
   cases b with
   | true=>rfl
   | false=>exact gV_cons (fun e=>hbx ⟨rfl,e⟩)
  have e3:(b || !xs.isEmpty)=true:=by
   cases b with
   | true=>rfl
   | false=>cases xs with
    | nil=>exact absurd ⟨rfl,rfl⟩ hbx
    | cons x xs=>rfl
  rw [e3]at hH h
  rw [e1]at hv
  rw [e2]at hw1
  refine h_callvb (v:=vV n sz ys) 0 is iv po (.inl rfl) (fun _ _ _=>trivial) hc hf hb hl hv hS hSok hw1 hp0 hn ha hok (okN_lt (Nat.lt_succ_self _)) (by simp [hlen1]) hi hOok bV_ok hw ?_ H' hH h
  simp only [vV,ren]
  rw [renN_at (n:=n) (by rw [List.getElem?_append_right (by simp [hll])]; simp [hll])]
end
end Go.Eng

/-
  THE ENGINE: rules for arrays of bytes in a box, and for bytes to a string and back.
-/
namespace Go.Eng
set_option linter.unusedSectionVars false
variable [DM]
open Go
set_option linter.unusedVariables false
set_option linter.unusedSimpArgs false
section
variable {C:Cfg} {sl:Nat→V} {H:Hp} {q:Qm} {all rest:List Oper} {K:(Nat→V)→Hp→Prop}
variable {dst:Option Tmp} {d:Nat} {t ty:TypeId} {pos:String} {after:Array Edge} {g:Option (Nat×Bool)}
section
variable {xs:List Int} {m:Nat} {nm:Nm} {x l hi:Operand} {k k':IntKind} {a b:Int} {u u':Unit}
end
end
end Go.Eng

/-
  THE ENGINE: results of which the first is a new slice and the others are data.
-/
namespace Go.Eng
set_option linter.unusedSectionVars false
variable [DM]
set_option linter.unusedVariables false
section
variable {C:Cfg} {sl:Nat→V} {H:Hp} {q:Qm} {all rest:List Oper} {K:(Nat→V)→Hp→Prop}
variable {dst:Option Tmp} {d:Nat} {t ty:TypeId} {pos:String} {after:Array Edge} {g:Option (Nat×Bool)}
end
end Go.Eng

/-
  THE ENGINE: a function that reads a slice as data reads it out of its box, too: the box is as it was.
-/
namespace Go.Eng
set_option linter.unusedSectionVars false
variable [DM]
set_option linter.unusedVariables false
end Go.Eng

/-
  THE ENGINE: grids: slices of slices of which each row is a box of its own; the rows' boxes stand behind all others.
-/
namespace Go.Eng
set_option linter.unusedSectionVars false
variable [DM]
set_option linter.unusedVariables false
section rows
variable {α:Type} {enc:α→List D} {sz:Nat}
def nset (ns:Nat→Nm) (i:Nat) (m:Nm):Nat→Nm:=fun j=>if j=i then m else ns j
theorem nset_at (ns:Nat→Nm) (i:Nat) (m:Nm):nset ns i m i=m:=if_pos rfl
theorem mi_set {β γ:Type} (f:Nat→β→γ) (g:Nat→β→γ) (l:List β) (i:Nat) (b:β) (h:∀ j x,j≠i→g j x=f j x):(l.set i b).mapIdx g=(l.mapIdx f).set i (g i b):=by
 refine List.ext_getElem? (fun j => ?_)
 rw [List.getElem?_mapIdx,List.getElem?_set,List.getElem?_set,List.getElem?_mapIdx,List.length_mapIdx]
 by_cases hj:i=j
 ·subst hj
  simp only [if_true]
  split <;> rfl
 ·rw [if_neg hj,if_neg hj]
  cases l[j]? with
  | none=>rfl
  | some x=>simp only [Option.map_some]; rw [h j x (fun e=>hj e.symm)]
end rows
theorem pre_perm {H0 H:Hp} (hp:H0.Perm H):pre H0 H:=by
 induction hp with
 | nil=>exact⟨[],List.nodup_nil,rfl⟩
 | @cons x l1 l2 _ ih =>
  obtain ⟨is,h1,h2⟩:=ih
  refine⟨0::is.map (· + 1),?_,?_⟩
  ·refine List.nodup_cons.2 ⟨by simp,?_⟩
   exact List.Pairwise.map _ (fun a b h e=>h (by omega)) h1
  ·simp only [List.map_cons,List.map_map,List.getElem?_cons_zero]
   congr 1
 | swap x y l =>
  refine⟨1::0::(List.range l.length).map (· + 2),?_,?_⟩
  ·refine List.nodup_cons.2 ⟨by simp,List.nodup_cons.2 ⟨by simp,?_⟩⟩
   exact List.Pairwise.map _ (fun a b h e=>h (by omega)) List.nodup_range
  ·simp only [List.map_cons,List.map_map,List.getElem?_cons_zero,List.getElem?_cons_succ]
   congr 2
   refine List.ext_getElem (by simp) (fun i h1 h2 => ?_)
   simp only [List.getElem_map,List.getElem_range,Function.comp_apply,List.getElem?_cons_succ]
   simp only [List.length_map,List.length_range]at h1
   rw [List.getElem?_eq_getElem h1]
 | trans _ _ ih1 ih2 =>
  obtain ⟨is,h1,h2⟩:=ih1
  obtain ⟨js,k1,k2⟩:=ih2
  obtain ⟨hl,hg⟩:=pre_get h2
  obtain ⟨kl,kg⟩:=pre_get k2
  have hb:∀ i∈is,i < js.length:=fun i hi=>by
   obtain ⟨j,hj,rfl⟩:=List.getElem_of_mem hi
   have:=(List.getElem?_eq_some_iff.1 (hg j hj (by omega))).1
   omega
  refine⟨is.map (fun i=>js.getD i 0),?_,?_⟩
  ·rw [List.nodup_iff_pairwise_ne]at h1 k1 ⊢
   refine List.pairwise_map.2 ((List.Pairwise.and_mem.1 h1).imp (fun {a b} h e => ?_))
   obtain ⟨ha,hb',hne⟩:=h
   have la:=hb a ha
   have lb:=hb b hb'
   simp only [List.getD_eq_getElem?_getD,List.getElem?_eq_getElem la,List.getElem?_eq_getElem lb,Option.getD_some]at e
   rcases Nat.lt_or_gt_of_ne hne with h | h
   ·exact (List.pairwise_iff_getElem.1 k1) a b la lb h e
   ·exact (List.pairwise_iff_getElem.1 k1) b a lb la h e.symm
  ·rw [← h2,List.map_map]
   refine List.map_congr_left (fun i hi => ?_)
   have li:=hb i hi
   simp only [Function.comp_apply,List.getD_eq_getElem?_getD,List.getElem?_eq_getElem li,Option.getD_some]
   rw [kg i li (by omega),List.getElem?_eq_getElem (by omega)]
theorem pre_tail {C0 C1 T:Hp} (h:pre C0 C1):pre (C0++T) (C1++T):=by
 obtain ⟨is,h1,h2⟩:=h
 obtain ⟨hl,hg⟩:=pre_get h2
 have hb:∀ i∈is,i < C1.length:=fun i hi=>by
  obtain ⟨j,hj,rfl⟩:=List.getElem_of_mem hi
  exact (List.getElem?_eq_some_iff.1 (hg j hj (by omega))).1
 refine⟨is++(List.range T.length).map (· + C1.length),?_,?_⟩
 ·refine List.nodup_append.2 ⟨h1,?_,fun a ha b hb' e => ?_⟩
  ·exact List.Pairwise.map _ (fun a b h e=>h (by omega)) List.nodup_range
  ·obtain ⟨j,_,rfl⟩:=List.mem_map.1 hb'
   have:=hb a ha
   omega
 ·rw [List.map_append,List.map_append]
  congr 1
  ·rw [← h2]
   exact List.map_congr_left (fun i hi=>List.getElem?_append_left (hb i hi))
  ·refine List.ext_getElem (by simp) (fun i k1 k2 => ?_)
   simp only [List.length_map,List.length_range]at k1
   simp only [List.getElem_map,List.getElem_range]
   rw [List.getElem?_append_right (by omega),show i + C1.length - C1.length=i by omega,List.getElem?_eq_getElem k1]
theorem perm_new (C0 T X:Hp):(C0++X++T).Perm (C0++T++X):=by
 rw [List.append_assoc,List.append_assoc]
 exact List.Perm.append_left C0 List.perm_append_comm
section
variable {C:Cfg} {sl:Nat→V} {H H0:Hp} {q:Qm} {all rest:List Oper} {K:(Nat→V)→Hp→Prop}
theorem AgR.perm {S:Store} {t:Nat} {l:List Oper} (hp:H0.Perm H) (ag:AgR H S t l):AgR H0 S t l :=
 ⟨ag.pos,(hp.map (·.1)).nodup_iff.2 ag.nd,fun p h=>ag.at_ p (hp.mem_iff.1 h)⟩
theorem h_perm (hp:H0.Perm H) (h:opsH q C all K rest sl H0):opsH q C all K rest sl H:=fun S tk ok ag=>h S tk ok (ag.perm hp)
theorem h_eqH (e:H0=H) (h:opsH q C all K rest sl H0):opsH q C all K rest sl H:=e ▸ h
theorem h_ahead {C0 T X:Hp} (h:opsH q C all K rest sl (C0++X++T)):opsH q C all K rest sl (C0++T++X):=h_perm (perm_new C0 T X) h
theorem AgR.pre {S:Store} {t:Nat} {l:List Oper} (h:Eng.pre H0 H) (ag:AgR H S t l):AgR H0 S t l:=by
 have ag1:Ag H S (t + 1):=⟨Nat.succ_pos _,ag.nd,fun p hp=>⟨by rcases (ag.at_ p hp).1 with h1 | ⟨h1,_⟩ <;> omega,(ag.at_ p hp).2⟩⟩
 refine⟨ag.pos,(ag1.pre h).nd,fun p hp => ?_⟩
 obtain ⟨is,_,he⟩:=h
 obtain ⟨hl,hg⟩:=pre_get he
 obtain ⟨i,hi,rfl⟩:=List.getElem_of_mem hp
 exact ag.at_ _ (List.mem_of_getElem? (hg i (by omega) hi))
variable {dst:Option Tmp} {d:Nat} {t ty:TypeId} {pos:String} {after:Array Edge} {g:Option (Nat×Bool)}
end
end Go.Eng

/-
  THE ENGINE: queues: a slice that is shortened from its head and appended to.
-/
namespace Go.Eng
set_option linter.unusedSectionVars false
variable [DM]
set_option linter.unusedVariables false
section
variable {C:Cfg} {sl:Nat→V} {H:Hp} {q:Qm} {all rest:List Oper} {K:(Nat→V)→Hp→Prop}
variable {dst:Option Tmp} {d:Nat} {t ty:TypeId} {pos:String} {after:Array Edge} {g:Option (Nat×Bool)}
variable {α:Type} {enc:α→List D} {xs ys zs:List α} {x y:Operand} {t' e e':TypeId} {sz bytes i k:Nat} {n:Nm} {z:List V}
end
end Go.Eng

/-
  THE ENGINE: structs with a grid: handed in, handed back, and made.
-/
namespace Go.Eng
set_option linter.unusedSectionVars false
variable [DM]
set_option linter.unusedVariables false
theorem pre_tl {C0 C1 T H:Hp} (is:List Nat) (hd:is.Nodup) (e:is.map (fun i=>C1[i]?)=C0.map some) (h:H=C1++T):pre (C0++T) H:=by
 subst h; exact pre_tail ⟨is,hd,e⟩
section
variable {C:Cfg} {Q:QH} {sl:Nat→V} {H:Hp} {c:Code}
theorem wH_ahead {C0 T X:Hp} (h:wH C c Q sl (C0++X++T)):wH C c Q sl (C0++T++X):=wH_pre (pre_perm (perm_new C0 T X)) h
end
section rows
variable {α:Type} {enc:α→List D} {sz:Nat}
section
variable {C:Cfg} {sl:Nat→V} {H:Hp}
end
section
variable {C:Cfg} {sl:Nat→V} {C0:Hp} {q:Qm} {all rest:List Oper} {K:(Nat→V)→Hp→Prop}
variable {dst:Option Tmp} {d:Nat} {t ty:TypeId} {pos:String} {after:Array Edge} {g:Option (Nat×Bool)}
end
end rows
end Go.Eng

/-
  THE ENGINE: a function that reads slices as data reads them out of their boxes, too: the boxes are as they were.
-/
namespace Go.Eng
set_option linter.unusedSectionVars false
variable [DM]
set_option linter.unusedVariables false
end Go.Eng

/-
  THE ENGINE: ranges over maps, in any order; maps of pointers to cells of their own (the cells' boxes stand behind all others).
-/
namespace Go.Eng
set_option linter.unusedSectionVars false
variable [DM]
set_option linter.unusedVariables false
def forP {α σ ρ:Type} (body:α→σ→Option (Ctl σ ρ)):List α→σ→Option (Ctl σ ρ)
 | [],s=>some (.go s)
 | x::xs,s=>(body x s).bind fun c=>match c with
  | .go s'=>forP body xs s'
  | .brk s'=>some (.go s')
  | .ret r=>some (.ret r)
open Classical in
noncomputable def overP {α β:Type} (l:List α) (f:List α→Option β):Option β:=if h:∃ r,∀ l',l'.Perm l→f l'=some r then some h.choose else none
theorem overP_some {α β:Type} {l:List α} {f:List α→Option β} {r:β} (h:overP l f=some r):∀ l',l'.Perm l→f l'=some r:=by
 unfold overP at h
 split at h
 ·rename_i hx
  simp only [Option.some.injEq]at h
  rw [← h]; exact hx.choose_spec
 ·cases h
theorem overP_of {α β:Type} {l:List α} {f:List α→Option β} {r:β} (h:∀ l',l'.Perm l→f l'=some r):overP l f=some r:=by
 have hx:∃ r,∀ l',l'.Perm l→f l'=some r:=⟨r,h⟩
 unfold overP
 rw [dif_pos hx]
 have h1:=hx.choose_spec l (List.Perm.refl _)
 rw [h l (List.Perm.refl _)]at h1
 exact h1.symm
theorem cons_erase {α:Type}:∀ {l:List α} {i:Nat} (h:i < l.length),(l[i]::l.eraseIdx i).Perm l
 | _::_,0,_=>List.Perm.refl _
 | a::l,i + 1,h=>by
  simp only [List.getElem_cons_succ,List.eraseIdx_cons_succ]
  exact (List.Perm.swap _ _ _).trans ((cons_erase (by simpa using h)).cons a)
theorem over_step {α σ ρ β:Type} {body:α→σ→Option (Ctl σ ρ)} {K:Ctl σ ρ→Option β} {r:β} {left:List α} {s:σ} {i:Nat} {x:α} (h:∀ l',l'.Perm left→(forP body l' s).bind K=some r) (hi:left[i]? = some x) :
  ∃ c,body x s=some c ∧ ∀ s',c = .go s' → ∀ l',l'.Perm (left.eraseIdx i)→(forP body l' s').bind K=some r:=by
 have hp:∀ l',l'.Perm (left.eraseIdx i)→(x::l').Perm left:=fun l' hl=>by
  obtain ⟨hlt,rfl⟩:=List.getElem?_eq_some_iff.1 hi
  exact (hl.cons _).trans (cons_erase hlt)
 have h0:=h _ (hp _ (List.Perm.refl _))
 simp only [forP,Option.bind_assoc,Option.bind_eq_some_iff]at h0
 obtain ⟨c,hc,-⟩:=h0
 refine⟨c,hc,fun s' e l' hl => ?_⟩
 subst e
 have:=h _ (hp l' hl)
 simpa only [forP,hc,Option.bind_some]using this
theorem erase_lt {α:Type} {left:List α} {i:Nat} {x:α} (hi:left[i]? = some x):(left.eraseIdx i).length < left.length:=by
 obtain ⟨hlt,_⟩:=List.getElem?_eq_some_iff.1 hi
 rw [List.length_eraseIdx,if_pos hlt]; omega
abbrev iB {α:Type} (f:α→D×V) (cur:Option α) (left:List α):Box := .iter (cur.map f) (left.map f)
section
variable {C:Cfg} {Q:QH} {sl:Nat→V} {H:Hp} {c:Code}
theorem wH_loopM {id:Nat} {σ ρ N α β:Type} (envo:(σ×N)→List (Nat×V)) (HsO:(σ×N)→Hp) (env:(σ×N)→List (Nat×V)) (HsI:List α→Option α→(σ×N)→Hp) (body:α→σ→Option (Ctl σ ρ)) (Kf:Ctl σ ρ→Option β) (r:β) (xs:List α) (b0:σ×N)
  (hj:∀ l',l'.Perm xs→(forP body l' b0.1).bind Kf=some r) (he:Eng.pick (env b0) sl=env b0) (hp:Eng.pre (HsI xs none b0) H)
  (h1:∀ x:List α×Option α×(σ×N),(∀ l',l'.Perm x.1→(forP body l' x.2.2.1).bind Kf=some r)→wH C c (loopH (fun p:List α×Option α×(σ×N)=>env p.2.2) (fun p=>HsI p.1 p.2.1 p.2.2) (fun p => ∀ l',l'.Perm p.1→(forP body l' p.2.2.1).bind Kf=some r) (fun p=>p.1.length) x (blkH id (seqH (cutH envo HsO (fun p=>Kf (.go p.1)=some r)) Q))) (envS (env x.2.2)) (HsI x.1 x.2.1 x.2.2))
  (h2:∀ x,Kf (.go x.1)=some r → ∀ sl' H',Eng.pick (envo x) sl'=envo x→Eng.pre (HsO x) H'→Q .normal sl' H'):wH C (.block id (.loop c)) Q sl H :=
 wH_join envo HsO (fun p=>Kf (.go p.1)=some r) (wH_block (wH_loop (β:=List α×Option α×(σ×N)) (fun p=>env p.2.2) (fun p=>HsI p.1 p.2.1 p.2.2) (fun p => ∀ l',l'.Perm p.1→(forP body l' p.2.2.1).bind Kf=some r) (fun p=>p.1.length) (xs,none,b0) hj he hp h1)) h2
end
section
variable {C:Cfg} {sl:Nat→V} {H:Hp} {q:Qm} {all rest:List Oper} {K:(Nat→V)→Hp→Prop}
variable {dst:Option Tmp} {d:Nat} {t ty:TypeId} {pos:String} {after:Array Edge} {g:Option (Nat×Bool)}
theorem h_range {α:Type} {f:α→D×V} {left:List α} {x:Operand} {n:Nm} {bx:Box} (j:Nat) (hm:(mapT C.P t).isSome=true) (hx:ev sl x = .map n) (hH:H[j]? = some (n,some bx)) (hes:mapEs bx=some (left.map f))
  (hw:wantedD all sl ⟨some d,.range t x,ty,pos,after,g⟩=some true)
  (h:∀ m:Nm,opsH none C all K rest (upd sl d (.ref m 0 0)) (H.set j (m,some (iB f none left)))):opsH none C all K (⟨some d,.range t x,ty,pos,after,g⟩::rest) sl H:=fun S tk ok ag=>by
 refine⟨sl,S,.refl _,?_⟩
 simp only [hw]
 refine .inr ⟨d,n,bx,left.map f,rfl,hx,ag.get hH,hes,hm,?_⟩
 refine h (d,tk) _ tk ok.tail (ag.swap ok rfl hH _ _ (fun m h1 h2 => ?_) (fun b hb => ?_))
 ·simp only [sapp,supd,if_neg h1,if_neg h2]
 ·simp only [sapp,supd,if_true]; exact hb
theorem h_next {α:Type} {f:α→D×V} {cur:Option α} {left:List α} {x:Operand} {n:Nm} (j:Nat) (hx:ev sl x = .ref n 0 0) (hH:H[j]? = some (n,some (iB f cur left)))
  (hw:wantedD all sl ⟨some d,.next x false,ty,pos,after,g⟩=some true)
  (h0:left = []→opsH none C all K rest (upd sl d (.tup [vB false])) H)
  (h1:∀ (i:Nat) (e:α),left[i]? = some e→opsH none C all K rest (upd sl d (.tup [vB true,.any,.any])) (H.set j (n,some (iB f (some e) (left.eraseIdx i))))):opsH none C all K (⟨some d,.next x false,ty,pos,after,g⟩::rest) sl H:=fun S tk ok ag=>by
 refine⟨sl,S,.refl _,?_⟩
 simp only [hw]
 refine .inr ⟨n,cur.map f,left.map f,hx,ag.get hH,fun hl => ?_,fun i e he => ?_⟩
 ·exact h0 (List.map_eq_nil_iff.1 hl) S tk ok.tail ag.tail
 ·rw [List.getElem?_map,Option.map_eq_some_iff]at he
  obtain ⟨a,ha,rfl⟩:=he
  refine h1 i a ha _ tk ok.tail ?_
  have e:(left.map f).eraseIdx i=(left.eraseIdx i).map f:=(Go.ChangeMaps.map_eraseIdx f left i).symm
  rw [e]
  exact ag.tail.set hH (fun x hx=>hx)
theorem h_entry {α:Type} {f:α→D×V} {e:α} {left:List α} {x:Operand} {n:Nm} (j:Nat) (hx:ev sl x = .ref n 0 0) (hH:H[j]? = some (n,some (iB f (some e) left))) (v:V) (hv:V.tup [.d (f e).1,(f e).2]=v)
  (hw:wantedD all sl ⟨some d,.entry x,ty,pos,after,g⟩=some true)
  (h:opsH none C all K rest (upd sl d v) H):opsH none C all K (⟨some d,.entry x,ty,pos,after,g⟩::rest) sl H:=fun S tk ok ag=>by
 subst hv
 refine⟨sl,S,.refl _,?_⟩
 simp only [hw]
 exact .inr ⟨n,f e,left.map f,hx,ag.get hH,h S tk ok.tail ag.tail⟩
end
section
variable {Kt X:Type} {kD:Kt→D} {enc:X→List D} {sz:Nat}
def pmE (kD:Kt→D) (ns:Nat→Nm) (es:List (Kt×X)):List (D×V):=es.mapIdx fun i e=>(kD e.1,V.ref (ns i) 0 0)
abbrev pmB (kD:Kt→D) (ns:Nat→Nm) (es:List (Kt×X)):Box := .pmap (pmE kD ns es)
def pmT (sz:Nat) (enc:X→List D) (ns:Nat→Nm) (es:List (Kt×X)):Hp:=es.mapIdx fun i e=>(ns i,some (.cells sz ((enc e.2).map .d)))
def pV (ns:Nat→Nm):Option Nat→V
 | some i => .ref (ns i) 0 0
 | none => .d .nilp
def ns0:Nat→Nm:=fun _=>(0,0)
theorem pmT_get {ns:Nat→Nm} {es:List (Kt×X)} {i:Nat} {e:Kt×X} (h:es[i]? = some e):(pmT sz enc ns es)[i]? = some (ns i,some (.cells sz ((enc e.2).map .d))):=by
 unfold pmT; rw [List.getElem?_mapIdx,h]; rfl
theorem pmT_at {C0:Hp} {ns:Nat→Nm} {es:List (Kt×X)} {i:Nat} {e:Kt×X} (h:es[i]? = some e):(C0++pmT sz enc ns es)[C0.length + i]? = some (ns i,some (.cells sz ((enc e.2).map .d))):=by
 rw [List.getElem?_append_right (by omega),show C0.length + i - C0.length=i by omega]; exact pmT_get h
theorem pmT_set {ns:Nat→Nm} {es:List (Kt×X)} {i:Nat} {k:Kt} {x:X}:(pmT sz enc ns es).set i (ns i,some (.cells sz ((enc x).map .d)))=pmT sz enc ns (es.set i (k,x)):=by
 unfold pmT
 rw [mi_set (fun i (e:Kt×X)=>((ns i,some (Box.cells sz ((enc e.2).map .d))):Nm×Option Box)) _ es i (k,x) (fun _ _ _=>rfl)]
theorem pmT_put {C0:Hp} {ns:Nat→Nm} {es:List (Kt×X)} {i:Nat} {k:Kt} {x:X}:(C0++pmT sz enc ns es).set (C0.length + i) (ns i,some (.cells sz ((enc x).map .d)))=C0++pmT sz enc ns (es.set i (k,x)):=by
 show List.set (C0++pmT sz enc ns es) _ _=_
 rw [List.set_append_right _ _ (by omega),show C0.length + i - C0.length=i by omega,pmT_set]
theorem pmE_set {ns:Nat→Nm} {es:List (Kt×X)} {i:Nat} {k:Kt} {x x':X} (h:es[i]? = some (k,x)):pmE kD ns (es.set i (k,x'))=pmE kD ns es:=by
 unfold pmE
 rw [mi_set (fun i (e:Kt×X)=>((kD e.1,V.ref (ns i) 0 0):D×V)) _ es i (k,x') (fun _ _ _=>rfl)]
 refine List.ext_getElem? (fun j => ?_)
 rw [List.getElem?_set]
 split
 ·rename_i hj; subst hj
  have hlt:=(List.getElem?_eq_some_iff.1 h).1
  simp only [List.length_mapIdx,hlt,if_true,List.getElem?_mapIdx,h,Option.map_some]
 ·rfl
theorem pmE_push {ns:Nat→Nm} {es:List (Kt×X)} {m:Nm} {k:Kt} {x:X}:pmE kD (nset ns es.length m) (es ++ [(k,x)])=pmE kD ns es ++ [(kD k,.ref m 0 0)]:=by
 unfold pmE
 rw [List.mapIdx_append]
 congr 1
 ·refine List.ext_getElem (by simp) (fun i h1 h2 => ?_)
  simp only [List.length_mapIdx]at h1
  simp only [List.getElem_mapIdx,nset]
  rw [if_neg (by omega)]
 ·simp only [List.mapIdx_cons,List.mapIdx_nil,Nat.zero_add,nset_at]
theorem pmT_push {ns:Nat→Nm} {es:List (Kt×X)} {m:Nm} {k:Kt} {x:X}:pmT sz enc (nset ns es.length m) (es ++ [(k,x)])=pmT sz enc ns es ++ [(m,some (.cells sz ((enc x).map .d)))]:=by
 unfold pmT
 rw [List.mapIdx_append]
 congr 1
 ·refine List.ext_getElem (by simp) (fun i h1 h2 => ?_)
  simp only [List.length_mapIdx]at h1
  simp only [List.getElem_mapIdx,nset]
  rw [if_neg (by omega)]
 ·simp only [List.mapIdx_cons,List.mapIdx_nil,Nat.zero_add,nset_at]
theorem findP_pm {eq:Kt→Kt→Bool} {k:Kt} {ns:Nat→Nm} (he:∀ a b,sameD (kD a) (kD b)=some (eq a b)) (es:List (Kt×X)):findP (kD k) (pmE kD ns es)=some (mIdx eq k es):=by
 unfold findP pmE
 rw [← findD_mIdx (vD:=fun _=>D.nilp) he es]
 congr 1
 refine List.ext_getElem (by simp) (fun i h1 h2 => ?_)
 simp only [List.getElem_map,List.getElem_mapIdx]
def noneO {α:Type}:Option α→Option Unit
 | none=>some ()
 | some _=>none
theorem noneO_eq {α:Type} {o:Option α} {u:Unit} (h:noneO o=some u):o=none:=by
 cases o with
 | none=>rfl
 | some x=>cases h
theorem pV_some {ns:Nat→Nm} {o:Option Nat} {i:Nat} (h:o=some i):pV ns o = .ref (ns i) 0 0:=by subst h; rfl
def isPtT (P:Program) (t:TypeId):Bool:=match P.underlying t with | some (.pointer _)=>true | _=>false
theorem isPtT_und {P:Program} {t:TypeId} (h:isPtT P t=true):∃ e,P.underlying t=some (.pointer e):=by
 unfold isPtT at h
 split at h
 ·rename_i e hu; exact⟨e,hu⟩
 ·cases h
end
section
variable {C:Cfg} {Q:QH} {sl:Nat→V} {H:Hp} {c:Code}
theorem wH_pm {Kt X:Type} {kD:Kt→D} {enc:X→List D} {sz:Nat} {n:Nm} (j:Nat) (hH:H[j]? = some (n,some (.map []))) (hw:wH C c Q sl (H.set j (n,some (pmB kD ns0 ([]:List (Kt×X))))++pmT sz enc ns0 ([]:List (Kt×X)))):wH C c Q sl H:=by
 have e:(H.set j (n,some (pmB kD ns0 ([]:List (Kt×X))))++pmT sz enc ns0 ([]:List (Kt×X)))=H.set j (n,some (.pmap [])):=by simp [pmT,pmB,pmE]
 rw [e]at hw
 exact wH_gst hw (fun S t ag=>⟨supd S n (some (.pmap [])),Gst.pm ⟨sl,S,t⟩ n (ag.get hH),ag.set hH (fun x hx=>hx)⟩)
end
section
variable {C:Cfg} {sl:Nat→V} {H:Hp} {q:Qm} {all rest:List Oper} {K:(Nat→V)→Hp→Prop}
variable {dst:Option Tmp} {d:Nat} {t ty:TypeId} {pos:String} {after:Array Edge} {g:Option (Nat×Bool)}
variable {Kt X:Type} {kD:Kt→D} {enc:X→List D} {sz:Nat}
theorem h_plookup {eq:Kt→Kt→Bool} {es:List (Kt×X)} {k:Kt} {x i:Operand} {kt et:TypeId} {n:Nm} {ns:Nat→Nm} (p j:Nat) (hp:q=none∨Nat.beq all.length (p + (rest.length + 1))=true)
  (hf:∀ S tk,AgR H S tk (⟨dst,.lookup t x i false,ty,pos,after,g⟩::rest)→okQ q all p [n] false) (he:∀ a b,sameD (kD a) (kD b)=some (eq a b)) (hm:mapT C.P t=some (kt,et)) (hkk:okKey C.P kt (kD k)=true) (hz:zeroV C.P et=some (.d .nilp))
  (hx:ev sl x = .map n) (hi:ev sl i = .d (kD k)) (hH:H[j]? = some (n,some (pmB kD ns es)))
  (hw:wantedD all sl ⟨dst,.lookup t x i false,ty,pos,after,g⟩=some true) (h:opsH (addQ q p [n] false) C all K rest (putS sl dst (pV ns (mIdx eq k es))) H):opsH q C all K (⟨dst,.lookup t x i false,ty,pos,after,g⟩::rest) sl H:=by
 refine h_touch p [n] false hp hf (mem_H hH) hw (fun S tk K' ok' ag hk=>opD_eff (A:=⟨[(n,pmB kD ns es)],[],pV ns (mIdx eq k es)⟩) (fun c e=>by cases e) ?_ (hk _ H ⟨by simp,by simp⟩ (fun _=>rfl) ag.tail h))
 show lookupF C.P t S (ev sl x) (ev sl i) false=_
 unfold lookupF
 rw [hm,hi,hx]
 simp only [hkk,cond_true,ag.get hH,findP_pm he]
 cases hj:mIdx eq k es with
 | none=>simp only [hz,Option.map_some,retV,cond_false,pV]
 | some j =>
  have hlt:=mIdx_lt hj
  have:(pmE kD ns es)[j]? = some (kD es[j].1,.ref (ns j) 0 0):=by unfold pmE; rw [List.getElem?_mapIdx,List.getElem?_eq_getElem hlt]; rfl
  simp only [this,retV,cond_false,pV]
theorem h_peq {x y:Operand} {e e':TypeId} {ns:Nat→Nm} {o:Option Nat} (hu:isPtT C.P e=true) (hx:ev sl x=pV ns o) (hy:ev sl y = .d .nilp) (hw:wantedD all sl ⟨dst,.binOp .eql e x y e',ty,pos,after,g⟩=some true)
  (h:opsH q C all K rest (putS sl dst (vB o.isNone)) H):opsH q C all K (⟨dst,.binOp .eql e x y e',ty,pos,after,g⟩::rest) sl H:=by
 obtain ⟨e1,hu⟩:=isPtT_und hu
 refine h_op _ hw ?_ h
 show binFO C.P .eql e x y (ev sl x) (ev sl y)=_
 rw [hx,hy]
 cases o with
 | none=>simp only [pV,binFO,binFT,binF,nilF,ptrF,isPtrV,hu,Option.isNone_none]
 | some i=>simp only [pV,binFO,binFT,binF,nilF,ptrF,isPtrV,hu,Option.isNone_some]
theorem h_pset {eq:Kt→Kt→Bool} {C0 C1:Hp} {es:List (Kt×X)} {k:Kt} {v:X} {m i x:Operand} {kt et:TypeId} {n nm:Nm} {ns:Nat→Nm} {cs:List V} (j jc:Nat)
  (he:∀ a b,sameD (kD a) (kD b)=some (eq a b)) (hm:mapT C.P t=some (kt,et)) (hkk:okKey C.P kt (kD k)=true)
  (hx:ev sl m = .map n) (hi:ev sl i = .d (kD k)) (hd:ev sl x = .ref nm 0 0) (hH:C0[j]? = some (n,some (pmB kD ns es))) (hc:C0[jc]? = some (nm,some (.cells sz cs))) (hcs:(enc v).map V.d=cs) (hjc:jc≠j) (hn:mIdx eq k es=none)
  (hC1:(C0.set j (n,some (pmB kD (nset ns es.length nm) (es ++ [(k,v)])))).eraseIdx jc=C1)
  (hw:wantedD all sl ⟨dst,.mapUpdate t m i x,ty,pos,after,g⟩=some true) (h:opsH none C all K rest (putS sl dst .none) (C1++pmT sz enc (nset ns es.length nm) (es ++ [(k,v)]))) :
  opsH none C all K (⟨dst,.mapUpdate t m i x,ty,pos,after,g⟩::rest) sl (C0++pmT sz enc ns es):=by
 have hjl:j < C0.length:=(List.getElem?_eq_some_iff.1 hH).1
 have hcl:jc < C0.length:=(List.getElem?_eq_some_iff.1 hc).1
 have hH':(C0++pmT sz enc ns es)[j]? = some (n,some (pmB kD ns es)):=by rw [List.getElem?_append_left hjl]; exact hH
 refine h_touch 0 [n] true (.inl rfl) (fun _ _ _=>trivial) (mem_H hH') hw (fun S tk K' ok' ag hk=>opD_eff (A:=⟨[(n,pmB kD ns es)],[(n,some (pmB kD (nset ns es.length nm) (es ++ [(k,v)])))],.none⟩) (fun c e=>by cases e) ?_ (hk _ _ ⟨by simp,by simp⟩ (fun e=>by cases e) ((ag.tail.set hH' (b:=some (pmB kD (nset ns es.length nm) (es ++ [(k,v)]))) (fun x hx=>hx)).perm ?_) h))
 ·show mapUpdateF C.P t S (ev sl m) (ev sl i) (ev sl x)=_
  rw [hx,hi,hd]
  unfold mapUpdateF mapUpdatePF isRefV
  simp only [hm,cond_true,hkk,ag.get hH',findP_pm he,hn,pmB,pmE_push]
 ·subst hC1
  rw [pmT_push,hcs,List.set_append_left _ _ hjl]
  have hget:(C0.set j (n,some (pmB kD (nset ns es.length nm) (es ++ [(k,v)]))))[jc]? = some (nm,some (.cells sz cs)):=by
   rw [List.getElem?_set_ne (Ne.symm hjc)]; exact hc
  obtain ⟨hl2,hg2⟩:=List.getElem?_eq_some_iff.1 hget
  have p1:=cons_erase hl2
  rw [hg2]at p1
  refine List.Perm.trans ?_ (p1.append_right _)
  rw [← List.append_assoc]
  exact List.perm_append_comm (l₁:=_++_) (l₂ := [_]) |>.trans (List.Perm.of_eq rfl)
theorem h_pld {C0:Hp} {x:Operand} {size:Nat} {agg:Bool} {i o:Nat} {ns:Nat→Nm} {es:List (Kt×X)} {e:Kt×X} (p:Nat) (hp:q=none∨Nat.beq all.length (p + (rest.length + 1))=true) (hf:∀ S tk,AgR (C0++pmT sz enc ns es) S tk (⟨dst,.load t x,ty,pos,after,g⟩::rest)→okQ q all p [ns i] false) (hs:szT C.P t=some size) (ha:isAggT C.P t=agg) (hx:ev sl x = .ref (ns i) 0 o) (he:es[i]? = some e)
  (v:V) (hv:rdV agg size (((enc e.2).map V.d).drop (0 * sz + o))=some v) (hw:wantedD all sl ⟨dst,.load t x,ty,pos,after,g⟩=some true) (h:opsH (addQ q p [ns i] false) C all K rest (putS sl dst v) (C0++pmT sz enc ns es)):opsH q C all K (⟨dst,.load t x,ty,pos,after,g⟩::rest) sl (C0++pmT sz enc ns es) :=
 h_ldr p (C0.length + i) hp hf hs ha hx (pmT_at he) v hv hw h
theorem h_pst {C0:Hp} {x y:Operand} {size:Nat} {i o:Nat} {ns:Nat→Nm} {es:List (Kt×X)} {e:Kt×X} (p:Nat) (hp:q=none∨Nat.beq all.length (p + (rest.length + 1))=true) (hf:∀ S tk,AgR (C0++pmT sz enc ns es) S tk (⟨dst,.store t x y,ty,pos,after,g⟩::rest)→okQ q all p [ns i] true) (hs:szT C.P t=some size) (hx:ev sl x = .ref (ns i) 0 o) (he:es[i]? = some e) (e':X)
  (hv:stC size ((enc e.2).map V.d) (0 * sz + o) (ev sl y)=some ((enc e').map V.d)) (hw:wantedD all sl ⟨dst,.store t x y,ty,pos,after,g⟩=some true) (h:opsH (addQ q p [ns i] true) C all K rest (putS sl dst .none) (C0++pmT sz enc ns (es.set i (e.1,e')))) (ht:Nat.blt sz 1048576=true:=by rfl):opsH q C all K (⟨dst,.store t x y,ty,pos,after,g⟩::rest) sl (C0++pmT sz enc ns es) :=
 h_str p hp hf (C0.length + i) hs hx (pmT_at he) _ hv hw (by rw [pmT_put (k:=e.1)]; exact h) ht
theorem pmB_set {ns:Nat→Nm} {es:List (Kt×X)} {i:Nat} {e:Kt×X} {x':X} (h:es[i]? = some e):(some (pmB kD ns es):Option Box)=some (pmB kD ns (es.set i (e.1,x'))):=by
 obtain ⟨k,x⟩:=e
 unfold pmB; rw [pmE_set h]
def pmL (es:List (Kt×X)):List (Nat×Kt):=es.mapIdx fun i e=>(i,e.1)
theorem mapEs_pm {ns:Nat→Nm} (es:List (Kt×X)):mapEs (pmB kD ns es)=some ((pmL es).map fun e=>(kD e.2,V.ref (ns e.1) 0 0)):=by
 show some (pmE kD ns es)=_
 congr 1
 unfold pmE pmL
 refine List.ext_getElem (by simp) (fun i h1 h2 => ?_)
 simp only [List.getElem_map,List.getElem_mapIdx]
end
end Go.Eng

