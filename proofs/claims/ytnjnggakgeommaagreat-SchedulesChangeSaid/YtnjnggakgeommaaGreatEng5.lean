/-
  The engine: what the machine does to data, shown once for all programs (part 5).
-/
import Derived.Test.YtnjnggakgeommaaGreatEng4
import Derived.Shelf.SlSortCmp.InsertionK
import Derived.Sort.AssemblyPlain
/-
  THE ENGINE: a slice that is cut in its own box and grows again; boxes of slices that may be empty; maps whose keys are structs.
-/
namespace Go.Eng
set_option linter.unusedSectionVars false
variable [DM]
set_option linter.unusedVariables false
set_option linter.unusedSimpArgs false
def leL {α β:Type} (xs:List α) (ys:List β):Option Unit:=if xs.length<=ys.length then some ()else none
theorem leL_le {α β:Type} {xs:List α} {ys:List β} {u:Unit} (h:leL xs ys=some u):xs.length<=ys.length:=by
 unfold leL at h;split at h
 ·assumption
 ·cases h
theorem vV_take {α:Type} {n:Nm} {sz len:Nat} {xs:List α} (h:0+len<=xs.length):V.vs n sz 0 len=vV n sz (xs.take len):=by
 unfold vV
 rw [List.length_take,Nat.min_eq_left (by omega)]
theorem Ah {α:Type} {b:Bool} {n:Nm} {sz:Nat} {xs:List α} (h:xs ≠ []):kV b n sz xs=gV n sz xs:=by
 cases b with
 | true=>exact (J8 h).symm
 | false=>rfl
theorem kB_gB {α:Type} {b:Bool} {sz:Nat} {enc:α->List D} {xs:List α} (h:xs ≠ []):kB b sz enc xs=gB sz enc xs:=by
 cases b with
 | true=>exact (zh h).symm
 | false=>rfl
def kE {α:Type} (b:Bool) (xs:List α):Option Unit:=match b,xs with
 | true,[]=>none
 | _,_=>some ()
theorem kV_g {α:Type} {b:Bool} {n:Nm} {sz:Nat} {xs:List α} {u:Unit} (h:kE b xs=some u):kV b n sz xs=gV n sz xs:=by
 cases b with
 | false=>rfl
 | true=>cases xs with
  | nil=>cases h
  | cons x xs=>rfl
theorem kB_g {α:Type} {b:Bool} {sz:Nat} {enc:α->List D} {xs:List α} {u:Unit} (h:kE b xs=some u):kB b sz enc xs=gB sz enc xs:=by
 cases b with
 | false=>rfl
 | true=>cases xs with
  | nil=>cases h
  | cons x xs=>rfl
theorem mU {α:Type} (enc:α->List D) (o:Option α):iX (.d (dP enc o))=true:=by cases o <;> rfl
theorem bP {v:V} {vs:List V} (h:iX v=true) (t:vs.all iX=true):(v::vs).all iX=true:=by rw [List.all_cons,h,t];rfl
theorem M3 {size k:Nat} {v:V} {ds:List D} {xs:List (List D)} {rest:List (Nat×V)} (h1:ou (aY v)=some ds) (h2:(Nat.beq k k&&Nat.beq ds.length size)=true) (h3:(aY v).all iX=true) (h4:lL size (k+1) rest=some xs):lL size k ((k,v)::rest)=some (ds::xs):=by
 simp only [lL,h1,h4]
 rw [h2,h3];rfl
theorem yH {size o:Nat} {cs new cs':List V} {x:V} (h1:aY x=new) (h2:new.all iX=true) (h3:(Nat.beq new.length size&&Nat.ble (o+size) cs.length)=true) (h4:splice cs new o=cs'):stC size cs o x=some cs':=by
 unfold stC
 rw [h1,h2,h3,h4];rfl
theorem stD_one {size o:Nat} {cs nd cs':List D} {new:List V} {x:V} (h1:aY x=new) (h0:ou new=some nd) (h2:new.all iX=true) (h3:(Nat.beq nd.length size&&Nat.ble (o+size) cs.length)=true) (h4:splice cs nd o=cs'):stD size cs o x=some cs':=by
 unfold stD
 rw [h1,h0]
 simp only []
 rw [h2,h3,h4];rfl
section
variable {C:Cfg} {Q:QH} {sl:Nat->V} {H:Hp} {c:Code}
theorem wH_shr {α:Type} {enc:α->List D} {xs:List α} {sz:Nat} {n:Nm} (i m:Nat) (h:H[i]? = some (n,some (bV sz enc xs))) (hw:wH C c Q sl (H.set i (n,some (bV sz enc (xs.take m))))):wH C c Q sl H :=
 qh hw (λS t ag=>⟨supd S n (some (.vec sz ((xs.map enc).take m))),Gst.shr ⟨sl,S,t⟩ n sz m (xs.map enc) (ag.get h),by
  have:(xs.map enc).take m=(xs.take m).map enc:=by rw [List.map_take]
  rw [this]
  exact ag.set h (λx hx=>hx)⟩)
end
section
variable {C:Cfg} {sl:Nat->V} {H:Hp} {q:Qm} {all rest:List Oper} {K:(Nat->V)->Hp->Prop}
variable {dst:Option Tmp} {d:Nat} {t ty:TypeId} {pos:String} {after:Array Edge} {g:Option (Nat×Bool)}
theorem h_lenk {α:Type} {b:Bool} {n:Nm} {sz:Nat} {xs:List α} {x:Operand} {e:TypeId} (hu:C.P.underlying t=some (.slice e)) (hx:ev sl x=kV b n sz xs) (hw:aL all sl ⟨dst,.call ⟨.builtin .len,#[x],#[t]⟩,ty,pos,after,g⟩=some true)
  (h:aR q C all K rest (eU sl dst (vI xs.length)) H):aR q C all K (⟨dst,.call ⟨.builtin .len,#[x],#[t]⟩,ty,pos,after,g⟩::rest) sl H:=by
 cases b with
 | true=>exact Fs hu hx hw h
 | false=>exact qF hu hx hw h
theorem GJ {a b:List Nm} {x:Box} (h:x.ok a.length=true):x.ren (a++b)=x.ren a:=by
 cases x with
 | cells sz cs=>simp only [Box.ok]at h;simp only [Box.ren,ve h]
 | _=>rfl
theorem K6 {a b:List Nm} {bs:List Box} (h:bs.all (λx=>x.ok a.length)=true):bs.map (λx=>x.ren (a++b))=bs.map (λx=>x.ren a) :=
 List.map_congr_left (λx hx=>GJ (List.all_eq_true.1 h x hx))
theorem F9 {a b:List Nm}:∀(is:List Nat) (ns:List Nm) (bs:List Box),bs.all (λx=>x.ok a.length)=true->Eng.outs (a++b) is ns (bs.map some)=Eng.outs a is ns (bs.map some)
 | [],_,_,_=>rfl
 | _::_,[],_,_=>rfl
 | _::_,_::_,[],_=>rfl
 | i::is,n::ns,b::bs,h=>by
  simp only [List.all_cons,Bool.and_eq_true]at h
  simp only [List.map_cons,Eng.outs,Option.map_some,GJ h.1,F9 is ns bs h.2]
theorem AO {k k':Nat} (hk:k<=k') {os:List Box}:os.all (λb=>b.ok k)=true->okOut k' (os.map some)=true:=by
 induction os with
 | nil=>exact λ_=>rfl
 | cons b os ih =>
  intro h
  simp only [List.all_cons,Bool.and_eq_true]at h
  simp only [List.map_cons,okOut,Bool.and_eq_true]
  exact⟨Box.ok_mono hk h.1,ih h.2⟩
theorem G6 {α:Type} {enc:α->List D} {sz:Nat} {xs:List α} {f:Operand} {args:List Operand} {ats:Array TypeId} {fn:FuncId} {caps args0:List V} {r:V} {bs os:List Box} {o:Option Box} (p:Nat) (is:List Nat) (iv po:Nat) {l:List (Nm×Box)} {n:Nm}
  (hp:q=none\/Nat.beq all.length (p+(rest.length+1))=true)
  (hfp:∀S tk,AgR H S tk (⟨some d,.call ⟨.value f,args.toArray,ats⟩,ty,pos,after,g⟩::rest)->okQ q all p (l.map (·.1)++[n]) true)
  (hc:FnM C.P fn args0 (bs++[bV sz enc xs]) r (os.map some++[o]))
  (hf:ev sl f = .fn fn caps) (hb:aI C.P fn=true) (hl:lu H is=some l) (hv:H[iv]? = some (n,some (bV sz enc xs)))
  (hS:bs.map (λb=>b.ren (l.map (·.1)))=l.map (·.2)) (hSok:bs.all (λb=>b.ok is.length)=true)
  (hw1:(args.map (ev sl)++caps)[po]? = some (vV n sz xs)) (hp0:args0[po]? = some (vV (av is.length) sz xs))
  (hn:(((args.map (ev sl)++caps).set po .none).flatMap frz).all (λn=>false)=true)
  (ha:((args.map (ev sl)++caps).map co0).set po .none=(renL (l.map (·.1)) args0).set po .none) (hok:okL is.length (args0.set po .none)=true) (hr:okV (is.length+1) r=true)
  (hlen:os.length=is.length) (hi:(is++[iv]).Nodup) (hO:os.all (λb=>b.ok is.length)=true) (ho:∀b,o=some b->b.ok 0=true)
  (hw:aL all sl ⟨some d,.call ⟨.value f,args.toArray,ats⟩,ty,pos,after,g⟩=some true)
  (v:V) (hvr:ren (l.map (·.1)++[n]) r=v)
  (H':Hp) (hH:(setH H (outs (l.map (·.1)) is (l.map (·.1)) (os.map some))).set iv (n,o)=H')
  (h:aR (ng q p (l.map (·.1)++[n]) true) C all K rest (upd sl d v) H') :
  aR q C all K (⟨some d,.call ⟨.value f,args.toArray,ats⟩,ty,pos,after,g⟩::rest) sl H:=by
 have hll:=(jY hl).1
 have hbs:bs.length=l.length:=by have:=congrArg List.length hS;simpa using this
 have hln:(l.map (·.1)).length=is.length:=by rw [List.length_map,hll]
 have hSok':bs.all (λb=>b.ok (l.map (·.1)).length)=true:=by rw [hln];exact hSok
 have hO':os.all (λb=>b.ok (l.map (·.1)).length)=true:=by rw [hln];exact hO
 have hp1:=zP (l:=l) hl hv
 have hmap:(l++[(n,bV sz enc xs)]).map (·.1)=l.map (·.1)++[n]:=by simp
 have hq:okL (is++[iv]).length args0=true:=by
  have:=zb (v:=vV (av is.length) sz xs) (qP (Nat.le_add_right is.length 1) _ hok) (zo (ls_ _))
  rw [lX hp0]at this
  simpa using this
 refine yJ p (is++[iv]) hp (λS tk ag=>by rw [hmap];exact hfp S tk ag) hc hf hb hp1 ?_ ?_ ?_ ?_ hq ?_ (by simp [hlen]) hi ?_ hw v (by rw [hmap];exact hvr) H' ?_ ?_
 ·rw [List.map_append,hmap,K6 hSok',hS]
  simp only [List.map_cons,List.map_nil,List.map_append,Box.ren]
 ·rw [List.all_append]
  simp only [Bool.and_eq_true]
  exact⟨List.all_eq_true.2 (λb hb'=>Box.ok_mono (by simp) (List.all_eq_true.1 hSok b hb')),rfl⟩
 ·intro m hm
  obtain ⟨v',hv1,hv2⟩:=zk hn hm
  rw [hw1]at hv1
  simp only [so_]at hv1
  subst hv1
  rw [hmap]
  have:m=n:=by simpa [frz,K4,vV]using hv2
  rw [this];simp
 ·intro S tk ag
  refine ArgsOK.of_map ?_
  have hcw:co S (vV n sz xs)=vV n sz xs:=by
   have hS':S n=some (.vec sz (xs.map enc)):=ag.get hv
   simp only [vV,co,co1,hS']
  have hargs:(args.map (ev sl)++caps).map (co S)=((args.map (ev sl)++caps).map co0).set po (vV n sz xs):=by
   have h1:(args.map (ev sl)++caps)=((args.map (ev sl)++caps).set po .none).set po (vV n sz xs):=by
    rw [List.set_set,lX hw1]
   have h2:(((args.map (ev sl)++caps).set po .none)).map (co S)=(((args.map (ev sl)++caps).set po .none)).map co0:=uC (by
    cases hx:((args.map (ev sl)++caps).set po .none).flatMap frz with
    | nil=>rfl
    | cons a b=>rw [hx]at hn;simp at hn)
   have h3:(args.map (ev sl)++caps).map (co S)=((((args.map (ev sl)++caps).set po .none)).map (co S)).set po (co S (vV n sz xs)):=by
    rw [<- List.map_set,<- h1]
   rw [h3,h2,hcw,List.map_set,List.set_set]
  rw [hargs,xM ha,hmap]
  have h1:args0=(args0.set po .none).set po (vV (av is.length) sz xs):=by rw [List.set_set,lX hp0]
  have h2:renL (l.map (·.1)++[n]) args0=(renL (l.map (·.1)) (args0.set po .none)).set po (vV n sz xs):=by
   conv=>lhs;rw [h1]
   rw [qH,ve (by simp only [List.length_map,hll];exact hok)]
   simp only [vV,ren]
   rw [rC (n:=n) (by rw [List.getElem?_append_right (by simp [hll])];simp [hll])]
  rw [h2,qH,List.set_set]
 ·have e:(os.map some++[o]).length=is.length+1:=by simp [hlen]
  rw [e];exact hr
 ·refine wG (AO (by simp [hlen]) hO) ?_
  cases o with
  | none=>rfl
  | some b=>simp only [okOut,Bool.and_true];exact Box.ok_mono (Nat.zero_le _) (ho b rfl)
 ·rw [<- hH,hmap,BF _ _ _ _ _ _ _ (by simp [hlen]) (by simp [hll]),GG,F9 _ _ _ hO']
  simp only [setH]
  cases o with
  | none=>rfl
  | some b=>simp only [Option.map_some,uL (ho b rfl)]
 ·rw [hmap];exact h
theorem bV_ok {α:Type} {sz:Nat} {enc:α->List D} {xs:List α}:∀b,some (bV sz enc xs)=some b->b.ok 0=true:=λb h=>by cases h;rfl
theorem Ki {α:Type} {enc:α->List D} {sz:Nat} {xs ys:List α} {b:Bool} {f:Operand} {args:List Operand} {ats:Array TypeId} {fn:FuncId} {caps args0 args1:List V} {bs bs0 bs1:List Box} (is:List Nat) (iv po:Nat) {l:List (Nm×Box)} {n:Nm}
  (hc:FnM C.P fn args0 (bs++[bV sz enc xs]) (vV (av is.length) sz ys) (bs1.map some++[some (bV sz enc ys)]))
  (hc0:FnM C.P fn args1 bs .nil (bs0.map some))
  (hle:ys.length<=xs.length) (hsame:b=false->xs=[]->bs1=bs0)
  (hf:ev sl f = .fn fn caps) (hb:aI C.P fn=true) (hl:lu H is=some l) (hv:H[iv]? = some (n,kB b sz enc xs))
  (hS:bs.map (λb=>b.ren (l.map (·.1)))=l.map (·.2)) (hSok:bs.all (λb=>b.ok is.length)=true) (hOok:bs1.all (λb=>b.ok is.length)=true)
  (hw1:(args.map (ev sl)++caps)[po]? = some (kV b n sz xs)) (hp0:args0[po]? = some (vV (av is.length) sz xs)) (hp1:args1=args0.set po .nil)
  (hn:(((args.map (ev sl)++caps).set po .none).flatMap frz).all (λn=>false)=true)
  (ha:((args.map (ev sl)++caps).map co0).set po .none=(renL (l.map (·.1)) args0).set po .none) (hok:okL is.length (args0.set po .none)=true)
  (hlen:bs.length=is.length) (hlen1:bs1.length=is.length) (hi:(is++[iv]).Nodup)
  (hw:aL all sl ⟨some d,.call ⟨.value f,args.toArray,ats⟩,ty,pos,after,g⟩=some true)
  (H':Hp) (hH:(setH H (outs (l.map (·.1)) is (l.map (·.1)) (bs1.map some))).set iv (n,kB (b || !xs.isEmpty) sz enc ys)=H')
  (h:aR none C all K rest (upd sl d (kV (b || !xs.isEmpty) n sz ys)) H') :
  aR none C all K (⟨some d,.call ⟨.value f,args.toArray,ats⟩,ty,pos,after,g⟩::rest) sl H:=by
 have hll:=(jY hl).1
 by_cases hbx:b=false/\xs=[]
 ·obtain ⟨rfl,rfl⟩:=hbx
  have hys:ys=[]:=List.eq_nil_of_length_eq_zero (by simpa using hle)
  subst hys
  have hbb:=hsame rfl rfl
  subst hbb
  have hwn:(args.map (ev sl)++caps)[po]? = some .nil:=hw1
  have hivs:iv∉is:=by
   rw [List.nodup_append]at hi
   exact λhm=>hi.2.2 iv hm iv (by simp) rfl
  have hset:∀{l':List (Nat×Nm×Option Box)} {H0:Hp},(∀p∈l',p.1≠iv)->(setH H0 l')[iv]? = H0[iv]? := by
   intro l'
   induction l' with
   | nil=>intro H0 _;rfl
   | cons x l' ih =>
    intro H0 hx
    obtain ⟨i,m,b⟩:=x
    simp only [setH]
    rw [ih (λp hp=>hx p (by simp [hp]))]
    have:i≠iv:=hx (i,m,b) (by simp)
    rw [List.getElem?_set_ne this]
  have houts:∀(ν:List Nm) (is:List Nat) (ns:List Nm) (os:List (Option Box)),∀p∈outs ν is ns os,p.1∈is:=by
   intro ν is
   induction is with
   | nil=>intro ns os p hp;simp [outs]at hp
   | cons i is ih =>
    intro ns os p hp
    cases ns with
    | nil=>simp [outs]at hp
    | cons m ns=>cases os with
     | nil=>simp [outs]at hp
     | cons o os =>
      simp only [outs,List.mem_cons]at hp
      rcases hp with rfl|hp
      ·simp
      ·exact List.mem_cons_of_mem _ (ih _ _ _ hp)
  have hq:okL is.length args1=true:=by rw [hp1];exact zb hok rfl
  have hpl:po<args0.length:=(List.getElem?_eq_some_iff.1 hp0).1
  refine yJ 0 is (.inl rfl) (λ_ _ _=>trivial) hc0 hf hb hl ?_ ?_ ?_ ?_ hq rfl (by simp [hlen1]) (List.nodup_append.1 hi).1 (AO (by simp [hlen1]) hOok) hw .nil rfl H' ?_ h
  ·exact hS
  ·exact hSok
  ·intro m hm
   obtain ⟨v',hv1,hv2⟩:=zk hn hm
   rw [hwn]at hv1
   simp only [so_]at hv1
   subst hv1
   cases hv2
  ·intro S tk ag
   have h1:(args.map (ev sl)++caps)=((args.map (ev sl)++caps).set po .none).set po .nil:=by rw [List.set_set,lX hwn]
   have h2:((args.map (ev sl)++caps).set po .none).map (co S)=((args.map (ev sl)++caps).set po .none).map co0:=uC (by
    cases hx:((args.map (ev sl)++caps).set po .none).flatMap frz with
    | nil=>rfl
    | cons a b=>rw [hx]at hn;simp at hn)
   have hbase:ArgsOK S ((args.map (ev sl)++caps).set po .none) ((renL (l.map (·.1)) args1).set po .none):=by
    refine ArgsOK.of_map ?_
    rw [h2,List.map_set,hp1,qH,List.set_set]
    exact ha
   have:=ArgsOK.set (x' := .nil) (y' := .nil) (.inl rfl) hbase
   have e:(renL (l.map (·.1)) args1).set po .nil=renL (l.map (·.1)) args1:=by
    rw [hp1,qH,List.set_set];rfl
   rw [lX hwn,e]at this
   exact this
  ·rw [<- hH]
   symm
   apply lX
   rw [hset (λp hp e=>hivs (e ▸ houts _ _ _ _ p hp)),hv];rfl
 ·have e1:kB b sz enc xs=some (bV sz enc xs):=by
   cases b with
   | true=>rfl
   | false=>exact zh (λe=>hbx ⟨rfl,e⟩)
  have e2:kV b n sz xs=vV n sz xs:=by
   cases b with
   | true=>rfl
   | false=>exact J8 (λe=>hbx ⟨rfl,e⟩)
  have e3:(b || !xs.isEmpty)=true:=by
   cases b with
   | true=>rfl
   | false=>cases xs with
    | nil=>exact absurd ⟨rfl,rfl⟩ hbx
    | cons x xs=>rfl
  rw [e3]at hH h
  rw [e1]at hv
  rw [e2]at hw1
  refine G6 (v:=vV n sz ys) 0 is iv po (.inl rfl) (λ_ _ _=>trivial) hc hf hb hl hv hS hSok hw1 hp0 hn ha hok (zo (ls_ _)) (by simp [hlen1]) hi hOok bV_ok hw ?_ H' hH h
  simp only [vV,ren]
  rw [rC (n:=n) (by rw [List.getElem?_append_right (by simp [hll])];simp [hll])]
end
def cutG {β:Type} (env:β->List (Nat×V)) (Hs:β->Hp) (R:β->Prop):(Nat->V)->Hp->Prop:=λsl H =>
 ∀(C:Cfg) (b:Code) (Q:QH),(∀x,R x->∀sl' H',Eng.pick (env x) sl'=env x->Eng.pre (Hs x) H'->wH C b Q sl' H')->wH C b Q sl H
theorem Mv {C:Cfg} {c b:Code} {Q Q':QH} {sl:Nat->V} {H:Hp} {β:Type} (env:β->List (Nat×V)) (Hs:β->Hp) (R:β->Prop) (h1:wH C c (MJ (cutG env Hs R) (MJ (wH C b Q) Q')) sl H)
  (h2:∀x,R x->∀sl' H',Eng.pick (env x) sl'=env x->Eng.pre (Hs x) H'->wH C b Q sl' H'):wH C c (MJ (wH C b Q) Q') sl H:=by
 refine JJ (λe sl H h => ?_) h1
 cases e with
 | normal=>exact h C b Q h2
 | _=>exact h
end Go.Eng

/-
  THE ENGINE: results of which the first is a new slice and the others are data.
-/
namespace Go.Eng
set_option linter.unusedSectionVars false
variable [DM]
set_option linter.unusedVariables false
section
variable {C:Cfg} {sl:Nat->V} {H:Hp} {q:Qm} {all rest:List Oper} {K:(Nat->V)->Hp->Prop}
variable {dst:Option Tmp} {d:Nat} {t ty:TypeId} {pos:String} {after:Array Edge} {g:Option (Nat×Bool)}
end
end Go.Eng

/-
  THE ENGINE: a sort by a comparison of the program's, by its contract off the shelf.
-/
namespace Go.Eng
set_option linter.unusedSectionVars false
variable [dM:DM]
open Go.Sort Go.Proofs
set_option linter.unusedVariables false
set_option linter.unusedSimpArgs false
theorem Ll {E:Env} {G:Gh} {w W:World} {S:Store} {tk:Nat} {U:Nat->Prop} (h:Inv E G w S tk U) {b:Nat} (hno:∀o,¬G.imm b o)
  (hh:∀b',b'≠b->b'<w.heap.size->W.heap[b']? = w.heap[b']?) (hs:w.heap.size<=W.heap.size) :
  Inv ⟨⟨G.imm,λ_=>none⟩,W,AQ ⟨G.imm,λ_=>none⟩ []⟩ ⟨G.imm,λ_=>none⟩ W (gD []) 1 (λ_=>False)/\∀b' o',G.imm b' o'->W.cell? ⟨b',o',none⟩=w.cell? ⟨b',o',none⟩:=by
 have hc:∀b' o',G.imm b' o'->W.cell? ⟨b',o',none⟩=w.cell? ⟨b',o',none⟩:=λb' o' hb=>xD (hh b' (λe=>by subst e;exact hno _ hb) (h.immB _ _ hb)) o'
 have hno':∀(n:Nm) (bx:Box),gD [] n=some bx->False:=λn bx hx=>by
  unfold gD at hx
  split at hx
  ·simp at hx
  ·cases hx
 have k1:Kn G w:=h.kn.ext h.ext.imm h.ext.cell
 have k2:Kn ⟨G.imm,λ_=>none⟩ W:=k1.ext (λ_ _ h=>h) hc
 refine⟨⟨Ext.refl _ _,λ_ _ h => .inl h,λ_ _ _=>rfl,Nat.le_refl _,rfl,rfl,rfl,λn bx hx=>(hno' n bx hx).elim,λn m bx _ _ _ _ _ _ hx=>(hno' n bx hx).elim,λn x hx => ?_,λn b o sz hx => ?_,λb' o' hb=>Nat.lt_of_lt_of_le (h.immB _ _ hb) hs,k2,λ_=>Nat.le_refl _⟩,hc⟩
 ·cases hx
 ·cases hx
theorem Inv.toT {E:Env} {G:Gh} {w:World} {S:Store} {tk:Nat} {U:Nat->Prop} (h:Inv E G w S tk U) (hd:E.w.drawn<=w.drawn) : @Inv dmT E G w S tk U :=
 @Inv.mk dmT E G w S tk U h.ext h.newI h.frame h.size h.os h.tape h.output h.box h.one h.tick h.bound h.immB h.kn (λ_=>hd)
theorem MQ {α:Type} {E:α->List D} {P:Program} {g:FuncId} {F:α->α->Option Int} (hg:∀a b r,F a b=some r -> @FnM dmT P g [.d (.agg (E a)),.d (.agg (E b))] [] (vI r) [])
  {β:Type} [Inhabited β] (at_:β->α) (enc:β->List Value) {k:Nat} (cf:β->β->Int) (hcf:∀i j,F (at_ i) (at_ j)=some (cf i j))
  {Ev:Env} {G:Gh} {w:World} {S:Store} {tk:Nat} {U:Nat->Prop} (h:Inv Ev G w S tk U) {b o n:Nat} (hno:∀o',¬G.imm b o') (hblk:b<w.heap.size)
  (hl:∀i,(enc i).length=(E (at_ i)).length) (hr:∀i j (h1:j<(enc i).length) (h2:j<(E (at_ i)).length),RepD G.imm w (enc i)[j] (E (at_ i))[j]) :
  CmpLays P g #[] enc k cf b o n w:=by
 intro m os dk _ x y
 have hW:∀b',b'≠b->b'<w.heap.size->(sortWorldK enc k w b o m dk os).heap[b']? = w.heap[b']? := λb' h1 h2=>by
  show ((putRow id (Sort.ahead w m) b o (flatK enc k dk)).heap++os)[b']? = _
  have hsz:(putRow id (Sort.ahead w m) b o (flatK enc k dk)).heap.size=w.heap.size:=by simp [putRow,mapBlock,Sort.ahead]
  rw [Array.getElem?_append_left (by rw [hsz];exact h2),uw h1];rfl
 have hWs:w.heap.size<=(sortWorldK enc k w b o m dk os).heap.size:=by
  show w.heap.size<=((putRow id (Sort.ahead w m) b o (flatK enc k dk)).heap++os).size
  simp [putRow,mapBlock,Sort.ahead]
 generalize hWe:sortWorldK enc k w b o m dk os=W at hW hWs ⊢
 obtain ⟨i0,hc⟩:=Ll (W:=W) h hno hW hWs
 have i1:=i0.toT (Nat.le_refl _)
 have rep:∀i,RepV ⟨G.imm,λ_=>none⟩ W (.agg (enc i).toArray) (.d (.agg (E (at_ i)))):=λi => .d (.agg _ _ (hl i) (λj h1 h2=>(hr i j h1 h2).ext (λ_ _ h=>h) hc))
 have hargs:rO ⟨G.imm,λ_=>none⟩ W [.agg (enc x).toArray,.agg (enc y).toArray] [.d (.agg (E (at_ x))),.d (.agg (E (at_ y)))]:=by
  refine⟨rfl,λi h1 h2 => ?_⟩
  match i with
  | 0=>exact rep x
  | 1=>exact rep y
  | i+2=>exact absurd h1 (by simp)
 refine (hg _ _ _ (hcf x y) _ W [.agg (enc x).toArray,.agg (enc y).toArray] i1 hargs).mono ?_
 rintro e w' ⟨v,G',S',tk',U',ν,rfl,i2,rv,_,_,_,_⟩
 have hv:v = .int .i64 (cf x y):=by
  have:RepV G' w' v (.d (.int .i64 (cf x y))):=rv
  exact this.int_inv
 refine⟨by rw [hv],w'.drawn-W.drawn,w'.heap.extract W.heap.size,?_⟩
 have hM:∀k',¬AQ ⟨G.imm,λ_=>none⟩ [] k':=λk' ⟨i,bx,_,_,hx,_⟩=>by simp at hx
 have hheap:w'.heap=W.heap++w'.heap.extract W.heap.size:=by
  have hsz:=(@Inv.size dmT _ _ _ _ _ _ i2)
  have hfr:=λk' hk=>(@Inv.frame dmT _ _ _ _ _ _ i2) k' hk (hM k')
  refine Array.ext_getElem? (λj => ?_)
  by_cases hj:j<W.heap.size
  ·rw [Array.getElem?_append_left hj];exact hfr j hj
  ·rw [Array.getElem?_append_right (by omega),Array.getElem?_extract]
   split
   ·rw [show W.heap.size+(j-W.heap.size)=j by omega]
   ·rename_i hx
    simp only [Nat.not_lt]at hx
    have:w'.heap.size<=j:=by have h1:W.heap.size<=w'.heap.size:=hsz;omega
    simp [this]
 have hd:W.drawn+(w'.drawn-W.drawn)=w'.drawn:=by have:W.drawn<=w'.drawn:=(@Inv.dr dmT _ _ _ _ _ _ i2) rfl;omega
 have e1:w'.tape=W.tape:=(@Inv.tape dmT _ _ _ _ _ _ i2)
 have e2:w'.os=W.os:=(@Inv.os dmT _ _ _ _ _ _ i2)
 have e3:w'.output=W.output:=(@Inv.output dmT _ _ _ _ _ _ i2)
 unfold grow World.drewN
 show w' = { heap:=W.heap++w'.heap.extract W.heap.size,tape:=W.tape,drawn:=W.drawn+(w'.drawn-W.drawn),os:=W.os,output:=W.output }
 rw [hd,<- hheap,<- e1,<- e2,<- e3]
section
variable {α:Type}
def om (F:α->α->Option Int) (x:α) (l:List α) (i j:Fin (l.length+1)):Int:=(F ((x::l).get i) ((x::l).get j)).getD 0
def vT {n:Nat} (lt:Fin (n+1)->Fin (n+1)->Bool):List (Fin (n+1)):=(pdq lt (Array.ofFn λi=>i) 0 (n+1) (Lib.bitLen (n+1)) true true).toList
open Classical in
noncomputable def DD (F:α->α->Option Int):List α->Option (List α)
 | []=>some []
 | x::l=>if l.length+1<4611686018427387904/\(∀i j:Fin (l.length+1),(F ((x::l).get i) ((x::l).get j)).isSome=true)/\SWO (ltOf (om F x l))then
   some ((vT (ltOf (om F x l))).map (x::l).get)else none
theorem Ko {F:α->α->Option Int} {x:α} {l r:List α} (h:DD F (x::l)=some r) :
  (l.length+1<4611686018427387904/\(∀i j:Fin (l.length+1),(F ((x::l).get i) ((x::l).get j)).isSome=true)/\SWO (ltOf (om F x l)))/\(vT (ltOf (om F x l))).map (x::l).get=r:=by
 by_cases hc:l.length+1<4611686018427387904/\(∀i j:Fin (l.length+1),(F ((x::l).get i) ((x::l).get j)).isSome=true)/\SWO (ltOf (om F x l))
 ·have e:DD F (x::l)=some ((vT (ltOf (om F x l))).map (x::l).get):=if_pos hc
  rw [e]at h
  exact⟨hc,Option.some.inj h⟩
 ·have e:DD F (x::l)=none:=if_neg hc
  rw [e]at h
  cases h
theorem extract_all {β:Type} (d:Array β) {m:Nat} (h:d.size=m):d.extract 0 m=d:=by subst h;exact Array.extract_size
theorem BM {n:Nat} {lt:Fin (n+1)->Fin (n+1)->Bool} (hO:SWO lt) :
  (vT lt).Perm (List.finRange (n+1))/\(vT lt).Pairwise (λa b=>lt b a=false)/\(vT lt).length=n+1/\(pdq lt (Array.ofFn λi=>i) 0 (n+1) (Lib.bitLen (n+1)) true true).size=n+1:=by
 have hs:(Array.ofFn λi:Fin (n+1)=>i).size=n+1:=by simp
 obtain ⟨⟨h1,_,h2⟩,h3⟩:=pdq_sorts lt hO (Array.ofFn λi=>i) 0 (n+1) (Lib.bitLen (n+1)) true true (Nat.zero_le _) (by rw [hs];exact Nat.le_refl _) (Or.inl rfl)
 have hsz:(pdq lt (Array.ofFn λi=>i) 0 (n+1) (Lib.bitLen (n+1)) true true).size=n+1:=h1.trans hs
 refine⟨?_,?_,?_,hsz⟩
 ·unfold vT
  generalize pdq lt (Array.ofFn λi=>i) 0 (n+1) (Lib.bitLen (n+1)) true true=d' at *
  have e1:d'.extract 0 (n+1)=d':=extract_all d' hsz
  have e2:(Array.ofFn λi:Fin (n+1)=>i).extract 0 (n+1)=Array.ofFn λi:Fin (n+1)=>i:=extract_all _ hs
  rw [e1,e2]at h2
  refine h2.trans (List.Perm.of_eq ?_)
  rw [Array.toList_ofFn];rfl
 ·unfold vT
  generalize pdq lt (Array.ofFn λi=>i) 0 (n+1) (Lib.bitLen (n+1)) true true=d' at *
  refine List.pairwise_iff_getElem.2 (λi j hi hj hij => ?_)
  have:=h3 i j (Nat.zero_le _) hij (by rw [<- hsz];simpa using hj)
  have a1:i<d'.size:=by simpa using hi
  have a2:j<d'.size:=by simpa using hj
  simpa [getElem!_pos d' i a1,getElem!_pos d' j a2]using this
 ·unfold vT;simpa using hsz
theorem I4 {F:α->α->Option Int} (c:α->α->Int) {xs:List α} (hl:xs.length<4611686018427387904) (hF:∀a∈xs,∀b∈xs,F a b=some (c a b))
  (hi:∀a∈xs,¬c a a<0) (ht:∀a∈xs,∀b∈xs,∀d∈xs,c a b<0->c b d<0->c a d<0) (hn:∀a∈xs,∀b∈xs,∀d∈xs,¬c a b<0->¬c b d<0->¬c a d<0) :
  ∃r,DD F xs=some r/\r.Perm xs/\r.Pairwise (λa b=>¬c b a<0):=by
 cases xs with
 | nil=>exact⟨[],rfl,.refl _,.nil⟩
 | cons x l =>
  have hm:∀i:Fin (l.length+1),(x::l).get i∈x::l:=λi=>List.get_mem (x::l) i
  have hc:∀i j,om F x l i j=c ((x::l).get i) ((x::l).get j):=λi j=>by unfold om;rw [hF _ (hm i) _ (hm j)];rfl
  have hO:SWO (ltOf (om F x l)):=by
   constructor
   ·intro i;unfold ltOf;rw [hc];exact decide_eq_false (hi _ (hm i))
   ·intro i j k h1 h2
    unfold ltOf at *;rw [hc]at *
    exact decide_eq_true (ht _ (hm i) _ (hm j) _ (hm k) (of_decide_eq_true h1) (of_decide_eq_true h2))
   ·intro i j k h1 h2
    unfold ltOf at *;rw [hc]at *
    exact decide_eq_false (hn _ (hm i) _ (hm j) _ (hm k) (of_decide_eq_false h1) (of_decide_eq_false h2))
  obtain ⟨p1,p2,p3,_⟩:=BM hO
  refine⟨(vT (ltOf (om F x l))).map (x::l).get,?_,?_,?_⟩
  ·exact if_pos ⟨hl,λi j=>by rw [hF _ (hm i) _ (hm j)];rfl,hO⟩
  ·refine (p1.map _).trans (List.Perm.of_eq ?_)
   exact List.ext_getElem (by simp) (λi h1 h2=>by simp)
  ·rw [List.pairwise_map]
   exact p2.imp (λ{i j} h=>by unfold ltOf at h;rw [hc]at h;exact of_decide_eq_false h)
end
theorem Cs {α:Type} (E:α->List D) (k:Nat) (hE:∀x,(E x).length=k) (xs:List α):(Box.vec k (xs.map E)).all.length=xs.length*k:=by
 induction xs with
 | nil=>simp [Box.all]
 | cons x xs ih =>
  simp only [Box.all,List.map_cons,List.flatten_cons,List.length_append,List.length_map,List.length_cons,hE]at ih ⊢
  rw [ih,Nat.add_mul];omega
theorem Kh {α:Type} {E:α->List D} {k:Nat} (hE:∀x,(E x).length=k) {P:Program} {f g:FuncId} {F:α->α->Option Int}
  (hg:∀a b r,F a b=some r -> @FnM dmT P g [.d (.agg (E a)),.d (.agg (E b))] [] (vI r) []) (hb:aI P g=true)
  (hC:∀(β:Type) [Inhabited β] (enc:β->List Value) (hk:∀x,(enc x).length=k) (h1:∀x,∀v∈enc x,v.oneCell'=true) (cf:β->β->Int) (hO:SWO (ltOf cf)) (g:Nat) (cb:Array Value) (blk off cap:Nat) (d:Array β) (w:World)
   (eg:∀args w,(callFunc g args).run P w = .ok (.enter g args) w) (hcmp:CmpLays P g cb enc k cf blk off d.size w) (hH:HoldsK enc k w blk off d) (hblk:blk<w.heap.size) (hsz:d.size<4611686018427387904),
   Calls P f #[.slice (some ⟨blk,off,none⟩) d.size cap,.func (.func g) #[] cb] w λe w'=>e = .returned (.tuple #[])/\∃n os,w'=sortWorldK enc k w blk off n (pdq (ltOf cf) d 0 d.size (Lib.bitLen d.size) true true) os)
  (h0:∀(p:Option Addr) (cap:Nat) (fv:Value) (w:World),Calls P f #[.slice p 0 cap,fv] w λe w'=>e = .returned (.tuple #[])/\w'=w)
  {xs r:List α} (hF:DD F xs=some r) :
  FnM P f [dV (av 0) k xs,.fn g []] (([]:List Box)++gI k E xs) (.tup []) (([]:List Box).map some++gT xs (gB k E r)):=by
 have unit:∀G w,RepV G w (.tuple #[]) (.tup []):=λG w => .tup [] [] rfl (λi h1=>absurd h1 (Nat.not_lt_zero i))
 intro G w vargs hinv hargs
 obtain ⟨v,v2,rfl,hv,hf⟩:=hargs.two
 obtain rfl:v2 = .func (.func g) #[] #[]:=by
  cases hf with
  | fn _ arr _ hl _ =>
   obtain rfl:arr=[]:=List.eq_nil_of_length_eq_zero hl
   rfl
 cases xs with
 | nil =>
  have hv':RepD G.imm w v (.sl []):=hv.d_inv
  obtain ⟨p,cap,rfl⟩:∃p cap,v = .slice p 0 cap:=by
   cases hv' with
   | sl0 a cap=>exact⟨_,_,rfl⟩
   | sl b off cap sz xs us=>exact⟨_,_,rfl⟩
  refine (h0 p cap _ w).mono ?_
  rintro e w' ⟨rfl,rfl⟩
  exact⟨_,G,gD [],1,_,[],rfl,hinv,unit _ _,rfl,List.nodup_nil,λi hi=>absurd hi (Nat.not_lt_zero i),λi bx hb=>by simp [gT]at hb⟩
 | cons x l =>
  obtain ⟨⟨hlen,hsome,hO⟩,hF⟩:=Ko hF
  ·skip
   obtain ⟨p1,p2,p3,p4⟩:=BM hO
   have hrl:r.length=l.length+1:=by rw [<- hF,List.length_map,p3]
   have hB:gB k E r=some (.vec k (r.map E)):=by
    cases r with
    | nil=>simp at hrl
    | cons a b=>rfl
   have hI:(([]:List Box)++gI k E (x::l))=[.vec k ((x::l).map E)]:=rfl
   have hT:(([]:List Box).map some++gT (x::l) (gB k E r))=[some (.vec k (r.map E))]:=by rw [hB];rfl
   rw [hI]at hinv ⊢
   rw [hT]
   have hS:gD [.vec k ((x::l).map E)] (av 0)=some (.vec k ((x::l).map E)):=by rw [yR];rfl
   obtain ⟨b,o,sz,hmu,hst,hEv⟩:=hinv.box _ _ hS
   have hst':Stands G w (.vec k ((x::l).map E)) b o sz:=hst
   obtain rfl:sz=k:=hst'.sz
   have hv':RepV G w v (.vs (av 0) sz 0 (l.length+1)):=hv
   generalize hk:l.length+1=n at hv'
   cases hv' with
   | vs0=>omega
   | @vs _ b2 o2 _ _ _ cap hm hcap hb2 =>
    rw [hmu]at hm
    simp only [so_,Prod.mk.injEq]at hm
    obtain ⟨rfl,rfl,_⟩:=hm
    subst hk
    obtain ⟨⟨arr,elem,harr⟩,hnoimm⟩:=hst'.free rfl
    have hgl:∀i:Fin (l.length+1),i.1<((x::l).map E).length:=λi=>by rw [List.length_map];exact i.2
    have hex:∀i:Fin (l.length+1),∃us:Nat->Value,(∀j,j<sz->w.cell? ⟨b,o+i.1*sz+j,none⟩=some (us j)/\(us j).oneCell'=true)/\∀j (hj:j<(E ((x::l).get i)).length),RepD G.imm w (us j) (E ((x::l).get i))[j]:=λi=>by
     obtain ⟨hl,us,u1,u2⟩:=hst'.elem (.inl rfl) i.1 (hgl i)
     have e:((x::l).map E)[i.1]'(hgl i)=E ((x::l).get i):=by rw [List.getElem_map];rfl
     rw [e]at hl
     refine⟨us,λj hj=>u1 j (by rw [e,hl];exact hj),λj hj => ?_⟩
     have:=u2 j (by rw [e];exact hj)
     simp only [e]at this
     exact this
    let enc:Fin (l.length+1)->List Value:=λi=>(List.range sz).map λj=>(w.cell? ⟨b,o+i.1*sz+j,none⟩).getD undef
    have henc:∀i,(enc i).length=sz:=λi=>by simp [enc]
    have hencj:∀i j (hj:j<(enc i).length),∃u,(enc i)[j]=u/\w.cell? ⟨b,o+i.1*sz+j,none⟩=some u/\u.oneCell'=true/\∀(h2:j<(E ((x::l).get i)).length),RepD G.imm w u (E ((x::l).get i))[j]:=λi j hj=>by
     obtain ⟨us,u1,u2⟩:=hex i
     have hj':j<sz:=by rw [henc]at hj;exact hj
     refine⟨us j,?_,(u1 j hj').1,(u1 j hj').2,λh2=>u2 j h2⟩
     simp [enc,(u1 j hj').1]
    have h1:∀i,∀v∈enc i,v.oneCell'=true:=λi v hv=>by
     obtain ⟨j,hj,rfl⟩:=List.getElem_of_mem hv
     obtain ⟨u,e,_,h,_⟩:=hencj i j hj
     rw [e];exact h
    have hds:(Array.ofFn λi:Fin (l.length+1)=>i).size=l.length+1:=by simp
    have hdg:∀t (h:t<l.length+1),(Array.ofFn λi:Fin (l.length+1)=>i)[t]! = ⟨t,h⟩:=λt h=>by
     rw [getElem!_pos _ t (by simpa using h)];simp
    have hget:∀(i:Fin (l.length+1)) c,c<sz->w.cell? ⟨b,o+i.1*sz+c,none⟩=some (enc i)[c]! := λi c hc=>by
     obtain ⟨u,e,h,_⟩:=hencj i c (by rw [henc];exact hc)
     rw [getElem!_pos _ c (by rw [henc];exact hc),e];exact h
    have hH:HoldsK enc sz w b o (Array.ofFn λi:Fin (l.length+1)=>i):=λt ht=>by
     have ht':t<(l.length+1)*sz:=by simpa using ht
     have hk0:0<sz:=by
      rcases Nat.eq_zero_or_pos sz with h|h
      ·rw [h]at ht';omega
      ·exact h
     have htd:t / sz<l.length+1:=Nat.div_lt_of_lt_mul (by rw [Nat.mul_comm];exact ht')
     refine⟨?_,by simp only [World.frozen?,harr];simp⟩
     rw [get_flatK _ _ _ _ (by rw [hds];exact ht'),hdg _ htd]
     have:=hget ⟨t / sz,htd⟩ (t % sz) (Nat.mod_lt _ hk0)
     have e:o+t / sz*sz+t % sz=o+t:=by have:=Nat.div_add_mod t sz;rw [Nat.mul_comm]at this;omega
     simp only [e]at this
     exact this
    have hcf:∀i j,F ((x::l).get i) ((x::l).get j)=some (om F x l i j):=λi j=>by
     have:=hsome i j
     unfold om
     cases hx:F ((x::l).get i) ((x::l).get j)with
     | none=>rw [hx]at this;cases this
     | some a=>rfl
    have hcmp:=MQ (E:=E) (P:=P) (g:=g) hg (x::l).get enc (k:=sz) (om F x l) hcf hinv (b:=b) (o:=o) (n:=l.length+1) hnoimm (hinv.bound _ _ _ _ hmu) (λi=>by rw [henc,hE]) (λi j k1 k2=>by
     obtain ⟨u,e,_,_,h⟩:=hencj i j k1
     rw [e];exact h k2)
    have hadr:(⟨b,o+0*sz,none⟩:Addr)=⟨b,o,none⟩:=by simp
    show Calls P f #[.slice (some ⟨b,o+0*sz,none⟩) (l.length+1) cap,.func (.func g) #[] #[]] w _
    rw [hadr]
    have hcall:=hC (Fin (l.length+1)) enc henc h1 (om F x l) hO g #[] b o cap (Array.ofFn λi=>i) w (λargs w=>Ci (C:=⟨P,0,[],[]⟩) hb w) (by rw [hds];exact hcmp) hH (hinv.bound _ _ _ _ hmu) (by rw [hds];exact hlen)
    rw [hds]at hcall
    refine hcall.mono ?_
    rintro e w' ⟨rfl,m,os,rfl⟩
    generalize hd':pdq (ltOf (om F x l)) (Array.ofFn λi=>i) 0 (l.length+1) (Lib.bitLen (l.length+1)) true true=d' at *
    have hrd:r=d'.toList.map (x::l).get:=by rw [<- hF];unfold vT;rw [hd']
    have hput:=CB (ev:=(id:Value->Value)) (o:=o) (d:=flatK enc sz d') (w:=Sort.ahead w m) (b:=b) (arr:=arr) (t:=elem) (fr:=(0,0)) harr
    have hpsz:(putCells (id:Value->Value) o (flatK enc sz d') arr).size=arr.size:=by simp [putCells]
    have hHp:HoldsK enc sz (putRowK enc sz (Sort.ahead w m) b o d') b o d':=holdsK_putRowK enc sz (Sort.ahead w m) b o (Array.ofFn λi=>i) d' (holdsK_ahead enc sz w m b o _ hH) (by rw [p4,hds])
    have hroom0:=hst'.room
    rw [Cs E sz hE,bg harr]at hroom0
    obtain ⟨i1,e1⟩:=hinv.write (w':=putRowK enc sz (Sort.ahead w m) b o d') hS rfl hmu (λb' hb'=>uw hb') (by simp [putRowK,putRow,mapBlock,Sort.ahead]) (by rw [bg harr];show _<=bsize (putRow id (Sort.ahead w m) b o (flatK enc sz d')) b;rw [bg hput,hpsz];exact Nat.le_refl _) hnoimm rfl rfl rfl (.vec sz (r.map E)) (λex=>by
     show Stands _ _ _ _ _ _
     refine { sz:=rfl,even:=λy hy=>by obtain ⟨z,_,rfl⟩:=List.mem_map.1 hy;exact hE z,room := ?_,cell:=λj hj => ?_,free:=λ_=>⟨⟨_,_,hput⟩,hnoimm⟩,froz:=λe=>by cases e }
     ·rw [Cs E sz hE]
      show _<=bsize (putRow id (Sort.ahead w m) b o (flatK enc sz d')) b
      rw [bg hput,hpsz,hrl];simpa using hroom0
     ·have hj':j<(l.length+1)*sz:=by rw [Cs E sz hE,hrl]at hj;exact hj
      have hk0:0<sz:=by
       rcases Nat.eq_zero_or_pos sz with h|h
       ·rw [h]at hj';omega
       ·exact h
      have htd:j / sz<d'.size:=by rw [p4];exact Nat.div_lt_of_lt_mul (by rw [Nat.mul_comm];exact hj')
      have hmod:=Nat.mod_lt j hk0
      obtain ⟨c1,_⟩:=hHp.cell htd hmod
      have ej:o+j / sz*sz+j % sz=o+j:=by have:=Nat.div_add_mod j sz;rw [Nat.mul_comm]at this;omega
      rw [ej]at c1
      obtain ⟨u,e,_,h,hrep⟩:=hencj d'[j / sz]! (j % sz) (by rw [henc];exact hmod)
      have hel:(E ((x::l).get d'[j / sz]!)).length=sz:=hE _
      have hrep':=hrep (by rw [hel];exact hmod)
      refine⟨u,?_,h,?_⟩
      ·rw [c1,getElem!_pos _ (j % sz) (by rw [henc];exact hmod),e]
      ·have hev:∀y∈(r.map E).map (λx=>x.map V.d),y.length=sz:=λy hy=>by
        obtain ⟨z,hz,rfl⟩:=List.mem_map.1 hy
        obtain ⟨z',_,rfl⟩:=List.mem_map.1 hz
        rw [List.length_map];exact hE z'
       have hri:j / sz<r.length:=by rw [hrl,<- p4];exact htd
       have hrg:r[j / sz]=(x::l).get d'[j / sz]! := by
        have:r[j / sz]? = some ((x::l).get d'[j / sz]!):=by
         rw [hrd,List.getElem?_map,Array.getElem?_toList,Array.getElem?_eq_getElem htd,getElem!_pos d' _ htd];rfl
        rw [List.getElem?_eq_getElem hri]at this
        exact Option.some.inj this
       obtain ⟨g1,g2⟩:=flat_get sz _ hev (j / sz) (j % sz) (by simpa using hri) (by simpa [hE]using hmod)
       have ei:j / sz*sz+j % sz=j:=by have:=Nat.div_add_mod j sz;rw [Nat.mul_comm]at this;omega
       have eall:(Box.vec sz (r.map E)).all[j]'hj=V.d ((E (r[j / sz]))[j % sz]'(by rw [hE];exact hmod)):=by
        have:(Box.vec sz (r.map E)).all[j]? = some (V.d ((E (r[j / sz]))[j % sz]'(by rw [hE];exact hmod))):=by
         show ((r.map E).map λx=>x.map V.d).flatten[j]? = _
         have g1':j / sz*sz+j % sz<((r.map E).map λx=>x.map V.d).flatten.length:=g1
         rw [ei]at g1'
         rw [List.getElem?_eq_getElem g1']
         have g2':=g2
         simp only [ei]at g2'
         rw [g2'];simp
        rw [List.getElem?_eq_getElem hj]at this
        exact Option.some.inj this
       rw [eall]
       refine .d ?_
       simp only [hrg]
       exact hrep'.ext ex.imm ex.cell) (λ_=>Nat.le_add_right _ _)
    obtain ⟨i2,e2⟩:=i1.more (w':=sortWorldK enc sz w b o m d' os) (λb' hb'=>by
     show ((putRowK enc sz (Sort.ahead w m) b o d').heap++os)[b']? = _
     rw [Array.getElem?_append_left hb']) (by simp [sortWorldK,grow]) rfl rfl rfl (λ_ _ h=>h) (λ_ _ h => .inl h) rfl (λ_ h=>h)
    refine⟨_,G,_,1,_,[av 0],rfl,i2,unit _ _,rfl,by simp,λi hi => ?_,λi bx hb => ?_⟩
    ·have:i=0:=by simpa using hi
     subst this;rfl
    ·cases i with
     | zero =>
      simp only [List.getElem?_cons_zero,so_]at hb
      subst hb
      exact⟨av 0,rfl,by simp [supd,Box.ren]⟩
     | succ i=>simp at hb
end Go.Eng

