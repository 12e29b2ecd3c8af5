/-
  The engine: what the machine does to data, shown once for all programs (part 5).
-/
import Derived.Test.YtnkgapmhkhcanaaGreatDoorEng4
/-
  THE ENGINE: a slice that is cut in its own box and grows again; boxes of slices that may be empty; maps whose keys are structs.
-/
namespace Go.Eng
set_option linter.unusedSectionVars false
variable [DM]
set_option linter.unusedVariables false
set_option linter.unusedSimpArgs false
section
variable {C:Cfg} {Q:QH} {sl:Nat->V} {H:Hp} {c:Code}
end
section
variable {C:Cfg} {sl:Nat->V} {H:Hp} {q:Qm} {all rest:List Oper} {K:(Nat->V)->Hp->Prop}
variable {dst:Option Tmp} {d:Nat} {t ty:TypeId} {pos:String} {after:Array Edge} {g:Option (Nat×Bool)}
theorem JK {a b:List Nm} {x:Box} (h:x.ok a.length=true):x.ren (a++b)=x.ren a:=by
 cases x with
 | cells sz cs=>simp only [Box.ok]at h;simp only [Box.ren,xu h]
 | _=>rfl
theorem M0 {a b:List Nm} {bs:List Box} (h:bs.all (λx=>x.ok a.length)=true):bs.map (λx=>x.ren (a++b))=bs.map (λx=>x.ren a) :=
 List.map_congr_left (λx hx=>JK (List.all_eq_true.1 h x hx))
theorem J4 {a b:List Nm}:∀(is:List Nat) (ns:List Nm) (bs:List Box),bs.all (λx=>x.ok a.length)=true->Eng.outs (a++b) is ns (bs.map some)=Eng.outs a is ns (bs.map some)
 | [],_,_,_=>rfl
 | _::_,[],_,_=>rfl
 | _::_,_::_,[],_=>rfl
 | i::is,n::ns,b::bs,h=>by
  simp only [List.all_cons,Bool.and_eq_true]at h
  simp only [List.map_cons,Eng.outs,Option.map_some,JK h.1,J4 is ns bs h.2]
theorem Cw {k k':Nat} (hk:k<=k') {os:List Box}:os.all (λb=>b.ok k)=true->okOut k' (os.map some)=true:=by
 induction os with
 | nil=>exact λ_=>rfl
 | cons b os ih =>
  intro h
  simp only [List.all_cons,Bool.and_eq_true]at h
  simp only [List.map_cons,okOut,Bool.and_eq_true]
  exact⟨Box.ok_mono hk h.1,ih h.2⟩
theorem Pb {α:Type} {enc:α->List D} {sz:Nat} {xs:List α} {f:Operand} {args:List Operand} {ats:Array TypeId} {fn:FuncId} {caps args0:List V} {r:V} {bs os:List Box} {o:Option Box} (p:Nat) (is:List Nat) (iv po:Nat) {l:List (Nm×Box)} {n:Nm}
  (hp:q=none\/Nat.beq all.length (p+(rest.length+1))=true)
  (hfp:∀S tk,AgR H S tk (⟨some d,.call ⟨.value f,args.toArray,ats⟩,ty,pos,after,g⟩::rest)->okQ q all p (l.map (·.1)++[n]) true)
  (hc:FnM C.P fn args0 (bs++[bV sz enc xs]) r (os.map some++[o]))
  (hf:ev sl f = .fn fn caps) (hb:aH C.P fn=true) (hl:mf H is=some l) (hv:H[iv]? = some (n,some (bV sz enc xs)))
  (hS:bs.map (λb=>b.ren (l.map (·.1)))=l.map (·.2)) (hSok:bs.all (λb=>b.ok is.length)=true)
  (hw1:(args.map (ev sl)++caps)[po]? = some (vV n sz xs)) (hp0:args0[po]? = some (vV (aJ is.length) sz xs))
  (hn:(((args.map (ev sl)++caps).set po .none).flatMap frz).all (λn=>false)=true)
  (ha:((args.map (ev sl)++caps).map co0).set po .none=(renL (l.map (·.1)) args0).set po .none) (hok:okL is.length (args0.set po .none)=true) (hr:okV (is.length+1) r=true)
  (hlen:os.length=is.length) (hi:(is++[iv]).Nodup) (hO:os.all (λb=>b.ok is.length)=true) (ho:∀b,o=some b->b.ok 0=true)
  (hw:aO all sl ⟨some d,.call ⟨.value f,args.toArray,ats⟩,ty,pos,after,g⟩=some true)
  (v:V) (hvr:ren (l.map (·.1)++[n]) r=v)
  (H':Hp) (hH:(setH H (outs (l.map (·.1)) is (l.map (·.1)) (os.map some))).set iv (n,o)=H')
  (h:aY (oL q p (l.map (·.1)++[n]) true) C all K rest (upd sl d v) H') :
  aY q C all K (⟨some d,.call ⟨.value f,args.toArray,ats⟩,ty,pos,after,g⟩::rest) sl H:=by
 have hll:=(ku hl).1
 have hbs:bs.length=l.length:=by have:=congrArg List.length hS;simpa using this
 have hln:(l.map (·.1)).length=is.length:=by rw [List.length_map,hll]
 have hSok':bs.all (λb=>b.ok (l.map (·.1)).length)=true:=by rw [hln];exact hSok
 have hO':os.all (λb=>b.ok (l.map (·.1)).length)=true:=by rw [hln];exact hO
 have hp1:=Ce (l:=l) hl hv
 have hmap:(l++[(n,bV sz enc xs)]).map (·.1)=l.map (·.1)++[n]:=by simp
 have hq:okL (is++[iv]).length args0=true:=by
  have:=zU (v:=vV (aJ is.length) sz xs) (sP (Nat.le_add_right is.length 1) _ hok) (Bi (ls_ _))
  rw [lU hp0]at this
  simpa using this
 refine zV p (is++[iv]) hp (λS tk ag=>by rw [hmap];exact hfp S tk ag) hc hf hb hp1 ?_ ?_ ?_ ?_ hq ?_ (by simp [hlen]) hi ?_ hw v (by rw [hmap];exact hvr) H' ?_ ?_
 ·rw [List.map_append,hmap,M0 hSok',hS]
  simp only [List.map_cons,List.map_nil,List.map_append,Box.ren]
 ·rw [List.all_append]
  simp only [Bool.and_eq_true]
  exact⟨List.all_eq_true.2 (λb hb'=>Box.ok_mono (by simp) (List.all_eq_true.1 hSok b hb')),rfl⟩
 ·intro m hm
  obtain ⟨v',hv1,hv2⟩:=Ak hn hm
  rw [hw1]at hv1
  simp only [so_]at hv1
  subst hv1
  rw [hmap]
  have:m=n:=by simpa [frz,M7,vV]using hv2
  rw [this];simp
 ·intro S tk ag
  refine ArgsOK.of_map ?_
  have hcw:co S (vV n sz xs)=vV n sz xs:=by
   have hS':S n=some (.vec sz (xs.map enc)):=ag.get hv
   simp only [vV,co,co1,hS']
  have hargs:(args.map (ev sl)++caps).map (co S)=((args.map (ev sl)++caps).map co0).set po (vV n sz xs):=by
   have h1:(args.map (ev sl)++caps)=((args.map (ev sl)++caps).set po .none).set po (vV n sz xs):=by
    rw [List.set_set,lU hw1]
   have h2:(((args.map (ev sl)++caps).set po .none)).map (co S)=(((args.map (ev sl)++caps).set po .none)).map co0:=xQ (by
    cases hx:((args.map (ev sl)++caps).set po .none).flatMap frz with
    | nil=>rfl
    | cons a b=>rw [hx]at hn;simp at hn)
   have h3:(args.map (ev sl)++caps).map (co S)=((((args.map (ev sl)++caps).set po .none)).map (co S)).set po (co S (vV n sz xs)):=by
    rw [<- List.map_set,<- h1]
   rw [h3,h2,hcw,List.map_set,List.set_set]
  rw [hargs,zI ha,hmap]
  have h1:args0=(args0.set po .none).set po (vV (aJ is.length) sz xs):=by rw [List.set_set,lU hp0]
  have h2:renL (l.map (·.1)++[n]) args0=(renL (l.map (·.1)) (args0.set po .none)).set po (vV n sz xs):=by
   conv=>lhs;rw [h1]
   rw [tC,xu (by simp only [List.length_map,hll];exact hok)]
   simp only [vV,ren]
   rw [oM (n:=n) (by rw [List.getElem?_append_right (by simp [hll])];simp [hll])]
  rw [h2,tC,List.set_set]
 ·have e:(os.map some++[o]).length=is.length+1:=by simp [hlen]
  rw [e];exact hr
 ·refine yu (Cw (by simp [hlen]) hO) ?_
  cases o with
  | none=>rfl
  | some b=>simp only [okOut,Bool.and_true];exact Box.ok_mono (Nat.zero_le _) (ho b rfl)
 ·rw [<- hH,hmap,Du _ _ _ _ _ _ _ (by simp [hlen]) (by simp [hll]),J5,J4 _ _ _ hO']
  simp only [setH]
  cases o with
  | none=>rfl
  | some b=>simp only [Option.map_some,rC (ho b rfl)]
 ·rw [hmap];exact h
end
end Go.Eng

/-
  THE ENGINE: results of which the first is a new slice and the others are data.
-/
namespace Go.Eng
set_option linter.unusedSectionVars false
variable [DM]
set_option linter.unusedVariables false
def kG (ds:List D) (v:V):V:=FM (v::ds.map V.d)
theorem Gq (ρ:List Nm):∀ds:List D,renL ρ (ds.map V.d)=ds.map V.d
 | []=>rfl
 | d::ds=>by simp only [List.map_cons,renL,ren,Gq ρ ds]
theorem J7 (k:Nat):∀ds:List D,okL k (ds.map V.d)=true
 | []=>rfl
 | d::ds=>by simp only [List.map_cons,okL,okV,J7 k ds,Bool.and_self]
theorem oq (ρ:List Nm) (ds:List D) (v:V):ren ρ (kG ds v)=kG ds (ren ρ v):=by
 cases ds with
 | nil=>rfl
 | cons d ds =>
  show V.tup (renL ρ (v::(d::ds).map V.d))=_
  simp only [renL,Gq];rfl
theorem x9 {k:Nat} (ds:List D) {v:V} (h:okV k v=true):okV k (kG ds v)=true:=by
 cases ds with
 | nil=>exact h
 | cons d ds =>
  show okL k (v::(d::ds).map V.d)=true
  simp only [okL,J7,h,Bool.and_self]
section
variable {C:Cfg} {sl:Nat->V} {H:Hp} {q:Qm} {all rest:List Oper} {K:(Nat->V)->Hp->Prop}
variable {dst:Option Tmp} {d:Nat} {t ty:TypeId} {pos:String} {after:Array Edge} {g:Option (Nat×Bool)}
theorem ve {α:Type} {enc:α->List D} {sz:Nat} {xs:List α} {f:Operand} {args:List Operand} {ats:Array TypeId} {fn:FuncId} {caps args0:List V} {Sin outs:List Box} (ds:List D) (is:List Nat) {l:List (Nm×Box)}
  (hc:FnM C.P fn args0 Sin (kG ds (gV (aJ is.length) sz xs)) (outs.map some++gO sz enc xs))
  (hf:ev sl f = .fn fn caps) (hb:aH C.P fn=true) (hl:mf H is=some l) (hS:Sin.map (λb=>b.ren (l.map (·.1)))=l.map (·.2)) (hSok:Sin.all (λb=>b.ok is.length)=true)
  (hn:((args.map (ev sl)++caps).flatMap frz).all (λn=>false)=true) (ha:(args.map (ev sl)++caps).map co0=renL (l.map (·.1)) args0) (hok:okL is.length args0=true)
  (hlen:outs.length=is.length) (hi:is.Nodup) (hO:outs.all (λb=>b.ok 0)=true)
  (hw:aO all sl ⟨some d,.call ⟨.value f,args.toArray,ats⟩,ty,pos,after,g⟩=some true)
  (H':Hp) (hH:∀ν,setH H (Eng.outs ν is (l.map (·.1)) (outs.map some))=H')
  (h:∀n:Nm,aY none C all K rest (upd sl d (kG ds (gV n sz xs))) (H'++[(n,gB sz enc xs)])) :
  aY none C all K (⟨some d,.call ⟨.value f,args.toArray,ats⟩,ty,pos,after,g⟩::rest) sl H:=by
 have hll:=(ku hl).1
 have okO0:∀{k:Nat} {os:List Box},os.all (λb=>b.ok 0)=true->okOut k (os.map some)=true:=by
  intro k os
  induction os with
  | nil=>exact λ_=>rfl
  | cons b os ih =>
   intro h
   simp only [List.all_cons,Bool.and_eq_true]at h
   simp only [List.map_cons,okOut,Bool.and_eq_true]
   exact⟨Box.ok_mono (Nat.zero_le _) h.1,ih h.2⟩
 cases xs with
 | nil =>
  have hc':FnM C.P fn args0 Sin (kG ds .nil) (outs.map some):=by simpa [gO,gV]using hc
  refine HV is 0 hc' hf hb hl hS hSok hn ha hok (x9 ds rfl) (by simp [hlen]) hi (okO0 hO) (by rw [List.drop_of_length_le (by simp [hlen])];rfl) hw (λν => ?_)
  simp only [List.range_zero,List.map_nil,List.append_nil,news,hH,oq]
  exact Dl (λn=>h n)
 | cons x xs =>
  refine HV (r:=kG ds (gV (aJ is.length) sz (x::xs))) (Sout:=outs.map some++[some (.vec sz ((x::xs).map enc))]) is 1 hc hf hb hl hS hSok hn ha hok ?_ (by simp [hlen]) hi ?_ ?_ hw (λν => ?_)
  ·exact x9 ds (PV (by simp [hlen]) _)
  ·have:∀{k:Nat} {a b:List (Option Box)},okOut k a=true->okOut k b=true->okOut k (a++b)=true:=by
    intro k a b
    induction a with
    | nil=>exact λ_ h=>h
    | cons y a ih =>
     intro h1 h2
     cases y with
     | none=>exact ih h1 h2
     | some y=>simp only [List.cons_append,okOut,Bool.and_eq_true]at h1 ⊢;exact⟨h1.1,ih h1.2 h2⟩
   exact this (okO0 hO) rfl
  ·rw [List.drop_append_of_le_length (by simp [hlen]),List.drop_of_length_le (by simp [hlen])];rfl
  ·have e1:ren (l.map (·.1)++(List.range 1).map ν) (gV (aJ is.length) sz (x::xs))=gV (ν 0) sz (x::xs):=by
    rw [Pn,oM]
    simp [hll]
   have e2:∀ν,Eng.outs ν is (l.map (·.1)) (outs.map some++[some (.vec sz ((x::xs).map enc))])=Eng.outs ν is (l.map (·.1)) (outs.map some):=by
    intro ν
    have:∀(is:List Nat) (ns:List Nm) (a b:List (Option Box)),is.length=a.length->Eng.outs ν is ns (a++b)=Eng.outs ν is ns a:=by
     intro is
     induction is with
     | nil=>intro ns a b h;cases a with
      | nil=>cases b <;> rfl
      | cons _ _=>simp at h
     | cons i is ih=>intro ns a b h;cases a with
      | nil=>simp at h
      | cons y a=>cases ns with
       | nil=>rfl
       | cons n ns=>simp only [List.cons_append,Eng.outs];rw [ih ns a b (by simpa using h)]
    exact this _ _ _ _ (by simp [hlen])
   rw [oq,e1,e2,hH]
   rw [List.drop_append_of_le_length (by simp [hlen]),List.drop_of_length_le (by simp [hlen])]
   exact h (ν 0)
theorem wO {α:Type} {enc:α->List D} {sz t:Nat} {xs:List α} {n:Nm} {outs:List Box} {e:Exit} {rs:List ResultVar} (ds:List D) (he:e = .normal\/e = .ret) (j:Nat) (h1:sl t=gV n sz xs) (hr:Ef C sl H rs (ds.map V.d)) (h2:H[j]? = some (n,gB sz enc xs)) (hj:Nat.ble outs.length j=true) (hO:outs.all (λb=>b.ok 0)=true)
  (h3:H.take outs.length=oV 0 outs):uw C (.tmp t::rs) outs.length (kG ds (gV (aJ outs.length) sz xs)) (outs.map some++gO sz enc xs) e sl H:=by
 have hj:=Nat.le_of_ble_eq_true hj
 have hget:∀i (h:i<outs.length),H[i]? = some (aJ i,some outs[i]):=λi hi=>by
  have:=pI outs 0 i hi
  rw [Nat.zero_add,<- h3,List.getElem?_take,if_pos hi]at this
  exact this
 have ho:∀{ν:List Nm} {l:List Box} {j:Nat} {js:List Nat} {ns:List Nm} {bs:List (Option Box)},(∀b∈l,b.ok 0=true)->(∀i (h:i<l.length),H[j+i]? = some (aJ (j+i),some l[i]))->xk H ν js ns bs->xk H ν (List.range' j l.length++js) ((List.range' j l.length).map aJ++ns) (l.map some++bs):=by
  intro ν l
  induction l with
  | nil=>exact λ_ _ h=>h
  | cons b l ih =>
   intro j js ns bs hb hg hr
   simp only [List.length_cons,List.range'_succ,List.map_cons,List.cons_append]
   refine⟨?_,ih (λx hx=>hb x (by simp [hx])) (λi hi => ?_) hr⟩
   ·have:=hg 0 (by simp)
    simp only [Option.map_some,rC (hb b (by simp))]
    exact this
   ·have:=hg (i+1) (by simpa using hi)
    rw [show j+1+i=j+(i+1) by omega]
    exact this
 have hO':∀b∈outs,b.ok 0=true:=λb hb=>List.all_eq_true.1 hO b hb
 have hco:∀vs:List V,CoL H vs vs:=λvs=>by
  induction vs with
  | nil=>exact .nil
  | cons v vs ih=>exact .cons (.inl rfl) ih
 cases xs with
 | nil =>
  refine⟨he,.nil::ds.map V.d,.nil::ds.map V.d,List.range' 0 outs.length++[],(List.range' 0 outs.length).map aJ++[],⟨h1,hr⟩,hco _,?_,ho hO' (λi hi=>by rw [Nat.zero_add];exact hget i hi) trivial,by simp [List.nodup_range'],λi hi=>by simp [hi]⟩
  show kG ds .nil=_
  rw [oq];rfl
 | cons x xs =>
  refine⟨he,.vs n sz 0 (x::xs).length::ds.map V.d,.vs n sz 0 (x::xs).length::ds.map V.d,List.range' 0 outs.length++[j],(List.range' 0 outs.length).map aJ++[n],⟨h1,hr⟩,hco _,?_,
   ho hO' (λi hi=>by rw [Nat.zero_add];exact hget i hi) ⟨h2,trivial⟩,?_,λi hi=>by rw [List.getElem?_append_left (by simpa using hi)];simp [hi]⟩
  ·show kG ds (.vs n sz 0 (x::xs).length)=ren _ (kG ds (.vs (aJ outs.length) sz 0 (x::xs).length))
   rw [oq]
   simp only [ren]
   rw [oM]
   rw [List.getElem?_append_right (by simp)];simp
  ·rw [List.nodup_append]
   refine⟨List.nodup_range',by simp,λa ha b hb => ?_⟩
   simp only [List.mem_singleton]at hb
   simp only [List.mem_range'_1]at ha
   omega
end
end Go.Eng

/-
  THE ENGINE: functions that hand a slice through: it is handed in with its box, and handed back (or nil), with data behind it.
-/
namespace Go.Eng
set_option linter.unusedSectionVars false
variable [DM]
set_option linter.unusedVariables false
def GJ {α β:Type} (xs:List α) (ys:List β):Option Unit:=bif xs.isEmpty && !ys.isEmpty then none else some ()
theorem Cg {α β:Type} {xs:List α} {ys:List β} {u:Unit} (h:GJ xs ys=some u):xs=[]->ys=[]:=by
 rintro rfl
 cases ys with
 | nil=>rfl
 | cons y ys=>cases h
theorem KL {α β:Type} {xs:List α} {ys:List β} (h:xs=[]->ys=[]):GJ xs ys=some ():=by
 cases xs with
 | nil=>rw [h rfl];rfl
 | cons x xs=>rfl
section
variable {C:Cfg} {sl:Nat->V} {H:Hp} {q:Qm} {all rest:List Oper} {K:(Nat->V)->Hp->Prop}
variable {dst:Option Tmp} {d:Nat} {t ty:TypeId} {pos:String} {after:Array Edge} {g:Option (Nat×Bool)}
theorem MM {α:Type} {enc:α->List D} {sz t:Nat} {xs ys:List α} {bs os:List Box} {e:Exit} {rs:List ResultVar} (ds:List D) (he:e = .normal\/e = .ret) (h1:sl t=gV (aJ os.length) sz ys) (hr:Ef C sl H rs (ds.map V.d)) (hxy:xs=[]->ys=[])
  (hbl:bs.length=os.length) (hj:H[os.length]? = some (aJ os.length,gB sz enc ys)) (hO:os.all (λb=>b.ok 0)=true) (hH:H.take os.length=oV 0 os) :
  uw C (.tmp t::rs) (bs++gI sz enc xs).length (kG ds (gV (aJ os.length) sz ys)) (os.map some++gT xs (gB sz enc ys)) e sl H:=by
 have hget:∀i (h:i<os.length),H[i]? = some (aJ i,some os[i]):=λi hi=>by
  have:=pI os 0 i hi
  rw [Nat.zero_add,<- hH,List.getElem?_take,if_pos hi]at this
  exact this
 have ho:∀{ν:List Nm} {l:List Box} {j:Nat} {js:List Nat} {ns:List Nm} {bs:List (Option Box)},(∀b∈l,b.ok 0=true)->(∀i (h:i<l.length),H[j+i]? = some (aJ (j+i),some l[i]))->xk H ν js ns bs->xk H ν (List.range' j l.length++js) ((List.range' j l.length).map aJ++ns) (l.map some++bs):=by
  intro ν l
  induction l with
  | nil=>exact λ_ _ h=>h
  | cons b l ih =>
   intro j js ns bs hb hg hr
   simp only [List.length_cons,List.range'_succ,List.map_cons,List.cons_append]
   refine⟨?_,ih (λx hx=>hb x (by simp [hx])) (λi hi => ?_) hr⟩
   ·have:=hg 0 (by simp)
    simp only [Option.map_some,rC (hb b (by simp))]
    exact this
   ·have:=hg (i+1) (by simpa using hi)
    rw [show j+1+i=j+(i+1) by omega]
    exact this
 have hO':∀b∈os,b.ok 0=true:=λb hb=>List.all_eq_true.1 hO b hb
 have hco:∀vs:List V,CoL H vs vs:=λvs=>by
  induction vs with
  | nil=>exact .nil
  | cons v vs ih=>exact .cons (.inl rfl) ih
 cases xs with
 | nil =>
  have hy:=hxy rfl
  subst hy
  refine⟨he,.nil::ds.map V.d,.nil::ds.map V.d,List.range' 0 os.length++[],(List.range' 0 os.length).map aJ++[],⟨h1,hr⟩,hco _,?_,ho hO' (λi hi=>by rw [Nat.zero_add];exact hget i hi) trivial,by simp [List.nodup_range'],λi hi => ?_⟩
  ·show kG ds .nil=_
   rw [oq];rfl
  ·have:i<os.length:=by simpa [gI,hbl]using hi
   simp [this]
 | cons x xs =>
  refine⟨he,gV (aJ os.length) sz ys::ds.map V.d,gV (aJ os.length) sz ys::ds.map V.d,List.range' 0 os.length++[os.length],(List.range' 0 os.length).map aJ++[aJ os.length],⟨h1,hr⟩,hco _,?_,
   ho hO' (λi hi=>by rw [Nat.zero_add];exact hget i hi) ⟨?_,trivial⟩,?_,λi hi => ?_⟩
  ·show kG ds (gV (aJ os.length) sz ys)=_
   rw [oq]
   cases ys with
   | nil=>rfl
   | cons y ys =>
    simp only [gV,ren]
    rw [oM (n:=aJ os.length) (by rw [List.getElem?_append_right (by simp)];simp)]
  ·rw [hj]
   cases ys with
   | nil=>rfl
   | cons y ys=>rfl
  ·rw [List.nodup_append]
   refine⟨List.nodup_range',by simp,λa ha b hb => ?_⟩
   simp only [List.mem_singleton]at hb
   simp only [List.mem_range'_1]at ha
   omega
  ·have hi':i<os.length+1:=by simpa [gI,hbl]using hi
   by_cases hlt:i<os.length
   ·rw [List.getElem?_append_left (by simpa using hlt)];simp [hlt]
   ·have:i=os.length:=by omega
    subst this
    rw [List.getElem?_append_right (by simp)];simp
theorem zD {α:Type} {enc:α->List D} {sz:Nat} {xs ys:List α} {f:Operand} {args:List Operand} {ats:Array TypeId} {fn:FuncId} {caps args0:List V} {bs os:List Box} (ds:List D) (p:Nat) (is:List Nat) (iv po:Nat) {l:List (Nm×Box)} {n:Nm}
  (hp:q=none\/Nat.beq all.length (p+(rest.length+1))=true)
  (hfp:∀S tk,AgR H S tk (⟨some d,.call ⟨.value f,args.toArray,ats⟩,ty,pos,after,g⟩::rest)->okQ q all p (l.map (·.1)++[n]) true)
  (hc:FnM C.P fn args0 (bs++gI sz enc xs) (kG ds (gV (aJ is.length) sz ys)) (os.map some++gT xs (gB sz enc ys))) (hxy:xs=[]->ys=[])
  (hf:ev sl f = .fn fn caps) (hb:aH C.P fn=true) (hl:mf H is=some l) (hv:H[iv]? = some (n,gB sz enc xs))
  (hS:bs.map (λb=>b.ren (l.map (·.1)))=l.map (·.2)) (hSok:bs.all (λb=>b.ok is.length)=true)
  (hw1:(args.map (ev sl)++caps)[po]? = some (gV n sz xs)) (hp0:args0[po]? = some (gV (aJ is.length) sz xs))
  (hn:(((args.map (ev sl)++caps).set po .none).flatMap frz).all (λn=>false)=true)
  (ha:((args.map (ev sl)++caps).map co0).set po .none=(renL (l.map (·.1)) args0).set po .none) (hok:okL is.length (args0.set po .none)=true)
  (hlen:os.length=is.length) (hi:(is++[iv]).Nodup) (hO:os.all (λb=>b.ok is.length)=true)
  (hw:aO all sl ⟨some d,.call ⟨.value f,args.toArray,ats⟩,ty,pos,after,g⟩=some true)
  (H':Hp) (hH:(setH H (outs (l.map (·.1)) is (l.map (·.1)) (os.map some))).set iv (n,gB sz enc ys)=H')
  (h:aY (oL q p (l.map (·.1)++[n]) true) C all K rest (upd sl d (kG ds (gV n sz ys))) H') :
  aY q C all K (⟨some d,.call ⟨.value f,args.toArray,ats⟩,ty,pos,after,g⟩::rest) sl H:=by
 have hll:=(ku hl).1
 by_cases hbx:xs=[]
 ·subst hbx
  have hys:=hxy rfl
  subst hys
  have hwn:(args.map (ev sl)++caps)[po]? = some .nil:=hw1
  have hp0':args0[po]? = some .nil:=hp0
  have hivs:iv∉is:=by
   rw [List.nodup_append]at hi
   exact λhm=>hi.2.2 iv hm iv (by simp) rfl
  have hset:∀{l':List (Nat×Nm×Option Box)} {H0:Hp},(∀p∈l',p.1≠iv)->(setH H0 l')[iv]? = H0[iv]? := by
   intro l'
   induction l' with
   | nil=>intro H0 _;rfl
   | cons x l' ih =>
    intro H0 hx
    obtain ⟨i,m,b⟩:=x
    simp only [setH]
    rw [ih (λp hp=>hx p (by simp [hp]))]
    have:i≠iv:=hx (i,m,b) (by simp)
    rw [List.getElem?_set_ne this]
  have houts:∀(ν:List Nm) (is:List Nat) (ns:List Nm) (os:List (Option Box)),∀p∈outs ν is ns os,p.1∈is:=by
   intro ν is
   induction is with
   | nil=>intro ns os p hp;simp [outs]at hp
   | cons i is ih =>
    intro ns os p hp
    cases ns with
    | nil=>simp [outs]at hp
    | cons m ns=>cases os with
     | nil=>simp [outs]at hp
     | cons o os =>
      simp only [outs,List.mem_cons]at hp
      rcases hp with rfl|hp
      ·simp
      ·exact List.mem_cons_of_mem _ (ih _ _ _ hp)
  have hargs:args0=(args0.set po .none).set po .nil:=by rw [List.set_set,lU hp0']
  have hq:okL is.length args0=true:=by
   have:=zU (v := .nil) hok rfl
   rwa [lU hp0']at this
  have hc0:FnM C.P fn args0 bs (kG ds .nil) (os.map some):=by simpa [gI,gT,gV]using hc
  refine zV p is hp (λS tk ag=>okQ_sub (λm hm=>by simp [hm]) (hfp S tk ag)) hc0 hf hb hl hS hSok ?_ ?_ hq (x9 ds rfl) (by simp [hlen]) (List.nodup_append.1 hi).1 (Cw (by simp [hlen]) hO) hw (kG ds .nil) (by rw [oq];rfl) H' ?_ ?_
  ·intro m hm
   obtain ⟨v',hv1,hv2⟩:=Ak hn hm
   rw [hwn]at hv1
   simp only [so_]at hv1
   subst hv1
   cases hv2
  ·intro S tk ag
   have h2:((args.map (ev sl)++caps).set po .none).map (co S)=((args.map (ev sl)++caps).set po .none).map co0:=xQ (by
    cases hx:((args.map (ev sl)++caps).set po .none).flatMap frz with
    | nil=>rfl
    | cons a b=>rw [hx]at hn;simp at hn)
   have hbase:ArgsOK S ((args.map (ev sl)++caps).set po .none) ((renL (l.map (·.1)) args0).set po .none):=by
    refine ArgsOK.of_map ?_
    rw [h2,List.map_set]
    exact ha
   have:=ArgsOK.set (x' := .nil) (y' := .nil) (.inl rfl) hbase
   have e:(renL (l.map (·.1)) args0).set po .nil=renL (l.map (·.1)) args0:=by
    conv=>rhs;rw [hargs,tC]
    conv=>lhs;rw [hargs,tC,List.set_set]
    rfl
   rw [lU hwn,e]at this
   exact this
  ·rw [<- hH]
   symm
   apply lU
   rw [hset (λp hp e=>hivs (e ▸ houts _ _ _ _ p hp)),hv]
  ·cases q with
   | none=>exact h
   | some Γ =>
    intro S tk ok ag k L hk hL hO'
    refine h S tk ok ag k L hk (λp0 hp0' => ?_) (λe he m hm => ?_)
    ·rcases hL p0 hp0' with h1|⟨e,h1,h2,h3,h4,h5⟩
     ·exact .inl h1
     ·refine .inr ?_
      rcases List.mem_append.1 h1 with h1|h1
      ·exact⟨e,List.mem_append.2 (.inl h1),h2,h3,h4,h5⟩
      ·rw [List.mem_singleton]at h1;subst h1
       exact⟨(p,l.map (·.1)++[n],true),by simp,h2,λx hx=>by simp only [List.mem_append];exact .inl (h3 x hx),λx hx=>by simp only [List.mem_append];exact .inl (h4 x hx),λe=>by cases e⟩
    ·rcases List.mem_append.1 he with he|he
     ·exact hO' e (List.mem_append.2 (.inl he)) m hm
     ·rw [List.mem_singleton]at he;subst he
      simp only at hm
      rcases List.mem_append.1 hm with hm|hm
      ·exact hO' (p,l.map (·.1),true) (by simp) m hm
      ·rw [List.mem_singleton]at hm;subst hm
       rw [<- hH]at ag
       have:((setH H (outs (l.map (·.1)) is (l.map (·.1)) (os.map some))).set iv (m,none))[iv]? = some (m,none):=by
        have h1:=(List.getElem?_eq_some_iff.1 hv).1
        rw [List.getElem?_set_self (by rw [LU];exact h1)]
       exact (ag.at_ _ (List.mem_of_getElem? this)).1
 ·rw [Mg hbx]at hv
  rw [gV_cons hbx]at hw1 hp0
  have hc':FnM C.P fn args0 (bs++[bV sz enc xs]) (kG ds (gV (aJ is.length) sz ys)) (os.map some++[gB sz enc ys]):=by
   cases xs with
   | nil=>exact absurd rfl hbx
   | cons x xs=>exact hc
  refine Pb (v:=kG ds (gV n sz ys)) p is iv po hp hfp hc' hf hb hl hv hS hSok hw1 hp0 hn ha hok ?_ hlen hi hO pz hw ?_ H' hH h
  ·refine x9 ds ?_
   cases ys with
   | nil=>rfl
   | cons y ys=>exact Bi (ls_ _)
  ·rw [oq]
   cases ys with
   | nil=>rfl
   | cons y ys =>
    simp only [gV,ren]
    rw [oM (n:=n) (by rw [List.getElem?_append_right (by simp [hll])];simp [hll])]
end
end Go.Eng

