/-
  The engine: what the machine does to data, shown once for all programs (part 4).
-/
import Derived.Test.YtljhfffghjclfaaGreatDoorEng3
import Derived.Sort.Row
import Derived.Sort.Grow
/-
  THE ENGINE: parts of a slice over a box; clear.
-/
namespace Go.Eng
set_option linter.unusedSectionVars false
variable [DM]
set_option linter.unusedVariables false
set_option linter.unusedSimpArgs false
section
variable {C:Cfg} {Q:QH} {sl:Nat->V} {H:Hp} {c:Code}
end
section
variable {C:Cfg} {sl:Nat->V} {H:Hp} {q:Qm} {all rest:List Oper} {K:(Nat->V)->Hp->Prop}
 {dst:Option Tmp} {t ty e:TypeId} {pos:String} {after:Array Edge} {g:Option (Nat×Bool)}
section part
variable {α:Type} {enc:α->List D} {xs:List α} {sz:Nat} {n:Nm} {x l hi:Operand} {k k':IntKind} {a b:Int} {u:Unit}
end part
end
end Go.Eng

/-
  THE ENGINE: a slice that a function writes into: its box is handed in and handed back.
-/
namespace Go.Eng
set_option linter.unusedSectionVars false
variable [DM]
set_option linter.unusedVariables false
set_option linter.unusedSimpArgs false
def dV {α:Type} (n:Nm) (sz:Nat):List α->V
  | [] => .d (.sl [])
  | x::xs => .vs n sz 0 (x::xs).length
def gI {α:Type} (sz:Nat) (enc:α->List D):List α->List Box
  | []=>[]
  | x::xs=>[.vec sz ((x::xs).map enc)]
def gT {α:Type} (xs:List α) (o:Option Box):List (Option Box):=match xs with
  | []=>[]
  | _::_=>[o]
def qR {α β:Type} (xs:List α) (ys:List β):Option Unit:=if xs.length=ys.length then some ()else none
def inN (i:Int) (len:Nat):Option Unit:=if 0<=i/\i.toNat<len then some ()else none
theorem x8 {α β:Type} {xs:List α} {ys:List β} {u:Unit} (h:qR xs ys=some u):xs.length=ys.length:=by
  unfold qR at h;split at h
  · assumption
  · cases h
theorem lL {α:Type} {n:Nm} {sz:Nat} {xs ys:List α} (h:xs.length=ys.length):dV n sz xs=dV n sz ys:=by
  cases xs with
  | nil=>cases ys with
    | nil=>rfl
    | cons y ys=>simp at h
  | cons x xs=>cases ys with
    | nil=>simp at h
    | cons y ys=>simp only [dV,h]
theorem JL {α:Type} {sz:Nat} {enc:α->List D} {xs ys:List α} (h:ys.length=xs.length):xs=[]->gB sz enc ys=none:=λe=>by
  subst e
  cases ys with
  | nil=>rfl
  | cons y ys=>simp at h
section
variable {C:Cfg} {sl:Nat->V} {H:Hp} {Q:QH} {c:Code}
theorem DT (i:Nat) {n:Nm} {b b':Option Box} (h:H[i]? = some (n,b)) (e:b=b') (hw:wH C c Q sl (H.set i (n,b'))):wH C c Q sl H:=by
  subst e
  have hi:=(List.getElem?_eq_some_iff.1 h)
  rwa [<- hi.2,List.set_getElem_self]at hw
end
section
variable {C:Cfg} {sl:Nat->V} {H:Hp} {q:Qm} {all rest:List Oper} {K:(Nat->V)->Hp->Prop}
variable {dst:Option Tmp} {d:Nat} {t ty:TypeId} {pos:String} {after:Array Edge} {g:Option (Nat×Bool)}
theorem mJ (i:Nat) {n:Nm} {b b':Option Box} (h:H[i]? = some (n,b)) (e:b=b') (hw:aV q C all K rest sl (H.set i (n,b'))):aV q C all K rest sl H:=by
  subst e
  have hi:=(List.getElem?_eq_some_iff.1 h)
  rwa [<- hi.2,List.set_getElem_self]at hw
theorem yB {α:Type} {xs:List α} {x i:Operand} {k:IntKind} {n:Int} {nm:Nm} {size:Nat} (hT:(elemT C.P t).bind (szT C.P)=some size) (hx:ev sl x=dV nm size xs) (hi:ev sl i = .d (.int k n)) (h0:0<=n) (h1:n.toNat<xs.length)
    (hw:aJ all sl ⟨dst,.indexAddr t x i,ty,pos,after,g⟩=some true) (h:aV q C all K rest (dI sl dst (.ref nm (0+n.toNat) 0)) H):aV q C all K (⟨dst,.indexAddr t x i,ty,pos,after,g⟩::rest) sl H:=by
  cases xs with
  | nil=>simp at h1
  | cons y ys=>exact h_iav hT hx hi h0 h1 hw h
theorem h_lend {α:Type} {n:Nm} {sz:Nat} {xs:List α} {x:Operand} {e:TypeId} (hu:C.P.underlying t=some (.slice e)) (hx:ev sl x=dV n sz xs) (hw:aJ all sl ⟨dst,.call ⟨.builtin .len,#[x],#[t]⟩,ty,pos,after,g⟩=some true)
    (h:aV q C all K rest (dI sl dst (vI xs.length)) H):aV q C all K (⟨dst,.call ⟨.builtin .len,#[x],#[t]⟩,ty,pos,after,g⟩::rest) sl H:=by
  cases xs with
  | nil=>exact dz (enc:=λ_:α=>[]) (xs:=[]) hu hx hw h
  | cons y ys=>exact h_lenw hu hx hw h
theorem vv {f:Operand} {args:List Operand} {ats:Array TypeId} {fn:FuncId} {caps args0:List V} {r:V} {Sin:List Box} {Sout:List (Option Box)} (p:Nat) (is:List Nat) {l:List (Nm×Box)} (hp:q=none\/Nat.beq all.length (p+(rest.length+1))=true)
    (hfp:∀S tk,AgR H S tk (⟨some d,.call ⟨.value f,args.toArray,ats⟩,ty,pos,after,g⟩::rest)->okQ q all p (l.map (·.1)) true) (hc:FnM C.P fn args0 Sin r Sout)
    (hf:ev sl f = .fn fn caps) (hb:aF C.P fn=true) (hl:gp H is=some l) (hS:Sin.map (λb=>b.ren (l.map (·.1)))=l.map (·.2)) (hSok:Sin.all (λb=>b.ok is.length)=true)
    (hn:∀n∈(args.map (ev sl)++caps).flatMap frz,n∈l.map (·.1)) (ha:∀S tk,AgR H S tk (⟨some d,.call ⟨.value f,args.toArray,ats⟩,ty,pos,after,g⟩::rest)->ArgsOK S (args.map (ev sl)++caps) (renL (l.map (·.1)) args0)) (hok:okL is.length args0=true) (hr:okV Sout.length r=true)
    (hlen:Sout.length=is.length) (hi:is.Nodup) (hO:okOut Sout.length Sout=true)
    (hw:aJ all sl ⟨some d,.call ⟨.value f,args.toArray,ats⟩,ty,pos,after,g⟩=some true)
    (v:V) (hv:ren (l.map (·.1)) r=v) (H':Hp) (hH:setH H (outs (l.map (·.1)) is (l.map (·.1)) Sout)=H')
    (h:aV (lK q p (l.map (·.1)) true) C all K rest (upd sl d v) H') :
    aV q C all K (⟨some d,.call ⟨.value f,args.toArray,ats⟩,ty,pos,after,g⟩::rest) sl H:=by
  subst hv hH
  obtain ⟨hll,hlg⟩:=kW hl
  have hsl:Sin.length=l.length:=by have:=congrArg List.length hS;simpa using this
  refine nG p (l.map (·.1)) true hp hfp (yf hl) hw (λS tk K' ok ag hk=>mO hf ?_)
  have hnd:=rO ag hi hl
  refine .inl ⟨hb,⟨[],l.map (·.1),args0,Sin,r,Sout,false⟩,?_,(λe=>by cases e),?_⟩
  · exact { does := hc
            args:=ha S tk ag
            okA:=by simp only [List.length_map,hll];exact hok
            nodup:=hnd
            ins:=by
              refine qI (by simp [hsl]) (λj h1 h2=>⟨?_,?_⟩)
              · simp only [List.length_map,hll]
                exact List.all_eq_true.1 hSok _ (List.getElem_mem h2)
              · simp only [List.length_map]at h1
                have e:=hlg j (by omega) h1
                have e2:l[j].2=Sin[j].ren (l.map (·.1)):=by
                  have:=congrArg (λx=>x[j]?) hS
                  simp only [List.getElem?_map,List.getElem?_eq_getElem h2,List.getElem?_eq_getElem h1,Option.map_some,so_]at this
                  exact this.symm
                simp only [List.getElem_map]
                show S l[j].1=_
                rw [ag.get e,e2]
            len:=by show Sin.length<=Sout.length;omega
            okR:=hr,okO:=hO,mutN:=by show mutOut (List.drop Sin.length Sout)=true;rw [List.drop_of_length_le (by omega)];rfl
            roOK:=(λe=>by cases e),have_:=(λn hn=>nomatch hn),cov:=(λn h' => .inr (hn n h')),dis:=(λn _ hn=>nomatch hn) }
  · have hdm:Sout.length-Sin.length=0:=by omega
    have e1:CallData.eff ⟨[],l.map (·.1),args0,Sin,r,Sout,false⟩ S d tk=⟨((l.map (·.1)).zip Sin).map (λp=>(p.1,p.2.ren (l.map (·.1)))),bJ (l.map (·.1)) (l.map (·.1)) Sout,ren (l.map (·.1)) r⟩:=by
      simp only [CallData.eff,cond_false,CallData.names,hdm,jq,List.range_zero,List.map_nil,List.append_nil,dW,dX,List.nil_append]
    show K' (CallData.eff _ S d tk)
    rw [e1]
    refine hk _ _ ⟨λx hx => ?_,λx hx=>rU hx⟩ (λh=>by cases h) ?_ h
    · obtain ⟨y,hy,rfl⟩:=List.mem_map.1 hx
      exact (List.of_mem_zip hy).1
    · have e3:(l.map (·.1)).length=is.length:=by simp [hll]
      have ag1:=xD (ν:=l.map (·.1)) ag hi hnd (bs:=Sout) (λj h1 h2=>by
        simp only [List.length_map]at h2
        exact⟨_,by simp only [List.getElem_map];exact hlg j h1 h2⟩)
      rw [List.take_of_length_le (by omega)]at ag1
      exact ag1.tail
theorem Dc {l:List (Nm×Box)} {i:Nat} {n:Nm} {b:Box}:∀{is:List Nat} {l:List (Nm×Box)},gp H is=some l->H[i]? = some (n,some b)->gp H (is++[i])=some (l++[(n,b)])
  | [],l,h,hi=>by
    simp only [gp,so_]at h;subst h
    simp only [List.nil_append,gp,hi]
  | j::is,l,h,hi=>by
    simp only [gp]at h
    split at h
    · rename_i n' b' l' h1 h2
      simp only [so_]at h;subst h
      simp only [List.cons_append,gp,h1,Dc (l:=l) h2 hi]
    · cases h
theorem BD (ρ:List Nm):∀(vs:List V) (i:Nat) (v:V),renL ρ (vs.set i v)=(renL ρ vs).set i (ren ρ v)
  | [],_,_=>rfl
  | _::_,0,_=>rfl
  | x::vs,i+1,v=>by simp only [List.set_cons_succ,renL,BD ρ vs i v]
theorem D5 {k:Nat}:∀{vs:List V} {i:Nat} {v:V},okL k (vs.set i .none)=true->okV k v=true->okL k (vs.set i v)=true
  | [],_,_,_,_=>rfl
  | x::vs,0,v,h,hv=>by
    simp only [List.set_cons_zero,okL,Bool.and_eq_true]at h ⊢;exact⟨hv,h.2⟩
  | x::vs,i+1,v,h,hv=>by
    simp only [List.set_cons_succ,okL,Bool.and_eq_true]at h ⊢;exact⟨h.1,D5 h.2 hv⟩
theorem mH {α:Type}:∀{l:List α} {i:Nat} {a:α},l[i]? = some a->l.set i a=l
  | x::l,0,a,h=>by simp at h;subst h;rfl
  | x::l,i+1,a,h=>by simp only [List.set_cons_succ];rw [mH (by simpa using h)]
  | [],_,_,h=>by simp at h
theorem Bt {α:Type} {a b:List α} {i:Nat} {x y:α} (h:a.set i x=b.set i x):a.set i y=b.set i y:=by
  have:=congrArg (λl=>l.set i y) h
  simpa using this
theorem GU (ν:List Nm):∀(is:List Nat) (ns:List Nm) (bs:List (Option Box)) (i:Nat) (n:Nm) (o:Option Box),is.length=bs.length->is.length=ns.length->Eng.outs ν (is++[i]) (ns++[n]) (bs++[o])=Eng.outs ν is ns bs++[(i,n,o.map (·.ren ν))]
  | [],[],[],i,n,o,_,_=>rfl
  | j::is,m::ns,b::bs,i,n,o,h1,h2=>by simp only [List.cons_append,Eng.outs];rw [GU ν is ns bs i n o (by simpa using h1) (by simpa using h2)]
  | [],_::_,_,_,_,_,_,h=>by simp at h
  | [],[],_::_,_,_,_,h,_=>by simp at h
  | _::_,[],_,_,_,_,_,h=>by simp at h
  | _::_,_::_,[],_,_,_,h,_=>by simp at h
theorem GM (ν ν':List Nm):∀(is:List Nat) (ns:List Nm) (bs:List Box),bs.all (λb=>b.ok 0)=true->Eng.outs ν is ns (bs.map some)=Eng.outs ν' is ns (bs.map some)
  | [],_,_,_=>rfl
  | _::_,[],_,_=>rfl
  | _::_,_::_,[],_=>rfl
  | i::is,n::ns,b::bs,h=>by
    simp only [List.all_cons,Bool.and_eq_true]at h
    simp only [List.map_cons,Eng.outs,Option.map_some,vo h.1,GM ν ν' is ns bs h.2]
theorem Ae {k:Nat} {os:List Box}:os.all (λb=>b.ok 0)=true->okOut k (os.map some)=true:=by
  induction os with
  | nil=>exact λ_=>rfl
  | cons b os ih =>
    intro h
    simp only [List.all_cons,Bool.and_eq_true]at h
    simp only [List.map_cons,okOut,Bool.and_eq_true]
    exact⟨Box.ok_mono (Nat.zero_le _) h.1,ih h.2⟩
theorem yF {k:Nat}:∀{a b:List (Option Box)},okOut k a=true->okOut k b=true->okOut k (a++b)=true
  | [],_,_,h=>h
  | none::a,b,h1,h2=>by simp only [List.cons_append,okOut]at h1 ⊢;exact yF h1 h2
  | some y::a,b,h1,h2=>by simp only [List.cons_append,okOut,Bool.and_eq_true]at h1 ⊢;exact⟨h1.1,yF h1.2 h2⟩
theorem Fj {vs:List V} {i:Nat} (h:((vs.set i .none).flatMap frz).all (λ_=>false)=true) {n:Nm} (hn:n∈vs.flatMap frz):∃v,vs[i]? = some v/\n∈frz v:=by
  have hx:(vs.set i .none).flatMap frz=[]:=by
    cases hx:(vs.set i .none).flatMap frz with
    | nil=>rfl
    | cons a b=>rw [hx]at h;simp at h
  obtain ⟨v,hv,hnv⟩:=List.mem_flatMap.1 hn
  obtain ⟨j,hj,rfl⟩:=List.getElem_of_mem hv
  by_cases hij:i=j
  · subst hij;exact⟨vs[i],List.getElem?_eq_getElem hj,hnv⟩
  · exfalso
    have:vs[j]∈vs.set i .none:=by
      have:(vs.set i V.none)[j]'(by simpa using hj)=vs[j]:=by rw [List.getElem_set_ne hij]
      rw [<- this];exact List.getElem_mem _
    have:=o5 hx _ this
    rw [this]at hnv;cases hnv
theorem Gj {bs:List Box} (ρ:List Nm) (h:bs.all (λb=>b.ok 0)=true):bs.map (λb=>b.ren ρ)=bs:=by
  induction bs with
  | nil=>rfl
  | cons b bs ih=>simp only [List.all_cons,Bool.and_eq_true]at h;simp only [List.map_cons,vo h.1,ih h.2]
theorem Fg {a b:List Nm}:∀{vs:List V},okL a.length vs=true->renL (a++b) vs=renL a vs:=by
  intro vs h
  have key:∀n,okN a.length n=true->nR (a++b) n=nR a n:=by
    intro n hn
    obtain ⟨i,hi,rfl⟩:=oW hn
    rw [p8 hi,p8 (by simp;omega)]
    simp [List.getElem_append_left hi]
  have go:∀v,okV a.length v=true->ren (a++b) v=ren a v:=by
    intro v
    induction v using V.rec (motive_2:=λvs=>okL a.length vs=true->renL (a++b) vs=renL a vs)with
    | ref n i j=>intro h;simp only [ren];rw [key n h]
    | vs n sz k len=>intro h;simp only [ren];rw [key n h]
    | map n=>intro h;simp only [ren];rw [key n h]
    | fn f caps ih=>intro h;simp only [ren];rw [ih h]
    | agg cs ih=>intro h;simp only [ren];rw [ih h]
    | tup vs ih=>intro h;simp only [ren];rw [ih h]
    | nil=>intro h;rfl
    | cons v vs ih1 ih2 =>
      rename_i h
      simp only [okL,Bool.and_eq_true]at h
      simp only [renL,ih1 h.1,ih2 h.2]
    | _=>intro h;rfl
  induction vs with
  | nil=>rfl
  | cons v vs ih =>
    simp only [okL,Bool.and_eq_true]at h
    simp only [renL,go v h.1,ih h.2]
theorem zM {α:Type} {enc:α->List D} {sz:Nat} {xs:List α} {f:Operand} {args:List Operand} {ats:Array TypeId} {fn:FuncId} {caps args0:List V} {r:V} {bs os:List Box} {o:Option Box} (p:Nat) (is:List Nat) (iv po:Nat) {l:List (Nm×Box)} {n:Nm} {w:V}
    (hp:q=none\/Nat.beq all.length (p+(rest.length+1))=true)
    (hfp:∀S tk,AgR H S tk (⟨some d,.call ⟨.value f,args.toArray,ats⟩,ty,pos,after,g⟩::rest)->okQ q all p (l.map (·.1)++[n]) true)
    (hc:FnM C.P fn args0 (bs++gI sz enc xs) r (os.map some++gT xs o))
    (hf:ev sl f = .fn fn caps) (hb:aF C.P fn=true) (hl:gp H is=some l) (hv:H[iv]? = some (n,gB sz enc xs))
    (hS:l.map (·.2)=bs) (hSok:bs.all (λb=>b.ok 0)=true)
    (hw1:(args.map (ev sl)++caps)[po]? = some w) (hw2:w=gV n sz xs\/w=dV n sz xs\/w=vV n sz xs/\xs ≠ []) (hp0:args0[po]? = some (dV (ak is.length) sz xs))
    (hn:(((args.map (ev sl)++caps).set po .none).flatMap frz).all (λn=>false)=true)
    (ha:((args.map (ev sl)++caps).map co0).set po .none=(renL (l.map (·.1)) args0).set po .none) (hok:okL is.length (args0.set po .none)=true) (hr:okV 0 r=true)
    (hlen:os.length=is.length) (hi:(is++[iv]).Nodup) (hO:os.all (λb=>b.ok 0)=true) (ho:∀b,o=some b->b.ok 0=true) (hon:xs=[]->o=none)
    (hw:aJ all sl ⟨some d,.call ⟨.value f,args.toArray,ats⟩,ty,pos,after,g⟩=some true)
    (H':Hp) (hH:(setH H (outs (l.map (·.1)) is (l.map (·.1)) (os.map some))).set iv (n,o)=H')
    (h:aV (lK q p (l.map (·.1)++[n]) true) C all K rest (upd sl d r) H') :
    aV q C all K (⟨some d,.call ⟨.value f,args.toArray,ats⟩,ty,pos,after,g⟩::rest) sl H:=by
  have hll:=(kW hl).1
  have hbs:bs.length=l.length:=by rw [<- hS];simp
  have hivs:iv∉is:=by
    rw [List.nodup_append]at hi
    exact λhm=>hi.2.2 iv hm iv (by simp) rfl
  have hisn:is.Nodup:=(List.nodup_append.1 hi).1
  have hset:∀{l':List (Nat×Nm×Option Box)} {H0:Hp},(∀p∈l',p.1≠iv)->(setH H0 l')[iv]? = H0[iv]? := by
    intro l'
    induction l' with
    | nil=>intro H0 _;rfl
    | cons x l' ih =>
      intro H0 hx
      obtain ⟨i,m,b⟩:=x
      simp only [setH]
      rw [ih (λp hp=>hx p (by simp [hp]))]
      have:i≠iv:=hx (i,m,b) (by simp)
      rw [List.getElem?_set_ne this]
  have houts:∀(ν:List Nm) (is:List Nat) (ns:List Nm) (os:List (Option Box)),∀p∈outs ν is ns os,p.1∈is:=by
    intro ν is
    induction is with
    | nil=>intro ns os p hp;simp [outs]at hp
    | cons i is ih =>
      intro ns os p hp
      cases ns with
      | nil=>simp [outs]at hp
      | cons m ns=>cases os with
        | nil=>simp [outs]at hp
        | cons o os =>
          simp only [outs,List.mem_cons]at hp
          rcases hp with rfl|hp
          · simp
          · exact List.mem_cons_of_mem _ (ih _ _ _ hp)
  have hco:∀(S:Store),(w=gV n sz xs\/w=dV n sz xs\/w=vV n sz xs/\xs ≠ [])->(∀x l,xs=x::l->S n=some (.vec sz (xs.map enc)))->co S w=dV n sz xs:=by
    intro S hw2 hS
    cases hxs:xs with
    | nil =>
      subst hxs
      rcases hw2 with h2|h2|⟨h2,h3⟩
      · rw [h2];rfl
      · rw [h2];rfl
      · exact absurd rfl h3
    | cons x l =>
      have:=hS x l hxs
      have e:w = .vs n sz 0 (x::l).length:=by rcases hw2 with h2 | h2 | ⟨h2,_⟩ <;> rw [h2,hxs] <;> rfl
      rw [e]
      simp only [co,co1,this,dV]
  have hargs:∀S:Store,co S w=dV n sz xs->(args.map (ev sl)++caps).map (co S)=((args.map (ev sl)++caps).map co0).set po (dV n sz xs):=by
    intro S hcw
    have h1:(args.map (ev sl)++caps)=((args.map (ev sl)++caps).set po .none).set po w:=by
      rw [List.set_set,mH hw1]
    have h2:(((args.map (ev sl)++caps).set po .none)).map (co S)=(((args.map (ev sl)++caps).set po .none)).map co0:=Ay (by
      cases hx:((args.map (ev sl)++caps).set po .none).flatMap frz with
      | nil=>rfl
      | cons a b=>rw [hx]at hn;simp at hn)
    have h3:(args.map (ev sl)++caps).map (co S)=((((args.map (ev sl)++caps).set po .none)).map (co S)).set po (co S w):=by
      rw [<- List.map_set,<- h1]
    rw [h3,h2,hcw,List.map_set,List.set_set]
  have h0:=ha
  cases hxs:xs with
  | nil =>
    have hobn:o=none:=hon hxs
    subst hobn
    have hc':FnM C.P fn args0 bs r (os.map some):=by rw [hxs]at hc;simpa [gI,gT]using hc
    have hq:okL is.length args0=true:=by
      have:=D5 (v:=dV (ak is.length) sz xs) hok (by rw [hxs];rfl)
      rwa [mH hp0]at this
    refine vv p is hp (λS tk ag=>zY (λm hm=>by simp [hm]) (hfp S tk ag)) hc' hf hb hl ?_ ?_ ?_ ?_ hq (oV (Nat.zero_le _) r hr) (by simp [hlen]) hisn (Ae hO) hw r (o9 hr) H' ?_ ?_
    · rw [hS,Gj _ hSok]
    · exact List.all_eq_true.2 (λb hb'=>Box.ok_mono (Nat.zero_le _) (List.all_eq_true.1 hSok b hb'))
    · intro m hm
      obtain ⟨v,hv1,hv2⟩:=Fj hn hm
      rw [hw1]at hv1
      simp only [so_]at hv1
      subst hv1
      exfalso
      rcases hw2 with h2|h2|⟨_,h2⟩
      · rw [h2,hxs]at hv2;cases hv2
      · rw [h2,hxs]at hv2;cases hv2
      · exact h2 hxs
    · intro S tk ag
      refine ArgsOK.of_map ?_
      rw [hargs S (hco S hw2 (λx l e=>by rw [hxs]at e;cases e)),Bt ha]
      have:(renL (l.map (·.1)) args0)[po]? = some (dV n sz xs):=by
        obtain ⟨hlt,he⟩:=List.getElem?_eq_some_iff.1 hp0
        rw [List.getElem?_eq_getElem (by rw [bv];exact hlt),jI _ _ _ _ hlt,he,hxs];rfl
      rw [mH this]
    · rw [<- hH]
      symm
      apply mH
      rw [hset (λp hp e=>hivs (e ▸ houts _ _ _ _ p hp)),hv,hxs];rfl
    · cases q with
      | none=>exact h
      | some Γ =>
        intro S tk ok ag k L hk hL hO'
        refine h S tk ok ag k L hk (λp0 hp0' => ?_) (λe he m hm => ?_)
        · rcases hL p0 hp0' with h1 | ⟨e,h1,h2,h3,h4,h5⟩
          · exact .inl h1
          · refine .inr ?_
            rcases List.mem_append.1 h1 with h1|h1
            · exact⟨e,List.mem_append.2 (.inl h1),h2,h3,h4,h5⟩
            · rw [List.mem_singleton]at h1;subst h1
              exact⟨(p,l.map (·.1)++[n],true),by simp,h2,λx hx=>by simp only [List.mem_append];exact .inl (h3 x hx),λx hx=>by simp only [List.mem_append];exact .inl (h4 x hx),λe=>by cases e⟩
        · rcases List.mem_append.1 he with he | he
          · exact hO' e (List.mem_append.2 (.inl he)) m hm
          · rw [List.mem_singleton]at he;subst he
            simp only at hm
            rcases List.mem_append.1 hm with hm|hm
            · exact hO' (p,l.map (·.1),true) (by simp) m hm
            · rw [List.mem_singleton]at hm;subst hm
              rw [<- hH]at ag
              have:((setH H (outs (l.map (·.1)) is (l.map (·.1)) (os.map some))).set iv (m,none))[iv]? = some (m,none):=by
                have h1:=(List.getElem?_eq_some_iff.1 hv).1
                rw [List.getElem?_set_self (by rw [setH_at];exact h1)]
              exact (ag.at_ _ (List.mem_of_getElem? this)).1
  | cons x l' =>
    have hgB:gB sz enc xs=some (.vec sz (xs.map enc)):=by rw [hxs];rfl
    have hv':H[iv]? = some (n,some (.vec sz (xs.map enc))):=by rw [hv,hgB]
    have hc':FnM C.P fn args0 (bs++[.vec sz (xs.map enc)]) r (os.map some++[o]):=by rw [hxs]at hc ⊢;exact hc
    have hp1:=Dc (l:=l) hl hv'
    have hmap:(l++[(n,Box.vec sz (xs.map enc))]).map (·.1)=l.map (·.1)++[n]:=by simp
    have hdv:dV (ak is.length) sz xs = .vs (ak is.length) sz 0 xs.length:=by rw [hxs];rfl
    have hq:okL (is++[iv]).length args0=true:=by
      have:=D5 (v:=dV (ak is.length) sz xs) (qW (Nat.le_add_right is.length 1) _ hok) (by rw [hdv];exact jR (ls_ _))
      rw [mH hp0]at this
      simpa using this
    refine vv p (is++[iv]) hp (λS tk ag=>by rw [hmap];exact hfp S tk ag) hc' hf hb hp1 ?_ ?_ ?_ ?_ hq (oV (Nat.zero_le _) r hr) (by simp [hlen]) hi ?_ hw r (o9 hr) H' ?_ ?_
    · rw [List.map_append,Gj _ hSok]
      simp only [List.map_cons,List.map_nil,List.map_append,hS,Box.ren]
    · rw [List.all_append]
      simp only [Bool.and_eq_true]
      exact⟨List.all_eq_true.2 (λb hb'=>Box.ok_mono (Nat.zero_le _) (List.all_eq_true.1 hSok b hb')),rfl⟩
    · intro m hm
      obtain ⟨v,hv1,hv2⟩:=Fj hn hm
      rw [hw1]at hv1
      simp only [so_]at hv1
      subst hv1
      have e:w = .vs n sz 0 xs.length:=by rcases hw2 with h2 | h2 | ⟨h2,_⟩ <;> rw [h2,hxs] <;> rfl
      rw [e]at hv2
      rw [hmap]
      have:m=n:=by simpa [frz,xg]using hv2
      rw [this];simp
    · intro S tk ag
      refine ArgsOK.of_map ?_
      rw [hargs S (hco S hw2 (λ_ _ _=>ag.get hv')),Bt ha,hmap]
      have hpl:po<args0.length:=(List.getElem?_eq_some_iff.1 hp0).1
      have h1:args0=(args0.set po .none).set po (dV (ak is.length) sz xs):=by rw [List.set_set,mH hp0]
      have h2:renL (l.map (·.1)++[n]) args0=(renL (l.map (·.1)) (args0.set po .none)).set po (dV n sz xs):=by
        conv=>lhs;rw [h1]
        rw [BD,Fg (by simp only [List.length_map,hll];exact hok),hdv]
        simp only [ren]
        rw [qf (n:=n) (by rw [List.getElem?_append_right (by simp [hll])];simp [hll])]
        rw [hxs];rfl
      rw [h2,BD,List.set_set]
    · refine yF (Ae hO) ?_
      cases o with
      | none=>rfl
      | some b=>simp only [okOut,Bool.and_true];exact Box.ok_mono (Nat.zero_le _) (ho b rfl)
    · rw [<- hH,hmap,GU _ _ _ _ _ _ _ (by simp [hlen]) (by simp [hll]),FY,GM _ (l.map (·.1)) _ _ _ hO]
      simp only [setH]
      cases o with
      | none=>rfl
      | some b=>simp only [Option.map_some,vo (ho b rfl)]
    · rw [hmap];exact h
theorem FnM.of_wHv {P:Program} {f:FuncId} {fn:Func} {body:Code} (C:Cfg) (hP:C.P=P) (hf:P.funcs[f]? = some fn) (hb:fn.body=some body) (hn:C.n=fn.ntmps)
    {α:Type} {enc:α->List D} {sz:Nat} {xs:List α} {args:List V} {bs:List Box} {r:V} {Sout:List (Option Box)} (hl:args.length<=fn.ntmps) (hok:lV C body=true)
    (h:wH C body (xN C fn.results.toList (bs++gI sz enc xs).length r Sout) (y7 args) (jF 0 bs++[(ak bs.length,gB sz enc xs)])):FnM P f args (bs++gI sz enc xs) r Sout:=by
  refine FnM.of_wpD' hf hb hP hn hl ?_
  have hag:Ag (jF 0 bs++[(ak bs.length,gB sz enc xs)]) (bG (bs++gI sz enc xs)) 1:=by
   refine⟨Nat.one_pos,?_,λp hp => ?_⟩
   · rw [List.map_append,List.nodup_append]
     refine⟨AO _ _,by simp,λa ha b hb e => ?_⟩
     simp only [List.map_cons,List.map_nil,List.mem_singleton]at hb
     obtain ⟨p,hp,rfl⟩:=List.mem_map.1 ha
     obtain ⟨j,b',h1,h2⟩:=oM hp
     rw [h1,hb]at e
     simp only [ak,Prod.mk.injEq,and_true]at e
     have:=(List.getElem?_eq_some_iff.1 h2).1
     omega
   · rcases List.mem_append.1 hp with hp | hp
     · obtain ⟨j,b,rfl,hb⟩:=oM hp
       refine⟨Nat.one_pos,λx hx => ?_⟩
       simp only [so_]at hx
       subst hx
       rw [jC,Nat.zero_add,List.getElem?_append_left (List.getElem?_eq_some_iff.1 hb).1];exact hb
     · simp only [List.mem_singleton]at hp
       subst hp
       refine⟨Nat.one_pos,λx hx => ?_⟩
       rw [jC,List.getElem?_append_right (Nat.le_refl _),Nat.sub_self]
       cases xs with
       | nil=>cases hx
       | cons y ys=>exact hx
  obtain ⟨σ',hg,hw⟩:=h hok _ 1 hag
  exact⟨σ',hg,ja body (λe σ h=>Jq h) hw⟩
theorem finV {α:Type} {enc:α->List D} {sz:Nat} {rs:List ResultVar} {r:V} {e:Exit} {bs os:List Box} {xs:List α} {o:Option Box} (he:e = .normal\/e = .ret) (vs:List V) (h1:zD C sl H rs vs) (h2:(vs.flatMap frz).all (λ_=>false)=true) (h3:wF (vs.map co0)=r) (hr:okV 0 r=true)
    (hbl:bs.length=os.length) (hj:H[os.length]? = some (ak os.length,o)) (hO:os.all (λb=>b.ok 0)=true) (ho:∀b,o=some b->b.ok 0=true) (hH:H.take os.length=jF 0 os) :
    xN C rs (bs++gI sz enc xs).length r (os.map some++gT xs o) e sl H:=by
  have hn:vs.flatMap frz=[]:=by
    cases hx:vs.flatMap frz with
    | nil=>rfl
    | cons a b=>rw [hx]at h2;simp at h2
  have hc:∀{vs:List V},vs.flatMap frz=[]->CoL H vs (vs.map co0):=by
    intro vs
    induction vs with
    | nil=>exact λ_ => .nil
    | cons v vs ih=>exact λh => .cons (fB (o5 h v (by simp)) rfl) (ih (by simp only [List.flatMap_cons,List.append_eq_nil_iff]at h;exact h.2))
  have hget:∀i (h:i<os.length),H[i]? = some (ak i,some os[i]):=λi hi=>by
    have:=nA os 0 i hi
    rw [Nat.zero_add,<- hH,List.getElem?_take,if_pos hi]at this
    exact this
  have hou:∀{ν:List Nm} {l:List Box} {j:Nat} {js:List Nat} {ns:List Nm} {bs:List (Option Box)},(∀b∈l,b.ok 0=true)->(∀i (h:i<l.length),H[j+i]? = some (ak (j+i),some l[i]))->wu H ν js ns bs->wu H ν (List.range' j l.length++js) ((List.range' j l.length).map ak++ns) (l.map some++bs):=by
    intro ν l
    induction l with
    | nil=>exact λ_ _ h=>h
    | cons b l ih =>
      intro j js ns bs hb hg hr
      simp only [List.length_cons,List.range'_succ,List.map_cons,List.cons_append]
      refine⟨?_,ih (λx hx=>hb x (by simp [hx])) (λi hi => ?_) hr⟩
      · have:=hg 0 (by simp)
        simp only [Option.map_some,vo (hb b (by simp))]
        exact this
      · have:=hg (i+1) (by simpa using hi)
        rw [show j+1+i=j+(i+1) by omega]
        exact this
  have hO':∀b∈os,b.ok 0=true:=λb hb=>List.all_eq_true.1 hO b hb
  cases xs with
  | nil =>
    refine⟨he,vs,vs.map co0,List.range' 0 os.length++[],(List.range' 0 os.length).map ak++[],h1,hc hn,by rw [h3,o9 hr],hou hO' (λi hi=>by rw [Nat.zero_add];exact hget i hi) trivial,by simp [List.nodup_range'],λi hi => ?_⟩
    have:i<os.length:=by simpa [gI,hbl]using hi
    simp [this]
  | cons x xs =>
    refine⟨he,vs,vs.map co0,List.range' 0 os.length++[os.length],(List.range' 0 os.length).map ak++[ak os.length],h1,hc hn,by rw [h3,o9 hr],
      hou hO' (λi hi=>by rw [Nat.zero_add];exact hget i hi) ⟨?_,trivial⟩,?_,λi hi => ?_⟩
    · rw [hj]
      cases o with
      | none=>rfl
      | some b=>simp only [Option.map_some,vo (ho b rfl)]
    · rw [List.nodup_append]
      refine⟨List.nodup_range',by simp,λa ha b hb => ?_⟩
      simp only [List.mem_singleton]at hb
      simp only [List.mem_range'_1]at ha
      omega
    · have hi':i<os.length+1:=by simpa [gI,hbl]using hi
      by_cases hlt:i<os.length
      · rw [List.getElem?_append_left (by simpa using hlt)];simp [hlt]
      · have:i=os.length:=by omega
        subst this
        rw [List.getElem?_append_right (by simp)];simp
theorem ze {α:Type} {sz:Nat} {enc:α->List D} {xs:List α}:∀b,gB sz enc xs=some b->b.ok 0=true:=by
  intro b h
  cases xs with
  | nil=>cases h
  | cons x xs=>cases h;rfl
end
end Go.Eng

/-
  THE ENGINE: rules for maps, arrays and new slices of zeros.
-/
namespace Go.Eng
set_option linter.unusedSectionVars false
variable [DM]
set_option linter.unusedVariables false
set_option linter.unusedSimpArgs false
def tK {K T:Type} (eq:K->K->Bool) (k:K):List (K×T)->Option Nat
 | []=>none
 | e::es=>if eq k e.1=true then some 0 else (tK eq k es).map (· + 1)
def eX {K T:Type} (eq:K->K->Bool) (es:List (K×T)) (k:K):Option T:=match tK eq k es with
 | some j=>(es[j]?).map (·.2)
 | none=>none
def aO {K T:Type} (eq:K->K->Bool) (es:List (K×T)) (k:K) (v:T):List (K×T):=match tK eq k es with
 | some j=>es.set j (k,v)
 | none=>es++[(k,v)]
abbrev bM {K T:Type} (kD:K->D) (vD:T->D) (es:List (K×T)):Box := .map (es.map λe=>(kD e.1,vD e.2))
abbrev eqS (a b:ByteArray):Bool:=a==b
theorem Jo {K T:Type} {eq:K->K->Bool} {k:K}:∀{es:List (K×T)} {j:Nat},tK eq k es=some j->j<es.length
 | e::es,j,h=>by
  simp only [tK]at h
  split at h
  ·simp only [so_]at h;subst h;simp
  ·simp only [Option.map_eq_some_iff]at h
   obtain ⟨i,hi,rfl⟩:=h
   have:=Jo hi
   simpa using this
theorem sO {K T:Type} {eq:K->K->Bool} {kD:K->D} {vD:T->D} {k:K} (he:∀a b,qi (kD a) (kD b)=some (eq a b)):∀(es:List (K×T)),nT (kD k) (es.map λe=>(kD e.1,vD e.2))=some (tK eq k es)
 | []=>rfl
 | e::es=>by
  simp only [List.map_cons,nT,he,tK]
  cases h:eq k e.1 with
  | true=>simp
  | false=>simp [sO he es]
section
variable {C:Cfg} {sl:Nat->V} {H:Hp} {q:Qm} {all rest:List Oper} {K:(Nat->V)->Hp->Prop}
variable {dst:Option Tmp} {d:Nat} {t ty:TypeId} {pos:String} {after:Array Edge} {g:Option (Nat×Bool)}
theorem Ee (p:Nat) (hp:q=none\/Nat.beq all.length (p+(rest.length+1))=true) (hw:aJ all sl ⟨some d,.makeMap t none,ty,pos,after,g⟩=some true)
  (h:∀n:Nm,aV (lK q p [n] true) C all K rest (upd sl d (.map n)) (H++[(n,some (.map []))])):aV q C all K (⟨some d,.makeMap t none,ty,pos,after,g⟩::rest) sl H :=
 u7 rfl p [] hp (λ_ _ _=>zV) (λm hm=>by cases hm) hw (λS tk K' ok ag hk=>iO (A:=⟨[],[((d,tk),some (.map []))],.map (d,tk)⟩) (λc e=>by cases e) rfl
  (hk _ _ _ (.inl rfl) ⟨by simp,by simp⟩ (ag.new ok rfl _) (h (d,tk))))
theorem GQ {Kt T:Type} {eq:Kt->Kt->Bool} {kD:Kt->D} {vD:T->D} {es:List (Kt×T)} {k:Kt} {z:T} {x i:Operand} {kt et:TypeId} {ok:Bool} {n:Nm} (p j:Nat) (hp:q=none\/Nat.beq all.length (p+(rest.length+1))=true)
  (hf:∀S tk,AgR H S tk (⟨dst,.lookup t x i ok,ty,pos,after,g⟩::rest)->okQ q all p [n] false) (he:∀a b,qi (kD a) (kD b)=some (eq a b)) (hm:xw C.P t=some (kt,et)) (hkk:pR C.P kt (kD k)=true) (hz:zeroV C.P et=some (.d (vD z)))
  (hx:ev sl x = .map n) (hi:ev sl i = .d (kD k)) (hH:H[j]? = some (n,some (bM kD vD es))) (v:V) (hv:zI ok (.d (vD ((eX eq es k).getD z))) (eX eq es k).isSome=v)
  (hw:aJ all sl ⟨dst,.lookup t x i ok,ty,pos,after,g⟩=some true) (h:aV (lK q p [n] false) C all K rest (dI sl dst v) H):aV q C all K (⟨dst,.lookup t x i ok,ty,pos,after,g⟩::rest) sl H:=by
 subst hv
 refine nG p [n] false hp hf (vW hH) hw (λS tk K' ok' ag hk=>iO (A:=⟨[(n,bM kD vD es)],[],zI ok (.d (vD ((eX eq es k).getD z))) (eX eq es k).isSome⟩) (λc e=>by cases e) ?_ (hk _ H ⟨by simp,by simp⟩ (λ_=>rfl) ag.tail h))
 show sM C.P t S (ev sl x) (ev sl i) ok=_
 unfold sM
 rw [hm,hi,hx]
 simp only [hkk,cond_true,ag.get hH,sO he]
 unfold eX
 cases hj:tK eq k es with
 | none=>simp only [hz,Option.map_some,Option.getD_none,Option.isSome_none]
 | some j =>
  have hlt:=Jo hj
  simp only [List.getElem?_map,List.getElem?_eq_getElem hlt,Option.map_some,Option.getD_some,Option.isSome_some]
theorem LG {Kt T:Type} {kD:Kt->D} {vD:T->D} {es:List (Kt×T)} {x:Operand} {kt et:TypeId} {n:Nm} (p j:Nat) (hp:q=none\/Nat.beq all.length (p+(rest.length+1))=true)
  (hf:∀S tk,AgR H S tk (⟨dst,.call ⟨.builtin .len,#[x],#[t]⟩,ty,pos,after,g⟩::rest)->okQ q all p [n] false) (hm:xw C.P t=some (kt,et))
  (hx:ev sl x = .map n) (hH:H[j]? = some (n,some (bM kD vD es)))
  (hw:aJ all sl ⟨dst,.call ⟨.builtin .len,#[x],#[t]⟩,ty,pos,after,g⟩=some true) (h:aV (lK q p [n] false) C all K rest (dI sl dst (vI es.length)) H):aV q C all K (⟨dst,.call ⟨.builtin .len,#[x],#[t]⟩,ty,pos,after,g⟩::rest) sl H:=by
 refine nG p [n] false hp hf (vW hH) hw (λS tk K' ok' ag hk=>Ic (A:=⟨[(n,bM kD vD es)],[],vI es.length⟩) ?_ (hk _ H ⟨by simp,by simp⟩ (λ_=>rfl) ag.tail h))
 show (bif yj (ev sl x)then oH C.P t S (ev sl x)else (Bv C.P t (ev sl x)).bind eF)=_
 rw [hx]
 show oH C.P t S (.map n)=_
 unfold oH
 simp only [hm,ag.get hH,List.length_map]
theorem FX {Kt T:Type} {eq:Kt->Kt->Bool} {kD:Kt->D} {vD:T->D} {es:List (Kt×T)} {k:Kt} {v:T} {m i x:Operand} {kt et:TypeId} {n:Nm} (p j:Nat) (hp:q=none\/Nat.beq all.length (p+(rest.length+1))=true)
  (hf:∀S tk,AgR H S tk (⟨dst,.mapUpdate t m i x,ty,pos,after,g⟩::rest)->okQ q all p [n] true) (he:∀a b,qi (kD a) (kD b)=some (eq a b)) (hm:xw C.P t=some (kt,et)) (hkk:pR C.P kt (kD k)=true)
  (hx:ev sl m = .map n) (hi:ev sl i = .d (kD k)) (hd:datum (ev sl x)=some (vD v)) (hH:H[j]? = some (n,some (bM kD vD es)))
  (hw:aJ all sl ⟨dst,.mapUpdate t m i x,ty,pos,after,g⟩=some true) (h:aV (lK q p [n] true) C all K rest (dI sl dst .none) (H.set j (n,some (bM kD vD (aO eq es k v))))):aV q C all K (⟨dst,.mapUpdate t m i x,ty,pos,after,g⟩::rest) sl H:=by
 refine nG p [n] true hp hf (vW hH) hw (λS tk K' ok' ag hk=>iO (A:=⟨[(n,bM kD vD es)],[(n,some (bM kD vD (aO eq es k v)))],.none⟩) (λc e=>by cases e) ?_ (hk _ _ ⟨by simp,by simp⟩ (λe=>by cases e) (ag.tail.set hH (λx hx=>hx)) h))
 show jc C.P t S (ev sl m) (ev sl i) (ev sl x)=_
 rw [xm hd]
 unfold jA
 rw [hm,hi,hx,hd]
 simp only [hkk,cond_true,ag.get hH,sO he]
 unfold aO
 cases hj:tK eq k es with
 | none=>simp only [bM,List.map_append,List.map_cons,List.map_nil]
 | some j=>simp only [bM,List.map_set]
theorem Bc {Kt T:Type} {eq:Kt->Kt->Bool} {kD:Kt->D} {vD:T->D} {es:List (Kt×T)} {k:Kt} {v:T} {m i x:Operand} {kt et:TypeId} {n:Nm} (p j:Nat) (hp:q=none\/Nat.beq all.length (p+(rest.length+1))=true)
  (hf:∀S tk,AgR H S tk (⟨dst,.insert t m i x,ty,pos,after,g⟩::rest)->okQ q all p [n] true) (he:∀a b,qi (kD a) (kD b)=some (eq a b)) (hm:xw C.P t=some (kt,et)) (hkk:pR C.P kt (kD k)=true)
  (hx:ev sl m = .map n) (hi:ev sl i = .d (kD k)) (hd:datum (ev sl x)=some (vD v)) (hH:H[j]? = some (n,some (bM kD vD es)))
  (hw:aJ all sl ⟨dst,.insert t m i x,ty,pos,after,g⟩=some true) (h:aV (lK q p [n] true) C all K rest (dI sl dst .none) (H.set j (n,some (bM kD vD (aO eq es k v))))):aV q C all K (⟨dst,.insert t m i x,ty,pos,after,g⟩::rest) sl H:=by
 refine nG p [n] true hp hf (vW hH) hw (λS tk K' ok' ag hk=>iO (A:=⟨[(n,bM kD vD es)],[(n,some (bM kD vD (aO eq es k v)))],.none⟩) (λc e=>by cases e) ?_ (hk _ _ ⟨by simp,by simp⟩ (λe=>by cases e) (ag.tail.set hH (λx hx=>hx)) h))
 show jc C.P t S (ev sl m) (ev sl i) (ev sl x)=_
 rw [xm hd]
 unfold jA
 rw [hm,hi,hx,hd]
 simp only [hkk,cond_true,ag.get hH,sO he]
 unfold aO
 cases hj:tK eq k es with
 | none=>simp only [bM,List.map_append,List.map_cons,List.map_nil]
 | some j=>simp only [bM,List.map_set]
end
end Go.Eng

/-
  THE ENGINE: slices with room made ahead; functions that are handed two slices in their boxes.
-/
namespace Go.Eng
set_option linter.unusedSectionVars false
variable [DM]
set_option linter.unusedVariables false
set_option linter.unusedSimpArgs false
section
variable {C:Cfg} {Q:QH} {sl:Nat->V} {H:Hp} {c:Code}
end
section
variable {C:Cfg} {sl:Nat->V} {H:Hp} {q:Qm} {all rest:List Oper} {K:(Nat->V)->Hp->Prop}
variable {dst:Option Tmp} {d:Nat} {t ty:TypeId} {pos:String} {after:Array Edge} {g:Option (Nat×Bool)}
end
section
variable {C:Cfg} {sl:Nat->V} {H:Hp} {q:Qm} {all rest:List Oper} {K:(Nat->V)->Hp->Prop}
variable {d:Nat} {t ty:TypeId} {pos:String} {after:Array Edge} {g:Option (Nat×Bool)}
end
end Go.Eng

/-
  THE ENGINE: functions that are handed two slices in their boxes.
-/
namespace Go.Eng
set_option linter.unusedSectionVars false
variable [DM]
set_option linter.unusedVariables false
set_option linter.unusedSimpArgs false
def exA {α:Type} (xs:List α) (k:Nat):Nm:=match xs with
  | []=>(7000000+k,0)
  | _::_=>ak k
def exB {α:Type} (xs:List α) (k:Nat):Nm:=match xs with
  | []=>ak k
  | _::_=>ak (k+1)
def okO (os:List (Option Box)):Bool:=os.all λo=>match o with
  | some b=>b.ok 0
  | none=>true
theorem ArgsOK.set {S:Store} {x y x' y':V} (hxy:y'=x'\/y'=co S x'):∀{a b:List V} {i:Nat},ArgsOK S (a.set i x) (b.set i y)->ArgsOK S (a.set i x') (b.set i y')
  | [],[],i,h=>by simpa using h
  | [],b::bs,i,h=>by cases i <;> (simp at h;cases h)
  | a::az,[],i,h=>by cases i <;> (simp at h;cases h)
  | a::az,b::bs,0,h=>by
    simp only [List.set_cons_zero]at h ⊢
    cases h with
    | cons _ t=>exact .cons hxy t
  | a::az,b::bs,i+1,h=>by
    simp only [List.set_cons_succ]at h ⊢
    cases h with
    | cons h1 t=>exact .cons h1 (ArgsOK.set hxy t)
section
variable {C:Cfg} {sl:Nat->V} {H:Hp} {q:Qm} {all rest:List Oper} {K:(Nat->V)->Hp->Prop}
variable {dst:Option Tmp} {d:Nat} {t ty:TypeId} {pos:String} {after:Array Edge} {g:Option (Nat×Bool)}
theorem Jf {p:Nat} {T T':List Nm} {sl':Nat->V} {H':Hp} (hT:∀m∈T,m∈T') (hH:∀m∈T',m∈T\/m∈H'.map (·.1)) (h:aV (lK q p T' true) C all K rest sl' H'):aV (lK q p T true) C all K rest sl' H':=by
  cases q with
  | none=>exact h
  | some Γ =>
    intro S tk ok ag k L hk hL hO'
    refine h S tk ok ag k L hk (λp0 hp0' => ?_) (λe he m hm => ?_)
    · rcases hL p0 hp0' with h1 | ⟨e,h1,h2,h3,h4,h5⟩
      · exact .inl h1
      · refine .inr ?_
        rcases List.mem_append.1 h1 with h1|h1
        · exact⟨e,List.mem_append.2 (.inl h1),h2,h3,h4,h5⟩
        · rw [List.mem_singleton]at h1;subst h1
          exact⟨(p,T',true),by simp,h2,λx hx=>hT _ (h3 x hx),λx hx=>hT _ (h4 x hx),λe=>by cases e⟩
    · rcases List.mem_append.1 he with he | he
      · exact hO' e (List.mem_append.2 (.inl he)) m hm
      · rw [List.mem_singleton]at he;subst he
        simp only at hm
        rcases hH m hm with hm|hm
        · exact hO' (p,T,true) (by simp) m hm
        · obtain ⟨x,hx,rfl⟩:=List.mem_map.1 hm
          exact (ag.at_ x hx).1
theorem Jy {env0 env1:List (Nat×V)} (is:List Nat) (h:pick env0 sl=env0) (e:(is.filterMap λi=>env0[i]?)=env1):pick env1 sl=env1:=by
  subst e
  unfold pick at h ⊢
  have hp:∀p∈env0,(p.1,sl p.1)=p:=by
    intro p hp
    obtain ⟨i,hi,rfl⟩:=List.getElem_of_mem hp
    have:=congrArg (λl=>l[i]?) h
    simpa [List.getElem?_map,List.getElem?_eq_getElem hi]using this
  conv=>rhs;rw [<- List.map_id (is.filterMap λi=>env0[i]?)]
  refine List.map_congr_left (λp h1 => ?_)
  obtain ⟨i,_,hi⟩:=List.mem_filterMap.1 h1
  exact hp p (List.mem_of_getElem? hi)
theorem qb {H0:Hp} (h:H.take H0.length=H0):pre H0 H:=aM h
theorem Ma {H0 H1:Hp} (hq:pre H0 H) (h:pre H1 H0):pre H1 H:=by
  obtain ⟨is,hn,he⟩:=hq
  obtain ⟨js,hm,hf⟩:=h
  obtain ⟨hl,hg⟩:=rM he
  obtain ⟨hk,hh⟩:=rM hf
  have hjs:∀(a:Nat) (ha:a<js.length),js[a]<is.length:=λa ha=>by
    have:=(List.getElem?_eq_some_iff.1 (hh a ha (by omega))).1
    omega
  refine⟨js.map λj=>is.getD j 0,?_,?_⟩
  · refine List.pairwise_iff_getElem.2 (λa b ha hb hab e => ?_)
    simp only [List.length_map]at ha hb
    have h1:=hjs a ha
    have h2:=hjs b hb
    simp only [List.getElem_map,List.getD_eq_getElem?_getD,List.getElem?_eq_getElem h1,List.getElem?_eq_getElem h2,Option.getD_some]at e
    have hab':=(List.pairwise_iff_getElem.1 hm) a b ha hb hab
    exact hab' ((List.getElem_inj hn).1 e)
  · refine List.ext_getElem (by simp [hk]) (λi h1 h2 => ?_)
    simp only [List.length_map]at h1 h2
    have h3:=hjs i h1
    simp only [List.getElem_map,List.getD_eq_getElem?_getD,List.getElem?_eq_getElem h3,Option.getD_some]
    obtain ⟨l1,e1⟩:=List.getElem?_eq_some_iff.1 (hh i h1 h2)
    rw [hg js[i] h3 l1,e1]
theorem Jb {H0:Hp} {is:List Nat} (hg:∀(i:Nat) (h1:i<is.length) (h2:i<H0.length),H[is[i]]? = some H0[i]) (hl:is.length=H0.length) {ν:List Nm}:∀{js:List Nat} {ns:List Nm} {bs:List (Option Box)},wu H0 ν js ns bs->wu H ν (js.map λj=>is.getD j 0) ns bs
  | [],[],[],_=>trivial
  | j::_,_::_,_::_,h=>by
    obtain ⟨l1,e1⟩:=List.getElem?_eq_some_iff.1 h.1
    have h3:j<is.length:=by omega
    refine⟨?_,Jb hg hl h.2⟩
    simp only [List.getD_eq_getElem?_getD,List.getElem?_eq_getElem h3,Option.getD_some]
    rw [hg j h3 l1,e1]
  | [],_::_,_,h=>h.elim
  | [],[],_::_,h=>h.elim
  | _::_,[],_,h=>h.elim
  | _::_,_::_,[],h=>h.elim
theorem EL {H0:Hp} {ν:List Nm}:∀{js:List Nat} {ns:List Nm} {bs:List (Option Box)},wu H0 ν js ns bs->∀j∈js,j<H0.length
  | [],_,_,_,j,hj=>by cases hj
  | _::_,_::_,_::_,h,j,hj=>by
    rcases List.mem_cons.1 hj with rfl|hj
    · exact (List.getElem?_eq_some_iff.1 h.1).1
    · exact EL h.2 j hj
  | _::_,[],_,h,_,_=>h.elim
  | _::_,_::_,[],h,_,_=>h.elim
theorem JE {H0:Hp} {k:Nat} {r:V} {Sout:List (Option Box)} {e:Exit} {sl':Nat->V} (hq:pre H0 H) (h:xN C [] k r Sout e sl' H0):xN C [] k r Sout e sl H:=by
  obtain ⟨he,vs,vs',js,ν,h1,h2,h3,h4,h5,h6⟩:=h
  obtain ⟨is,hn,hf⟩:=hq
  obtain ⟨hl,hg⟩:=rM hf
  cases vs with
  | cons v vs=>exact h1.elim
  | nil =>
    cases h2
    refine⟨he,[],[],js.map λj=>is.getD j 0,ν,trivial,.nil,h3,Jb hg hl h4,?_,h6⟩
    refine List.pairwise_iff_getElem.2 (λa b ha hb hab e => ?_)
    simp only [List.length_map]at ha hb
    have l1:js[a]<is.length:=by have:=EL h4 _ (List.getElem_mem ha);omega
    have l2:js[b]<is.length:=by have:=EL h4 _ (List.getElem_mem hb);omega
    simp only [List.getElem_map,List.getD_eq_getElem?_getD,List.getElem?_eq_getElem l1,List.getElem?_eq_getElem l2,Option.getD_some]at e
    exact (List.pairwise_iff_getElem.1 h5) a b ha hb hab ((List.getElem_inj hn).1 e)
def pz (S:Store):List Bool->List V->List V
  | b::bs,v::vs=>(bif b then co1 S v else v)::pz S bs vs
  | _,_=>[]
theorem uO (S:Store):∀(bs:List Bool) (vs:List V),bs.length=vs.length->(pz S bs vs).length=vs.length/\∀j (h1:j<(pz S bs vs).length) (h2:j<vs.length),(pz S bs vs)[j]=vs[j]\/(pz S bs vs)[j]=co1 S vs[j]
  | [],[],_=>⟨rfl,λj h1 h2=>absurd h2 (Nat.not_lt_zero j)⟩
  | [],_::_,h=>by simp at h
  | _::_,[],h=>by simp at h
  | b::bs,v::vs,h=>by
    obtain ⟨h1,h2⟩:=uO S bs vs (by simpa using h)
    refine⟨by simp [pz,h1],λj k1 k2 => ?_⟩
    cases j with
    | zero=>cases b <;> simp [pz]
    | succ j=>simpa [pz]using h2 j (by simpa [pz]using k1) (by simpa using k2)
theorem Jp {Q:QH} {c:Code} {s:Nat} {m:Nm} {cs:List V} (j:Nat) (bs:List Bool) (cs':List V) (hj:H[j]? = some (m,some (.cells s cs))) (hb:bs.length=cs.length) (hc:∀S,pz S bs cs=cs') (hw:wH C c Q sl (H.set j (m,some (.cells s cs')))):wH C c Q sl H:=by
  refine oh hw (λS t ag => ?_)
  have hm:=ag.get hj
  obtain ⟨h1,h2⟩:=uO S bs cs hb
  rw [hc S]at h1 h2
  exact⟨supd S m (some (.cells s cs')),Gst.coM ⟨sl,S,t⟩ m s cs cs' hm h1 h2,ag.set hj (λx hx=>hx)⟩
theorem JC {Q:QH} {c:Code} {α:Type} {enc:α->List D} {xs:List α} {sz s:Nat} {n m:Nm} {cs:List V} (i j:Nat) (bs:List Bool) (cs':List V) (hi:H[i]? = some (n,gF sz enc xs)) (hj:H[j]? = some (m,some (.cells s cs))) (hb:bs.length=cs.length)
    (hc:∀S,co1 S (gV n sz xs)=vL enc xs->pz S bs cs=cs') (hw:wH C c Q sl (H.set j (m,some (.cells s cs')))):wH C c Q sl H:=by
  refine oh hw (λS t ag => ?_)
  have hm:=ag.get hj
  obtain ⟨h1,h2⟩:=uO S bs cs hb
  rw [hc S (co_gF ag hi)]at h1 h2
  exact⟨supd S m (some (.cells s cs')),Gst.coM ⟨sl,S,t⟩ m s cs cs' hm h1 h2,ag.set hj (λx hx=>hx)⟩
end
end Go.Eng

/-
  THE ENGINE: a sort of the library's, by its contract off the shelf.
-/
namespace Go.Eng
set_option linter.unusedSectionVars false
variable [DM]
open Go.Sort
set_option linter.unusedVariables false
set_option linter.unusedSimpArgs false
theorem mR.alone {G:Gh} {w:World} {vargs:List Value} {a:V} (h:mR G w vargs [a]):∃x,vargs=[x]/\RepV G w x a:=by
 obtain ⟨hl,h⟩:=h
 match vargs,hl with
 | [x],_=>exact⟨x,rfl,h 0 (by simp) (by simp)⟩
end Go.Eng

