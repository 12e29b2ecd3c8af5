/-
  The engine: what the machine does to data, shown once for all programs (part 4).
-/
import Derived.Test.YtigdobmllbakiacGreatDoorEng3
import Derived.Sort.Row
import Derived.Sort.Grow
/-
  THE ENGINE: parts of a slice over a box; clear.
-/
namespace Go.Eng
set_option linter.unusedSectionVars false
variable [DM]
set_option linter.unusedVariables false
set_option linter.unusedSimpArgs false
theorem CL {α:Type} {sz:Nat} {enc:α->List D} {xs:List α} (h:xs ≠ []):gB sz enc xs=some (bV sz enc xs):=by cases xs with
 | nil=>exact absurd rfl h
 | cons x xs=>rfl
section
variable {C:Cfg} {Q:QH} {sl:Nat->V} {H:Hp} {c:Code}
end
section
variable {C:Cfg} {sl:Nat->V} {H:Hp} {q:Qm} {all rest:List Oper} {K:(Nat->V)->Hp->Prop}
 {dst:Option Tmp} {t ty e:TypeId} {pos:String} {after:Array Edge} {g:Option (Nat×Bool)}
def Bn {α:Type} (xs:List α) (lo hi:Int):Option Unit:=if 0<=lo/\0<=hi/\lo.toNat<=hi.toNat/\hi.toNat<=xs.length then some ()else none
theorem oV {α:Type} {xs:List α} {lo hi:Int} {u:Unit} (h:Bn xs lo hi=some u):0<=lo/\0<=hi/\lo.toNat<=hi.toNat/\hi.toNat<=xs.length:=by
 unfold Bn at h;split at h
 ·assumption
 ·cases h
theorem subR_le {α:Type} {xs:List α} {lo hi:Int} {u:Unit} (h:Bn xs lo hi=some u):lo.toNat+(hi.toNat-lo.toNat)<=xs.length:=by
 have:=oV h;omega
section part
variable {α:Type} {enc:α->List D} {xs:List α} {sz:Nat} {n:Nm} {x l hi:Operand} {k k':IntKind} {a b:Int} {u:Unit}
theorem EP (hu:C.P.underlying t=some (.slice e)) (hs:szT C.P e=some sz) {lo hi:Option V} {l h:Int} (h1:kS 0 lo=some l.toNat) (h2:kS xs.length hi=some h.toNat) (hr:Bn xs l h=some u) :
  iY C.P t (vV n sz xs) lo hi none=some (.vs n sz l.toNat (h.toNat-l.toNat)):=by
 obtain ⟨_,_,r3,r4⟩:=oV hr
 simp only [vV,iY,hu,hs,h1,h2]
 rw [if_pos ⟨r3,r4,trivial⟩,Nat.zero_add]
theorem Fg (hu:C.P.underlying t=some (.slice e)) (hs:szT C.P e=some sz) (hx:ev sl x=vV n sz xs) (hl:ev sl l = .d (.int k a)) (hh:ev sl hi = .d (.int k' b)) (hr:Bn xs a b=some u) (hw:aH all sl ⟨dst,.slice t x (some l) (some hi) none,ty,pos,after,g⟩=some true)
  (h:aS q C all K rest (dw sl dst (.vs n sz a.toNat (b.toNat-a.toNat))) H):aS q C all K (⟨dst,.slice t x (some l) (some hi) none,ty,pos,after,g⟩::rest) sl H :=
 aG _ hw (by
  show iY C.P t (ev sl x) (some (ev sl l)) (some (ev sl hi)) none=_
  rw [hx,hl,hh];exact EP hu hs (wU (oV hr).1) (wU (oV hr).2.1) hr) h
end part
end
end Go.Eng

/-
  THE ENGINE: a slice that a function writes into: its box is handed in and handed back.
-/
namespace Go.Eng
set_option linter.unusedSectionVars false
variable [DM]
set_option linter.unusedVariables false
set_option linter.unusedSimpArgs false
def dV {α:Type} (n:Nm) (sz:Nat):List α->V
  | [] => .d (.sl [])
  | x::xs => .vs n sz 0 (x::xs).length
def gI {α:Type} (sz:Nat) (enc:α->List D):List α->List Box
  | []=>[]
  | x::xs=>[.vec sz ((x::xs).map enc)]
def gT {α:Type} (xs:List α) (o:Option Box):List (Option Box):=match xs with
  | []=>[]
  | _::_=>[o]
def neL {α:Type} (xs:List α):Option Unit:=match xs with
  | []=>none
  | _::_=>some ()
def inN (i:Int) (len:Nat):Option Unit:=if 0<=i/\i.toNat<len then some ()else none
abbrev cutL {α:Type} (xs:List α) (lo len:Nat):List α:=(xs.drop lo).take len
theorem neL_ne {α:Type} {xs:List α} {u:Unit} (h:neL xs=some u):xs ≠ []:=by
  cases xs with
  | nil=>cases h
  | cons x xs=>simp
theorem gB_ho {α:Type} {sz:Nat} {enc:α->List D} {xs ys:List α} (h:ys.length=xs.length):xs=[]->gB sz enc ys=none:=λe=>by
  subst e
  cases ys with
  | nil=>rfl
  | cons y ys=>simp at h
section
variable {C:Cfg} {sl:Nat->V} {H:Hp} {Q:QH} {c:Code}
end
section
variable {C:Cfg} {sl:Nat->V} {H:Hp} {q:Qm} {all rest:List Oper} {K:(Nat->V)->Hp->Prop}
variable {dst:Option Tmp} {d:Nat} {t ty:TypeId} {pos:String} {after:Array Edge} {g:Option (Nat×Bool)}
theorem Cx (i:Nat) {n:Nm} {b b':Option Box} (h:H[i]? = some (n,b)) (e:b=b') (hw:aS q C all K rest sl (H.set i (n,b'))):aS q C all K rest sl H:=by
  subst e
  have hi:=(List.getElem?_eq_some_iff.1 h)
  rwa [<- hi.2,List.set_getElem_self]at hw
theorem qN {f:Operand} {args:List Operand} {ats:Array TypeId} {fn:FuncId} {caps args0:List V} {r:V} {Sin:List Box} {Sout:List (Option Box)} (p:Nat) (is:List Nat) {l:List (Nm×Box)} (hp:q=none\/Nat.beq all.length (p+(rest.length+1))=true)
    (hfp:∀S tk,AgR H S tk (⟨some d,.call ⟨.value f,args.toArray,ats⟩,ty,pos,after,g⟩::rest)->okQ q all p (l.map (·.1)) true) (hc:FnM C.P fn args0 Sin r Sout)
    (hf:ev sl f = .fn fn caps) (hb:aC C.P fn=true) (hl:fH H is=some l) (hS:Sin.map (λb=>b.ren (l.map (·.1)))=l.map (·.2)) (hSok:Sin.all (λb=>b.ok is.length)=true)
    (hn:∀n∈(args.map (ev sl)++caps).flatMap frz,n∈l.map (·.1)) (ha:∀S tk,AgR H S tk (⟨some d,.call ⟨.value f,args.toArray,ats⟩,ty,pos,after,g⟩::rest)->ArgsOK S (args.map (ev sl)++caps) (renL (l.map (·.1)) args0)) (hok:okL is.length args0=true) (hr:okV Sout.length r=true)
    (hlen:Sout.length=is.length) (hi:is.Nodup) (hO:okOut Sout.length Sout=true)
    (hw:aH all sl ⟨some d,.call ⟨.value f,args.toArray,ats⟩,ty,pos,after,g⟩=some true)
    (v:V) (hv:ren (l.map (·.1)) r=v) (H':Hp) (hH:setH H (outs (l.map (·.1)) is (l.map (·.1)) Sout)=H')
    (h:aS (lH q p (l.map (·.1)) true) C all K rest (upd sl d v) H') :
    aS q C all K (⟨some d,.call ⟨.value f,args.toArray,ats⟩,ty,pos,after,g⟩::rest) sl H:=by
  subst hv hH
  obtain ⟨hll,hlg⟩:=jb hl
  have hsl:Sin.length=l.length:=by have:=congrArg List.length hS;simpa using this
  refine pG p (l.map (·.1)) true hp hfp (rP hl) hw (λS tk K' ok ag hk=>mo hf ?_)
  have hnd:=qi ag hi hl
  refine .inl ⟨hb,⟨[],l.map (·.1),args0,Sin,r,Sout,false⟩,?_,(λe=>by cases e),?_⟩
  · exact { does := hc
            args:=ha S tk ag
            okA:=by simp only [List.length_map,hll];exact hok
            nodup:=hnd
            ins:=by
              refine qR (by simp [hsl]) (λj h1 h2=>⟨?_,?_⟩)
              · simp only [List.length_map,hll]
                exact List.all_eq_true.1 hSok _ (List.getElem_mem h2)
              · simp only [List.length_map]at h1
                have e:=hlg j (by omega) h1
                have e2:l[j].2=Sin[j].ren (l.map (·.1)):=by
                  have:=congrArg (λx=>x[j]?) hS
                  simp only [List.getElem?_map,List.getElem?_eq_getElem h2,List.getElem?_eq_getElem h1,Option.map_some,so_]at this
                  exact this.symm
                simp only [List.getElem_map]
                show S l[j].1=_
                rw [ag.get e,e2]
            len:=by show Sin.length<=Sout.length;omega
            okR:=hr,okO:=hO,mutN:=by show mutOut (List.drop Sin.length Sout)=true;rw [List.drop_of_length_le (by omega)];rfl
            roOK:=(λe=>by cases e),have_:=(λn hn=>nomatch hn),cov:=(λn h' => .inr (hn n h')),dis:=(λn _ hn=>nomatch hn) }
  · have hdm:Sout.length-Sin.length=0:=by omega
    have e1:CallData.eff ⟨[],l.map (·.1),args0,Sin,r,Sout,false⟩ S d tk=⟨((l.map (·.1)).zip Sin).map (λp=>(p.1,p.2.ren (l.map (·.1)))),bD (l.map (·.1)) (l.map (·.1)) Sout,ren (l.map (·.1)) r⟩:=by
      simp only [CallData.eff,cond_false,CallData.names,hdm,iE,List.range_zero,List.map_nil,List.append_nil,dF,dG,List.nil_append]
    show K' (CallData.eff _ S d tk)
    rw [e1]
    refine hk _ _ ⟨λx hx => ?_,λx hx=>mX hx⟩ (λh=>by cases h) ?_ h
    · obtain ⟨y,hy,rfl⟩:=List.mem_map.1 hx
      exact (List.of_mem_zip hy).1
    · have e3:(l.map (·.1)).length=is.length:=by simp [hll]
      have ag1:=uQ (ν:=l.map (·.1)) ag hi hnd (bs:=Sout) (λj h1 h2=>by
        simp only [List.length_map]at h2
        exact⟨_,by simp only [List.getElem_map];exact hlg j h1 h2⟩)
      rw [List.take_of_length_le (by omega)]at ag1
      exact ag1.tail
theorem xW {l:List (Nm×Box)} {i:Nat} {n:Nm} {b:Box}:∀{is:List Nat} {l:List (Nm×Box)},fH H is=some l->H[i]? = some (n,some b)->fH H (is++[i])=some (l++[(n,b)])
  | [],l,h,hi=>by
    simp only [fH,so_]at h;subst h
    simp only [List.nil_append,fH,hi]
  | j::is,l,h,hi=>by
    simp only [fH]at h
    split at h
    · rename_i n' b' l' h1 h2
      simp only [so_]at h;subst h
      simp only [List.cons_append,fH,h1,xW (l:=l) h2 hi]
    · cases h
theorem rf (ρ:List Nm):∀(vs:List V) (i:Nat) (v:V),renL ρ (vs.set i v)=(renL ρ vs).set i (ren ρ v)
  | [],_,_=>rfl
  | _::_,0,_=>rfl
  | x::vs,i+1,v=>by simp only [List.set_cons_succ,renL,rf ρ vs i v]
theorem uL {k:Nat}:∀{vs:List V} {i:Nat} {v:V},okL k (vs.set i .none)=true->okV k v=true->okL k (vs.set i v)=true
  | [],_,_,_,_=>rfl
  | x::vs,0,v,h,hv=>by
    simp only [List.set_cons_zero,okL,Bool.and_eq_true]at h ⊢;exact⟨hv,h.2⟩
  | x::vs,i+1,v,h,hv=>by
    simp only [List.set_cons_succ,okL,Bool.and_eq_true]at h ⊢;exact⟨h.1,uL h.2 hv⟩
theorem gJ {α:Type}:∀{l:List α} {i:Nat} {a:α},l[i]? = some a->l.set i a=l
  | x::l,0,a,h=>by simp at h;subst h;rfl
  | x::l,i+1,a,h=>by simp only [List.set_cons_succ];rw [gJ (by simpa using h)]
  | [],_,_,h=>by simp at h
theorem qg {α:Type} {a b:List α} {i:Nat} {x y:α} (h:a.set i x=b.set i x):a.set i y=b.set i y:=by
  have:=congrArg (λl=>l.set i y) h
  simpa using this
theorem zD (ν:List Nm):∀(is:List Nat) (ns:List Nm) (bs:List (Option Box)) (i:Nat) (n:Nm) (o:Option Box),is.length=bs.length->is.length=ns.length->Eng.outs ν (is++[i]) (ns++[n]) (bs++[o])=Eng.outs ν is ns bs++[(i,n,o.map (·.ren ν))]
  | [],[],[],i,n,o,_,_=>rfl
  | j::is,m::ns,b::bs,i,n,o,h1,h2=>by simp only [List.cons_append,Eng.outs];rw [zD ν is ns bs i n o (by simpa using h1) (by simpa using h2)]
  | [],_::_,_,_,_,_,_,h=>by simp at h
  | [],[],_::_,_,_,_,h,_=>by simp at h
  | _::_,[],_,_,_,_,_,h=>by simp at h
  | _::_,_::_,[],_,_,_,h,_=>by simp at h
theorem zU (ν ν':List Nm):∀(is:List Nat) (ns:List Nm) (bs:List Box),bs.all (λb=>b.ok 0)=true->Eng.outs ν is ns (bs.map some)=Eng.outs ν' is ns (bs.map some)
  | [],_,_,_=>rfl
  | _::_,[],_,_=>rfl
  | _::_,_::_,[],_=>rfl
  | i::is,n::ns,b::bs,h=>by
    simp only [List.all_cons,Bool.and_eq_true]at h
    simp only [List.map_cons,Eng.outs,Option.map_some,mP h.1,zU ν ν' is ns bs h.2]
theorem wK {k:Nat} {os:List Box}:os.all (λb=>b.ok 0)=true->okOut k (os.map some)=true:=by
  induction os with
  | nil=>exact λ_=>rfl
  | cons b os ih =>
    intro h
    simp only [List.all_cons,Bool.and_eq_true]at h
    simp only [List.map_cons,okOut,Bool.and_eq_true]
    exact⟨Box.ok_mono (Nat.zero_le _) h.1,ih h.2⟩
theorem r9 {k:Nat}:∀{a b:List (Option Box)},okOut k a=true->okOut k b=true->okOut k (a++b)=true
  | [],_,_,h=>h
  | none::a,b,h1,h2=>by simp only [List.cons_append,okOut]at h1 ⊢;exact r9 h1 h2
  | some y::a,b,h1,h2=>by simp only [List.cons_append,okOut,Bool.and_eq_true]at h1 ⊢;exact⟨h1.1,r9 h1.2 h2⟩
theorem vX {vs:List V} {i:Nat} (h:((vs.set i .none).flatMap frz).all (λ_=>false)=true) {n:Nm} (hn:n∈vs.flatMap frz):∃v,vs[i]? = some v/\n∈frz v:=by
  have hx:(vs.set i .none).flatMap frz=[]:=by
    cases hx:(vs.set i .none).flatMap frz with
    | nil=>rfl
    | cons a b=>rw [hx]at h;simp at h
  obtain ⟨v,hv,hnv⟩:=List.mem_flatMap.1 hn
  obtain ⟨j,hj,rfl⟩:=List.getElem_of_mem hv
  by_cases hij:i=j
  · subst hij;exact⟨vs[i],List.getElem?_eq_getElem hj,hnv⟩
  · exfalso
    have:vs[j]∈vs.set i .none:=by
      have:(vs.set i V.none)[j]'(by simpa using hj)=vs[j]:=by rw [List.getElem_set_ne hij]
      rw [<- this];exact List.getElem_mem _
    have:=og hx _ this
    rw [this]at hnv;cases hnv
theorem AR {bs:List Box} (ρ:List Nm) (h:bs.all (λb=>b.ok 0)=true):bs.map (λb=>b.ren ρ)=bs:=by
  induction bs with
  | nil=>rfl
  | cons b bs ih=>simp only [List.all_cons,Bool.and_eq_true]at h;simp only [List.map_cons,mP h.1,ih h.2]
theorem tZ {a b:List Nm}:∀{vs:List V},okL a.length vs=true->renL (a++b) vs=renL a vs:=by
  intro vs h
  have key:∀n,okN a.length n=true->kN (a++b) n=kN a n:=by
    intro n hn
    obtain ⟨i,hi,rfl⟩:=mK hn
    rw [mI hi,mI (by simp;omega)]
    simp [List.getElem_append_left hi]
  have go:∀v,okV a.length v=true->ren (a++b) v=ren a v:=by
    intro v
    induction v using V.rec (motive_2:=λvs=>okL a.length vs=true->renL (a++b) vs=renL a vs)with
    | ref n i j=>intro h;simp only [ren];rw [key n h]
    | vs n sz k len=>intro h;simp only [ren];rw [key n h]
    | map n=>intro h;simp only [ren];rw [key n h]
    | fn f caps ih=>intro h;simp only [ren];rw [ih h]
    | agg cs ih=>intro h;simp only [ren];rw [ih h]
    | tup vs ih=>intro h;simp only [ren];rw [ih h]
    | nil=>intro h;rfl
    | cons v vs ih1 ih2 =>
      rename_i h
      simp only [okL,Bool.and_eq_true]at h
      simp only [renL,ih1 h.1,ih2 h.2]
    | _=>intro h;rfl
  induction vs with
  | nil=>rfl
  | cons v vs ih =>
    simp only [okL,Bool.and_eq_true]at h
    simp only [renL,go v h.1,ih h.2]
theorem h_callv {α:Type} {enc:α->List D} {sz:Nat} {xs:List α} {f:Operand} {args:List Operand} {ats:Array TypeId} {fn:FuncId} {caps args0:List V} {r:V} {bs os:List Box} {o:Option Box} (p:Nat) (is:List Nat) (iv po:Nat) {l:List (Nm×Box)} {n:Nm} {w:V}
    (hp:q=none\/Nat.beq all.length (p+(rest.length+1))=true)
    (hfp:∀S tk,AgR H S tk (⟨some d,.call ⟨.value f,args.toArray,ats⟩,ty,pos,after,g⟩::rest)->okQ q all p (l.map (·.1)++[n]) true)
    (hc:FnM C.P fn args0 (bs++gI sz enc xs) r (os.map some++gT xs o))
    (hf:ev sl f = .fn fn caps) (hb:aC C.P fn=true) (hl:fH H is=some l) (hv:H[iv]? = some (n,gB sz enc xs))
    (hS:l.map (·.2)=bs) (hSok:bs.all (λb=>b.ok 0)=true)
    (hw1:(args.map (ev sl)++caps)[po]? = some w) (hw2:w=gV n sz xs\/w=dV n sz xs\/w=vV n sz xs/\xs ≠ []) (hp0:args0[po]? = some (dV (ak is.length) sz xs))
    (hn:(((args.map (ev sl)++caps).set po .none).flatMap frz).all (λn=>false)=true)
    (ha:((args.map (ev sl)++caps).map co0).set po .none=(renL (l.map (·.1)) args0).set po .none) (hok:okL is.length (args0.set po .none)=true) (hr:okV 0 r=true)
    (hlen:os.length=is.length) (hi:(is++[iv]).Nodup) (hO:os.all (λb=>b.ok 0)=true) (ho:∀b,o=some b->b.ok 0=true) (hon:xs=[]->o=none)
    (hw:aH all sl ⟨some d,.call ⟨.value f,args.toArray,ats⟩,ty,pos,after,g⟩=some true)
    (H':Hp) (hH:(setH H (outs (l.map (·.1)) is (l.map (·.1)) (os.map some))).set iv (n,o)=H')
    (h:aS (lH q p (l.map (·.1)++[n]) true) C all K rest (upd sl d r) H') :
    aS q C all K (⟨some d,.call ⟨.value f,args.toArray,ats⟩,ty,pos,after,g⟩::rest) sl H:=by
  have hll:=(jb hl).1
  have hbs:bs.length=l.length:=by rw [<- hS];simp
  have hivs:iv∉is:=by
    rw [List.nodup_append]at hi
    exact λhm=>hi.2.2 iv hm iv (by simp) rfl
  have hisn:is.Nodup:=(List.nodup_append.1 hi).1
  have hset:∀{l':List (Nat×Nm×Option Box)} {H0:Hp},(∀p∈l',p.1≠iv)->(setH H0 l')[iv]? = H0[iv]? := by
    intro l'
    induction l' with
    | nil=>intro H0 _;rfl
    | cons x l' ih =>
      intro H0 hx
      obtain ⟨i,m,b⟩:=x
      simp only [setH]
      rw [ih (λp hp=>hx p (by simp [hp]))]
      have:i≠iv:=hx (i,m,b) (by simp)
      rw [List.getElem?_set_ne this]
  have houts:∀(ν:List Nm) (is:List Nat) (ns:List Nm) (os:List (Option Box)),∀p∈outs ν is ns os,p.1∈is:=by
    intro ν is
    induction is with
    | nil=>intro ns os p hp;simp [outs]at hp
    | cons i is ih =>
      intro ns os p hp
      cases ns with
      | nil=>simp [outs]at hp
      | cons m ns=>cases os with
        | nil=>simp [outs]at hp
        | cons o os =>
          simp only [outs,List.mem_cons]at hp
          rcases hp with rfl|hp
          · simp
          · exact List.mem_cons_of_mem _ (ih _ _ _ hp)
  have hco:∀(S:Store),(w=gV n sz xs\/w=dV n sz xs\/w=vV n sz xs/\xs ≠ [])->(∀x l,xs=x::l->S n=some (.vec sz (xs.map enc)))->co S w=dV n sz xs:=by
    intro S hw2 hS
    cases hxs:xs with
    | nil =>
      subst hxs
      rcases hw2 with h2|h2|⟨h2,h3⟩
      · rw [h2];rfl
      · rw [h2];rfl
      · exact absurd rfl h3
    | cons x l =>
      have:=hS x l hxs
      have e:w = .vs n sz 0 (x::l).length:=by rcases hw2 with h2 | h2 | ⟨h2,_⟩ <;> rw [h2,hxs] <;> rfl
      rw [e]
      simp only [co,co1,this,dV]
  have hargs:∀S:Store,co S w=dV n sz xs->(args.map (ev sl)++caps).map (co S)=((args.map (ev sl)++caps).map co0).set po (dV n sz xs):=by
    intro S hcw
    have h1:(args.map (ev sl)++caps)=((args.map (ev sl)++caps).set po .none).set po w:=by
      rw [List.set_set,gJ hw1]
    have h2:(((args.map (ev sl)++caps).set po .none)).map (co S)=(((args.map (ev sl)++caps).set po .none)).map co0:=sO (by
      cases hx:((args.map (ev sl)++caps).set po .none).flatMap frz with
      | nil=>rfl
      | cons a b=>rw [hx]at hn;simp at hn)
    have h3:(args.map (ev sl)++caps).map (co S)=((((args.map (ev sl)++caps).set po .none)).map (co S)).set po (co S w):=by
      rw [<- List.map_set,<- h1]
    rw [h3,h2,hcw,List.map_set,List.set_set]
  have h0:=ha
  cases hxs:xs with
  | nil =>
    have hobn:o=none:=hon hxs
    subst hobn
    have hc':FnM C.P fn args0 bs r (os.map some):=by rw [hxs]at hc;simpa [gI,gT]using hc
    have hq:okL is.length args0=true:=by
      have:=uL (v:=dV (ak is.length) sz xs) hok (by rw [hxs];rfl)
      rwa [gJ hp0]at this
    refine qN p is hp (λS tk ag=>okQ_sub (λm hm=>by simp [hm]) (hfp S tk ag)) hc' hf hb hl ?_ ?_ ?_ ?_ hq (kr (Nat.zero_le _) r hr) (by simp [hlen]) hisn (wK hO) hw r (jD hr) H' ?_ ?_
    · rw [hS,AR _ hSok]
    · exact List.all_eq_true.2 (λb hb'=>Box.ok_mono (Nat.zero_le _) (List.all_eq_true.1 hSok b hb'))
    · intro m hm
      obtain ⟨v,hv1,hv2⟩:=vX hn hm
      rw [hw1]at hv1
      simp only [so_]at hv1
      subst hv1
      exfalso
      rcases hw2 with h2|h2|⟨_,h2⟩
      · rw [h2,hxs]at hv2;cases hv2
      · rw [h2,hxs]at hv2;cases hv2
      · exact h2 hxs
    · intro S tk ag
      refine ArgsOK.of_map ?_
      rw [hargs S (hco S hw2 (λx l e=>by rw [hxs]at e;cases e)),qg ha]
      have:(renL (l.map (·.1)) args0)[po]? = some (dV n sz xs):=by
        obtain ⟨hlt,he⟩:=List.getElem?_eq_some_iff.1 hp0
        rw [List.getElem?_eq_getElem (by rw [aZ];exact hlt),gu _ _ _ _ hlt,he,hxs];rfl
      rw [gJ this]
    · rw [<- hH]
      symm
      apply gJ
      rw [hset (λp hp e=>hivs (e ▸ houts _ _ _ _ p hp)),hv,hxs];rfl
    · cases q with
      | none=>exact h
      | some Γ =>
        intro S tk ok ag k L hk hL hO'
        refine h S tk ok ag k L hk (λp0 hp0' => ?_) (λe he m hm => ?_)
        · rcases hL p0 hp0' with h1 | ⟨e,h1,h2,h3,h4,h5⟩
          · exact .inl h1
          · refine .inr ?_
            rcases List.mem_append.1 h1 with h1|h1
            · exact⟨e,List.mem_append.2 (.inl h1),h2,h3,h4,h5⟩
            · rw [List.mem_singleton]at h1;subst h1
              exact⟨(p,l.map (·.1)++[n],true),by simp,h2,λx hx=>by simp only [List.mem_append];exact .inl (h3 x hx),λx hx=>by simp only [List.mem_append];exact .inl (h4 x hx),λe=>by cases e⟩
        · rcases List.mem_append.1 he with he | he
          · exact hO' e (List.mem_append.2 (.inl he)) m hm
          · rw [List.mem_singleton]at he;subst he
            simp only at hm
            rcases List.mem_append.1 hm with hm|hm
            · exact hO' (p,l.map (·.1),true) (by simp) m hm
            · rw [List.mem_singleton]at hm;subst hm
              rw [<- hH]at ag
              have:((setH H (outs (l.map (·.1)) is (l.map (·.1)) (os.map some))).set iv (m,none))[iv]? = some (m,none):=by
                have h1:=(List.getElem?_eq_some_iff.1 hv).1
                rw [List.getElem?_set_self (by rw [setH_at];exact h1)]
              exact (ag.at_ _ (List.mem_of_getElem? this)).1
  | cons x l' =>
    have hgB:gB sz enc xs=some (.vec sz (xs.map enc)):=by rw [hxs];rfl
    have hv':H[iv]? = some (n,some (.vec sz (xs.map enc))):=by rw [hv,hgB]
    have hc':FnM C.P fn args0 (bs++[.vec sz (xs.map enc)]) r (os.map some++[o]):=by rw [hxs]at hc ⊢;exact hc
    have hp1:=xW (l:=l) hl hv'
    have hmap:(l++[(n,Box.vec sz (xs.map enc))]).map (·.1)=l.map (·.1)++[n]:=by simp
    have hdv:dV (ak is.length) sz xs = .vs (ak is.length) sz 0 xs.length:=by rw [hxs];rfl
    have hq:okL (is++[iv]).length args0=true:=by
      have:=uL (v:=dV (ak is.length) sz xs) (jZ (Nat.le_add_right is.length 1) _ hok) (by rw [hdv];exact jF (ls_ _))
      rw [gJ hp0]at this
      simpa using this
    refine qN p (is++[iv]) hp (λS tk ag=>by rw [hmap];exact hfp S tk ag) hc' hf hb hp1 ?_ ?_ ?_ ?_ hq (kr (Nat.zero_le _) r hr) (by simp [hlen]) hi ?_ hw r (jD hr) H' ?_ ?_
    · rw [List.map_append,AR _ hSok]
      simp only [List.map_cons,List.map_nil,List.map_append,hS,Box.ren]
    · rw [List.all_append]
      simp only [Bool.and_eq_true]
      exact⟨List.all_eq_true.2 (λb hb'=>Box.ok_mono (Nat.zero_le _) (List.all_eq_true.1 hSok b hb')),rfl⟩
    · intro m hm
      obtain ⟨v,hv1,hv2⟩:=vX hn hm
      rw [hw1]at hv1
      simp only [so_]at hv1
      subst hv1
      have e:w = .vs n sz 0 xs.length:=by rcases hw2 with h2 | h2 | ⟨h2,_⟩ <;> rw [h2,hxs] <;> rfl
      rw [e]at hv2
      rw [hmap]
      have:m=n:=by simpa [frz,Am]using hv2
      rw [this];simp
    · intro S tk ag
      refine ArgsOK.of_map ?_
      rw [hargs S (hco S hw2 (λ_ _ _=>ag.get hv')),qg ha,hmap]
      have hpl:po<args0.length:=(List.getElem?_eq_some_iff.1 hp0).1
      have h1:args0=(args0.set po .none).set po (dV (ak is.length) sz xs):=by rw [List.set_set,gJ hp0]
      have h2:renL (l.map (·.1)++[n]) args0=(renL (l.map (·.1)) (args0.set po .none)).set po (dV n sz xs):=by
        conv=>lhs;rw [h1]
        rw [rf,tZ (by simp only [List.length_map,hll];exact hok),hdv]
        simp only [ren]
        rw [jK (n:=n) (by rw [List.getElem?_append_right (by simp [hll])];simp [hll])]
        rw [hxs];rfl
      rw [h2,rf,List.set_set]
    · refine r9 (wK hO) ?_
      cases o with
      | none=>rfl
      | some b=>simp only [okOut,Bool.and_true];exact Box.ok_mono (Nat.zero_le _) (ho b rfl)
    · rw [<- hH,hmap,zD _ _ _ _ _ _ _ (by simp [hlen]) (by simp [hll]),EC,zU _ (l.map (·.1)) _ _ _ hO]
      simp only [setH]
      cases o with
      | none=>rfl
      | some b=>simp only [Option.map_some,mP (ho b rfl)]
    · rw [hmap];exact h
theorem gB_ok {α:Type} {sz:Nat} {enc:α->List D} {xs:List α}:∀b,gB sz enc xs=some b->b.ok 0=true:=by
  intro b h
  cases xs with
  | nil=>cases h
  | cons x xs=>cases h;rfl
end
end Go.Eng

/-
  THE ENGINE: rules for maps, arrays and new slices of zeros.
-/
namespace Go.Eng
set_option linter.unusedSectionVars false
variable [DM]
set_option linter.unusedVariables false
set_option linter.unusedSimpArgs false
section
variable {C:Cfg} {sl:Nat->V} {H:Hp} {q:Qm} {all rest:List Oper} {K:(Nat->V)->Hp->Prop}
variable {dst:Option Tmp} {d:Nat} {t ty:TypeId} {pos:String} {after:Array Edge} {g:Option (Nat×Bool)}
end
end Go.Eng

/-
  THE ENGINE: slices with room made ahead; functions that are handed two slices in their boxes.
-/
namespace Go.Eng
set_option linter.unusedSectionVars false
variable [DM]
set_option linter.unusedVariables false
set_option linter.unusedSimpArgs false
section
variable {C:Cfg} {Q:QH} {sl:Nat->V} {H:Hp} {c:Code}
end
section
variable {C:Cfg} {sl:Nat->V} {H:Hp} {q:Qm} {all rest:List Oper} {K:(Nat->V)->Hp->Prop}
variable {dst:Option Tmp} {d:Nat} {t ty:TypeId} {pos:String} {after:Array Edge} {g:Option (Nat×Bool)}
end
section
variable {C:Cfg} {sl:Nat->V} {H:Hp} {q:Qm} {all rest:List Oper} {K:(Nat->V)->Hp->Prop}
variable {d:Nat} {t ty:TypeId} {pos:String} {after:Array Edge} {g:Option (Nat×Bool)}
end
end Go.Eng

/-
  THE ENGINE: functions that are handed two slices in their boxes.
-/
namespace Go.Eng
set_option linter.unusedSectionVars false
variable [DM]
set_option linter.unusedVariables false
set_option linter.unusedSimpArgs false
def okO (os:List (Option Box)):Bool:=os.all λo=>match o with
  | some b=>b.ok 0
  | none=>true
theorem ArgsOK.set {S:Store} {x y x' y':V} (hxy:y'=x'\/y'=co S x'):∀{a b:List V} {i:Nat},ArgsOK S (a.set i x) (b.set i y)->ArgsOK S (a.set i x') (b.set i y')
  | [],[],i,h=>by simpa using h
  | [],b::bs,i,h=>by cases i <;> (simp at h;cases h)
  | a::az,[],i,h=>by cases i <;> (simp at h;cases h)
  | a::az,b::bs,0,h=>by
    simp only [List.set_cons_zero]at h ⊢
    cases h with
    | cons _ t=>exact .cons hxy t
  | a::az,b::bs,i+1,h=>by
    simp only [List.set_cons_succ]at h ⊢
    cases h with
    | cons h1 t=>exact .cons h1 (ArgsOK.set hxy t)
section
variable {C:Cfg} {sl:Nat->V} {H:Hp} {q:Qm} {all rest:List Oper} {K:(Nat->V)->Hp->Prop}
variable {dst:Option Tmp} {d:Nat} {t ty:TypeId} {pos:String} {after:Array Edge} {g:Option (Nat×Bool)}
theorem more_fp {p:Nat} {T T':List Nm} {sl':Nat->V} {H':Hp} (hT:∀m∈T,m∈T') (hH:∀m∈T',m∈T\/m∈H'.map (·.1)) (h:aS (lH q p T' true) C all K rest sl' H'):aS (lH q p T true) C all K rest sl' H':=by
  cases q with
  | none=>exact h
  | some Γ =>
    intro S tk ok ag k L hk hL hO'
    refine h S tk ok ag k L hk (λp0 hp0' => ?_) (λe he m hm => ?_)
    · rcases hL p0 hp0' with h1 | ⟨e,h1,h2,h3,h4,h5⟩
      · exact .inl h1
      · refine .inr ?_
        rcases List.mem_append.1 h1 with h1|h1
        · exact⟨e,List.mem_append.2 (.inl h1),h2,h3,h4,h5⟩
        · rw [List.mem_singleton]at h1;subst h1
          exact⟨(p,T',true),by simp,h2,λx hx=>hT _ (h3 x hx),λx hx=>hT _ (h4 x hx),λe=>by cases e⟩
    · rcases List.mem_append.1 he with he | he
      · exact hO' e (List.mem_append.2 (.inl he)) m hm
      · rw [List.mem_singleton]at he;subst he
        simp only at hm
        rcases hH m hm with hm|hm
        · exact hO' (p,T,true) (by simp) m hm
        · obtain ⟨x,hx,rfl⟩:=List.mem_map.1 hm
          exact (ag.at_ x hx).1
theorem vE {H0:Hp} (h:H.take H0.length=H0):pre H0 H:=aX h
theorem wH_coc0 {Q:QH} {c:Code} {s:Nat} {m:Nm} {cs:List V} (j:Nat) (cs':List V) (hj:H[j]? = some (m,some (.cells s cs))) (hc:∀S,cs.map (co1 S)=cs') (hw:wH C c Q sl (H.set j (m,some (.cells s cs')))):wH C c Q sl H:=by
  refine ol hw (λS t ag => ?_)
  have hm:=ag.get hj
  refine⟨supd S m (some (.cells s (cs.map (co1 S)))),Gst.coB ⟨sl,S,t⟩ m s cs hm,?_⟩
  rw [hc S]
  exact ag.set hj (λx hx=>hx)
end
end Go.Eng

/-
  THE ENGINE: a sort of the library's, by its contract off the shelf.
-/
namespace Go.Eng
set_option linter.unusedSectionVars false
variable [DM]
open Go.Sort
set_option linter.unusedVariables false
set_option linter.unusedSimpArgs false
theorem j3.alone {G:Gh} {w:World} {vargs:List Value} {a:V} (h:j3 G w vargs [a]):∃x,vargs=[x]/\RepV G w x a:=by
 obtain ⟨hl,h⟩:=h
 match vargs,hl with
 | [x],_=>exact⟨x,rfl,h 0 (by simp) (by simp)⟩
end Go.Eng

