/-
  The engine: what the machine does to data, shown once for all programs (part 4).
-/
import Derived.Test.YtipjpkpmkijdoabEng3
import Derived.Sort.Row
import Derived.Sort.Grow
/-
  THE ENGINE: parts of a slice over a box; clear.
-/
namespace Go.Eng
set_option linter.unusedSectionVars false
variable [DM]
set_option linter.unusedVariables false
set_option linter.unusedSimpArgs false
theorem gB_cons {α:Type} {sz:Nat} {enc:α→List D} {xs:List α} (h:xs ≠ []):gB sz enc xs=some (bV sz enc xs):=by cases xs with
 | nil=>exact absurd rfl h
 | cons x xs=>rfl
section
variable {C:Cfg} {Q:QH} {sl:Nat→V} {H:Hp} {c:Code}
end
section
variable {C:Cfg} {sl:Nat→V} {H:Hp} {q:Qm} {all rest:List Oper} {K:(Nat→V)→Hp→Prop}
 {dst:Option Tmp} {t ty e:TypeId} {pos:String} {after:Array Edge} {g:Option (Nat×Bool)}
section part
variable {α:Type} {enc:α→List D} {xs:List α} {sz:Nat} {n:Nm} {x l hi:Operand} {k k':IntKind} {a b:Int} {u:Unit}
end part
end
end Go.Eng

/-
  THE ENGINE: a slice that a function writes into: its box is handed in and handed back.
-/
namespace Go.Eng
set_option linter.unusedSectionVars false
variable [DM]
set_option linter.unusedVariables false
set_option linter.unusedSimpArgs false
def dV {α:Type} (n:Nm) (sz:Nat):List α→V
  | [] => .d (.sl [])
  | x::xs => .vs n sz 0 (x::xs).length
def gI {α:Type} (sz:Nat) (enc:α→List D):List α→List Box
  | [] => []
  | x::xs => [.vec sz ((x::xs).map enc)]
def gT {α:Type} (xs:List α) (o:Option Box):List (Option Box):=match xs with
  | [] => []
  | _::_ => [o]
def neL {α:Type} (xs:List α):Option Unit:=match xs with
  | []=>none
  | _::_=>some ()
def sameL {α β:Type} (xs:List α) (ys:List β):Option Unit:=if xs.length=ys.length then some ()else none
def inN (i:Int) (len:Nat):Option Unit:=if 0≤i∧i.toNat < len then some ()else none
theorem neL_ne {α:Type} {xs:List α} {u:Unit} (h:neL xs=some u):xs ≠ []:=by
  cases xs with
  | nil=>cases h
  | cons x xs=>simp
theorem sameL_eq {α β:Type} {xs:List α} {ys:List β} {u:Unit} (h:sameL xs ys=some u):xs.length=ys.length:=by
  unfold sameL at h; split at h
  · assumption
  · cases h
theorem inN_0 {i:Int} {n:Nat} {u:Unit} (h:inN i n=some u):0≤i:=by
  unfold inN at h; split at h
  · rename_i h1; exact h1.1
  · cases h
theorem inN_lt {i:Int} {n:Nat} {u:Unit} (h:inN i n=some u):i.toNat < n:=by
  unfold inN at h; split at h
  · rename_i h1; exact h1.2
  · cases h
theorem gB_ho {α:Type} {sz:Nat} {enc:α→List D} {xs ys:List α} (h:ys.length=xs.length):xs = []→gB sz enc ys=none:=fun e=>by
  subst e
  cases ys with
  | nil=>rfl
  | cons y ys=>simp at h
section
variable {C:Cfg} {sl:Nat→V} {H:Hp} {Q:QH} {c:Code}
end
section
variable {C:Cfg} {sl:Nat→V} {H:Hp} {q:Qm} {all rest:List Oper} {K:(Nat→V)→Hp→Prop}
variable {dst:Option Tmp} {d:Nat} {t ty:TypeId} {pos:String} {after:Array Edge} {g:Option (Nat×Bool)}
theorem h_reH (i:Nat) {n:Nm} {b b':Option Box} (h:H[i]? = some (n,b)) (e:b=b') (hw:opsH q C all K rest sl (H.set i (n,b'))):opsH q C all K rest sl H:=by
  subst e
  have hi:=(List.getElem?_eq_some_iff.1 h)
  rwa [← hi.2,List.set_getElem_self]at hw
theorem h_lenp {n:Nm} {sz k len:Nat} {x:Operand} {e:TypeId} (hu:C.P.underlying t=some (.slice e)) (hx:ev sl x = .vs n sz k len) (hw:wantedD all sl ⟨dst,.call ⟨.builtin .len,#[x],#[t]⟩,ty,pos,after,g⟩=some true)
    (h:opsH q C all K rest (putS sl dst (vI len)) H):opsH q C all K (⟨dst,.call ⟨.builtin .len,#[x],#[t]⟩,ty,pos,after,g⟩::rest) sl H :=
  h_lenv (v:=vI len) (by rw [hx]; simp only [lenF,hu]) hw h
theorem h_callX {f:Operand} {args:List Operand} {ats:Array TypeId} {fn:FuncId} {caps args0:List V} {r:V} {Sin:List Box} {Sout:List (Option Box)} (p:Nat) (is:List Nat) {l:List (Nm×Box)} (hp:q=none∨Nat.beq all.length (p + (rest.length + 1))=true)
    (hfp:∀ S tk,AgR H S tk (⟨some d,.call ⟨.value f,args.toArray,ats⟩,ty,pos,after,g⟩::rest)→okQ q all p (l.map (·.1)) true) (hc:FnM C.P fn args0 Sin r Sout)
    (hf:ev sl f = .fn fn caps) (hb:hasBody C.P fn=true) (hl:pickH H is=some l) (hS:Sin.map (fun b=>b.ren (l.map (·.1)))=l.map (·.2)) (hSok:Sin.all (fun b=>b.ok is.length)=true)
    (hn:∀ n∈(args.map (ev sl)++caps).flatMap frz,n∈l.map (·.1)) (ha:∀ S tk,AgR H S tk (⟨some d,.call ⟨.value f,args.toArray,ats⟩,ty,pos,after,g⟩::rest)→ArgsOK S (args.map (ev sl)++caps) (renL (l.map (·.1)) args0)) (hok:okL is.length args0=true) (hr:okV Sout.length r=true)
    (hlen:Sout.length=is.length) (hi:is.Nodup) (hO:okOut Sout.length Sout=true)
    (hw:wantedD all sl ⟨some d,.call ⟨.value f,args.toArray,ats⟩,ty,pos,after,g⟩=some true)
    (v:V) (hv:ren (l.map (·.1)) r=v) (H':Hp) (hH:setH H (outs (l.map (·.1)) is (l.map (·.1)) Sout)=H')
    (h:opsH (addQ q p (l.map (·.1)) true) C all K rest (upd sl d v) H') :
    opsH q C all K (⟨some d,.call ⟨.value f,args.toArray,ats⟩,ty,pos,after,g⟩::rest) sl H:=by
  subst hv hH
  obtain ⟨hll,hlg⟩:=pickH_mem hl
  have hsl:Sin.length=l.length:=by have:=congrArg List.length hS; simpa using this
  refine h_touch p (l.map (·.1)) true hp hfp (pickH_sub hl) hw (fun S tk K' ok ag hk=>opD_call hf ?_)
  have hnd:=nodup_pick ag hi hl
  refine .inl ⟨hb,⟨[],l.map (·.1),args0,Sin,r,Sout,false⟩,?_,(fun e=>by cases e),?_⟩
  · exact { does := hc
            args:=ha S tk ag
            okA:=by simp only [List.length_map,hll]; exact hok
            nodup:=hnd
            ins:=by
              refine insOK_of (by simp [hsl]) (fun j h1 h2=>⟨?_,?_⟩)
              · simp only [List.length_map,hll]
                exact List.all_eq_true.1 hSok _ (List.getElem_mem h2)
              · simp only [List.length_map]at h1
                have e:=hlg j (by omega) h1
                have e2:l[j].2=Sin[j].ren (l.map (·.1)):=by
                  have:=congrArg (fun x=>x[j]?) hS
                  simp only [List.getElem?_map,List.getElem?_eq_getElem h2,List.getElem?_eq_getElem h1,Option.map_some,Option.some.injEq]at this
                  exact this.symm
                simp only [List.getElem_map]
                show S l[j].1=_
                rw [ag.get e,e2]
            len:=by show Sin.length≤Sout.length; omega
            okR:=hr,okO:=hO,mutN:=by show mutOut (List.drop Sin.length Sout)=true; rw [List.drop_of_length_le (by omega)]; rfl
            roOK:=(fun e=>by cases e),have_:=(fun n hn=>nomatch hn),cov:=(fun n h' => .inr (hn n h')),dis:=(fun n _ hn=>nomatch hn) }
  · have hdm:Sout.length - Sin.length=0:=by omega
    have e1:CallData.eff ⟨[],l.map (·.1),args0,Sin,r,Sout,false⟩ S d tk=⟨((l.map (·.1)).zip Sin).map (fun p=>(p.1,p.2.ren (l.map (·.1)))),outUpd (l.map (·.1)) (l.map (·.1)) Sout,ren (l.map (·.1)) r⟩:=by
      simp only [CallData.eff,cond_false,CallData.names,hdm,newN,List.range_zero,List.map_nil,List.append_nil,freezeReq,freezeUpd,List.nil_append]
    show K' (CallData.eff _ S d tk)
    rw [e1]
    refine hk _ _ ⟨fun x hx => ?_,fun x hx=>outUpd_names hx⟩ (fun h=>by cases h) ?_ h
    · obtain ⟨y,hy,rfl⟩:=List.mem_map.1 hx
      exact (List.of_mem_zip hy).1
    · have e3:(l.map (·.1)).length=is.length:=by simp [hll]
      have ag1:=outs_ok (ν:=l.map (·.1)) ag hi hnd (bs:=Sout) (fun j h1 h2=>by
        simp only [List.length_map]at h2
        exact⟨_,by simp only [List.getElem_map]; exact hlg j h1 h2⟩)
      rw [List.take_of_length_le (by omega)]at ag1
      exact ag1.tail
theorem pickH_app {l:List (Nm×Box)} {i:Nat} {n:Nm} {b:Box}:∀ {is:List Nat} {l:List (Nm×Box)},pickH H is=some l→H[i]? = some (n,some b)→pickH H (is ++ [i])=some (l ++ [(n,b)])
  | [],l,h,hi=>by
    simp only [pickH,Option.some.injEq]at h; subst h
    simp only [List.nil_append,pickH,hi]
  | j::is,l,h,hi=>by
    simp only [pickH]at h
    split at h
    · rename_i n' b' l' h1 h2
      simp only [Option.some.injEq]at h; subst h
      simp only [List.cons_append,pickH,h1,pickH_app (l:=l) h2 hi]
    · cases h
theorem renL_set (ρ:List Nm):∀ (vs:List V) (i:Nat) (v:V),renL ρ (vs.set i v)=(renL ρ vs).set i (ren ρ v)
  | [],_,_=>rfl
  | _::_,0,_=>rfl
  | x::vs,i + 1,v=>by simp only [List.set_cons_succ,renL,renL_set ρ vs i v]
theorem okL_set {k:Nat}:∀ {vs:List V} {i:Nat} {v:V},okL k (vs.set i .none)=true→okV k v=true→okL k (vs.set i v)=true
  | [],_,_,_,_=>rfl
  | x::vs,0,v,h,hv=>by
    simp only [List.set_cons_zero,okL,Bool.and_eq_true]at h ⊢; exact⟨hv,h.2⟩
  | x::vs,i + 1,v,h,hv=>by
    simp only [List.set_cons_succ,okL,Bool.and_eq_true]at h ⊢; exact⟨h.1,okL_set h.2 hv⟩
theorem set_get {α:Type}:∀ {l:List α} {i:Nat} {a:α},l[i]? = some a→l.set i a=l
  | x::l,0,a,h=>by simp at h; subst h; rfl
  | x::l,i + 1,a,h=>by simp only [List.set_cons_succ]; rw [set_get (by simpa using h)]
  | [],_,_,h=>by simp at h
theorem set_eq_set {α:Type} {a b:List α} {i:Nat} {x y:α} (h:a.set i x=b.set i x):a.set i y=b.set i y:=by
  have:=congrArg (fun l=>l.set i y) h
  simpa using this
theorem outs_app (ν:List Nm):∀ (is:List Nat) (ns:List Nm) (bs:List (Option Box)) (i:Nat) (n:Nm) (o:Option Box),is.length=bs.length→is.length=ns.length→Eng.outs ν (is ++ [i]) (ns ++ [n]) (bs ++ [o])=Eng.outs ν is ns bs ++ [(i,n,o.map (·.ren ν))]
  | [],[],[],i,n,o,_,_=>rfl
  | j::is,m::ns,b::bs,i,n,o,h1,h2=>by simp only [List.cons_append,Eng.outs]; rw [outs_app ν is ns bs i n o (by simpa using h1) (by simpa using h2)]
  | [],_::_,_,_,_,_,_,h=>by simp at h
  | [],[],_::_,_,_,_,h,_=>by simp at h
  | _::_,[],_,_,_,_,_,h=>by simp at h
  | _::_,_::_,[],_,_,_,h,_=>by simp at h
theorem outs_ok0 (ν ν':List Nm):∀ (is:List Nat) (ns:List Nm) (bs:List Box),bs.all (fun b=>b.ok 0)=true→Eng.outs ν is ns (bs.map some)=Eng.outs ν' is ns (bs.map some)
  | [],_,_,_=>rfl
  | _::_,[],_,_=>rfl
  | _::_,_::_,[],_=>rfl
  | i::is,n::ns,b::bs,h=>by
    simp only [List.all_cons,Bool.and_eq_true]at h
    simp only [List.map_cons,Eng.outs,Option.map_some,bren_ok h.1,outs_ok0 ν ν' is ns bs h.2]
theorem okOut_some {k:Nat} {os:List Box}:os.all (fun b=>b.ok 0)=true→okOut k (os.map some)=true:=by
  induction os with
  | nil=>exact fun _=>rfl
  | cons b os ih =>
    intro h
    simp only [List.all_cons,Bool.and_eq_true]at h
    simp only [List.map_cons,okOut,Bool.and_eq_true]
    exact⟨Box.ok_mono (Nat.zero_le _) h.1,ih h.2⟩
theorem okOut_app {k:Nat}:∀ {a b:List (Option Box)},okOut k a=true→okOut k b=true→okOut k (a++b)=true
  | [],_,_,h=>h
  | none::a,b,h1,h2=>by simp only [List.cons_append,okOut]at h1 ⊢; exact okOut_app h1 h2
  | some y::a,b,h1,h2=>by simp only [List.cons_append,okOut,Bool.and_eq_true]at h1 ⊢; exact⟨h1.1,okOut_app h1.2 h2⟩
theorem flat_set {vs:List V} {i:Nat} (h:((vs.set i .none).flatMap frz).all (fun _=>false)=true) {n:Nm} (hn:n∈vs.flatMap frz):∃ v,vs[i]? = some v∧n∈frz v:=by
  have hx:(vs.set i .none).flatMap frz = []:=by
    cases hx:(vs.set i .none).flatMap frz with
    | nil=>rfl
    | cons a b=>rw [hx]at h; simp at h
  obtain ⟨v,hv,hnv⟩:=List.mem_flatMap.1 hn
  obtain ⟨j,hj,rfl⟩:=List.getElem_of_mem hv
  by_cases hij:i=j
  · subst hij; exact⟨vs[i],List.getElem?_eq_getElem hj,hnv⟩
  · exfalso
    have:vs[j]∈vs.set i .none:=by
      have:(vs.set i V.none)[j]'(by simpa using hj)=vs[j]:=by rw [List.getElem_set_ne hij]
      rw [← this]; exact List.getElem_mem _
    have:=flat_nil hx _ this
    rw [this]at hnv; cases hnv
theorem bren_all {bs:List Box} (ρ:List Nm) (h:bs.all (fun b=>b.ok 0)=true):bs.map (fun b=>b.ren ρ)=bs:=by
  induction bs with
  | nil=>rfl
  | cons b bs ih=>simp only [List.all_cons,Bool.and_eq_true]at h; simp only [List.map_cons,bren_ok h.1,ih h.2]
theorem renL_ok_ext {a b:List Nm}:∀ {vs:List V},okL a.length vs=true→renL (a++b) vs=renL a vs:=by
  intro vs h
  have key:∀ n,okN a.length n=true→renN (a++b) n=renN a n:=by
    intro n hn
    obtain ⟨i,hi,rfl⟩:=okN_spec hn
    rw [renN_ext hi,renN_ext (by simp; omega)]
    simp [List.getElem_append_left hi]
  have go:∀ v,okV a.length v=true→ren (a++b) v=ren a v:=by
    intro v
    induction v using V.rec (motive_2:=fun vs=>okL a.length vs=true→renL (a++b) vs=renL a vs)with
    | ref n i j=>intro h; simp only [ren]; rw [key n h]
    | vs n sz k len=>intro h; simp only [ren]; rw [key n h]
    | map n=>intro h; simp only [ren]; rw [key n h]
    | fn f caps ih=>intro h; simp only [ren]; rw [ih h]
    | agg cs ih=>intro h; simp only [ren]; rw [ih h]
    | tup vs ih=>intro h; simp only [ren]; rw [ih h]
    | nil=>intro h; rfl
    | cons v vs ih1 ih2 =>
      rename_i h
      simp only [okL,Bool.and_eq_true]at h
      simp only [renL,ih1 h.1,ih2 h.2]
    | _=>intro h; rfl
  induction vs with
  | nil=>rfl
  | cons v vs ih =>
    simp only [okL,Bool.and_eq_true]at h
    simp only [renL,go v h.1,ih h.2]
theorem h_callv {α:Type} {enc:α→List D} {sz:Nat} {xs:List α} {f:Operand} {args:List Operand} {ats:Array TypeId} {fn:FuncId} {caps args0:List V} {r:V} {bs os:List Box} {o:Option Box} (p:Nat) (is:List Nat) (iv po:Nat) {l:List (Nm×Box)} {n:Nm} {w:V}
    (hp:q=none∨Nat.beq all.length (p + (rest.length + 1))=true)
    (hfp:∀ S tk,AgR H S tk (⟨some d,.call ⟨.value f,args.toArray,ats⟩,ty,pos,after,g⟩::rest)→okQ q all p (l.map (·.1) ++ [n]) true)
    (hc:FnM C.P fn args0 (bs++gI sz enc xs) r (os.map some++gT xs o))
    (hf:ev sl f = .fn fn caps) (hb:hasBody C.P fn=true) (hl:pickH H is=some l) (hv:H[iv]? = some (n,gB sz enc xs))
    (hS:l.map (·.2)=bs) (hSok:bs.all (fun b=>b.ok 0)=true)
    (hw1:(args.map (ev sl)++caps)[po]? = some w) (hw2:w=gV n sz xs∨w=dV n sz xs∨w=vV n sz xs∧xs ≠ []) (hp0:args0[po]? = some (dV (extN is.length) sz xs))
    (hn:(((args.map (ev sl)++caps).set po .none).flatMap frz).all (fun n=>false)=true)
    (ha:((args.map (ev sl)++caps).map co0).set po .none=(renL (l.map (·.1)) args0).set po .none) (hok:okL is.length (args0.set po .none)=true) (hr:okV 0 r=true)
    (hlen:os.length=is.length) (hi:(is ++ [iv]).Nodup) (hO:os.all (fun b=>b.ok 0)=true) (ho:∀ b,o=some b→b.ok 0=true) (hon:xs = []→o=none)
    (hw:wantedD all sl ⟨some d,.call ⟨.value f,args.toArray,ats⟩,ty,pos,after,g⟩=some true)
    (H':Hp) (hH:(setH H (outs (l.map (·.1)) is (l.map (·.1)) (os.map some))).set iv (n,o)=H')
    (h:opsH (addQ q p (l.map (·.1) ++ [n]) true) C all K rest (upd sl d r) H') :
    opsH q C all K (⟨some d,.call ⟨.value f,args.toArray,ats⟩,ty,pos,after,g⟩::rest) sl H:=by
  have hll:=(pickH_mem hl).1
  have hbs:bs.length=l.length:=by rw [← hS]; simp
  have hivs:iv∉is:=by
    rw [List.nodup_append]at hi
    exact fun hm=>hi.2.2 iv hm iv (by simp) rfl
  have hisn:is.Nodup:=(List.nodup_append.1 hi).1
  have hset:∀ {l':List (Nat×Nm×Option Box)} {H0:Hp},(∀ p∈l',p.1≠iv)→(setH H0 l')[iv]? = H0[iv]? := by
    intro l'
    induction l' with
    | nil=>intro H0 _; rfl
    | cons x l' ih =>
      intro H0 hx
      obtain ⟨i,m,b⟩:=x
      simp only [setH]
      rw [ih (fun p hp=>hx p (by simp [hp]))]
      have:i≠iv:=hx (i,m,b) (by simp)
      rw [List.getElem?_set_ne this]
  have houts:∀ (ν:List Nm) (is:List Nat) (ns:List Nm) (os:List (Option Box)),∀ p∈outs ν is ns os,p.1∈is:=by
    intro ν is
    induction is with
    | nil=>intro ns os p hp; simp [outs]at hp
    | cons i is ih =>
      intro ns os p hp
      cases ns with
      | nil=>simp [outs]at hp
      | cons m ns=>cases os with
        | nil=>simp [outs]at hp
        | cons o os =>
          simp only [outs,List.mem_cons]at hp
          rcases hp with rfl | hp
          · simp
          · exact List.mem_cons_of_mem _ (ih _ _ _ hp)
  have hco:∀ (S:Store),(w=gV n sz xs∨w=dV n sz xs∨w=vV n sz xs∧xs ≠ [])→(∀ x l,xs=x::l→S n=some (.vec sz (xs.map enc)))→co S w=dV n sz xs:=by
    intro S hw2 hS
    cases hxs:xs with
    | nil =>
      subst hxs
      rcases hw2 with h2 | h2 | ⟨h2,h3⟩
      · rw [h2]; rfl
      · rw [h2]; rfl
      · exact absurd rfl h3
    | cons x l =>
      have:=hS x l hxs
      have e:w = .vs n sz 0 (x::l).length:=by rcases hw2 with h2 | h2 | ⟨h2,_⟩ <;> rw [h2,hxs] <;> rfl
      rw [e]
      simp only [co,co1,this,dV]
  have hargs:∀ S:Store,co S w=dV n sz xs→(args.map (ev sl)++caps).map (co S)=((args.map (ev sl)++caps).map co0).set po (dV n sz xs):=by
    intro S hcw
    have h1:(args.map (ev sl)++caps)=((args.map (ev sl)++caps).set po .none).set po w:=by
      rw [List.set_set,set_get hw1]
    have h2:(((args.map (ev sl)++caps).set po .none)).map (co S)=(((args.map (ev sl)++caps).set po .none)).map co0:=map_co (by
      cases hx:((args.map (ev sl)++caps).set po .none).flatMap frz with
      | nil=>rfl
      | cons a b=>rw [hx]at hn; simp at hn)
    have h3:(args.map (ev sl)++caps).map (co S)=((((args.map (ev sl)++caps).set po .none)).map (co S)).set po (co S w):=by
      rw [← List.map_set,← h1]
    rw [h3,h2,hcw,List.map_set,List.set_set]
  have h0:=ha
  cases hxs:xs with
  | nil =>
    have hobn:o=none:=hon hxs
    subst hobn
    have hc':FnM C.P fn args0 bs r (os.map some):=by rw [hxs]at hc; simpa [gI,gT]using hc
    have hq:okL is.length args0=true:=by
      have:=okL_set (v:=dV (extN is.length) sz xs) hok (by rw [hxs]; rfl)
      rwa [set_get hp0]at this
    refine h_callX p is hp (fun S tk ag=>okQ_sub (fun m hm=>by simp [hm]) (hfp S tk ag)) hc' hf hb hl ?_ ?_ ?_ ?_ hq (okV_mono (Nat.zero_le _) r hr) (by simp [hlen]) hisn (okOut_some hO) hw r (ren_ok hr) H' ?_ ?_
    · rw [hS,bren_all _ hSok]
    · exact List.all_eq_true.2 (fun b hb'=>Box.ok_mono (Nat.zero_le _) (List.all_eq_true.1 hSok b hb'))
    · intro m hm
      obtain ⟨v,hv1,hv2⟩:=flat_set hn hm
      rw [hw1]at hv1
      simp only [Option.some.injEq]at hv1
      subst hv1
      exfalso
      rcases hw2 with h2 | h2 | ⟨_,h2⟩
      · rw [h2,hxs]at hv2; cases hv2
      · rw [h2,hxs]at hv2; cases hv2
      · exact h2 hxs
    · intro S tk ag
      refine ArgsOK.of_map ?_
      rw [hargs S (hco S hw2 (fun x l e=>by rw [hxs]at e; cases e)),set_eq_set ha]
      have:(renL (l.map (·.1)) args0)[po]? = some (dV n sz xs):=by
        obtain ⟨hlt,he⟩:=List.getElem?_eq_some_iff.1 hp0
        rw [List.getElem?_eq_getElem (by rw [renL_length]; exact hlt),renL_get _ _ _ _ hlt,he,hxs]; rfl
      rw [set_get this]
    · rw [← hH]
      symm
      apply set_get
      rw [hset (fun p hp e=>hivs (e ▸ houts _ _ _ _ p hp)),hv,hxs]; rfl
    · cases q with
      | none=>exact h
      | some Γ =>
        intro S tk ok ag k L hk hL hO'
        refine h S tk ok ag k L hk (fun p0 hp0' => ?_) (fun e he m hm => ?_)
        · rcases hL p0 hp0' with h1 | ⟨e,h1,h2,h3,h4,h5⟩
          · exact .inl h1
          · refine .inr ?_
            rcases List.mem_append.1 h1 with h1 | h1
            · exact⟨e,List.mem_append.2 (.inl h1),h2,h3,h4,h5⟩
            · rw [List.mem_singleton]at h1; subst h1
              exact⟨(p,l.map (·.1) ++ [n],true),by simp,h2,fun x hx=>by simp only [List.mem_append]; exact .inl (h3 x hx),fun x hx=>by simp only [List.mem_append]; exact .inl (h4 x hx),fun e=>by cases e⟩
        · rcases List.mem_append.1 he with he | he
          · exact hO' e (List.mem_append.2 (.inl he)) m hm
          · rw [List.mem_singleton]at he; subst he
            simp only at hm
            rcases List.mem_append.1 hm with hm | hm
            · exact hO' (p,l.map (·.1),true) (by simp) m hm
            · rw [List.mem_singleton]at hm; subst hm
              rw [← hH]at ag
              have:((setH H (outs (l.map (·.1)) is (l.map (·.1)) (os.map some))).set iv (m,none))[iv]? = some (m,none):=by
                have h1:=(List.getElem?_eq_some_iff.1 hv).1
                rw [List.getElem?_set_self (by rw [setH_at]; exact h1)]
              exact (ag.at_ _ (List.mem_of_getElem? this)).1
  | cons x l' =>
    have hgB:gB sz enc xs=some (.vec sz (xs.map enc)):=by rw [hxs]; rfl
    have hv':H[iv]? = some (n,some (.vec sz (xs.map enc))):=by rw [hv,hgB]
    have hc':FnM C.P fn args0 (bs ++ [.vec sz (xs.map enc)]) r (os.map some ++ [o]):=by rw [hxs]at hc ⊢; exact hc
    have hp1:=pickH_app (l:=l) hl hv'
    have hmap:(l ++ [(n,Box.vec sz (xs.map enc))]).map (·.1)=l.map (·.1) ++ [n]:=by simp
    have hdv:dV (extN is.length) sz xs = .vs (extN is.length) sz 0 xs.length:=by rw [hxs]; rfl
    have hq:okL (is ++ [iv]).length args0=true:=by
      have:=okL_set (v:=dV (extN is.length) sz xs) (okL_mono (Nat.le_add_right is.length 1) _ hok) (by rw [hdv]; exact okN_lt (Nat.lt_succ_self _))
      rw [set_get hp0]at this
      simpa using this
    refine h_callX p (is ++ [iv]) hp (fun S tk ag=>by rw [hmap]; exact hfp S tk ag) hc' hf hb hp1 ?_ ?_ ?_ ?_ hq (okV_mono (Nat.zero_le _) r hr) (by simp [hlen]) hi ?_ hw r (ren_ok hr) H' ?_ ?_
    · rw [List.map_append,bren_all _ hSok]
      simp only [List.map_cons,List.map_nil,List.map_append,hS,Box.ren]
    · rw [List.all_append]
      simp only [Bool.and_eq_true]
      exact⟨List.all_eq_true.2 (fun b hb'=>Box.ok_mono (Nat.zero_le _) (List.all_eq_true.1 hSok b hb')),rfl⟩
    · intro m hm
      obtain ⟨v,hv1,hv2⟩:=flat_set hn hm
      rw [hw1]at hv1
      simp only [Option.some.injEq]at hv1
      subst hv1
      have e:w = .vs n sz 0 xs.length:=by rcases hw2 with h2 | h2 | ⟨h2,_⟩ <;> rw [h2,hxs] <;> rfl
      rw [e]at hv2
      rw [hmap]
      have:m=n:=by simpa [frz,frz1]using hv2
      rw [this]; simp
    · intro S tk ag
      refine ArgsOK.of_map ?_
      rw [hargs S (hco S hw2 (fun _ _ _=>ag.get hv')),set_eq_set ha,hmap]
      have hpl:po < args0.length:=(List.getElem?_eq_some_iff.1 hp0).1
      have h1:args0=(args0.set po .none).set po (dV (extN is.length) sz xs):=by rw [List.set_set,set_get hp0]
      have h2:renL (l.map (·.1) ++ [n]) args0=(renL (l.map (·.1)) (args0.set po .none)).set po (dV n sz xs):=by
        conv=>lhs; rw [h1]
        rw [renL_set,renL_ok_ext (by simp only [List.length_map,hll]; exact hok),hdv]
        simp only [ren]
        rw [renN_at (n:=n) (by rw [List.getElem?_append_right (by simp [hll])]; simp [hll])]
        rw [hxs]; rfl
      rw [h2,renL_set,List.set_set]
    · refine okOut_app (okOut_some hO) ?_
      cases o with
      | none=>rfl
      | some b=>simp only [okOut,Bool.and_true]; exact Box.ok_mono (Nat.zero_le _) (ho b rfl)
    · rw [← hH,hmap,outs_app _ _ _ _ _ _ _ (by simp [hlen]) (by simp [hll]),setH_app,outs_ok0 _ (l.map (·.1)) _ _ _ hO]
      simp only [setH]
      cases o with
      | none=>rfl
      | some b=>simp only [Option.map_some,bren_ok (ho b rfl)]
    · rw [hmap]; exact h
theorem gB_ok {α:Type} {sz:Nat} {enc:α→List D} {xs:List α}:∀ b,gB sz enc xs=some b→b.ok 0=true:=by
  intro b h
  cases xs with
  | nil=>cases h
  | cons x xs=>cases h; rfl
end
end Go.Eng

/-
  THE ENGINE: rules for maps, arrays and new slices of zeros.
-/
namespace Go.Eng
set_option linter.unusedSectionVars false
variable [DM]
set_option linter.unusedVariables false
set_option linter.unusedSimpArgs false
section
variable {C:Cfg} {sl:Nat→V} {H:Hp} {q:Qm} {all rest:List Oper} {K:(Nat→V)→Hp→Prop}
variable {dst:Option Tmp} {d:Nat} {t ty:TypeId} {pos:String} {after:Array Edge} {g:Option (Nat×Bool)}
def mkN (n:Int) (bytes:Nat):Option Nat:=if 0≤n∧n * bytes≤281474976710656∧n≤281474976710656 then some n.toNat else none
theorem h_mkslice {α:Type} {enc:α→List D} {x y:Operand} {k k':IntKind} {n:Int} {m e sz by_:Nat} {z:List V} (p:Nat) (hp:q=none∨Nat.beq all.length (p + (rest.length + 1))=true) (za:α)
  (he:elemT C.P t=some e) (hs:szT C.P e=some sz) (hz:zeroCells C.P e=some z) (hb:bytesT C.P e=by_) (ha:allD z=some (enc za)) (hzl:z.length=sz) (hpos:0 < sz) (ho:z.all oneV=true)
  (hx:ev sl x = .d (.int k n)) (hy:ev sl y = .d (.int k' n)) (hn:mkN n by_=some m)
  (hw:wantedD all sl ⟨some d,.makeSlice t x y,ty,pos,after,g⟩=some true)
  (h:∀ nm:Nm,opsH (addQ q p [nm] true) C all K rest (upd sl d (vV nm sz (List.replicate m za))) (H ++ [(nm,some (bV sz enc (List.replicate m za)))])):opsH q C all K (⟨some d,.makeSlice t x y,ty,pos,after,g⟩::rest) sl H:=by
 unfold mkN at hn
 split at hn
 ·rename_i hc
  simp only [Option.some.injEq]at hn; subst hn
  refine h_loudN rfl p [] hp (fun _ _ _=>okQ_nil) (fun m hm=>by cases hm) hw (fun S tk K' ok ag hk=>opD_eff (A:=⟨[],[((d,tk),some (bV sz enc (List.replicate n.toNat za)))],vV (d,tk) sz (List.replicate n.toNat za)⟩) (fun c e=>by cases e) ?_
   (hk _ _ _ (.inl rfl) ⟨by simp,by simp⟩ (ag.new ok rfl _) (h (d,tk))))
  show makeSliceF C.P t (ev sl x) (ev sl y) d tk=_
  unfold makeSliceF
  rw [he,hx,hy]
  simp only [hs,hz,hb]
  by_cases hn0:n=0
  ·rw [if_pos ⟨hn0,Int.le_refl _,hc.2.1,hc.2.2,hzl,hpos⟩]
   subst hn0
   simp [bV,vV]
  ·rw [if_neg (fun h=>hn0 h.1),if_pos ⟨hc.1,trivial,hc.2.1,hc.2.2,hzl,hpos,ho⟩,ha]
   simp [bV,vV]
 ·cases hn
end
end Go.Eng

/-
  THE ENGINE: slices with room made ahead; functions that are handed two slices in their boxes.
-/
namespace Go.Eng
set_option linter.unusedSectionVars false
variable [DM]
set_option linter.unusedVariables false
set_option linter.unusedSimpArgs false
section
variable {C:Cfg} {Q:QH} {sl:Nat→V} {H:Hp} {c:Code}
end
section
variable {C:Cfg} {sl:Nat→V} {H:Hp} {q:Qm} {all rest:List Oper} {K:(Nat→V)→Hp→Prop}
variable {dst:Option Tmp} {d:Nat} {t ty:TypeId} {pos:String} {after:Array Edge} {g:Option (Nat×Bool)}
end
section
variable {C:Cfg} {sl:Nat→V} {H:Hp} {q:Qm} {all rest:List Oper} {K:(Nat→V)→Hp→Prop}
variable {d:Nat} {t ty:TypeId} {pos:String} {after:Array Edge} {g:Option (Nat×Bool)}
end
end Go.Eng

/-
  THE ENGINE: functions that are handed two slices in their boxes.
-/
namespace Go.Eng
set_option linter.unusedSectionVars false
variable [DM]
set_option linter.unusedVariables false
set_option linter.unusedSimpArgs false
def okO (os:List (Option Box)):Bool:=os.all fun o=>match o with
  | some b=>b.ok 0
  | none=>true
theorem ArgsOK.set {S:Store} {x y x' y':V} (hxy:y'=x'∨y'=co S x'):∀ {a b:List V} {i:Nat},ArgsOK S (a.set i x) (b.set i y)→ArgsOK S (a.set i x') (b.set i y')
  | [],[],i,h=>by simpa using h
  | [],b::bs,i,h=>by cases i <;> (simp at h; cases h)
  | a::az,[],i,h=>by cases i <;> (simp at h; cases h)
  | a::az,b::bs,0,h=>by
    simp only [List.set_cons_zero]at h ⊢
    cases h with
    | cons _ t=>exact .cons hxy t
  | a::az,b::bs,i + 1,h=>by
    simp only [List.set_cons_succ]at h ⊢
    cases h with
    | cons h1 t=>exact .cons h1 (ArgsOK.set hxy t)
section
variable {C:Cfg} {sl:Nat→V} {H:Hp} {q:Qm} {all rest:List Oper} {K:(Nat→V)→Hp→Prop}
variable {dst:Option Tmp} {d:Nat} {t ty:TypeId} {pos:String} {after:Array Edge} {g:Option (Nat×Bool)}
theorem more_fp {p:Nat} {T T':List Nm} {sl':Nat→V} {H':Hp} (hT:∀ m∈T,m∈T') (hH:∀ m∈T',m∈T∨m∈H'.map (·.1)) (h:opsH (addQ q p T' true) C all K rest sl' H'):opsH (addQ q p T true) C all K rest sl' H':=by
  cases q with
  | none=>exact h
  | some Γ =>
    intro S tk ok ag k L hk hL hO'
    refine h S tk ok ag k L hk (fun p0 hp0' => ?_) (fun e he m hm => ?_)
    · rcases hL p0 hp0' with h1 | ⟨e,h1,h2,h3,h4,h5⟩
      · exact .inl h1
      · refine .inr ?_
        rcases List.mem_append.1 h1 with h1 | h1
        · exact⟨e,List.mem_append.2 (.inl h1),h2,h3,h4,h5⟩
        · rw [List.mem_singleton]at h1; subst h1
          exact⟨(p,T',true),by simp,h2,fun x hx=>hT _ (h3 x hx),fun x hx=>hT _ (h4 x hx),fun e=>by cases e⟩
    · rcases List.mem_append.1 he with he | he
      · exact hO' e (List.mem_append.2 (.inl he)) m hm
      · rw [List.mem_singleton]at he; subst he
        simp only at hm
        rcases hH m hm with hm | hm
        · exact hO' (p,T,true) (by simp) m hm
        · obtain ⟨x,hx,rfl⟩:=List.mem_map.1 hm
          exact (ag.at_ x hx).1
theorem frz_nil {vs:List V} (h:(vs.flatMap frz).all (fun _=>false)=true):vs.flatMap frz = []:=by
  cases hx:vs.flatMap frz with
  | nil=>rfl
  | cons a b=>rw [hx]at h; simp at h
theorem pre_mk {H0:Hp} (h:H.take H0.length=H0):pre H0 H:=pre_r h
theorem h_callgq {α:Type} {enc:α→List D} {sz:Nat} {xs:List α} {f:Operand} {args:List Operand} {ats:Array TypeId} {fn:FuncId} {caps args0:List V} (p:Nat)
    (hp:q=none∨Nat.beq all.length (p + (rest.length + 1))=true)
    (hc:FnM C.P fn args0 [] (gV (extN 0) sz xs) (([]:List Box).map some++gO sz enc xs))
    (hf:ev sl f = .fn fn caps) (hb:hasBody C.P fn=true)
    (hn:((args.map (ev sl)++caps).flatMap frz).all (fun n=>false)=true) (ha:(args.map (ev sl)++caps).map co0=args0) (hok:okL 0 args0=true)
    (hw:wantedD all sl ⟨some d,.call ⟨.value f,args.toArray,ats⟩,ty,pos,after,g⟩=some true)
    (h:∀ n:Nm,opsH (addQ q p [n] true) C all K rest (upd sl d (gV n sz xs)) (H ++ [(n,gB sz enc xs)])) :
    opsH q C all K (⟨some d,.call ⟨.value f,args.toArray,ats⟩,ty,pos,after,g⟩::rest) sl H:=by
  have hfn:=frz_nil hn
  have ha':∀ (S:Store),ArgsOK S (args.map (ev sl)++caps) args0:=fun S=>by
    refine ArgsOK.of_map ?_
    rw [map_co hfn]; exact ha
  have hren:renL (([]:List (Nm×Box)).map (·.1)) args0=args0:=renL_ok hok
  cases xs with
  | nil =>
    have hc':FnM C.P fn args0 [] .nil []:=hc
    refine h_callX p [] hp (fun _ _ _=>okQ_nil) hc' hf hb rfl rfl rfl (fun n hn'=>by rw [hfn]at hn'; cases hn') (fun S tk _=>by rw [hren]; exact ha' S) hok rfl rfl List.nodup_nil rfl hw .nil rfl H rfl ?_
    exact h_dummy (fun n=>more_fp (T' := [n]) (fun m hm=>by cases hm) (fun m hm => .inr (by
      rw [List.mem_singleton]at hm; subst hm; simp)) (h n))
  | cons x xs =>
    have hc':FnM C.P fn args0 [] (.vs (extN 0) sz 0 (x::xs).length) [some (.vec sz ((x::xs).map enc))]:=hc
    refine h_loudN rfl p [] hp (fun _ _ _=>okQ_nil) (fun m hm=>by cases hm) hw (fun S tk K' ok ag hk=>opD_call hf ?_)
    refine .inl ⟨hb,⟨[],[],args0,[],.vs (extN 0) sz 0 (x::xs).length,[some (.vec sz ((x::xs).map enc))],false⟩,?_,(fun e=>by cases e),?_⟩
    · exact { does := hc'
              args:=by
                have:=ha' S
                rw [← hren]at this; exact this
              okA:=hok
              nodup:=List.nodup_nil
              ins:=insOK_of rfl (fun j h1 _=>absurd h1 (Nat.not_lt_zero j))
              len:=Nat.zero_le _
              okR:=okN_lt Nat.zero_lt_one,okO:=rfl,mutN:=rfl
              roOK:=(fun e=>by cases e),have_:=(fun n hn=>nomatch hn),cov:=(fun n h'=>by rw [hfn]at h'; cases h'),dis:=(fun n _ hn=>nomatch hn) }
    · have e1:CallData.eff ⟨[],[],args0,[],.vs (extN 0) sz 0 (x::xs).length,[some (.vec sz ((x::xs).map enc))],false⟩ S d tk=⟨[],[((d,tk),some (.vec sz ((x::xs).map enc)))],.vs (d,tk) sz 0 (x::xs).length⟩:=by
        have e2:newN d tk ((1:Nat) - 0) = [(d,tk)]:=by simp [newN]
        have e3:ren [(d,tk)] (.vs (extN 0) sz 0 (x::xs).length) = .vs (d,tk) sz 0 (x::xs).length:=by
          simp only [ren]; rw [renN_at (n:=(d,tk)) (by simp)]
        simp only [CallData.eff,cond_false,CallData.names,List.length_cons,List.length_nil,Nat.zero_add,List.nil_append,freezeReq,freezeUpd,List.zip_nil_left,List.map_nil]
        rw [e2]
        simp only [List.length_cons]at e3
        rw [e3]; rfl
      show K' (CallData.eff _ S d tk)
      rw [e1]
      exact hk _ _ _ (.inl rfl) ⟨by simp,by simp⟩ (ag.new ok rfl _) (h (d,tk))
theorem wH_coc0 {Q:QH} {c:Code} {s:Nat} {m:Nm} {cs:List V} (j:Nat) (cs':List V) (hj:H[j]? = some (m,some (.cells s cs))) (hc:∀ S,cs.map (co1 S)=cs') (hw:wH C c Q sl (H.set j (m,some (.cells s cs')))):wH C c Q sl H:=by
  refine wH_gst hw (fun S t ag => ?_)
  have hm:=ag.get hj
  refine⟨supd S m (some (.cells s (cs.map (co1 S)))),Gst.coB ⟨sl,S,t⟩ m s cs hm,?_⟩
  rw [hc S]
  exact ag.set hj (fun x hx=>hx)
end
end Go.Eng

/-
  THE ENGINE: a sort of the library's, by its contract off the shelf.
-/
namespace Go.Eng
set_option linter.unusedSectionVars false
variable [DM]
open Go.Sort
set_option linter.unusedVariables false
set_option linter.unusedSimpArgs false
end Go.Eng

