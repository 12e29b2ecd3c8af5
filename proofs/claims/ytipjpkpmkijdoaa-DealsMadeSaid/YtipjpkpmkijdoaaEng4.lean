/-
  The engine: what the machine does to data, shown once for all programs (part 4).
-/
import Derived.Test.YtipjpkpmkijdoaaEng3
import Derived.Sort.Row
import Derived.Sort.Grow
/-
  THE ENGINE: parts of a slice over a box; clear.
-/
namespace Go.Eng
set_option linter.unusedSectionVars false
variable [DM]
set_option linter.unusedVariables false
set_option linter.unusedSimpArgs false
theorem gB_cons {α:Type} {sz:Nat} {enc:α→List D} {xs:List α} (h:xs ≠ []):gB sz enc xs=some (bV sz enc xs):=by cases xs with
 | nil=>exact absurd rfl h
 | cons x xs=>rfl
section
variable {C:Cfg} {Q:QH} {sl:Nat→V} {H:Hp} {c:Code}
end
section
variable {C:Cfg} {sl:Nat→V} {H:Hp} {q:Qm} {all rest:List Oper} {K:(Nat→V)→Hp→Prop}
 {dst:Option Tmp} {t ty e:TypeId} {pos:String} {after:Array Edge} {g:Option (Nat×Bool)}
section part
variable {α:Type} {enc:α→List D} {xs:List α} {sz:Nat} {n:Nm} {x l hi:Operand} {k k':IntKind} {a b:Int} {u:Unit}
end part
end
end Go.Eng

/-
  THE ENGINE: a slice that a function writes into: its box is handed in and handed back.
-/
namespace Go.Eng
set_option linter.unusedSectionVars false
variable [DM]
set_option linter.unusedVariables false
set_option linter.unusedSimpArgs false
def dV {α:Type} (n:Nm) (sz:Nat):List α→V
  | [] => .d (.sl [])
  | x::xs => .vs n sz 0 (x::xs).length
def gI {α:Type} (sz:Nat) (enc:α→List D):List α→List Box
  | [] => []
  | x::xs => [.vec sz ((x::xs).map enc)]
def gT {α:Type} (xs:List α) (o:Option Box):List (Option Box):=match xs with
  | [] => []
  | _::_ => [o]
def neL {α:Type} (xs:List α):Option Unit:=match xs with
  | []=>none
  | _::_=>some ()
def sameL {α β:Type} (xs:List α) (ys:List β):Option Unit:=if xs.length=ys.length then some ()else none
def inN (i:Int) (len:Nat):Option Unit:=if 0≤i∧i.toNat < len then some ()else none
theorem neL_ne {α:Type} {xs:List α} {u:Unit} (h:neL xs=some u):xs ≠ []:=by
  cases xs with
  | nil=>cases h
  | cons x xs=>simp
theorem sameL_eq {α β:Type} {xs:List α} {ys:List β} {u:Unit} (h:sameL xs ys=some u):xs.length=ys.length:=by
  unfold sameL at h; split at h
  · assumption
  · cases h
theorem inN_0 {i:Int} {n:Nat} {u:Unit} (h:inN i n=some u):0≤i:=by
  unfold inN at h; split at h
  · rename_i h1; exact h1.1
  · cases h
theorem inN_lt {i:Int} {n:Nat} {u:Unit} (h:inN i n=some u):i.toNat < n:=by
  unfold inN at h; split at h
  · rename_i h1; exact h1.2
  · cases h
theorem gB_ho {α:Type} {sz:Nat} {enc:α→List D} {xs ys:List α} (h:ys.length=xs.length):xs = []→gB sz enc ys=none:=fun e=>by
  subst e
  cases ys with
  | nil=>rfl
  | cons y ys=>simp at h
section
variable {C:Cfg} {sl:Nat→V} {H:Hp} {Q:QH} {c:Code}
end
section
variable {C:Cfg} {sl:Nat→V} {H:Hp} {q:Qm} {all rest:List Oper} {K:(Nat→V)→Hp→Prop}
variable {dst:Option Tmp} {d:Nat} {t ty:TypeId} {pos:String} {after:Array Edge} {g:Option (Nat×Bool)}
theorem h_reH (i:Nat) {n:Nm} {b b':Option Box} (h:H[i]? = some (n,b)) (e:b=b') (hw:opsH q C all K rest sl (H.set i (n,b'))):opsH q C all K rest sl H:=by
  subst e
  have hi:=(List.getElem?_eq_some_iff.1 h)
  rwa [← hi.2,List.set_getElem_self]at hw
theorem h_lenp {n:Nm} {sz k len:Nat} {x:Operand} {e:TypeId} (hu:C.P.underlying t=some (.slice e)) (hx:ev sl x = .vs n sz k len) (hw:wantedD all sl ⟨dst,.call ⟨.builtin .len,#[x],#[t]⟩,ty,pos,after,g⟩=some true)
    (h:opsH q C all K rest (putS sl dst (vI len)) H):opsH q C all K (⟨dst,.call ⟨.builtin .len,#[x],#[t]⟩,ty,pos,after,g⟩::rest) sl H :=
  h_lenv (v:=vI len) (by rw [hx]; simp only [lenF,hu]) hw h
theorem h_callX {f:Operand} {args:List Operand} {ats:Array TypeId} {fn:FuncId} {caps args0:List V} {r:V} {Sin:List Box} {Sout:List (Option Box)} (p:Nat) (is:List Nat) {l:List (Nm×Box)} (hp:q=none∨Nat.beq all.length (p + (rest.length + 1))=true)
    (hfp:∀ S tk,AgR H S tk (⟨some d,.call ⟨.value f,args.toArray,ats⟩,ty,pos,after,g⟩::rest)→okQ q all p (l.map (·.1)) true) (hc:FnM C.P fn args0 Sin r Sout)
    (hf:ev sl f = .fn fn caps) (hb:hasBody C.P fn=true) (hl:pickH H is=some l) (hS:Sin.map (fun b=>b.ren (l.map (·.1)))=l.map (·.2)) (hSok:Sin.all (fun b=>b.ok is.length)=true)
    (hn:∀ n∈(args.map (ev sl)++caps).flatMap frz,n∈l.map (·.1)) (ha:∀ S tk,AgR H S tk (⟨some d,.call ⟨.value f,args.toArray,ats⟩,ty,pos,after,g⟩::rest)→ArgsOK S (args.map (ev sl)++caps) (renL (l.map (·.1)) args0)) (hok:okL is.length args0=true) (hr:okV Sout.length r=true)
    (hlen:Sout.length=is.length) (hi:is.Nodup) (hO:okOut Sout.length Sout=true)
    (hw:wantedD all sl ⟨some d,.call ⟨.value f,args.toArray,ats⟩,ty,pos,after,g⟩=some true)
    (v:V) (hv:ren (l.map (·.1)) r=v) (H':Hp) (hH:setH H (outs (l.map (·.1)) is (l.map (·.1)) Sout)=H')
    (h:opsH (addQ q p (l.map (·.1)) true) C all K rest (upd sl d v) H') :
    opsH q C all K (⟨some d,.call ⟨.value f,args.toArray,ats⟩,ty,pos,after,g⟩::rest) sl H:=by
  subst hv hH
  obtain ⟨hll,hlg⟩:=pickH_mem hl
  have hsl:Sin.length=l.length:=by have:=congrArg List.length hS; simpa using this
  refine h_touch p (l.map (·.1)) true hp hfp (pickH_sub hl) hw (fun S tk K' ok ag hk=>opD_call hf ?_)
  have hnd:=nodup_pick ag hi hl
  refine .inl ⟨hb,⟨[],l.map (·.1),args0,Sin,r,Sout,false⟩,?_,(fun e=>by cases e),?_⟩
  · exact { does := hc
            args:=ha S tk ag
            okA:=by simp only [List.length_map,hll]; exact hok
            nodup:=hnd
            ins:=by
              refine insOK_of (by simp [hsl]) (fun j h1 h2=>⟨?_,?_⟩)
              · simp only [List.length_map,hll]
                exact List.all_eq_true.1 hSok _ (List.getElem_mem h2)
              · simp only [List.length_map]at h1
                have e:=hlg j (by omega) h1
                have e2:l[j].2=Sin[j].ren (l.map (·.1)):=by
                  have:=congrArg (fun x=>x[j]?) hS
                  simp only [List.getElem?_map,List.getElem?_eq_getElem h2,List.getElem?_eq_getElem h1,Option.map_some,Option.some.injEq]at this
                  exact this.symm
                simp only [List.getElem_map]
                show S l[j].1=_
                rw [ag.get e,e2]
            len:=by show Sin.length≤Sout.length; omega
            okR:=hr,okO:=hO,mutN:=by show mutOut (List.drop Sin.length Sout)=true; rw [List.drop_of_length_le (by omega)]; rfl
            roOK:=(fun e=>by cases e),have_:=(fun n hn=>nomatch hn),cov:=(fun n h' => .inr (hn n h')),dis:=(fun n _ hn=>nomatch hn) }
  · have hdm:Sout.length - Sin.length=0:=by omega
    have e1:CallData.eff ⟨[],l.map (·.1),args0,Sin,r,Sout,false⟩ S d tk=⟨((l.map (·.1)).zip Sin).map (fun p=>(p.1,p.2.ren (l.map (·.1)))),outUpd (l.map (·.1)) (l.map (·.1)) Sout,ren (l.map (·.1)) r⟩:=by
      simp only [CallData.eff,cond_false,CallData.names,hdm,newN,List.range_zero,List.map_nil,List.append_nil,freezeReq,freezeUpd,List.nil_append]
    show K' (CallData.eff _ S d tk)
    rw [e1]
    refine hk _ _ ⟨fun x hx => ?_,fun x hx=>outUpd_names hx⟩ (fun h=>by cases h) ?_ h
    · obtain ⟨y,hy,rfl⟩:=List.mem_map.1 hx
      exact (List.of_mem_zip hy).1
    · have e3:(l.map (·.1)).length=is.length:=by simp [hll]
      have ag1:=outs_ok (ν:=l.map (·.1)) ag hi hnd (bs:=Sout) (fun j h1 h2=>by
        simp only [List.length_map]at h2
        exact⟨_,by simp only [List.getElem_map]; exact hlg j h1 h2⟩)
      rw [List.take_of_length_le (by omega)]at ag1
      exact ag1.tail
theorem pickH_app {l:List (Nm×Box)} {i:Nat} {n:Nm} {b:Box}:∀ {is:List Nat} {l:List (Nm×Box)},pickH H is=some l→H[i]? = some (n,some b)→pickH H (is ++ [i])=some (l ++ [(n,b)])
  | [],l,h,hi=>by
    simp only [pickH,Option.some.injEq]at h; subst h
    simp only [List.nil_append,pickH,hi]
  | j::is,l,h,hi=>by
    simp only [pickH]at h
    split at h
    · rename_i n' b' l' h1 h2
      simp only [Option.some.injEq]at h; subst h
      simp only [List.cons_append,pickH,h1,pickH_app (l:=l) h2 hi]
    · cases h
theorem renL_set (ρ:List Nm):∀ (vs:List V) (i:Nat) (v:V),renL ρ (vs.set i v)=(renL ρ vs).set i (ren ρ v)
  | [],_,_=>rfl
  | _::_,0,_=>rfl
  | x::vs,i + 1,v=>by simp only [List.set_cons_succ,renL,renL_set ρ vs i v]
theorem okL_set {k:Nat}:∀ {vs:List V} {i:Nat} {v:V},okL k (vs.set i .none)=true→okV k v=true→okL k (vs.set i v)=true
  | [],_,_,_,_=>rfl
  | x::vs,0,v,h,hv=>by
    simp only [List.set_cons_zero,okL,Bool.and_eq_true]at h ⊢; exact⟨hv,h.2⟩
  | x::vs,i + 1,v,h,hv=>by
    simp only [List.set_cons_succ,okL,Bool.and_eq_true]at h ⊢; exact⟨h.1,okL_set h.2 hv⟩
theorem set_get {α:Type}:∀ {l:List α} {i:Nat} {a:α},l[i]? = some a→l.set i a=l
  | x::l,0,a,h=>by simp at h; subst h; rfl
  | x::l,i + 1,a,h=>by simp only [List.set_cons_succ]; rw [set_get (by simpa using h)]
  | [],_,_,h=>by simp at h
theorem outs_app (ν:List Nm):∀ (is:List Nat) (ns:List Nm) (bs:List (Option Box)) (i:Nat) (n:Nm) (o:Option Box),is.length=bs.length→is.length=ns.length→Eng.outs ν (is ++ [i]) (ns ++ [n]) (bs ++ [o])=Eng.outs ν is ns bs ++ [(i,n,o.map (·.ren ν))]
  | [],[],[],i,n,o,_,_=>rfl
  | j::is,m::ns,b::bs,i,n,o,h1,h2=>by simp only [List.cons_append,Eng.outs]; rw [outs_app ν is ns bs i n o (by simpa using h1) (by simpa using h2)]
  | [],_::_,_,_,_,_,_,h=>by simp at h
  | [],[],_::_,_,_,_,h,_=>by simp at h
  | _::_,[],_,_,_,_,_,h=>by simp at h
  | _::_,_::_,[],_,_,_,h,_=>by simp at h
theorem outs_ok0 (ν ν':List Nm):∀ (is:List Nat) (ns:List Nm) (bs:List Box),bs.all (fun b=>b.ok 0)=true→Eng.outs ν is ns (bs.map some)=Eng.outs ν' is ns (bs.map some)
  | [],_,_,_=>rfl
  | _::_,[],_,_=>rfl
  | _::_,_::_,[],_=>rfl
  | i::is,n::ns,b::bs,h=>by
    simp only [List.all_cons,Bool.and_eq_true]at h
    simp only [List.map_cons,Eng.outs,Option.map_some,bren_ok h.1,outs_ok0 ν ν' is ns bs h.2]
theorem okOut_app {k:Nat}:∀ {a b:List (Option Box)},okOut k a=true→okOut k b=true→okOut k (a++b)=true
  | [],_,_,h=>h
  | none::a,b,h1,h2=>by simp only [List.cons_append,okOut]at h1 ⊢; exact okOut_app h1 h2
  | some y::a,b,h1,h2=>by simp only [List.cons_append,okOut,Bool.and_eq_true]at h1 ⊢; exact⟨h1.1,okOut_app h1.2 h2⟩
theorem bren_all {bs:List Box} (ρ:List Nm) (h:bs.all (fun b=>b.ok 0)=true):bs.map (fun b=>b.ren ρ)=bs:=by
  induction bs with
  | nil=>rfl
  | cons b bs ih=>simp only [List.all_cons,Bool.and_eq_true]at h; simp only [List.map_cons,bren_ok h.1,ih h.2]
theorem renL_ok_ext {a b:List Nm}:∀ {vs:List V},okL a.length vs=true→renL (a++b) vs=renL a vs:=by
  intro vs h
  have key:∀ n,okN a.length n=true→renN (a++b) n=renN a n:=by
    intro n hn
    obtain ⟨i,hi,rfl⟩:=okN_spec hn
    rw [renN_ext hi,renN_ext (by simp; omega)]
    simp [List.getElem_append_left hi]
  have go:∀ v,okV a.length v=true→ren (a++b) v=ren a v:=by
    intro v
    induction v using V.rec (motive_2:=fun vs=>okL a.length vs=true→renL (a++b) vs=renL a vs)with
    | ref n i j=>intro h; simp only [ren]; rw [key n h]
    | vs n sz k len=>intro h; simp only [ren]; rw [key n h]
    | map n=>intro h; simp only [ren]; rw [key n h]
    | fn f caps ih=>intro h; simp only [ren]; rw [ih h]
    | agg cs ih=>intro h; simp only [ren]; rw [ih h]
    | tup vs ih=>intro h; simp only [ren]; rw [ih h]
    | nil=>intro h; rfl
    | cons v vs ih1 ih2 =>
      rename_i h
      simp only [okL,Bool.and_eq_true]at h
      simp only [renL,ih1 h.1,ih2 h.2]
    | _=>intro h; rfl
  induction vs with
  | nil=>rfl
  | cons v vs ih =>
    simp only [okL,Bool.and_eq_true]at h
    simp only [renL,go v h.1,ih h.2]
theorem gB_ok {α:Type} {sz:Nat} {enc:α→List D} {xs:List α}:∀ b,gB sz enc xs=some b→b.ok 0=true:=by
  intro b h
  cases xs with
  | nil=>cases h
  | cons x xs=>cases h; rfl
end
end Go.Eng

/-
  THE ENGINE: rules for maps, arrays and new slices of zeros.
-/
namespace Go.Eng
set_option linter.unusedSectionVars false
variable [DM]
set_option linter.unusedVariables false
set_option linter.unusedSimpArgs false
section
variable {C:Cfg} {sl:Nat→V} {H:Hp} {q:Qm} {all rest:List Oper} {K:(Nat→V)→Hp→Prop}
variable {dst:Option Tmp} {d:Nat} {t ty:TypeId} {pos:String} {after:Array Edge} {g:Option (Nat×Bool)}
def mkN (n:Int) (bytes:Nat):Option Nat:=if 0≤n∧n * bytes≤281474976710656∧n≤281474976710656 then some n.toNat else none
theorem h_mkslice {α:Type} {enc:α→List D} {x y:Operand} {k k':IntKind} {n:Int} {m e sz by_:Nat} {z:List V} (p:Nat) (hp:q=none∨Nat.beq all.length (p + (rest.length + 1))=true) (za:α)
  (he:elemT C.P t=some e) (hs:szT C.P e=some sz) (hz:zeroCells C.P e=some z) (hb:bytesT C.P e=by_) (ha:allD z=some (enc za)) (hzl:z.length=sz) (hpos:0 < sz) (ho:z.all oneV=true)
  (hx:ev sl x = .d (.int k n)) (hy:ev sl y = .d (.int k' n)) (hn:mkN n by_=some m)
  (hw:wantedD all sl ⟨some d,.makeSlice t x y,ty,pos,after,g⟩=some true)
  (h:∀ nm:Nm,opsH (addQ q p [nm] true) C all K rest (upd sl d (vV nm sz (List.replicate m za))) (H ++ [(nm,some (bV sz enc (List.replicate m za)))])):opsH q C all K (⟨some d,.makeSlice t x y,ty,pos,after,g⟩::rest) sl H:=by
 unfold mkN at hn
 split at hn
 ·rename_i hc
  simp only [Option.some.injEq]at hn; subst hn
  refine h_loudN rfl p [] hp (fun _ _ _=>okQ_nil) (fun m hm=>by cases hm) hw (fun S tk K' ok ag hk=>opD_eff (A:=⟨[],[((d,tk),some (bV sz enc (List.replicate n.toNat za)))],vV (d,tk) sz (List.replicate n.toNat za)⟩) (fun c e=>by cases e) ?_
   (hk _ _ _ (.inl rfl) ⟨by simp,by simp⟩ (ag.new ok rfl _) (h (d,tk))))
  show makeSliceF C.P t (ev sl x) (ev sl y) d tk=_
  unfold makeSliceF
  rw [he,hx,hy]
  simp only [hs,hz,hb]
  by_cases hn0:n=0
  ·rw [if_pos ⟨hn0,Int.le_refl _,hc.2.1,hc.2.2,hzl,hpos⟩]
   subst hn0
   simp [bV,vV]
  ·rw [if_neg (fun h=>hn0 h.1),if_pos ⟨hc.1,trivial,hc.2.1,hc.2.2,hzl,hpos,ho⟩,ha]
   simp [bV,vV]
 ·cases hn
end
end Go.Eng

/-
  THE ENGINE: slices with room made ahead; functions that are handed two slices in their boxes.
-/
namespace Go.Eng
set_option linter.unusedSectionVars false
variable [DM]
set_option linter.unusedVariables false
set_option linter.unusedSimpArgs false
section
variable {C:Cfg} {Q:QH} {sl:Nat→V} {H:Hp} {c:Code}
end
section
variable {C:Cfg} {sl:Nat→V} {H:Hp} {q:Qm} {all rest:List Oper} {K:(Nat→V)→Hp→Prop}
variable {dst:Option Tmp} {d:Nat} {t ty:TypeId} {pos:String} {after:Array Edge} {g:Option (Nat×Bool)}
end
section
variable {C:Cfg} {sl:Nat→V} {H:Hp} {q:Qm} {all rest:List Oper} {K:(Nat→V)→Hp→Prop}
variable {d:Nat} {t ty:TypeId} {pos:String} {after:Array Edge} {g:Option (Nat×Bool)}
end
end Go.Eng

/-
  THE ENGINE: functions that are handed two slices in their boxes.
-/
namespace Go.Eng
set_option linter.unusedSectionVars false
variable [DM]
set_option linter.unusedVariables false
set_option linter.unusedSimpArgs false
def exA {α:Type} (xs:List α) (k:Nat):Nm:=match xs with
  | []=>(7000000 + k,0)
  | _::_=>extN k
def exB {α:Type} (xs:List α) (k:Nat):Nm:=match xs with
  | []=>extN k
  | _::_=>extN (k + 1)
def okO (os:List (Option Box)):Bool:=os.all fun o=>match o with
  | some b=>b.ok 0
  | none=>true
theorem okO_map {os:List Box} (h:os.all (fun b=>b.ok 0)=true):okO (os.map some)=true:=by
  unfold okO; rw [List.all_map]; exact h
theorem okO_app {a b:List (Option Box)} (h1:okO a=true) (h2:okO b=true):okO (a++b)=true:=by
  unfold okO at *; rw [List.all_append,h1,h2]; rfl
theorem okO_out {k:Nat}:∀ {os:List (Option Box)},okO os=true→okOut k os=true
  | [],_=>rfl
  | none::os,h=>by
    simp only [okO,List.all_cons,Bool.true_and]at h
    simp only [okOut]; exact okO_out h
  | some b::os,h=>by
    simp only [okO,List.all_cons,Bool.and_eq_true]at h
    simp only [okOut,Bool.and_eq_true]; exact⟨Box.ok_mono (Nat.zero_le _) h.1,okO_out h.2⟩
theorem outs_okO (ν ν':List Nm):∀ (is:List Nat) (ns:List Nm) (bs:List (Option Box)),okO bs=true→Eng.outs ν is ns bs=Eng.outs ν' is ns bs
  | [],_,_,_=>rfl
  | _::_,[],_,_=>rfl
  | _::_,_::_,[],_=>rfl
  | i::is,n::ns,none::bs,h=>by
    simp only [okO,List.all_cons,Bool.true_and]at h
    simp only [Eng.outs,Option.map_none,outs_okO ν ν' is ns bs h]
  | i::is,n::ns,some b::bs,h=>by
    simp only [okO,List.all_cons,Bool.and_eq_true]at h
    simp only [Eng.outs,Option.map_some,bren_ok h.1,outs_okO ν ν' is ns bs h.2]
theorem ArgsOK.set {S:Store} {x y x' y':V} (hxy:y'=x'∨y'=co S x'):∀ {a b:List V} {i:Nat},ArgsOK S (a.set i x) (b.set i y)→ArgsOK S (a.set i x') (b.set i y')
  | [],[],i,h=>by simpa using h
  | [],b::bs,i,h=>by cases i <;> (simp at h; cases h)
  | a::az,[],i,h=>by cases i <;> (simp at h; cases h)
  | a::az,b::bs,0,h=>by
    simp only [List.set_cons_zero]at h ⊢
    cases h with
    | cons _ t=>exact .cons hxy t
  | a::az,b::bs,i + 1,h=>by
    simp only [List.set_cons_succ]at h ⊢
    cases h with
    | cons h1 t=>exact .cons h1 (ArgsOK.set hxy t)
theorem flat_set' {vs:List V} {i:Nat} {v n} (hv:vs[i]? = some v) (hn:n∈vs.flatMap frz):n∈frz v∨n∈(vs.set i .none).flatMap frz:=by
  obtain ⟨u,hu,hnu⟩:=List.mem_flatMap.1 hn
  obtain ⟨j,hj,rfl⟩:=List.getElem_of_mem hu
  by_cases hij:i=j
  · subst hij
    rw [List.getElem?_eq_getElem hj]at hv
    simp only [Option.some.injEq]at hv
    rw [← hv]; exact .inl hnu
  · refine .inr (List.mem_flatMap.2 ⟨vs[j],?_,hnu⟩)
    have:(vs.set i V.none)[j]'(by simpa using hj)=vs[j]:=by rw [List.getElem_set_ne hij]
    rw [← this]; exact List.getElem_mem _
section
variable {C:Cfg} {sl:Nat→V} {H:Hp} {q:Qm} {all rest:List Oper} {K:(Nat→V)→Hp→Prop}
variable {dst:Option Tmp} {d:Nat} {t ty:TypeId} {pos:String} {after:Array Edge} {g:Option (Nat×Bool)}
theorem setH_get:∀ {l':List (Nat×Nm×Option Box)} {H0:Hp} {iv:Nat},(∀ p∈l',p.1≠iv)→(setH H0 l')[iv]? = H0[iv]?
  | [],_,_,_=>rfl
  | (i,m,b)::l',H0,iv,hx=>by
    simp only [setH]
    rw [setH_get (fun p hp=>hx p (by simp [hp]))]
    have:i≠iv:=hx (i,m,b) (by simp)
    rw [List.getElem?_set_ne this]
theorem outs_in (ν:List Nm):∀ (is:List Nat) (ns:List Nm) (os:List (Option Box)),∀ p∈outs ν is ns os,p.1∈is
  | [],ns,os=>by intro p hp; simp [outs]at hp
  | i::is,[],os=>by intro p hp; simp [outs]at hp
  | i::is,m::ns,[]=>by intro p hp; simp [outs]at hp
  | i::is,m::ns,o::os=>by
    intro p hp
    simp only [outs,List.mem_cons]at hp
    rcases hp with rfl | hp
    · simp
    · exact List.mem_cons_of_mem _ (outs_in ν is ns os p hp)
theorem more_fp {p:Nat} {T T':List Nm} {sl':Nat→V} {H':Hp} (hT:∀ m∈T,m∈T') (hH:∀ m∈T',m∈T∨m∈H'.map (·.1)) (h:opsH (addQ q p T' true) C all K rest sl' H'):opsH (addQ q p T true) C all K rest sl' H':=by
  cases q with
  | none=>exact h
  | some Γ =>
    intro S tk ok ag k L hk hL hO'
    refine h S tk ok ag k L hk (fun p0 hp0' => ?_) (fun e he m hm => ?_)
    · rcases hL p0 hp0' with h1 | ⟨e,h1,h2,h3,h4,h5⟩
      · exact .inl h1
      · refine .inr ?_
        rcases List.mem_append.1 h1 with h1 | h1
        · exact⟨e,List.mem_append.2 (.inl h1),h2,h3,h4,h5⟩
        · rw [List.mem_singleton]at h1; subst h1
          exact⟨(p,T',true),by simp,h2,fun x hx=>hT _ (h3 x hx),fun x hx=>hT _ (h4 x hx),fun e=>by cases e⟩
    · rcases List.mem_append.1 he with he | he
      · exact hO' e (List.mem_append.2 (.inl he)) m hm
      · rw [List.mem_singleton]at he; subst he
        simp only at hm
        rcases hH m hm with hm | hm
        · exact hO' (p,T,true) (by simp) m hm
        · obtain ⟨x,hx,rfl⟩:=List.mem_map.1 hm
          exact (ag.at_ x hx).1
theorem setH_names:∀ {l':List (Nat×Nm×Option Box)} {H0:Hp} {m:Nm} {i:Nat} {b:Option Box},H0[i]? = some (m,b)→(∀ p∈l',p.1≠i)→m∈(setH H0 l').map (·.1):=by
  intro l' H0 m i b h1 h2
  have:=setH_get (H0:=H0) h2
  rw [h1]at this
  exact List.mem_map.2 ⟨_,List.mem_of_getElem? this,rfl⟩
theorem h_callw {α:Type} {enc:α→List D} {sz:Nat} {xs:List α} {f:Operand} {args:List Operand} {ats:Array TypeId} {fn:FuncId} {caps args0:List V} {r:V} {bs:List Box} {os:List (Option Box)} {o:Option Box} (p:Nat) (is:List Nat) (iv po:Nat) {l:List (Nm×Box)} {n:Nm} {w:V}
    (hp:q=none∨Nat.beq all.length (p + (rest.length + 1))=true)
    (hfp:∀ S tk,AgR H S tk (⟨some d,.call ⟨.value f,args.toArray,ats⟩,ty,pos,after,g⟩::rest)→okQ q all p (l.map (·.1) ++ [n]) true)
    (hc:FnM C.P fn args0 (bs++gI sz enc xs) r (os++gT xs o))
    (hf:ev sl f = .fn fn caps) (hb:hasBody C.P fn=true) (hl:pickH H is=some l) (hv:H[iv]? = some (n,gB sz enc xs))
    (hS:l.map (·.2)=bs) (hSok:bs.all (fun b=>b.ok 0)=true)
    (hw1:(args.map (ev sl)++caps)[po]? = some w) (hw2:w=gV n sz xs∨w=dV n sz xs∨w=vV n sz xs∧xs ≠ []) (hp0:args0[po]? = some (dV (extN is.length) sz xs))
    (hn:∀ m∈((args.map (ev sl)++caps).set po .none).flatMap frz,m∈l.map (·.1))
    (ha:∀ S tk,AgR H S tk (⟨some d,.call ⟨.value f,args.toArray,ats⟩,ty,pos,after,g⟩::rest)→ArgsOK S ((args.map (ev sl)++caps).set po .none) ((renL (l.map (·.1)) args0).set po .none)) (hok:okL is.length (args0.set po .none)=true) (hr:okV 0 r=true)
    (hlen:os.length=is.length) (hi:(is ++ [iv]).Nodup) (hO:okO os=true) (ho:∀ b,o=some b→b.ok 0=true) (hon:xs = []→o=none)
    (hw:wantedD all sl ⟨some d,.call ⟨.value f,args.toArray,ats⟩,ty,pos,after,g⟩=some true)
    (H':Hp) (hH:(setH H (outs (l.map (·.1)) is (l.map (·.1)) os)).set iv (n,o)=H')
    (h:opsH (addQ q p (l.map (·.1) ++ [n]) true) C all K rest (upd sl d r) H') :
    opsH q C all K (⟨some d,.call ⟨.value f,args.toArray,ats⟩,ty,pos,after,g⟩::rest) sl H:=by
  have hll:=(pickH_mem hl).1
  have hbs:bs.length=l.length:=by rw [← hS]; simp
  have hivs:iv∉is:=by
    rw [List.nodup_append]at hi
    exact fun hm=>hi.2.2 iv hm iv (by simp) rfl
  have hisn:is.Nodup:=(List.nodup_append.1 hi).1
  have hwco:∀ (S:Store),(∀ x l,xs=x::l→S n=some (.vec sz (xs.map enc)))→dV n sz xs=w∨dV n sz xs=co S w:=by
    intro S hS
    right
    cases hxs:xs with
    | nil =>
      subst hxs
      rcases hw2 with h2 | h2 | ⟨h2,h3⟩
      · rw [h2]; rfl
      · rw [h2]; rfl
      · exact absurd rfl h3
    | cons x l =>
      have:=hS x l hxs
      have e:w = .vs n sz 0 (x::l).length:=by rcases hw2 with h2 | h2 | ⟨h2,_⟩ <;> rw [h2,hxs] <;> rfl
      rw [e]
      simp only [co,co1,this,dV]
  have hfull:∀ S tk,AgR H S tk (⟨some d,.call ⟨.value f,args.toArray,ats⟩,ty,pos,after,g⟩::rest)→(∀ x l,xs=x::l→S n=some (.vec sz (xs.map enc)))→ArgsOK S (args.map (ev sl)++caps) ((renL (l.map (·.1)) args0).set po (dV n sz xs)):=fun S tk ag hS=>by
    have:=(ha S tk ag).set (x':=w) (y':=dV n sz xs) (hwco S hS)
    rwa [set_get hw1]at this
  have hpl:po < args0.length:=(List.getElem?_eq_some_iff.1 hp0).1
  cases hxs:xs with
  | nil =>
    have hobn:o=none:=hon hxs
    subst hobn
    have hc':FnM C.P fn args0 bs r os:=by rw [hxs]at hc; simpa [gI,gT]using hc
    have hq:okL is.length args0=true:=by
      have:=okL_set (v:=dV (extN is.length) sz xs) hok (by rw [hxs]; rfl)
      rwa [set_get hp0]at this
    have hren:(renL (l.map (·.1)) args0).set po (dV n sz xs)=renL (l.map (·.1)) args0:=by
      apply set_get
      obtain ⟨hlt,he⟩:=List.getElem?_eq_some_iff.1 hp0
      rw [List.getElem?_eq_getElem (by rw [renL_length]; exact hlt),renL_get _ _ _ _ hlt,he,hxs]; rfl
    have hH2:setH H (outs (l.map (·.1)) is (l.map (·.1)) os)=H':=by
      rw [← hH]
      symm
      apply set_get
      rw [setH_get (fun p hp e=>hivs (by rw [← e]; exact outs_in _ _ _ _ p hp)),hv,hxs]; rfl
    refine h_callX p is hp (fun S tk ag=>okQ_sub (fun m hm=>by simp [hm]) (hfp S tk ag)) hc' hf hb hl ?_ ?_ ?_ ?_ hq (okV_mono (Nat.zero_le _) r hr) hlen hisn (okO_out hO) hw r (ren_ok hr) H' hH2 ?_
    · rw [hS,bren_all _ hSok]
    · exact List.all_eq_true.2 (fun b hb'=>Box.ok_mono (Nat.zero_le _) (List.all_eq_true.1 hSok b hb'))
    · intro m hm
      rcases flat_set' hw1 hm with h1 | h1
      · exfalso
        rcases hw2 with h2 | h2 | ⟨_,h2⟩
        · rw [h2,hxs]at h1; cases h1
        · rw [h2,hxs]at h1; cases h1
        · exact h2 hxs
      · exact hn m h1
    · intro S tk ag
      have:=hfull S tk ag (fun x l e=>by rw [hxs]at e; cases e)
      rwa [hren]at this
    · refine more_fp (fun m hm=>by simp [hm]) (fun m hm => ?_) h
      rcases List.mem_append.1 hm with hm | hm
      · exact .inl hm
      · rw [List.mem_singleton]at hm; subst hm
        right; rw [← hH2]
        exact setH_names hv (fun p hp e=>hivs (by rw [← e]; exact outs_in _ _ _ _ p hp))
  | cons x l' =>
    have hgB:gB sz enc xs=some (.vec sz (xs.map enc)):=by rw [hxs]; rfl
    have hv':H[iv]? = some (n,some (.vec sz (xs.map enc))):=by rw [hv,hgB]
    have hc':FnM C.P fn args0 (bs ++ [.vec sz (xs.map enc)]) r (os ++ [o]):=by rw [hxs]at hc ⊢; exact hc
    have hp1:=pickH_app (l:=l) hl hv'
    have hmap:(l ++ [(n,Box.vec sz (xs.map enc))]).map (·.1)=l.map (·.1) ++ [n]:=by simp
    have hdv:dV (extN is.length) sz xs = .vs (extN is.length) sz 0 xs.length:=by rw [hxs]; rfl
    have hq:okL (is ++ [iv]).length args0=true:=by
      have:=okL_set (v:=dV (extN is.length) sz xs) (okL_mono (Nat.le_add_right is.length 1) _ hok) (by rw [hdv]; exact okN_lt (Nat.lt_succ_self _))
      rw [set_get hp0]at this
      simpa using this
    have h1:args0=(args0.set po .none).set po (dV (extN is.length) sz xs):=by rw [List.set_set,set_get hp0]
    have h2:renL (l.map (·.1) ++ [n]) args0=(renL (l.map (·.1)) args0).set po (dV n sz xs):=by
      conv=>lhs; rw [h1]
      rw [renL_set,renL_ok_ext (by simp only [List.length_map,hll]; exact hok),hdv]
      simp only [ren]
      rw [renN_at (n:=n) (by rw [List.getElem?_append_right (by simp [hll])]; simp [hll]),renL_set,List.set_set]
      rw [hxs]; rfl
    refine h_callX p (is ++ [iv]) hp (fun S tk ag=>by rw [hmap]; exact hfp S tk ag) hc' hf hb hp1 ?_ ?_ ?_ ?_ hq (okV_mono (Nat.zero_le _) r hr) (by simp [hlen]) hi ?_ hw r (ren_ok hr) H' ?_ ?_
    · rw [List.map_append,bren_all _ hSok]
      simp only [List.map_cons,List.map_nil,List.map_append,hS,Box.ren]
    · rw [List.all_append]
      simp only [Bool.and_eq_true]
      exact⟨List.all_eq_true.2 (fun b hb'=>Box.ok_mono (Nat.zero_le _) (List.all_eq_true.1 hSok b hb')),rfl⟩
    · intro m hm
      rw [hmap]
      rcases flat_set' hw1 hm with h3 | h3
      · have e:w = .vs n sz 0 xs.length:=by rcases hw2 with h2 | h2 | ⟨h2,_⟩ <;> rw [h2,hxs] <;> rfl
        rw [e]at h3
        have:m=n:=by simpa [frz,frz1]using h3
        rw [this]; simp
      · exact List.mem_append.2 (.inl (hn m h3))
    · intro S tk ag
      rw [hmap,h2]
      exact hfull S tk ag (fun _ _ _=>ag.get hv')
    · refine okOut_app (okO_out hO) ?_
      cases o with
      | none=>rfl
      | some b=>simp only [okOut,Bool.and_true]; exact Box.ok_mono (Nat.zero_le _) (ho b rfl)
    · rw [← hH,hmap,outs_app _ _ _ _ _ _ _ (by omega) (by simp [hll]),setH_app,outs_okO _ (l.map (·.1)) _ _ _ hO]
      simp only [setH]
      cases o with
      | none=>rfl
      | some b=>simp only [Option.map_some,bren_ok (ho b rfl)]
    · rw [hmap]; exact h
theorem frz_nil {vs:List V} (h:(vs.flatMap frz).all (fun _=>false)=true):vs.flatMap frz = []:=by
  cases hx:vs.flatMap frz with
  | nil=>rfl
  | cons a b=>rw [hx]at h; simp at h
theorem h_callv2 {α β:Type} {enc:α→List D} {enc2:β→List D} {sz sz2:Nat} {xs:List α} {ys:List β} {f:Operand} {args:List Operand} {ats:Array TypeId} {fn:FuncId} {caps args0:List V} {r:V} {bs os:List Box} {o o2:Option Box} (p:Nat) (is:List Nat) (iv iv2 po po2:Nat) {l:List (Nm×Box)} {n n2:Nm} {w w2:V}
    (hp:q=none∨Nat.beq all.length (p + (rest.length + 1))=true)
    (hfp:∀ S tk,AgR H S tk (⟨some d,.call ⟨.value f,args.toArray,ats⟩,ty,pos,after,g⟩::rest)→okQ q all p (l.map (·.1) ++ [n,n2]) true)
    (hc:FnM C.P fn args0 (bs++gI sz enc xs++gI sz2 enc2 ys) r (os.map some++gT xs o++gT ys o2))
    (hf:ev sl f = .fn fn caps) (hb:hasBody C.P fn=true) (hl:pickH H is=some l) (hv:H[iv]? = some (n,gB sz enc xs)) (hv2:H[iv2]? = some (n2,gB sz2 enc2 ys))
    (hS:l.map (·.2)=bs) (hSok:bs.all (fun b=>b.ok 0)=true)
    (hw1:(args.map (ev sl)++caps)[po]? = some w) (hw2:w=gV n sz xs∨w=dV n sz xs∨w=vV n sz xs∧xs ≠ []) (hp0:args0[po]? = some (dV (exA xs is.length) sz xs))
    (hw3:(args.map (ev sl)++caps)[po2]? = some w2) (hw4:w2=gV n2 sz2 ys∨w2=dV n2 sz2 ys∨w2=vV n2 sz2 ys∧ys ≠ []) (hp2:args0[po2]? = some (dV (exB xs is.length) sz2 ys)) (hpp:po≠po2)
    (hn:((((args.map (ev sl)++caps).set po .none).set po2 .none).flatMap frz).all (fun n=>false)=true)
    (ha:(((args.map (ev sl)++caps).map co0).set po .none).set po2 .none=((renL (l.map (·.1)) args0).set po .none).set po2 .none) (hok:okL is.length ((args0.set po .none).set po2 .none)=true) (hr:okV 0 r=true)
    (hlen:os.length=is.length) (hi:(is ++ [iv,iv2]).Nodup) (hO:os.all (fun b=>b.ok 0)=true) (ho:∀ b,o=some b→b.ok 0=true) (hon:xs = []→o=none) (ho2:∀ b,o2=some b→b.ok 0=true) (hon2:ys = []→o2=none)
    (hw:wantedD all sl ⟨some d,.call ⟨.value f,args.toArray,ats⟩,ty,pos,after,g⟩=some true)
    (H':Hp) (hH:((setH H (outs (l.map (·.1)) is (l.map (·.1)) (os.map some))).set iv (n,o)).set iv2 (n2,o2)=H')
    (h:opsH (addQ q p (l.map (·.1) ++ [n,n2]) true) C all K rest (upd sl d r) H') :
    opsH q C all K (⟨some d,.call ⟨.value f,args.toArray,ats⟩,ty,pos,after,g⟩::rest) sl H:=by
  have hll:=(pickH_mem hl).1
  have hi12:is.Nodup∧iv∉is∧iv2∉is∧iv≠iv2:=by
    rw [List.nodup_append]at hi
    obtain ⟨h1,h2,h3⟩:=hi
    refine⟨h1,fun hm=>h3 iv hm iv (by simp) rfl,fun hm=>h3 iv2 hm iv2 (by simp) rfl,fun e => ?_⟩
    rw [e]at h2; simp at h2
  have hfn:=frz_nil hn
  have hbase:∀ S:Store,ArgsOK S (((args.map (ev sl)++caps).set po .none).set po2 .none) (((renL (l.map (·.1)) args0).set po .none).set po2 .none):=fun S=>by
    refine ArgsOK.of_map ?_
    rw [map_co hfn,List.map_set,List.map_set]
    exact ha
  cases hxs:xs with
  | nil =>
    have hobn:o=none:=hon hxs
    subst hobn
    have hc':FnM C.P fn args0 (bs++gI sz2 enc2 ys) r (os.map some++gT ys o2):=by rw [hxs]at hc; simpa [gI,gT]using hc
    have hp2':args0[po2]? = some (dV (extN is.length) sz2 ys):=by rw [hp2,hxs]; rfl
    have hv0:H[iv]? = some (n,none):=by rw [hv,hxs]; rfl
    have hset0:setH H (outs (l.map (·.1)) is (l.map (·.1)) (os.map some))=(setH H (outs (l.map (·.1)) is (l.map (·.1)) (os.map some))).set iv (n,none):=by
      symm; apply set_get
      rw [setH_get (fun p hp e=>hi12.2.1 (by rw [← e]; exact outs_in _ _ _ _ p hp)),hv0]
    refine h_callw (n:=n2) p is iv2 po2 hp (fun S tk ag=>okQ_sub (fun m hm=>by
        rcases List.mem_append.1 hm with hm | hm
        · simp [hm]
        · rw [List.mem_singleton]at hm; simp [hm]) (hfp S tk ag)) hc' hf hb hl hv2 hS hSok hw3 hw4 hp2' ?_ ?_ ?_ hr (by simp [hlen]) ?_ (okO_map hO) ho2 hon2 hw H' ?_ ?_
    · intro m hm
      have hw1':((args.map (ev sl)++caps).set po2 .none)[po]? = some w:=by rw [List.getElem?_set_ne (Ne.symm hpp)]; exact hw1
      rcases flat_set' hw1' hm with h1 | h1
      · exfalso
        rcases hw2 with h2 | h2 | ⟨_,h2⟩
        · rw [h2,hxs]at h1; cases h1
        · rw [h2,hxs]at h1; cases h1
        · exact h2 hxs
      · rw [List.set_comm _ _ (Ne.symm hpp),hfn]at h1; cases h1
    · intro S tk ag
      have hb:=hbase S
      rw [List.set_comm _ _ hpp,List.set_comm (l:=renL (l.map (·.1)) args0) _ _ hpp]at hb
      have:=hb.set (x':=w) (y' := .d (.sl [])) (by
        right
        rcases hw2 with h2 | h2 | ⟨_,h2⟩
        · rw [h2,hxs]; rfl
        · rw [h2,hxs]; rfl
        · exact absurd hxs h2)
      have e1:((args.map (ev sl)++caps).set po2 .none).set po w=(args.map (ev sl)++caps).set po2 .none:=set_get (by rw [List.getElem?_set_ne (Ne.symm hpp)]; exact hw1)
      have e2:((renL (l.map (·.1)) args0).set po2 .none).set po (.d (.sl []))=(renL (l.map (·.1)) args0).set po2 .none:=set_get (by
        rw [List.getElem?_set_ne (Ne.symm hpp)]
        obtain ⟨hlt,he⟩:=List.getElem?_eq_some_iff.1 hp0
        rw [List.getElem?_eq_getElem (by rw [renL_length]; exact hlt),renL_get _ _ _ _ hlt,he,hxs]; rfl)
      rwa [e1,e2]at this
    · have:=okL_set (vs:=args0.set po2 .none) (i:=po) (v:=dV (exA xs is.length) sz xs) (by rw [List.set_comm _ _ (Ne.symm hpp)]; exact hok) (by rw [hxs]; rfl)
      rwa [set_get (by rw [List.getElem?_set_ne (Ne.symm hpp)]; exact hp0)]at this
    · rw [List.nodup_append]
      exact⟨hi12.1,by simp,fun a ha b hb e=>by rw [List.mem_singleton]at hb; subst hb; exact hi12.2.2.1 (e ▸ ha)⟩
    · rw [hset0]; exact hH
    · refine more_fp (fun m hm=>by
        rcases List.mem_append.1 hm with hm | hm
        · simp [hm]
        · rw [List.mem_singleton]at hm; simp [hm]) (fun m hm => ?_) h
      simp only [List.mem_append,List.mem_cons,List.not_mem_nil,or_false]at hm
      rcases hm with hm | rfl | rfl
      · exact .inl (by simp [hm])
      · right
        rw [← hH]
        have h1:((setH H (outs (l.map (·.1)) is (l.map (·.1)) (os.map some))).set iv (m,none))[iv]? = some (m,none):=by
          have:=(List.getElem?_eq_some_iff.1 hv0).1
          rw [List.getElem?_set_self (by rw [setH_at]; exact this)]
        have h2:(((setH H (outs (l.map (·.1)) is (l.map (·.1)) (os.map some))).set iv (m,none)).set iv2 (n2,o2))[iv]? = some (m,none):=by
          rw [List.getElem?_set_ne (Ne.symm hi12.2.2.2)]; exact h1
        exact List.mem_map.2 ⟨_,List.mem_of_getElem? h2,rfl⟩
      · exact .inl (by simp)
  | cons x l' =>
    have hgB:gB sz enc xs=some (.vec sz (xs.map enc)):=by rw [hxs]; rfl
    have hv':H[iv]? = some (n,some (.vec sz (xs.map enc))):=by rw [hv,hgB]
    have hc':FnM C.P fn args0 ((bs ++ [.vec sz (xs.map enc)])++gI sz2 enc2 ys) r ((os.map some ++ [o])++gT ys o2):=by rw [hxs]at hc ⊢; exact hc
    have hp1:=pickH_app (l:=l) hl hv'
    have hmap:(l ++ [(n,Box.vec sz (xs.map enc))]).map (·.1)=l.map (·.1) ++ [n]:=by simp
    have hlen1:(is ++ [iv]).length=is.length + 1:=by simp
    have hp2':args0[po2]? = some (dV (extN (is ++ [iv]).length) sz2 ys):=by rw [hp2,hxs,hlen1]; rfl
    have hp0':args0[po]? = some (.vs (extN is.length) sz 0 xs.length):=by rw [hp0,hxs]; rfl
    have hwv:w = .vs n sz 0 xs.length:=by rcases hw2 with h2 | h2 | ⟨h2,_⟩ <;> rw [h2,hxs] <;> rfl
    have hokx:okL is.length (((args0.set po2 .none)).set po .none)=true:=by rw [List.set_comm _ _ (Ne.symm hpp)]; exact hok
    have hget:(args0.set po2 .none)[po]? = some (.vs (extN is.length) sz 0 xs.length):=by rw [List.getElem?_set_ne (Ne.symm hpp)]; exact hp0'
    have hren1:(renL (l.map (·.1) ++ [n]) args0).set po2 .none=((renL (l.map (·.1)) args0).set po2 .none).set po (.vs n sz 0 xs.length):=by
      have e1:(renL (l.map (·.1) ++ [n]) args0).set po2 .none=renL (l.map (·.1) ++ [n]) (args0.set po2 .none):=by rw [renL_set]; rfl
      have e2:args0.set po2 .none=((args0.set po2 .none).set po .none).set po (.vs (extN is.length) sz 0 xs.length):=by rw [List.set_set,set_get hget]
      rw [e1,e2,renL_set,renL_ok_ext (by simp only [List.length_map,hll]; exact hokx)]
      simp only [ren]
      rw [renN_at (n:=n) (by rw [List.getElem?_append_right (by simp [hll])]; simp [hll]),renL_set,List.set_set,renL_set]; rfl
    refine h_callw (n:=n2) p (is ++ [iv]) iv2 po2 hp (fun S tk ag=>by rw [hmap]; have:=hfp S tk ag; simpa using this) hc' hf hb hp1 hv2 (by simp only [List.map_append,List.map_cons,List.map_nil,hS]) (by rw [List.all_append,hSok]; rfl) hw3 hw4 hp2' ?_ ?_ ?_ hr (by simp [hlen]) (by simpa using hi) (okO_app (okO_map hO) ?_) ho2 hon2 hw H' ?_ ?_
    · intro m hm
      rw [hmap]
      have hw1':((args.map (ev sl)++caps).set po2 .none)[po]? = some w:=by rw [List.getElem?_set_ne (Ne.symm hpp)]; exact hw1
      rcases flat_set' hw1' hm with h1 | h1
      · rw [hwv]at h1
        have:m=n:=by simpa [frz,frz1]using h1
        rw [this]; simp
      · rw [List.set_comm _ _ (Ne.symm hpp),hfn]at h1; cases h1
    · intro S tk ag
      rw [hmap,hren1]
      have hb:=hbase S
      rw [List.set_comm _ _ hpp,List.set_comm (l:=renL (l.map (·.1)) args0) _ _ hpp]at hb
      have:=hb.set (x':=w) (y' := .vs n sz 0 xs.length) (.inl hwv.symm)
      have e1:((args.map (ev sl)++caps).set po2 .none).set po w=(args.map (ev sl)++caps).set po2 .none:=set_get (by rw [List.getElem?_set_ne (Ne.symm hpp)]; exact hw1)
      rwa [e1]at this
    · have:=okL_set (vs:=args0.set po2 .none) (i:=po) (v := .vs (extN is.length) sz 0 xs.length) (okL_mono (Nat.le_add_right is.length 1) _ hokx) (okN_lt (Nat.lt_succ_self _))
      rw [set_get hget]at this
      rw [hlen1]; exact this
    · unfold okO
      cases o with
      | none=>rfl
      | some b=>simp only [List.all_cons,List.all_nil,Bool.and_true]; exact ho b rfl
    · rw [← hH,hmap,outs_app _ _ _ _ _ _ _ (by simp [hlen]) (by simp [hll]),setH_app,outs_ok0 _ (l.map (·.1)) _ _ _ hO]
      simp only [setH]
      cases o with
      | none=>rfl
      | some b=>simp only [Option.map_some,bren_ok (ho b rfl)]
    · rw [hmap]; simpa using h
theorem pre_mk {H0:Hp} (h:H.take H0.length=H0):pre H0 H:=pre_r h
end
end Go.Eng

/-
  THE ENGINE: a sort of the library's, by its contract off the shelf.
-/
namespace Go.Eng
set_option linter.unusedSectionVars false
variable [DM]
open Go.Sort
set_option linter.unusedVariables false
set_option linter.unusedSimpArgs false
end Go.Eng

