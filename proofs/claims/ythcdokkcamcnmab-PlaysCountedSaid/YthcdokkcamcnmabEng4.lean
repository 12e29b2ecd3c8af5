/-
  The engine: what the machine does to data, shown once for all programs (part 4).
-/
import Derived.Test.YthcdokkcamcnmabEng3
import Derived.Sort.Row
import Derived.Sort.Grow
/-
  THE ENGINE: parts of a slice over a box; clear.
-/
namespace Go.Eng
set_option linter.unusedSectionVars false
variable [DM]
set_option linter.unusedVariables false
set_option linter.unusedSimpArgs false
theorem gV_cons {α:Type} {n:Nm} {sz:Nat} {xs:List α} (h:xs ≠ []):gV n sz xs=vV n sz xs:=by cases xs with
 | nil=>exact absurd rfl h
 | cons x xs=>rfl
theorem gB_cons {α:Type} {sz:Nat} {enc:α→List D} {xs:List α} (h:xs ≠ []):gB sz enc xs=some (bV sz enc xs):=by cases xs with
 | nil=>exact absurd rfl h
 | cons x xs=>rfl
section
variable {C:Cfg} {Q:QH} {sl:Nat→V} {H:Hp} {c:Code}
end
section
variable {C:Cfg} {sl:Nat→V} {H:Hp} {q:Qm} {all rest:List Oper} {K:(Nat→V)→Hp→Prop}
 {dst:Option Tmp} {t ty e:TypeId} {pos:String} {after:Array Edge} {g:Option (Nat×Bool)}
theorem h_clear {α:Type} {enc:α→List D} {xs:List α} {x:Operand} {n:Nm} {sz k len i:Nat} {z:List V} (p:Nat) (hp:q=none∨Nat.beq all.length (p + (rest.length + 1))=true)
  (hf:∀ S tk,AgR H S tk (⟨dst,.call ⟨.builtin .clear,#[x],#[t]⟩,ty,pos,after,g⟩::rest)→okQ q all p [n] true) (za:α)
  (he:elemT C.P t=some e) (hs:szT C.P e=some sz) (hz:zeroCells C.P e=some z) (ha:allD z=some (enc za)) (ho:z.all oneV=true) (hzl:z.length=sz) (hpos:0 < sz)
  (hx:ev sl x = .vs n sz k len) (hle:k + len≤xs.length) (hH:H[i]? = some (n,some (bV sz enc xs)))
  (hw:wantedD all sl ⟨dst,.call ⟨.builtin .clear,#[x],#[t]⟩,ty,pos,after,g⟩=some true)
  (h:opsH (addQ q p [n] true) C all K rest (putS sl dst (.tup [])) (H.set i (n,some (bV sz enc (xs.take k++List.replicate len za++xs.drop (k + len)))))) :
  opsH q C all K (⟨dst,.call ⟨.builtin .clear,#[x],#[t]⟩,ty,pos,after,g⟩::rest) sl H:=by
 refine h_touch p [n] true hp hf (mem_H hH) hw (fun S tk K' ok ag hk => ?_)
 have hS:S n=some (.vec sz (xs.map enc)):=ag.get hH
 have hle':k + len≤(xs.map enc).length:=by simpa using hle
 by_cases h0:len=0
 ·subst h0
  refine opD_bi (A:=⟨[(n,.vec sz (xs.map enc))],[],.tup []⟩) ?_ (hk _ (H.set i (n,some (bV sz enc (xs.take k++List.replicate 0 za++xs.drop (k + 0))))) ⟨by simp,by simp⟩ (fun e=>by cases e) ?_ h)
  ·show clearF C.P t S (ev sl x)=_
   simp only [clearF,he,hx,hs,hz,hS,ha]
   rw [if_pos ⟨trivial,trivial,hzl,ho,hle',hpos⟩,if_pos trivial]
  ·have:=set_eq ag hH (b':=some (bV sz enc (xs.take k++List.replicate 0 za++xs.drop (k + 0)))) (fun x hx=>by simp only [List.replicate_zero,List.append_nil,Nat.add_zero,List.take_append_drop]at hx; rw [hS]; exact hx)
   exact this.tail
 ·refine opD_bi (A:=⟨[(n,.vec sz (xs.map enc))],[(n,some (bV sz enc (xs.take k++List.replicate len za++xs.drop (k + len))))],.tup []⟩) ?_ (hk _ _ ⟨by simp,by simp⟩ (fun e=>by cases e) (ag.tail.set hH (fun x hx=>hx)) h)
  show clearF C.P t S (ev sl x)=_
  simp only [clearF,he,hx,hs,hz,hS,ha]
  rw [if_pos ⟨trivial,trivial,hzl,ho,hle',hpos⟩,if_neg h0]
  simp [bV,List.map_take,List.map_drop]
def subR {α:Type} (xs:List α) (lo hi:Int):Option Unit:=if 0≤lo∧0≤hi∧lo.toNat≤hi.toNat∧hi.toNat≤xs.length then some ()else none
theorem subR_spec {α:Type} {xs:List α} {lo hi:Int} {u:Unit} (h:subR xs lo hi=some u):0≤lo∧0≤hi∧lo.toNat≤hi.toNat∧hi.toNat≤xs.length:=by
 unfold subR at h; split at h
 ·assumption
 ·cases h
theorem subR_le {α:Type} {xs:List α} {lo hi:Int} {u:Unit} (h:subR xs lo hi=some u):lo.toNat + (hi.toNat - lo.toNat)≤xs.length:=by
 have:=subR_spec h; omega
section part
variable {α:Type} {enc:α→List D} {xs:List α} {sz:Nat} {n:Nm} {x l hi:Operand} {k k':IntKind} {a b:Int} {u:Unit}
theorem part_val (hu:C.P.underlying t=some (.slice e)) (hs:szT C.P e=some sz) {lo hi:Option V} {l h:Int} (h1:bndF 0 lo=some l.toNat) (h2:bndF xs.length hi=some h.toNat) (hr:subR xs l h=some u) :
  sliceF C.P t (vV n sz xs) lo hi none=some (.vs n sz l.toNat (h.toNat - l.toNat)):=by
 obtain ⟨_,_,r3,r4⟩:=subR_spec hr
 simp only [vV,sliceF,hu,hs,h1,h2]
 rw [if_pos ⟨r3,r4,trivial⟩,Nat.zero_add]
theorem h_partTF (hu:C.P.underlying t=some (.slice e)) (hs:szT C.P e=some sz) (hx:ev sl x=vV n sz xs) (hl:ev sl l = .d (.int k a)) (hr:subR xs a xs.length=some u) (hw:wantedD all sl ⟨dst,.slice t x (some l) none none,ty,pos,after,g⟩=some true)
  (h:opsH q C all K rest (putS sl dst (.vs n sz a.toNat (((xs.length:Int)).toNat - a.toNat))) H):opsH q C all K (⟨dst,.slice t x (some l) none none,ty,pos,after,g⟩::rest) sl H :=
 h_op _ hw (by
  show sliceF C.P t (ev sl x) (some (ev sl l)) none none=_
  rw [hx,hl]; exact part_val hu hs (bnd_i (subR_spec hr).1) rfl hr) h
theorem h_partFT (hu:C.P.underlying t=some (.slice e)) (hs:szT C.P e=some sz) (hx:ev sl x=vV n sz xs) (hh:ev sl hi = .d (.int k' b)) (hr:subR xs 0 b=some u) (hw:wantedD all sl ⟨dst,.slice t x none (some hi) none,ty,pos,after,g⟩=some true)
  (h:opsH q C all K rest (putS sl dst (.vs n sz 0 b.toNat)) H):opsH q C all K (⟨dst,.slice t x none (some hi) none,ty,pos,after,g⟩::rest) sl H :=
 h_op _ hw (by
  show sliceF C.P t (ev sl x) none (some (ev sl hi)) none=_
  rw [hx,hh]; exact part_val hu hs rfl (bnd_i (subR_spec hr).2.1) hr) h
end part
end
end Go.Eng

/-
  THE ENGINE: a slice that a function writes into: its box is handed in and handed back.
-/
namespace Go.Eng
set_option linter.unusedSectionVars false
variable [DM]
set_option linter.unusedVariables false
set_option linter.unusedSimpArgs false
def dV {α:Type} (n:Nm) (sz:Nat):List α→V
  | [] => .d (.sl [])
  | x::xs => .vs n sz 0 (x::xs).length
def gI {α:Type} (sz:Nat) (enc:α→List D):List α→List Box
  | [] => []
  | x::xs => [.vec sz ((x::xs).map enc)]
def gT {α:Type} (xs:List α) (o:Option Box):List (Option Box):=match xs with
  | [] => []
  | _::_ => [o]
def sameL {α β:Type} (xs:List α) (ys:List β):Option Unit:=if xs.length=ys.length then some ()else none
def inN (i:Int) (len:Nat):Option Unit:=if 0≤i∧i.toNat < len then some ()else none
theorem sameL_eq {α β:Type} {xs:List α} {ys:List β} {u:Unit} (h:sameL xs ys=some u):xs.length=ys.length:=by
  unfold sameL at h; split at h
  · assumption
  · cases h
theorem clear_len {α:Type} {xs:List α} {k len:Nat} {z:α} (h:k + len≤xs.length):xs.length=(xs.take k++List.replicate len z++xs.drop (k + len)).length:=by
  simp only [List.length_append,List.length_take,List.length_replicate,List.length_drop]; omega
theorem dV_len {α:Type} {n:Nm} {sz:Nat} {xs ys:List α} (h:xs.length=ys.length):dV n sz xs=dV n sz ys:=by
  cases xs with
  | nil=>cases ys with
    | nil=>rfl
    | cons y ys=>simp at h
  | cons x xs=>cases ys with
    | nil=>simp at h
    | cons y ys=>simp only [dV,h]
theorem gB_ho {α:Type} {sz:Nat} {enc:α→List D} {xs ys:List α} (h:ys.length=xs.length):xs = []→gB sz enc ys=none:=fun e=>by
  subst e
  cases ys with
  | nil=>rfl
  | cons y ys=>simp at h
section
variable {C:Cfg} {sl:Nat→V} {H:Hp} {Q:QH} {c:Code}
theorem wH_re (k:Nat) {v v':V} (hk:sl k=v) (e:v=v') (h:wH C c Q (upd sl k v') H):wH C c Q sl H:=by
  have:upd sl k v'=sl:=by
    funext j
    simp only [upd]
    cases hj:Nat.beq j k with
    | true=>rw [Nat.eq_of_beq_eq_true hj,hk,e]; rfl
    | false=>rfl
  rw [this]at h; exact h
end
section
variable {C:Cfg} {sl:Nat→V} {H:Hp} {q:Qm} {all rest:List Oper} {K:(Nat→V)→Hp→Prop}
variable {dst:Option Tmp} {d:Nat} {t ty:TypeId} {pos:String} {after:Array Edge} {g:Option (Nat×Bool)}
theorem h_reH (i:Nat) {n:Nm} {b b':Option Box} (h:H[i]? = some (n,b)) (e:b=b') (hw:opsH q C all K rest sl (H.set i (n,b'))):opsH q C all K rest sl H:=by
  subst e
  have hi:=(List.getElem?_eq_some_iff.1 h)
  rwa [← hi.2,List.set_getElem_self]at hw
theorem h_iavd {α:Type} {xs:List α} {x i:Operand} {k:IntKind} {n:Int} {nm:Nm} {size:Nat} (hT:(elemT C.P t).bind (szT C.P)=some size) (hx:ev sl x=dV nm size xs) (hi:ev sl i = .d (.int k n)) (h0:0≤n) (h1:n.toNat < xs.length)
    (hw:wantedD all sl ⟨dst,.indexAddr t x i,ty,pos,after,g⟩=some true) (h:opsH q C all K rest (putS sl dst (.ref nm (0 + n.toNat) 0)) H):opsH q C all K (⟨dst,.indexAddr t x i,ty,pos,after,g⟩::rest) sl H:=by
  cases xs with
  | nil=>simp at h1
  | cons y ys=>exact h_iav hT hx hi h0 h1 hw h
theorem h_lend {α:Type} {n:Nm} {sz:Nat} {xs:List α} {x:Operand} {e:TypeId} (hu:C.P.underlying t=some (.slice e)) (hx:ev sl x=dV n sz xs) (hw:wantedD all sl ⟨dst,.call ⟨.builtin .len,#[x],#[t]⟩,ty,pos,after,g⟩=some true)
    (h:opsH q C all K rest (putS sl dst (vI xs.length)) H):opsH q C all K (⟨dst,.call ⟨.builtin .len,#[x],#[t]⟩,ty,pos,after,g⟩::rest) sl H:=by
  cases xs with
  | nil=>exact h_len (enc:=fun _:α => []) (xs := []) hu hx hw h
  | cons y ys=>exact h_lenw hu hx hw h
theorem h_callX {f:Operand} {args:List Operand} {ats:Array TypeId} {fn:FuncId} {caps args0:List V} {r:V} {Sin:List Box} {Sout:List (Option Box)} (p:Nat) (is:List Nat) {l:List (Nm×Box)} (hp:q=none∨Nat.beq all.length (p + (rest.length + 1))=true)
    (hfp:∀ S tk,AgR H S tk (⟨some d,.call ⟨.value f,args.toArray,ats⟩,ty,pos,after,g⟩::rest)→okQ q all p (l.map (·.1)) true) (hc:FnM C.P fn args0 Sin r Sout)
    (hf:ev sl f = .fn fn caps) (hb:hasBody C.P fn=true) (hl:pickH H is=some l) (hS:Sin.map (fun b=>b.ren (l.map (·.1)))=l.map (·.2)) (hSok:Sin.all (fun b=>b.ok is.length)=true)
    (hn:∀ n∈(args.map (ev sl)++caps).flatMap frz,n∈l.map (·.1)) (ha:∀ S tk,AgR H S tk (⟨some d,.call ⟨.value f,args.toArray,ats⟩,ty,pos,after,g⟩::rest)→ArgsOK S (args.map (ev sl)++caps) (renL (l.map (·.1)) args0)) (hok:okL is.length args0=true) (hr:okV Sout.length r=true)
    (hlen:Sout.length=is.length) (hi:is.Nodup) (hO:okOut Sout.length Sout=true)
    (hw:wantedD all sl ⟨some d,.call ⟨.value f,args.toArray,ats⟩,ty,pos,after,g⟩=some true)
    (v:V) (hv:ren (l.map (·.1)) r=v) (H':Hp) (hH:setH H (outs (l.map (·.1)) is (l.map (·.1)) Sout)=H')
    (h:opsH (addQ q p (l.map (·.1)) true) C all K rest (upd sl d v) H') :
    opsH q C all K (⟨some d,.call ⟨.value f,args.toArray,ats⟩,ty,pos,after,g⟩::rest) sl H:=by
  subst hv hH
  obtain ⟨hll,hlg⟩:=pickH_mem hl
  have hsl:Sin.length=l.length:=by have:=congrArg List.length hS; simpa using this
  refine h_touch p (l.map (·.1)) true hp hfp (pickH_sub hl) hw (fun S tk K' ok ag hk=>opD_call hf ?_)
  have hnd:=nodup_pick ag hi hl
  refine .inl ⟨hb,⟨[],l.map (·.1),args0,Sin,r,Sout,false⟩,?_,(fun e=>by cases e),?_⟩
  · exact { does := hc
            args:=ha S tk ag
            okA:=by simp only [List.length_map,hll]; exact hok
            nodup:=hnd
            ins:=by
              refine insOK_of (by simp [hsl]) (fun j h1 h2=>⟨?_,?_⟩)
              · simp only [List.length_map,hll]
                exact List.all_eq_true.1 hSok _ (List.getElem_mem h2)
              · simp only [List.length_map]at h1
                have e:=hlg j (by omega) h1
                have e2:l[j].2=Sin[j].ren (l.map (·.1)):=by
                  have:=congrArg (fun x=>x[j]?) hS
                  simp only [List.getElem?_map,List.getElem?_eq_getElem h2,List.getElem?_eq_getElem h1,Option.map_some,Option.some.injEq]at this
                  exact this.symm
                simp only [List.getElem_map]
                show S l[j].1=_
                rw [ag.get e,e2]
            len:=by show Sin.length≤Sout.length; omega
            okR:=hr,okO:=hO,mutN:=by show mutOut (List.drop Sin.length Sout)=true; rw [List.drop_of_length_le (by omega)]; rfl
            roOK:=(fun e=>by cases e),have_:=(fun n hn=>nomatch hn),cov:=(fun n h' => .inr (hn n h')),dis:=(fun n _ hn=>nomatch hn) }
  · have hdm:Sout.length - Sin.length=0:=by omega
    have e1:CallData.eff ⟨[],l.map (·.1),args0,Sin,r,Sout,false⟩ S d tk=⟨((l.map (·.1)).zip Sin).map (fun p=>(p.1,p.2.ren (l.map (·.1)))),outUpd (l.map (·.1)) (l.map (·.1)) Sout,ren (l.map (·.1)) r⟩:=by
      simp only [CallData.eff,cond_false,CallData.names,hdm,newN,List.range_zero,List.map_nil,List.append_nil,freezeReq,freezeUpd,List.nil_append]
    show K' (CallData.eff _ S d tk)
    rw [e1]
    refine hk _ _ ⟨fun x hx => ?_,fun x hx=>outUpd_names hx⟩ (fun h=>by cases h) ?_ h
    · obtain ⟨y,hy,rfl⟩:=List.mem_map.1 hx
      exact (List.of_mem_zip hy).1
    · have e3:(l.map (·.1)).length=is.length:=by simp [hll]
      have ag1:=outs_ok (ν:=l.map (·.1)) ag hi hnd (bs:=Sout) (fun j h1 h2=>by
        simp only [List.length_map]at h2
        exact⟨_,by simp only [List.getElem_map]; exact hlg j h1 h2⟩)
      rw [List.take_of_length_le (by omega)]at ag1
      exact ag1.tail
theorem pickH_app {l:List (Nm×Box)} {i:Nat} {n:Nm} {b:Box}:∀ {is:List Nat} {l:List (Nm×Box)},pickH H is=some l→H[i]? = some (n,some b)→pickH H (is ++ [i])=some (l ++ [(n,b)])
  | [],l,h,hi=>by
    simp only [pickH,Option.some.injEq]at h; subst h
    simp only [List.nil_append,pickH,hi]
  | j::is,l,h,hi=>by
    simp only [pickH]at h
    split at h
    · rename_i n' b' l' h1 h2
      simp only [Option.some.injEq]at h; subst h
      simp only [List.cons_append,pickH,h1,pickH_app (l:=l) h2 hi]
    · cases h
theorem renL_set (ρ:List Nm):∀ (vs:List V) (i:Nat) (v:V),renL ρ (vs.set i v)=(renL ρ vs).set i (ren ρ v)
  | [],_,_=>rfl
  | _::_,0,_=>rfl
  | x::vs,i + 1,v=>by simp only [List.set_cons_succ,renL,renL_set ρ vs i v]
theorem okL_set {k:Nat}:∀ {vs:List V} {i:Nat} {v:V},okL k (vs.set i .none)=true→okV k v=true→okL k (vs.set i v)=true
  | [],_,_,_,_=>rfl
  | x::vs,0,v,h,hv=>by
    simp only [List.set_cons_zero,okL,Bool.and_eq_true]at h ⊢; exact⟨hv,h.2⟩
  | x::vs,i + 1,v,h,hv=>by
    simp only [List.set_cons_succ,okL,Bool.and_eq_true]at h ⊢; exact⟨h.1,okL_set h.2 hv⟩
theorem set_get {α:Type}:∀ {l:List α} {i:Nat} {a:α},l[i]? = some a→l.set i a=l
  | x::l,0,a,h=>by simp at h; subst h; rfl
  | x::l,i + 1,a,h=>by simp only [List.set_cons_succ]; rw [set_get (by simpa using h)]
  | [],_,_,h=>by simp at h
theorem set_eq_set {α:Type} {a b:List α} {i:Nat} {x y:α} (h:a.set i x=b.set i x):a.set i y=b.set i y:=by
  have:=congrArg (fun l=>l.set i y) h
  simpa using this
theorem outs_app (ν:List Nm):∀ (is:List Nat) (ns:List Nm) (bs:List (Option Box)) (i:Nat) (n:Nm) (o:Option Box),is.length=bs.length→is.length=ns.length→Eng.outs ν (is ++ [i]) (ns ++ [n]) (bs ++ [o])=Eng.outs ν is ns bs ++ [(i,n,o.map (·.ren ν))]
  | [],[],[],i,n,o,_,_=>rfl
  | j::is,m::ns,b::bs,i,n,o,h1,h2=>by simp only [List.cons_append,Eng.outs]; rw [outs_app ν is ns bs i n o (by simpa using h1) (by simpa using h2)]
  | [],_::_,_,_,_,_,_,h=>by simp at h
  | [],[],_::_,_,_,_,h,_=>by simp at h
  | _::_,[],_,_,_,_,_,h=>by simp at h
  | _::_,_::_,[],_,_,_,h,_=>by simp at h
theorem outs_ok0 (ν ν':List Nm):∀ (is:List Nat) (ns:List Nm) (bs:List Box),bs.all (fun b=>b.ok 0)=true→Eng.outs ν is ns (bs.map some)=Eng.outs ν' is ns (bs.map some)
  | [],_,_,_=>rfl
  | _::_,[],_,_=>rfl
  | _::_,_::_,[],_=>rfl
  | i::is,n::ns,b::bs,h=>by
    simp only [List.all_cons,Bool.and_eq_true]at h
    simp only [List.map_cons,Eng.outs,Option.map_some,bren_ok h.1,outs_ok0 ν ν' is ns bs h.2]
theorem okOut_some {k:Nat} {os:List Box}:os.all (fun b=>b.ok 0)=true→okOut k (os.map some)=true:=by
  induction os with
  | nil=>exact fun _=>rfl
  | cons b os ih =>
    intro h
    simp only [List.all_cons,Bool.and_eq_true]at h
    simp only [List.map_cons,okOut,Bool.and_eq_true]
    exact⟨Box.ok_mono (Nat.zero_le _) h.1,ih h.2⟩
theorem okOut_app {k:Nat}:∀ {a b:List (Option Box)},okOut k a=true→okOut k b=true→okOut k (a++b)=true
  | [],_,_,h=>h
  | none::a,b,h1,h2=>by simp only [List.cons_append,okOut]at h1 ⊢; exact okOut_app h1 h2
  | some y::a,b,h1,h2=>by simp only [List.cons_append,okOut,Bool.and_eq_true]at h1 ⊢; exact⟨h1.1,okOut_app h1.2 h2⟩
theorem flat_set {vs:List V} {i:Nat} (h:((vs.set i .none).flatMap frz).all (fun _=>false)=true) {n:Nm} (hn:n∈vs.flatMap frz):∃ v,vs[i]? = some v∧n∈frz v:=by
  have hx:(vs.set i .none).flatMap frz = []:=by
    cases hx:(vs.set i .none).flatMap frz with
    | nil=>rfl
    | cons a b=>rw [hx]at h; simp at h
  obtain ⟨v,hv,hnv⟩:=List.mem_flatMap.1 hn
  obtain ⟨j,hj,rfl⟩:=List.getElem_of_mem hv
  by_cases hij:i=j
  · subst hij; exact⟨vs[i],List.getElem?_eq_getElem hj,hnv⟩
  · exfalso
    have:vs[j]∈vs.set i .none:=by
      have:(vs.set i V.none)[j]'(by simpa using hj)=vs[j]:=by rw [List.getElem_set_ne hij]
      rw [← this]; exact List.getElem_mem _
    have:=flat_nil hx _ this
    rw [this]at hnv; cases hnv
theorem bren_all {bs:List Box} (ρ:List Nm) (h:bs.all (fun b=>b.ok 0)=true):bs.map (fun b=>b.ren ρ)=bs:=by
  induction bs with
  | nil=>rfl
  | cons b bs ih=>simp only [List.all_cons,Bool.and_eq_true]at h; simp only [List.map_cons,bren_ok h.1,ih h.2]
theorem renL_ok_ext {a b:List Nm}:∀ {vs:List V},okL a.length vs=true→renL (a++b) vs=renL a vs:=by
  intro vs h
  have key:∀ n,okN a.length n=true→renN (a++b) n=renN a n:=by
    intro n hn
    obtain ⟨i,hi,rfl⟩:=okN_spec hn
    rw [renN_ext hi,renN_ext (by simp; omega)]
    simp [List.getElem_append_left hi]
  have go:∀ v,okV a.length v=true→ren (a++b) v=ren a v:=by
    intro v
    induction v using V.rec (motive_2:=fun vs=>okL a.length vs=true→renL (a++b) vs=renL a vs)with
    | ref n i j=>intro h; simp only [ren]; rw [key n h]
    | vs n sz k len=>intro h; simp only [ren]; rw [key n h]
    | map n=>intro h; simp only [ren]; rw [key n h]
    | fn f caps ih=>intro h; simp only [ren]; rw [ih h]
    | agg cs ih=>intro h; simp only [ren]; rw [ih h]
    | tup vs ih=>intro h; simp only [ren]; rw [ih h]
    | nil=>intro h; rfl
    | cons v vs ih1 ih2 =>
      rename_i h
      simp only [okL,Bool.and_eq_true]at h
      simp only [renL,ih1 h.1,ih2 h.2]
    | _=>intro h; rfl
  induction vs with
  | nil=>rfl
  | cons v vs ih =>
    simp only [okL,Bool.and_eq_true]at h
    simp only [renL,go v h.1,ih h.2]
theorem h_callv {α:Type} {enc:α→List D} {sz:Nat} {xs:List α} {f:Operand} {args:List Operand} {ats:Array TypeId} {fn:FuncId} {caps args0:List V} {r:V} {bs os:List Box} {o:Option Box} (p:Nat) (is:List Nat) (iv po:Nat) {l:List (Nm×Box)} {n:Nm} {w:V}
    (hp:q=none∨Nat.beq all.length (p + (rest.length + 1))=true)
    (hfp:∀ S tk,AgR H S tk (⟨some d,.call ⟨.value f,args.toArray,ats⟩,ty,pos,after,g⟩::rest)→okQ q all p (l.map (·.1) ++ [n]) true)
    (hc:FnM C.P fn args0 (bs++gI sz enc xs) r (os.map some++gT xs o))
    (hf:ev sl f = .fn fn caps) (hb:hasBody C.P fn=true) (hl:pickH H is=some l) (hv:H[iv]? = some (n,gB sz enc xs))
    (hS:l.map (·.2)=bs) (hSok:bs.all (fun b=>b.ok 0)=true)
    (hw1:(args.map (ev sl)++caps)[po]? = some w) (hw2:w=gV n sz xs∨w=dV n sz xs∨w=vV n sz xs∧xs ≠ []) (hp0:args0[po]? = some (dV (extN is.length) sz xs))
    (hn:(((args.map (ev sl)++caps).set po .none).flatMap frz).all (fun n=>false)=true)
    (ha:((args.map (ev sl)++caps).map co0).set po .none=(renL (l.map (·.1)) args0).set po .none) (hok:okL is.length (args0.set po .none)=true) (hr:okV 0 r=true)
    (hlen:os.length=is.length) (hi:(is ++ [iv]).Nodup) (hO:os.all (fun b=>b.ok 0)=true) (ho:∀ b,o=some b→b.ok 0=true) (hon:xs = []→o=none)
    (hw:wantedD all sl ⟨some d,.call ⟨.value f,args.toArray,ats⟩,ty,pos,after,g⟩=some true)
    (H':Hp) (hH:(setH H (outs (l.map (·.1)) is (l.map (·.1)) (os.map some))).set iv (n,o)=H')
    (h:opsH (addQ q p (l.map (·.1) ++ [n]) true) C all K rest (upd sl d r) H') :
    opsH q C all K (⟨some d,.call ⟨.value f,args.toArray,ats⟩,ty,pos,after,g⟩::rest) sl H:=by
  have hll:=(pickH_mem hl).1
  have hbs:bs.length=l.length:=by rw [← hS]; simp
  have hivs:iv∉is:=by
    rw [List.nodup_append]at hi
    exact fun hm=>hi.2.2 iv hm iv (by simp) rfl
  have hisn:is.Nodup:=(List.nodup_append.1 hi).1
  have hset:∀ {l':List (Nat×Nm×Option Box)} {H0:Hp},(∀ p∈l',p.1≠iv)→(setH H0 l')[iv]? = H0[iv]? := by
    intro l'
    induction l' with
    | nil=>intro H0 _; rfl
    | cons x l' ih =>
      intro H0 hx
      obtain ⟨i,m,b⟩:=x
      simp only [setH]
      rw [ih (fun p hp=>hx p (by simp [hp]))]
      have:i≠iv:=hx (i,m,b) (by simp)
      rw [List.getElem?_set_ne this]
  have houts:∀ (ν:List Nm) (is:List Nat) (ns:List Nm) (os:List (Option Box)),∀ p∈outs ν is ns os,p.1∈is:=by
    intro ν is
    induction is with
    | nil=>intro ns os p hp; simp [outs]at hp
    | cons i is ih =>
      intro ns os p hp
      cases ns with
      | nil=>simp [outs]at hp
      | cons m ns=>cases os with
        | nil=>simp [outs]at hp
        | cons o os =>
          simp only [outs,List.mem_cons]at hp
          rcases hp with rfl | hp
          · simp
          · exact List.mem_cons_of_mem _ (ih _ _ _ hp)
  have hco:∀ (S:Store),(w=gV n sz xs∨w=dV n sz xs∨w=vV n sz xs∧xs ≠ [])→(∀ x l,xs=x::l→S n=some (.vec sz (xs.map enc)))→co S w=dV n sz xs:=by
    intro S hw2 hS
    cases hxs:xs with
    | nil =>
      subst hxs
      rcases hw2 with h2 | h2 | ⟨h2,h3⟩
      · rw [h2]; rfl
      · rw [h2]; rfl
      · exact absurd rfl h3
    | cons x l =>
      have:=hS x l hxs
      have e:w = .vs n sz 0 (x::l).length:=by rcases hw2 with h2 | h2 | ⟨h2,_⟩ <;> rw [h2,hxs] <;> rfl
      rw [e]
      simp only [co,co1,this,dV]
  have hargs:∀ S:Store,co S w=dV n sz xs→(args.map (ev sl)++caps).map (co S)=((args.map (ev sl)++caps).map co0).set po (dV n sz xs):=by
    intro S hcw
    have h1:(args.map (ev sl)++caps)=((args.map (ev sl)++caps).set po .none).set po w:=by
      rw [List.set_set,set_get hw1]
    have h2:(((args.map (ev sl)++caps).set po .none)).map (co S)=(((args.map (ev sl)++caps).set po .none)).map co0:=map_co (by
      cases hx:((args.map (ev sl)++caps).set po .none).flatMap frz with
      | nil=>rfl
      | cons a b=>rw [hx]at hn; simp at hn)
    have h3:(args.map (ev sl)++caps).map (co S)=((((args.map (ev sl)++caps).set po .none)).map (co S)).set po (co S w):=by
      rw [← List.map_set,← h1]
    rw [h3,h2,hcw,List.map_set,List.set_set]
  have h0:=ha
  cases hxs:xs with
  | nil =>
    have hobn:o=none:=hon hxs
    subst hobn
    have hc':FnM C.P fn args0 bs r (os.map some):=by rw [hxs]at hc; simpa [gI,gT]using hc
    have hq:okL is.length args0=true:=by
      have:=okL_set (v:=dV (extN is.length) sz xs) hok (by rw [hxs]; rfl)
      rwa [set_get hp0]at this
    refine h_callX p is hp (fun S tk ag=>okQ_sub (fun m hm=>by simp [hm]) (hfp S tk ag)) hc' hf hb hl ?_ ?_ ?_ ?_ hq (okV_mono (Nat.zero_le _) r hr) (by simp [hlen]) hisn (okOut_some hO) hw r (ren_ok hr) H' ?_ ?_
    · rw [hS,bren_all _ hSok]
    · exact List.all_eq_true.2 (fun b hb'=>Box.ok_mono (Nat.zero_le _) (List.all_eq_true.1 hSok b hb'))
    · intro m hm
      obtain ⟨v,hv1,hv2⟩:=flat_set hn hm
      rw [hw1]at hv1
      simp only [Option.some.injEq]at hv1
      subst hv1
      exfalso
      rcases hw2 with h2 | h2 | ⟨_,h2⟩
      · rw [h2,hxs]at hv2; cases hv2
      · rw [h2,hxs]at hv2; cases hv2
      · exact h2 hxs
    · intro S tk ag
      refine ArgsOK.of_map ?_
      rw [hargs S (hco S hw2 (fun x l e=>by rw [hxs]at e; cases e)),set_eq_set ha]
      have:(renL (l.map (·.1)) args0)[po]? = some (dV n sz xs):=by
        obtain ⟨hlt,he⟩:=List.getElem?_eq_some_iff.1 hp0
        rw [List.getElem?_eq_getElem (by rw [renL_length]; exact hlt),renL_get _ _ _ _ hlt,he,hxs]; rfl
      rw [set_get this]
    · rw [← hH]
      symm
      apply set_get
      rw [hset (fun p hp e=>hivs (e ▸ houts _ _ _ _ p hp)),hv,hxs]; rfl
    · cases q with
      | none=>exact h
      | some Γ =>
        intro S tk ok ag k L hk hL hO'
        refine h S tk ok ag k L hk (fun p0 hp0' => ?_) (fun e he m hm => ?_)
        · rcases hL p0 hp0' with h1 | ⟨e,h1,h2,h3,h4,h5⟩
          · exact .inl h1
          · refine .inr ?_
            rcases List.mem_append.1 h1 with h1 | h1
            · exact⟨e,List.mem_append.2 (.inl h1),h2,h3,h4,h5⟩
            · rw [List.mem_singleton]at h1; subst h1
              exact⟨(p,l.map (·.1) ++ [n],true),by simp,h2,fun x hx=>by simp only [List.mem_append]; exact .inl (h3 x hx),fun x hx=>by simp only [List.mem_append]; exact .inl (h4 x hx),fun e=>by cases e⟩
        · rcases List.mem_append.1 he with he | he
          · exact hO' e (List.mem_append.2 (.inl he)) m hm
          · rw [List.mem_singleton]at he; subst he
            simp only at hm
            rcases List.mem_append.1 hm with hm | hm
            · exact hO' (p,l.map (·.1),true) (by simp) m hm
            · rw [List.mem_singleton]at hm; subst hm
              rw [← hH]at ag
              have:((setH H (outs (l.map (·.1)) is (l.map (·.1)) (os.map some))).set iv (m,none))[iv]? = some (m,none):=by
                have h1:=(List.getElem?_eq_some_iff.1 hv).1
                rw [List.getElem?_set_self (by rw [setH_at]; exact h1)]
              exact (ag.at_ _ (List.mem_of_getElem? this)).1
  | cons x l' =>
    have hgB:gB sz enc xs=some (.vec sz (xs.map enc)):=by rw [hxs]; rfl
    have hv':H[iv]? = some (n,some (.vec sz (xs.map enc))):=by rw [hv,hgB]
    have hc':FnM C.P fn args0 (bs ++ [.vec sz (xs.map enc)]) r (os.map some ++ [o]):=by rw [hxs]at hc ⊢; exact hc
    have hp1:=pickH_app (l:=l) hl hv'
    have hmap:(l ++ [(n,Box.vec sz (xs.map enc))]).map (·.1)=l.map (·.1) ++ [n]:=by simp
    have hdv:dV (extN is.length) sz xs = .vs (extN is.length) sz 0 xs.length:=by rw [hxs]; rfl
    have hq:okL (is ++ [iv]).length args0=true:=by
      have:=okL_set (v:=dV (extN is.length) sz xs) (okL_mono (Nat.le_add_right is.length 1) _ hok) (by rw [hdv]; exact okN_lt (Nat.lt_succ_self _))
      rw [set_get hp0]at this
      simpa using this
    refine h_callX p (is ++ [iv]) hp (fun S tk ag=>by rw [hmap]; exact hfp S tk ag) hc' hf hb hp1 ?_ ?_ ?_ ?_ hq (okV_mono (Nat.zero_le _) r hr) (by simp [hlen]) hi ?_ hw r (ren_ok hr) H' ?_ ?_
    · rw [List.map_append,bren_all _ hSok]
      simp only [List.map_cons,List.map_nil,List.map_append,hS,Box.ren]
    · rw [List.all_append]
      simp only [Bool.and_eq_true]
      exact⟨List.all_eq_true.2 (fun b hb'=>Box.ok_mono (Nat.zero_le _) (List.all_eq_true.1 hSok b hb')),rfl⟩
    · intro m hm
      obtain ⟨v,hv1,hv2⟩:=flat_set hn hm
      rw [hw1]at hv1
      simp only [Option.some.injEq]at hv1
      subst hv1
      have e:w = .vs n sz 0 xs.length:=by rcases hw2 with h2 | h2 | ⟨h2,_⟩ <;> rw [h2,hxs] <;> rfl
      rw [e]at hv2
      rw [hmap]
      have:m=n:=by simpa [frz,frz1]using hv2
      rw [this]; simp
    · intro S tk ag
      refine ArgsOK.of_map ?_
      rw [hargs S (hco S hw2 (fun _ _ _=>ag.get hv')),set_eq_set ha,hmap]
      have hpl:po < args0.length:=(List.getElem?_eq_some_iff.1 hp0).1
      have h1:args0=(args0.set po .none).set po (dV (extN is.length) sz xs):=by rw [List.set_set,set_get hp0]
      have h2:renL (l.map (·.1) ++ [n]) args0=(renL (l.map (·.1)) (args0.set po .none)).set po (dV n sz xs):=by
        conv=>lhs; rw [h1]
        rw [renL_set,renL_ok_ext (by simp only [List.length_map,hll]; exact hok),hdv]
        simp only [ren]
        rw [renN_at (n:=n) (by rw [List.getElem?_append_right (by simp [hll])]; simp [hll])]
        rw [hxs]; rfl
      rw [h2,renL_set,List.set_set]
    · refine okOut_app (okOut_some hO) ?_
      cases o with
      | none=>rfl
      | some b=>simp only [okOut,Bool.and_true]; exact Box.ok_mono (Nat.zero_le _) (ho b rfl)
    · rw [← hH,hmap,outs_app _ _ _ _ _ _ _ (by simp [hlen]) (by simp [hll]),setH_app,outs_ok0 _ (l.map (·.1)) _ _ _ hO]
      simp only [setH]
      cases o with
      | none=>rfl
      | some b=>simp only [Option.map_some,bren_ok (ho b rfl)]
    · rw [hmap]; exact h
theorem FnM.of_wHv {P:Program} {f:FuncId} {fn:Func} {body:Code} (C:Cfg) (hP:C.P=P) (hf:P.funcs[f]? = some fn) (hb:fn.body=some body) (hn:C.n=fn.ntmps)
    {α:Type} {enc:α→List D} {sz:Nat} {xs:List α} {args:List V} {bs:List Box} {r:V} {Sout:List (Option Box)} (hl:args.length≤fn.ntmps) (hok:okCode C body=true)
    (h:wH C body (finH C fn.results.toList (bs++gI sz enc xs).length r Sout) (initS args) (initH 0 bs ++ [(extN bs.length,gB sz enc xs)])):FnM P f args (bs++gI sz enc xs) r Sout:=by
  refine FnM.of_wpD' hf hb hP hn hl ?_
  have hag:Ag (initH 0 bs ++ [(extN bs.length,gB sz enc xs)]) (extStore (bs++gI sz enc xs)) 1:=by
   refine⟨Nat.one_pos,?_,fun p hp => ?_⟩
   · rw [List.map_append,List.nodup_append]
     refine⟨initH_nd _ _,by simp,fun a ha b hb e => ?_⟩
     simp only [List.map_cons,List.map_nil,List.mem_singleton]at hb
     obtain ⟨p,hp,rfl⟩:=List.mem_map.1 ha
     obtain ⟨j,b',h1,h2⟩:=initH_mem hp
     rw [h1,hb]at e
     simp only [extN,Prod.mk.injEq,and_true]at e
     have:=(List.getElem?_eq_some_iff.1 h2).1
     omega
   · rcases List.mem_append.1 hp with hp | hp
     · obtain ⟨j,b,rfl,hb⟩:=initH_mem hp
       refine⟨Nat.one_pos,fun x hx => ?_⟩
       simp only [Option.some.injEq]at hx
       subst hx
       rw [ext_get,Nat.zero_add,List.getElem?_append_left (List.getElem?_eq_some_iff.1 hb).1]; exact hb
     · simp only [List.mem_singleton]at hp
       subst hp
       refine⟨Nat.one_pos,fun x hx => ?_⟩
       rw [ext_get,List.getElem?_append_right (Nat.le_refl _),Nat.sub_self]
       cases xs with
       | nil=>cases hx
       | cons y ys=>exact hx
  obtain ⟨σ',hg,hw⟩:=h hok _ 1 hag
  exact⟨σ',hg,wpD_mono body (fun e σ h=>finH_ok h) hw⟩
theorem finV {α:Type} {enc:α→List D} {sz:Nat} {rs:List ResultVar} {r:V} {e:Exit} {bs os:List Box} {xs:List α} {o:Option Box} (he:e = .normal∨e = .ret) (vs:List V) (h1:resR C sl H rs vs) (h2:(vs.flatMap frz).all (fun _=>false)=true) (h3:resV (vs.map co0)=r) (hr:okV 0 r=true)
    (hbl:bs.length=os.length) (hj:H[os.length]? = some (extN os.length,o)) (hO:os.all (fun b=>b.ok 0)=true) (ho:∀ b,o=some b→b.ok 0=true) (hH:H.take os.length=initH 0 os) :
    finH C rs (bs++gI sz enc xs).length r (os.map some++gT xs o) e sl H:=by
  have hn:vs.flatMap frz = []:=by
    cases hx:vs.flatMap frz with
    | nil=>rfl
    | cons a b=>rw [hx]at h2; simp at h2
  have hc:∀ {vs:List V},vs.flatMap frz = []→CoL H vs (vs.map co0):=by
    intro vs
    induction vs with
    | nil=>exact fun _ => .nil
    | cons v vs ih=>exact fun h => .cons (co_data (flat_nil h v (by simp)) rfl) (ih (by simp only [List.flatMap_cons,List.append_eq_nil_iff]at h; exact h.2))
  have hget:∀ i (h:i < os.length),H[i]? = some (extN i,some os[i]):=fun i hi=>by
    have:=initH_get os 0 i hi
    rw [Nat.zero_add,← hH,List.getElem?_take,if_pos hi]at this
    exact this
  have hou:∀ {ν:List Nm} {l:List Box} {j:Nat} {js:List Nat} {ns:List Nm} {bs:List (Option Box)},(∀ b∈l,b.ok 0=true)→(∀ i (h:i < l.length),H[j + i]? = some (extN (j + i),some l[i]))→outL H ν js ns bs→outL H ν (List.range' j l.length++js) ((List.range' j l.length).map extN++ns) (l.map some++bs):=by
    intro ν l
    induction l with
    | nil=>exact fun _ _ h=>h
    | cons b l ih =>
      intro j js ns bs hb hg hr
      simp only [List.length_cons,List.range'_succ,List.map_cons,List.cons_append]
      refine⟨?_,ih (fun x hx=>hb x (by simp [hx])) (fun i hi => ?_) hr⟩
      · have:=hg 0 (by simp)
        simp only [Option.map_some,bren_ok (hb b (by simp))]
        exact this
      · have:=hg (i + 1) (by simpa using hi)
        rw [show j + 1 + i=j + (i + 1) by omega]
        exact this
  have hO':∀ b∈os,b.ok 0=true:=fun b hb=>List.all_eq_true.1 hO b hb
  cases xs with
  | nil =>
    refine⟨he,vs,vs.map co0,List.range' 0 os.length ++ [],(List.range' 0 os.length).map extN ++ [],h1,hc hn,by rw [h3,ren_ok hr],hou hO' (fun i hi=>by rw [Nat.zero_add]; exact hget i hi) trivial,by simp [List.nodup_range'],fun i hi => ?_⟩
    have:i < os.length:=by simpa [gI,hbl]using hi
    simp [this]
  | cons x xs =>
    refine⟨he,vs,vs.map co0,List.range' 0 os.length ++ [os.length],(List.range' 0 os.length).map extN ++ [extN os.length],h1,hc hn,by rw [h3,ren_ok hr],
      hou hO' (fun i hi=>by rw [Nat.zero_add]; exact hget i hi) ⟨?_,trivial⟩,?_,fun i hi => ?_⟩
    · rw [hj]
      cases o with
      | none=>rfl
      | some b=>simp only [Option.map_some,bren_ok (ho b rfl)]
    · rw [List.nodup_append]
      refine⟨List.nodup_range',by simp,fun a ha b hb => ?_⟩
      simp only [List.mem_singleton]at hb
      simp only [List.mem_range'_1]at ha
      omega
    · have hi':i < os.length + 1:=by simpa [gI,hbl]using hi
      by_cases hlt:i < os.length
      · rw [List.getElem?_append_left (by simpa using hlt)]; simp [hlt]
      · have:i=os.length:=by omega
        subst this
        rw [List.getElem?_append_right (by simp)]; simp
theorem gB_ok {α:Type} {sz:Nat} {enc:α→List D} {xs:List α}:∀ b,gB sz enc xs=some b→b.ok 0=true:=by
  intro b h
  cases xs with
  | nil=>cases h
  | cons x xs=>cases h; rfl
end
end Go.Eng

/-
  THE ENGINE: rules for maps, arrays and new slices of zeros.
-/
namespace Go.Eng
set_option linter.unusedSectionVars false
variable [DM]
set_option linter.unusedVariables false
set_option linter.unusedSimpArgs false
def mIdx {K T:Type} (eq:K→K→Bool) (k:K):List (K×T)→Option Nat
 | []=>none
 | e::es=>if eq k e.1=true then some 0 else (mIdx eq k es).map (· + 1)
abbrev eqS (a b:ByteArray):Bool:=a == b
abbrev eqI (a b:Int):Bool:=a == b
theorem mIdx_lt {K T:Type} {eq:K→K→Bool} {k:K}:∀ {es:List (K×T)} {j:Nat},mIdx eq k es=some j→j < es.length
 | e::es,j,h=>by
  simp only [mIdx]at h
  split at h
  ·simp only [Option.some.injEq]at h; subst h; simp
  ·simp only [Option.map_eq_some_iff]at h
   obtain ⟨i,hi,rfl⟩:=h
   have:=mIdx_lt hi
   simpa using this
theorem findD_mIdx {K T:Type} {eq:K→K→Bool} {kD:K→D} {vD:T→D} {k:K} (he:∀ a b,sameD (kD a) (kD b)=some (eq a b)):∀ (es:List (K×T)),findD (kD k) (es.map fun e=>(kD e.1,vD e.2))=some (mIdx eq k es)
 | []=>rfl
 | e::es=>by
  simp only [List.map_cons,findD,he,mIdx]
  cases h:eq k e.1 with
  | true=>simp
  | false=>simp [findD_mIdx he es]
section
variable {C:Cfg} {sl:Nat→V} {H:Hp} {q:Qm} {all rest:List Oper} {K:(Nat→V)→Hp→Prop}
variable {dst:Option Tmp} {d:Nat} {t ty:TypeId} {pos:String} {after:Array Edge} {g:Option (Nat×Bool)}
theorem h_mkmap (p:Nat) (hp:q=none∨Nat.beq all.length (p + (rest.length + 1))=true) (hw:wantedD all sl ⟨some d,.makeMap t none,ty,pos,after,g⟩=some true)
  (h:∀ n:Nm,opsH (addQ q p [n] true) C all K rest (upd sl d (.map n)) (H ++ [(n,some (.map []))])):opsH q C all K (⟨some d,.makeMap t none,ty,pos,after,g⟩::rest) sl H :=
 h_loudN rfl p [] hp (fun _ _ _=>okQ_nil) (fun m hm=>by cases hm) hw (fun S tk K' ok ag hk=>opD_eff (A:=⟨[],[((d,tk),some (.map []))],.map (d,tk)⟩) (fun c e=>by cases e) rfl
  (hk _ _ _ (.inl rfl) ⟨by simp,by simp⟩ (ag.new ok rfl _) (h (d,tk))))
theorem take_map_flat {α:Type} {enc:α→List D} {size:Nat} (hl:∀ y,(enc y).length=size):∀ (xs:List α) (i:Nat) (y:α),xs[i]? = some y → ∃ r,((xs.map enc).flatten).drop (i * size)=enc y++r
 | x::xs,0,y,h=>by
  simp only [List.getElem?_cons_zero,Option.some.injEq]at h; subst h
  exact⟨(xs.map enc).flatten,by simp⟩
 | x::xs,i + 1,y,h=>by
  obtain ⟨r,hr⟩:=take_map_flat hl xs i y (by simpa using h)
  refine⟨r,?_⟩
  simp only [List.map_cons,List.flatten_cons]
  rw [Nat.add_mul,Nat.one_mul,Nat.add_comm,← List.drop_drop,← hl x,List.drop_left,hl x]
  exact hr
 | [],_,_,h=>by simp at h
theorem h_idxa {α:Type} {enc:α→List D} {xs:List α} {x i:Operand} {k:IntKind} {n:Int} {y:α} {size e m:Nat} {agg:Bool} {ds:List D} (hu:C.P.underlying t=some (.array m e)) (hs:szT C.P e=some size) (ha:isAggT C.P e=agg) (hx:ev sl x = .d (.agg ds)) (hds:(xs.map enc).flatten=ds) (hm:xs.length=m)
  (hi:ev sl i = .d (.int k n)) (hy:idx xs n=some y) (hl:∀ y,(enc y).length=size) (hsz:agg=true∨size=1) (v:V) (hv:rdD agg size (enc y)=some v)
  (hw:wantedD all sl ⟨dst,.index t x i,ty,pos,after,g⟩=some true) (h:opsH q C all K rest (putS sl dst v) H):opsH q C all K (⟨dst,.index t x i,ty,pos,after,g⟩::rest) sl H :=
 h_op v hw (by
  show indexF C.P t (ev sl x) (ev sl i)=_
  unfold idx at hy
  split at hy
  ·rename_i h0
   have hlt:n.toNat < m:=by rw [← hm]; exact (List.getElem?_eq_some_iff.1 hy).1
   obtain ⟨r,hr⟩:=take_map_flat hl xs n.toNat y hy
   rw [hx,hi]
   have hc:(decide (0≤n) && Nat.blt n.toNat m)=true:=by simp [h0,Nat.blt_eq,hlt]
   simp only [indexF,hu,hs,hc,cond_true,ha]
   rw [← hds,hr]
   rw [← hv]
   have hly:=hl y
   unfold rdD
   cases agg with
   | true =>
    have h1:Nat.ble size (enc y++r).length=true:=Nat.ble_eq_true_of_le (by rw [List.length_append,hly]; omega)
    have h2:Nat.ble size (enc y).length=true:=Nat.ble_eq_true_of_le (by omega)
    simp only [cond_true,h1,h2]
    rw [List.take_append_of_le_length (by omega)]
   | false =>
    simp only [cond_false]
    cases he:enc y with
    | nil=>rw [he]at hly; rcases hsz with h3 | h3; cases h3; simp at hly; omega
    | cons c cs=>rfl
  ·cases hy) h
def mkN (n:Int) (bytes:Nat):Option Nat:=if 0≤n∧n * bytes≤281474976710656∧n≤281474976710656 then some n.toNat else none
theorem h_mkslice {α:Type} {enc:α→List D} {x y:Operand} {k k':IntKind} {n:Int} {m e sz by_:Nat} {z:List V} (p:Nat) (hp:q=none∨Nat.beq all.length (p + (rest.length + 1))=true) (za:α)
  (he:elemT C.P t=some e) (hs:szT C.P e=some sz) (hz:zeroCells C.P e=some z) (hb:bytesT C.P e=by_) (ha:allD z=some (enc za)) (hzl:z.length=sz) (hpos:0 < sz) (ho:z.all oneV=true)
  (hx:ev sl x = .d (.int k n)) (hy:ev sl y = .d (.int k' n)) (hn:mkN n by_=some m)
  (hw:wantedD all sl ⟨some d,.makeSlice t x y,ty,pos,after,g⟩=some true)
  (h:∀ nm:Nm,opsH (addQ q p [nm] true) C all K rest (upd sl d (vV nm sz (List.replicate m za))) (H ++ [(nm,some (bV sz enc (List.replicate m za)))])):opsH q C all K (⟨some d,.makeSlice t x y,ty,pos,after,g⟩::rest) sl H:=by
 unfold mkN at hn
 split at hn
 ·rename_i hc
  simp only [Option.some.injEq]at hn; subst hn
  refine h_loudN rfl p [] hp (fun _ _ _=>okQ_nil) (fun m hm=>by cases hm) hw (fun S tk K' ok ag hk=>opD_eff (A:=⟨[],[((d,tk),some (bV sz enc (List.replicate n.toNat za)))],vV (d,tk) sz (List.replicate n.toNat za)⟩) (fun c e=>by cases e) ?_
   (hk _ _ _ (.inl rfl) ⟨by simp,by simp⟩ (ag.new ok rfl _) (h (d,tk))))
  show makeSliceF C.P t (ev sl x) (ev sl y) d tk=_
  unfold makeSliceF
  rw [he,hx,hy]
  simp only [hs,hz,hb]
  by_cases hn0:n=0
  ·rw [if_pos ⟨hn0,Int.le_refl _,hc.2.1,hc.2.2,hzl,hpos⟩]
   subst hn0
   simp [bV,vV]
  ·rw [if_neg (fun h=>hn0 h.1),if_pos ⟨hc.1,trivial,hc.2.1,hc.2.2,hzl,hpos,ho⟩,ha]
   simp [bV,vV]
 ·cases hn
end
end Go.Eng

/-
  THE ENGINE: slices with room made ahead; functions that are handed two slices in their boxes.
-/
namespace Go.Eng
set_option linter.unusedSectionVars false
variable [DM]
set_option linter.unusedVariables false
set_option linter.unusedSimpArgs false
def kV {α:Type} (b:Bool) (n:Nm) (sz:Nat) (xs:List α):V:=match b with
  | true=>vV n sz xs
  | false=>gV n sz xs
def kB {α:Type} (b:Bool) (sz:Nat) (enc:α→List D) (xs:List α):Option Box:=match b with
  | true=>some (bV sz enc xs)
  | false=>gB sz enc xs
def kF {α:Type} (b:Bool) (sz:Nat) (enc:α→List D) (xs:List α):Option Box:=match b with
  | true=>some (bF sz enc xs)
  | false=>gF sz enc xs
section
variable {C:Cfg} {Q:QH} {sl:Nat→V} {H:Hp} {c:Code}
theorem wH_frozk {α:Type} {enc:α→List D} {xs:List α} {sz:Nat} {n:Nm} {b:Bool} (i:Nat) (h:H[i]? = some (n,kB b sz enc xs)) (hw:wH C c Q sl (H.set i (n,kF b sz enc xs))):wH C c Q sl H:=by
  cases b with
  | true=>exact wH_froz i h hw
  | false=>exact wH_frozg i h hw
theorem wH_cok {α:Type} {enc:α→List D} {xs:List α} {sz:Nat} {n:Nm} {b:Bool} (k i:Nat) (hk:sl k=kV b n sz xs) (h:H[i]? = some (n,kF b sz enc xs)) (hw:wH C c Q (upd sl k (vL enc xs)) H):wH C c Q sl H:=by
  cases b with
  | true=>exact wH_co k i hk h hw
  | false=>exact wH_cog k i hk h hw
end
section
variable {C:Cfg} {sl:Nat→V} {H:Hp} {q:Qm} {all rest:List Oper} {K:(Nat→V)→Hp→Prop}
variable {dst:Option Tmp} {d:Nat} {t ty:TypeId} {pos:String} {after:Array Edge} {g:Option (Nat×Bool)}
theorem h_lenn {x:Operand} {e:TypeId} (hu:C.P.underlying t=some (.slice e)) (hx:ev sl x = .nil) (hw:wantedD all sl ⟨dst,.call ⟨.builtin .len,#[x],#[t]⟩,ty,pos,after,g⟩=some true)
    (h:opsH q C all K rest (putS sl dst (vI 0)) H):opsH q C all K (⟨dst,.call ⟨.builtin .len,#[x],#[t]⟩,ty,pos,after,g⟩::rest) sl H :=
  h_lenv (v:=vI 0) (by rw [hx]; simp only [lenF,hu]) hw h
end
section
variable {C:Cfg} {sl:Nat→V} {H:Hp} {q:Qm} {all rest:List Oper} {K:(Nat→V)→Hp→Prop}
variable {d:Nat} {t ty:TypeId} {pos:String} {after:Array Edge} {g:Option (Nat×Bool)}
end
end Go.Eng

/-
  THE ENGINE: functions that are handed two slices in their boxes.
-/
namespace Go.Eng
set_option linter.unusedSectionVars false
variable [DM]
set_option linter.unusedVariables false
set_option linter.unusedSimpArgs false
def okO (os:List (Option Box)):Bool:=os.all fun o=>match o with
  | some b=>b.ok 0
  | none=>true
theorem ArgsOK.set {S:Store} {x y x' y':V} (hxy:y'=x'∨y'=co S x'):∀ {a b:List V} {i:Nat},ArgsOK S (a.set i x) (b.set i y)→ArgsOK S (a.set i x') (b.set i y')
  | [],[],i,h=>by simpa using h
  | [],b::bs,i,h=>by cases i <;> (simp at h; cases h)
  | a::az,[],i,h=>by cases i <;> (simp at h; cases h)
  | a::az,b::bs,0,h=>by
    simp only [List.set_cons_zero]at h ⊢
    cases h with
    | cons _ t=>exact .cons hxy t
  | a::az,b::bs,i + 1,h=>by
    simp only [List.set_cons_succ]at h ⊢
    cases h with
    | cons h1 t=>exact .cons h1 (ArgsOK.set hxy t)
section
variable {C:Cfg} {sl:Nat→V} {H:Hp} {q:Qm} {all rest:List Oper} {K:(Nat→V)→Hp→Prop}
variable {dst:Option Tmp} {d:Nat} {t ty:TypeId} {pos:String} {after:Array Edge} {g:Option (Nat×Bool)}
theorem pre_mk {H0:Hp} (h:H.take H0.length=H0):pre H0 H:=pre_r h
theorem outL_at {H0:Hp} {is:List Nat} (hg:∀ (i:Nat) (h1:i < is.length) (h2:i < H0.length),H[is[i]]? = some H0[i]) (hl:is.length=H0.length) {ν:List Nm}:∀ {js:List Nat} {ns:List Nm} {bs:List (Option Box)},outL H0 ν js ns bs→outL H ν (js.map fun j=>is.getD j 0) ns bs
  | [],[],[],_=>trivial
  | j::_,_::_,_::_,h=>by
    obtain ⟨l1,e1⟩:=List.getElem?_eq_some_iff.1 h.1
    have h3:j < is.length:=by omega
    refine⟨?_,outL_at hg hl h.2⟩
    simp only [List.getD_eq_getElem?_getD,List.getElem?_eq_getElem h3,Option.getD_some]
    rw [hg j h3 l1,e1]
  | [],_::_,_,h=>h.elim
  | [],[],_::_,h=>h.elim
  | _::_,[],_,h=>h.elim
  | _::_,_::_,[],h=>h.elim
theorem outL_lt {H0:Hp} {ν:List Nm}:∀ {js:List Nat} {ns:List Nm} {bs:List (Option Box)},outL H0 ν js ns bs → ∀ j∈js,j < H0.length
  | [],_,_,_,j,hj=>by cases hj
  | _::_,_::_,_::_,h,j,hj=>by
    rcases List.mem_cons.1 hj with rfl | hj
    · exact (List.getElem?_eq_some_iff.1 h.1).1
    · exact outL_lt h.2 j hj
  | _::_,[],_,h,_,_=>h.elim
  | _::_,_::_,[],h,_,_=>h.elim
theorem finH_at {H0:Hp} {k:Nat} {r:V} {Sout:List (Option Box)} {e:Exit} {sl':Nat→V} (hq:pre H0 H) (h:finH C [] k r Sout e sl' H0):finH C [] k r Sout e sl H:=by
  obtain ⟨he,vs,vs',js,ν,h1,h2,h3,h4,h5,h6⟩:=h
  obtain ⟨is,hn,hf⟩:=hq
  obtain ⟨hl,hg⟩:=pre_get hf
  cases vs with
  | cons v vs=>exact h1.elim
  | nil =>
    cases h2
    refine⟨he,[],[],js.map fun j=>is.getD j 0,ν,trivial,.nil,h3,outL_at hg hl h4,?_,h6⟩
    refine List.pairwise_iff_getElem.2 (fun a b ha hb hab e => ?_)
    simp only [List.length_map]at ha hb
    have l1:js[a] < is.length:=by have:=outL_lt h4 _ (List.getElem_mem ha); omega
    have l2:js[b] < is.length:=by have:=outL_lt h4 _ (List.getElem_mem hb); omega
    simp only [List.getElem_map,List.getD_eq_getElem?_getD,List.getElem?_eq_getElem l1,List.getElem?_eq_getElem l2,Option.getD_some]at e
    exact (List.pairwise_iff_getElem.1 h5) a b ha hb hab ((List.getElem_inj hn).1 e)
end
end Go.Eng

/-
  THE ENGINE: a sort of the library's, by its contract off the shelf.
-/
namespace Go.Eng
set_option linter.unusedSectionVars false
variable [DM]
open Go.Sort
set_option linter.unusedVariables false
set_option linter.unusedSimpArgs false
end Go.Eng

