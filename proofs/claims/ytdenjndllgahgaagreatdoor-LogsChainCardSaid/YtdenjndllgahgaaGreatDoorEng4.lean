/-
  The engine: what the machine does to data, shown once for all programs (part 4).
-/
import Derived.Test.YtdenjndllgahgaaGreatDoorEng3
import Derived.Sort.Row
import Derived.Sort.Grow
/-
  THE ENGINE: parts of a slice over a box; clear.
-/
namespace Go.Eng
set_option linter.unusedSectionVars false
variable [DM]
set_option linter.unusedVariables false
set_option linter.unusedSimpArgs false
theorem BC {α:Type} {n:Nm} {sz:Nat} {xs:List α} (h:xs ≠ []):gV n sz xs=vV n sz xs:=by cases xs with
 | nil=>exact absurd rfl h
 | cons x xs=>rfl
theorem BP {α:Type} {sz:Nat} {enc:α->List D} {xs:List α} (h:xs ≠ []):gB sz enc xs=some (bV sz enc xs):=by cases xs with
 | nil=>exact absurd rfl h
 | cons x xs=>rfl
section
variable {C:Cfg} {Q:QH} {sl:Nat->V} {H:Hp} {c:Code}
end
section
variable {C:Cfg} {sl:Nat->V} {H:Hp} {q:Qm} {all rest:List Oper} {K:(Nat->V)->Hp->Prop}
 {dst:Option Tmp} {t ty e:TypeId} {pos:String} {after:Array Edge} {g:Option (Nat×Bool)}
theorem h_clear {α:Type} {enc:α->List D} {xs:List α} {x:Operand} {n:Nm} {sz k len i:Nat} {z:List V} (p:Nat) (hp:q=none\/Nat.beq all.length (p+(rest.length+1))=true)
  (hf:∀S tk,AgR H S tk (⟨dst,.call ⟨.builtin .clear,#[x],#[t]⟩,ty,pos,after,g⟩::rest)->okQ q all p [n] true) (za:α)
  (he:bD C.P t=some e) (hs:szT C.P e=some sz) (hz:zeroCells C.P e=some z) (ha:tC z=some (enc za)) (ho:z.all eF=true) (hzl:z.length=sz) (hpos:0<sz)
  (hx:ev sl x = .vs n sz k len) (hle:k+len<=xs.length) (hH:H[i]? = some (n,some (bV sz enc xs)))
  (hw:aF all sl ⟨dst,.call ⟨.builtin .clear,#[x],#[t]⟩,ty,pos,after,g⟩=some true)
  (h:aP (lT q p [n] true) C all K rest (bI sl dst (.tup [])) (H.set i (n,some (bV sz enc (xs.take k++List.replicate len za++xs.drop (k+len)))))) :
  aP q C all K (⟨dst,.call ⟨.builtin .clear,#[x],#[t]⟩,ty,pos,after,g⟩::rest) sl H:=by
 refine jH p [n] true hp hf (pz hH) hw (λS tk K' ok ag hk => ?_)
 have hS:S n=some (.vec sz (xs.map enc)):=ag.get hH
 have hle':k+len<=(xs.map enc).length:=by simpa using hle
 by_cases h0:len=0
 ·subst h0
  refine vg (A:=⟨[(n,.vec sz (xs.map enc))],[],.tup []⟩) ?_ (hk _ (H.set i (n,some (bV sz enc (xs.take k++List.replicate 0 za++xs.drop (k+0))))) ⟨by simp,by simp⟩ (λe=>by cases e) ?_ h)
  ·show mI C.P t S (ev sl x)=_
   simp only [mI,he,hx,hs,hz,hS,ha]
   rw [if_pos ⟨trivial,trivial,hzl,ho,hle',hpos⟩,if_pos trivial]
  ·have:=Aj ag hH (b':=some (bV sz enc (xs.take k++List.replicate 0 za++xs.drop (k+0)))) (λx hx=>by simp only [List.replicate_zero,List.append_nil,Nat.add_zero,List.take_append_drop]at hx;rw [hS];exact hx)
   exact this.tail
 ·refine vg (A:=⟨[(n,.vec sz (xs.map enc))],[(n,some (bV sz enc (xs.take k++List.replicate len za++xs.drop (k+len))))],.tup []⟩) ?_ (hk _ _ ⟨by simp,by simp⟩ (λe=>by cases e) (ag.tail.set hH (λx hx=>hx)) h)
  show mI C.P t S (ev sl x)=_
  simp only [mI,he,hx,hs,hz,hS,ha]
  rw [if_pos ⟨trivial,trivial,hzl,ho,hle',hpos⟩,if_neg h0]
  simp [bV,List.map_take,List.map_drop]
def nH {α:Type} (xs:List α) (lo hi:Int):Option Unit:=if 0<=lo/\0<=hi/\lo.toNat<=hi.toNat/\hi.toNat<=xs.length then some ()else none
theorem kL {α:Type} {xs:List α} {lo hi:Int} {u:Unit} (h:nH xs lo hi=some u):0<=lo/\0<=hi/\lo.toNat<=hi.toNat/\hi.toNat<=xs.length:=by
 unfold nH at h;split at h
 ·assumption
 ·cases h
theorem qQ {α:Type} {xs:List α} {lo hi:Int} {u:Unit} (h:nH xs lo hi=some u):lo.toNat+(hi.toNat-lo.toNat)<=xs.length:=by
 have:=kL h;omega
section part
variable {α:Type} {enc:α->List D} {xs:List α} {sz:Nat} {n:Nm} {x l hi:Operand} {k k':IntKind} {a b:Int} {u:Unit}
theorem zN (hu:C.P.underlying t=some (.slice e)) (hs:szT C.P e=some sz) {lo hi:Option V} {l h:Int} (h1:kD 0 lo=some l.toNat) (h2:kD xs.length hi=some h.toNat) (hr:nH xs l h=some u) :
  gX C.P t (vV n sz xs) lo hi none=some (.vs n sz l.toNat (h.toNat-l.toNat)):=by
 obtain ⟨_,_,r3,r4⟩:=kL hr
 simp only [vV,gX,hu,hs,h1,h2]
 rw [if_pos ⟨r3,r4,trivial⟩,Nat.zero_add]
theorem Dk (hu:C.P.underlying t=some (.slice e)) (hs:szT C.P e=some sz) (hx:ev sl x=vV n sz xs) (hl:ev sl l = .d (.int k a)) (hr:nH xs a xs.length=some u) (hw:aF all sl ⟨dst,.slice t x (some l) none none,ty,pos,after,g⟩=some true)
  (h:aP q C all K rest (bI sl dst (.vs n sz a.toNat (((xs.length:Int)).toNat-a.toNat))) H):aP q C all K (⟨dst,.slice t x (some l) none none,ty,pos,after,g⟩::rest) sl H :=
 ae _ hw (by
  show gX C.P t (ev sl x) (some (ev sl l)) none none=_
  rw [hx,hl];exact zN hu hs (w9 (kL hr).1) rfl hr) h
theorem Dq (hu:C.P.underlying t=some (.slice e)) (hs:szT C.P e=some sz) (hx:ev sl x=vV n sz xs) (hh:ev sl hi = .d (.int k' b)) (hr:nH xs 0 b=some u) (hw:aF all sl ⟨dst,.slice t x none (some hi) none,ty,pos,after,g⟩=some true)
  (h:aP q C all K rest (bI sl dst (.vs n sz 0 b.toNat)) H):aP q C all K (⟨dst,.slice t x none (some hi) none,ty,pos,after,g⟩::rest) sl H :=
 ae _ hw (by
  show gX C.P t (ev sl x) none (some (ev sl hi)) none=_
  rw [hx,hh];exact zN hu hs rfl (w9 (kL hr).2.1) hr) h
end part
end
end Go.Eng

/-
  THE ENGINE: a slice that a function writes into: its box is handed in and handed back.
-/
namespace Go.Eng
set_option linter.unusedSectionVars false
variable [DM]
set_option linter.unusedVariables false
set_option linter.unusedSimpArgs false
def gI {α:Type} (sz:Nat) (enc:α->List D):List α->List Box
  | []=>[]
  | x::xs=>[.vec sz ((x::xs).map enc)]
def gT {α:Type} (xs:List α) (o:Option Box):List (Option Box):=match xs with
  | []=>[]
  | _::_=>[o]
def inN (i:Int) (len:Nat):Option Unit:=if 0<=i/\i.toNat<len then some ()else none
abbrev xB {α:Type} (xs:List α) (lo len:Nat):List α:=(xs.drop lo).take len
theorem zu {i:Int} {n:Nat} {u:Unit} (h:inN i n=some u):0<=i:=by
  unfold inN at h;split at h
  · rename_i h1;exact h1.1
  · cases h
theorem vz {i:Int} {n:Nat} {u:Unit} (h:inN i n=some u):i.toNat<n:=by
  unfold inN at h;split at h
  · rename_i h1;exact h1.2
  · cases h
theorem wY {α:Type} {xs:List α} {k len:Nat} {z:α} (h:k+len<=xs.length):xs.length=(xs.take k++List.replicate len z++xs.drop (k+len)).length:=by
  simp only [List.length_append,List.length_take,List.length_replicate,List.length_drop];omega
section
variable {C:Cfg} {sl:Nat->V} {H:Hp} {Q:QH} {c:Code}
theorem wH_re (k:Nat) {v v':V} (hk:sl k=v) (e:v=v') (h:wH C c Q (upd sl k v') H):wH C c Q sl H:=by
  have:upd sl k v'=sl:=by
    funext j
    simp only [upd]
    cases hj:Nat.beq j k with
    | true=>rw [Nat.eq_of_beq_eq_true hj,hk,e];rfl
    | false=>rfl
  rw [this]at h;exact h
end
section
variable {C:Cfg} {sl:Nat->V} {H:Hp} {q:Qm} {all rest:List Oper} {K:(Nat->V)->Hp->Prop}
variable {dst:Option Tmp} {d:Nat} {t ty:TypeId} {pos:String} {after:Array Edge} {g:Option (Nat×Bool)}
theorem DJ (i:Nat) {n:Nm} {b b':Option Box} (h:H[i]? = some (n,b)) (e:b=b') (hw:aP q C all K rest sl (H.set i (n,b'))):aP q C all K rest sl H:=by
  subst e
  have hi:=(List.getElem?_eq_some_iff.1 h)
  rwa [<- hi.2,List.set_getElem_self]at hw
theorem BH {f:Operand} {args:List Operand} {ats:Array TypeId} {fn:FuncId} {caps args0:List V} {r:V} {Sin:List Box} {Sout:List (Option Box)} (p:Nat) (is:List Nat) {l:List (Nm×Box)} (hp:q=none\/Nat.beq all.length (p+(rest.length+1))=true)
    (hfp:∀S tk,AgR H S tk (⟨some d,.call ⟨.value f,args.toArray,ats⟩,ty,pos,after,g⟩::rest)->okQ q all p (l.map (·.1)) true) (hc:FnM C.P fn args0 Sin r Sout)
    (hf:ev sl f = .fn fn caps) (hb:aD C.P fn=true) (hl:iR H is=some l) (hS:Sin.map (λb=>b.ren (l.map (·.1)))=l.map (·.2)) (hSok:Sin.all (λb=>b.ok is.length)=true)
    (hn:∀n∈(args.map (ev sl)++caps).flatMap frz,n∈l.map (·.1)) (ha:∀S tk,AgR H S tk (⟨some d,.call ⟨.value f,args.toArray,ats⟩,ty,pos,after,g⟩::rest)->ArgsOK S (args.map (ev sl)++caps) (renL (l.map (·.1)) args0)) (hok:okL is.length args0=true) (hr:okV Sout.length r=true)
    (hlen:Sout.length=is.length) (hi:is.Nodup) (hO:okOut Sout.length Sout=true)
    (hw:aF all sl ⟨some d,.call ⟨.value f,args.toArray,ats⟩,ty,pos,after,g⟩=some true)
    (v:V) (hv:ren (l.map (·.1)) r=v) (H':Hp) (hH:setH H (outs (l.map (·.1)) is (l.map (·.1)) Sout)=H')
    (h:aP (lT q p (l.map (·.1)) true) C all K rest (upd sl d v) H') :
    aP q C all K (⟨some d,.call ⟨.value f,args.toArray,ats⟩,ty,pos,after,g⟩::rest) sl H:=by
  subst hv hH
  obtain ⟨hll,hlg⟩:=iM hl
  have hsl:Sin.length=l.length:=by have:=congrArg List.length hS;simpa using this
  refine jH p (l.map (·.1)) true hp hfp (rQ hl) hw (λS tk K' ok ag hk=>nK hf ?_)
  have hnd:=pW ag hi hl
  refine .inl ⟨hb,⟨[],l.map (·.1),args0,Sin,r,Sout,false⟩,?_,(λe=>by cases e),?_⟩
  · exact { does := hc
            args:=ha S tk ag
            okA:=by simp only [List.length_map,hll];exact hok
            nodup:=hnd
            ins:=by
              refine qC (by simp [hsl]) (λj h1 h2=>⟨?_,?_⟩)
              · simp only [List.length_map,hll]
                exact List.all_eq_true.1 hSok _ (List.getElem_mem h2)
              · simp only [List.length_map]at h1
                have e:=hlg j (by omega) h1
                have e2:l[j].2=Sin[j].ren (l.map (·.1)):=by
                  have:=congrArg (λx=>x[j]?) hS
                  simp only [List.getElem?_map,List.getElem?_eq_getElem h2,List.getElem?_eq_getElem h1,Option.map_some,so_]at this
                  exact this.symm
                simp only [List.getElem_map]
                show S l[j].1=_
                rw [ag.get e,e2]
            len:=by show Sin.length<=Sout.length;omega
            okR:=hr,okO:=hO,mutN:=by show mutOut (List.drop Sin.length Sout)=true;rw [List.drop_of_length_le (by omega)];rfl
            roOK:=(λe=>by cases e),have_:=(λn hn=>nomatch hn),cov:=(λn h' => .inr (hn n h')),dis:=(λn _ hn=>nomatch hn) }
  · have hdm:Sout.length-Sin.length=0:=by omega
    have e1:CallData.eff ⟨[],l.map (·.1),args0,Sin,r,Sout,false⟩ S d tk=⟨((l.map (·.1)).zip Sin).map (λp=>(p.1,p.2.ren (l.map (·.1)))),bR (l.map (·.1)) (l.map (·.1)) Sout,ren (l.map (·.1)) r⟩:=by
      simp only [CallData.eff,cond_false,CallData.names,hdm,jg,List.range_zero,List.map_nil,List.append_nil,dA,dB,List.nil_append]
    show K' (CallData.eff _ S d tk)
    rw [e1]
    refine hk _ _ ⟨λx hx => ?_,λx hx=>mV hx⟩ (λh=>by cases h) ?_ h
    · obtain ⟨y,hy,rfl⟩:=List.mem_map.1 hx
      exact (List.of_mem_zip hy).1
    · have e3:(l.map (·.1)).length=is.length:=by simp [hll]
      have ag1:=tJ (ν:=l.map (·.1)) ag hi hnd (bs:=Sout) (λj h1 h2=>by
        simp only [List.length_map]at h2
        exact⟨_,by simp only [List.getElem_map];exact hlg j h1 h2⟩)
      rw [List.take_of_length_le (by omega)]at ag1
      exact ag1.tail
theorem wR {l:List (Nm×Box)} {i:Nat} {n:Nm} {b:Box}:∀{is:List Nat} {l:List (Nm×Box)},iR H is=some l->H[i]? = some (n,some b)->iR H (is++[i])=some (l++[(n,b)])
  | [],l,h,hi=>by
    simp only [iR,so_]at h;subst h
    simp only [List.nil_append,iR,hi]
  | j::is,l,h,hi=>by
    simp only [iR]at h
    split at h
    · rename_i n' b' l' h1 h2
      simp only [so_]at h;subst h
      simp only [List.cons_append,iR,h1,wR (l:=l) h2 hi]
    · cases h
theorem oq (ρ:List Nm):∀(vs:List V) (i:Nat) (v:V),renL ρ (vs.set i v)=(renL ρ vs).set i (ren ρ v)
  | [],_,_=>rfl
  | _::_,0,_=>rfl
  | x::vs,i+1,v=>by simp only [List.set_cons_succ,renL,oq ρ vs i v]
theorem x8 {k:Nat}:∀{vs:List V} {i:Nat} {v:V},okL k (vs.set i .none)=true->okV k v=true->okL k (vs.set i v)=true
  | [],_,_,_,_=>rfl
  | x::vs,0,v,h,hv=>by
    simp only [List.set_cons_zero,okL,Bool.and_eq_true]at h ⊢;exact⟨hv,h.2⟩
  | x::vs,i+1,v,h,hv=>by
    simp only [List.set_cons_succ,okL,Bool.and_eq_true]at h ⊢;exact⟨h.1,x8 h.2 hv⟩
theorem mU {α:Type}:∀{l:List α} {i:Nat} {a:α},l[i]? = some a->l.set i a=l
  | x::l,0,a,h=>by simp at h;subst h;rfl
  | x::l,i+1,a,h=>by simp only [List.set_cons_succ];rw [mU (by simpa using h)]
  | [],_,_,h=>by simp at h
theorem AR {α:Type} {a b:List α} {i:Nat} {x y:α} (h:a.set i x=b.set i x):a.set i y=b.set i y:=by
  have:=congrArg (λl=>l.set i y) h
  simpa using this
theorem zw (ν:List Nm):∀(is:List Nat) (ns:List Nm) (bs:List (Option Box)) (i:Nat) (n:Nm) (o:Option Box),is.length=bs.length->is.length=ns.length->Eng.outs ν (is++[i]) (ns++[n]) (bs++[o])=Eng.outs ν is ns bs++[(i,n,o.map (·.ren ν))]
  | [],[],[],i,n,o,_,_=>rfl
  | j::is,m::ns,b::bs,i,n,o,h1,h2=>by simp only [List.cons_append,Eng.outs];rw [zw ν is ns bs i n o (by simpa using h1) (by simpa using h2)]
  | [],_::_,_,_,_,_,_,h=>by simp at h
  | [],[],_::_,_,_,_,h,_=>by simp at h
  | _::_,[],_,_,_,_,_,h=>by simp at h
  | _::_,_::_,[],_,_,_,h,_=>by simp at h
theorem rD {k:Nat}:∀{a b:List (Option Box)},okOut k a=true->okOut k b=true->okOut k (a++b)=true
  | [],_,_,h=>h
  | none::a,b,h1,h2=>by simp only [List.cons_append,okOut]at h1 ⊢;exact rD h1 h2
  | some y::a,b,h1,h2=>by simp only [List.cons_append,okOut,Bool.and_eq_true]at h1 ⊢;exact⟨h1.1,rD h1.2 h2⟩
theorem zm {vs:List V} {i:Nat} (h:((vs.set i .none).flatMap frz).all (λ_=>false)=true) {n:Nm} (hn:n∈vs.flatMap frz):∃v,vs[i]? = some v/\n∈frz v:=by
  have hx:(vs.set i .none).flatMap frz=[]:=by
    cases hx:(vs.set i .none).flatMap frz with
    | nil=>rfl
    | cons a b=>rw [hx]at h;simp at h
  obtain ⟨v,hv,hnv⟩:=List.mem_flatMap.1 hn
  obtain ⟨j,hj,rfl⟩:=List.getElem_of_mem hv
  by_cases hij:i=j
  · subst hij;exact⟨vs[i],List.getElem?_eq_getElem hj,hnv⟩
  · exfalso
    have:vs[j]∈vs.set i .none:=by
      have:(vs.set i V.none)[j]'(by simpa using hj)=vs[j]:=by rw [List.getElem_set_ne hij]
      rw [<- this];exact List.getElem_mem _
    have:=ma hx _ this
    rw [this]at hnv;cases hnv
theorem rX {a b:List Nm}:∀{vs:List V},okL a.length vs=true->renL (a++b) vs=renL a vs:=by
  intro vs h
  have key:∀n,okN a.length n=true->pR (a++b) n=pR a n:=by
    intro n hn
    obtain ⟨i,hi,rfl⟩:=ol hn
    rw [nM hi,nM (by simp;omega)]
    simp [List.getElem_append_left hi]
  have go:∀v,okV a.length v=true->ren (a++b) v=ren a v:=by
    intro v
    induction v using V.rec (motive_2:=λvs=>okL a.length vs=true->renL (a++b) vs=renL a vs)with
    | ref n i j=>intro h;simp only [ren];rw [key n h]
    | vs n sz k len=>intro h;simp only [ren];rw [key n h]
    | map n=>intro h;simp only [ren];rw [key n h]
    | fn f caps ih=>intro h;simp only [ren];rw [ih h]
    | agg cs ih=>intro h;simp only [ren];rw [ih h]
    | tup vs ih=>intro h;simp only [ren];rw [ih h]
    | nil=>intro h;rfl
    | cons v vs ih1 ih2 =>
      rename_i h
      simp only [okL,Bool.and_eq_true]at h
      simp only [renL,ih1 h.1,ih2 h.2]
    | _=>intro h;rfl
  induction vs with
  | nil=>rfl
  | cons v vs ih =>
    simp only [okL,Bool.and_eq_true]at h
    simp only [renL,go v h.1,ih h.2]
theorem Ch {α:Type} {enc:α->List D} {sz:Nat} {rs:List ResultVar} {r:V} {e:Exit} {bs os:List Box} {xs:List α} {o:Option Box} (he:e = .normal\/e = .ret) (vs:List V) (h1:Ak C sl H rs vs) (h2:(vs.flatMap frz).all (λ_=>false)=true) (h3:Ct (vs.map co0)=r) (hr:okV 0 r=true)
    (hbl:bs.length=os.length) (hj:H[os.length]? = some (au os.length,o)) (hO:os.all (λb=>b.ok 0)=true) (ho:∀b,o=some b->b.ok 0=true) (hH:H.take os.length=sj 0 os) :
    CX C rs (bs++gI sz enc xs).length r (os.map some++gT xs o) e sl H:=by
  have hn:vs.flatMap frz=[]:=by
    cases hx:vs.flatMap frz with
    | nil=>rfl
    | cons a b=>rw [hx]at h2;simp at h2
  have hc:∀{vs:List V},vs.flatMap frz=[]->CoL H vs (vs.map co0):=by
    intro vs
    induction vs with
    | nil=>exact λ_ => .nil
    | cons v vs ih=>exact λh => .cons (eQ (ma h v (by simp)) rfl) (ih (by simp only [List.flatMap_cons,List.append_eq_nil_iff]at h;exact h.2))
  have hget:∀i (h:i<os.length),H[i]? = some (au i,some os[i]):=λi hi=>by
    have:=rJ os 0 i hi
    rw [Nat.zero_add,<- hH,List.getElem?_take,if_pos hi]at this
    exact this
  have hou:∀{ν:List Nm} {l:List Box} {j:Nat} {js:List Nat} {ns:List Nm} {bs:List (Option Box)},(∀b∈l,b.ok 0=true)->(∀i (h:i<l.length),H[j+i]? = some (au (j+i),some l[i]))->yh H ν js ns bs->yh H ν (List.range' j l.length++js) ((List.range' j l.length).map au++ns) (l.map some++bs):=by
    intro ν l
    induction l with
    | nil=>exact λ_ _ h=>h
    | cons b l ih =>
      intro j js ns bs hb hg hr
      simp only [List.length_cons,List.range'_succ,List.map_cons,List.cons_append]
      refine⟨?_,ih (λx hx=>hb x (by simp [hx])) (λi hi => ?_) hr⟩
      · have:=hg 0 (by simp)
        simp only [Option.map_some,tK (hb b (by simp))]
        exact this
      · have:=hg (i+1) (by simpa using hi)
        rw [show j+1+i=j+(i+1) by omega]
        exact this
  have hO':∀b∈os,b.ok 0=true:=λb hb=>List.all_eq_true.1 hO b hb
  cases xs with
  | nil =>
    refine⟨he,vs,vs.map co0,List.range' 0 os.length++[],(List.range' 0 os.length).map au++[],h1,hc hn,by rw [h3,xO hr],hou hO' (λi hi=>by rw [Nat.zero_add];exact hget i hi) trivial,by simp [List.nodup_range'],λi hi => ?_⟩
    have:i<os.length:=by simpa [gI,hbl]using hi
    simp [this]
  | cons x xs =>
    refine⟨he,vs,vs.map co0,List.range' 0 os.length++[os.length],(List.range' 0 os.length).map au++[au os.length],h1,hc hn,by rw [h3,xO hr],
      hou hO' (λi hi=>by rw [Nat.zero_add];exact hget i hi) ⟨?_,trivial⟩,?_,λi hi => ?_⟩
    · rw [hj]
      cases o with
      | none=>rfl
      | some b=>simp only [Option.map_some,tK (ho b rfl)]
    · rw [List.nodup_append]
      refine⟨List.nodup_range',by simp,λa ha b hb => ?_⟩
      simp only [List.mem_singleton]at hb
      simp only [List.mem_range'_1]at ha
      omega
    · have hi':i<os.length+1:=by simpa [gI,hbl]using hi
      by_cases hlt:i<os.length
      · rw [List.getElem?_append_left (by simpa using hlt)];simp [hlt]
      · have:i=os.length:=by omega
        subst this
        rw [List.getElem?_append_right (by simp)];simp
end
end Go.Eng

/-
  THE ENGINE: rules for maps, arrays and new slices of zeros.
-/
namespace Go.Eng
set_option linter.unusedSectionVars false
variable [DM]
set_option linter.unusedVariables false
set_option linter.unusedSimpArgs false
section
variable {C:Cfg} {sl:Nat->V} {H:Hp} {q:Qm} {all rest:List Oper} {K:(Nat->V)->Hp->Prop}
variable {dst:Option Tmp} {d:Nat} {t ty:TypeId} {pos:String} {after:Array Edge} {g:Option (Nat×Bool)}
end
end Go.Eng

/-
  THE ENGINE: slices with room made ahead; functions that are handed two slices in their boxes.
-/
namespace Go.Eng
set_option linter.unusedSectionVars false
variable [DM]
set_option linter.unusedVariables false
set_option linter.unusedSimpArgs false
def kV {α:Type} (b:Bool) (n:Nm) (sz:Nat) (xs:List α):V:=match b with
  | true=>vV n sz xs
  | false=>gV n sz xs
def kB {α:Type} (b:Bool) (sz:Nat) (enc:α->List D) (xs:List α):Option Box:=match b with
  | true=>some (bV sz enc xs)
  | false=>gB sz enc xs
def kF {α:Type} (b:Bool) (sz:Nat) (enc:α->List D) (xs:List α):Option Box:=match b with
  | true=>some (bF sz enc xs)
  | false=>gF sz enc xs
section
variable {C:Cfg} {Q:QH} {sl:Nat->V} {H:Hp} {c:Code}
theorem DR {α:Type} {enc:α->List D} {xs:List α} {sz:Nat} {n:Nm} {b:Bool} (i:Nat) (h:H[i]? = some (n,kB b sz enc xs)) (hw:wH C c Q sl (H.set i (n,kF b sz enc xs))):wH C c Q sl H:=by
  cases b with
  | true=>exact Br i h hw
  | false=>exact lV i h hw
theorem wH_cok {α:Type} {enc:α->List D} {xs:List α} {sz:Nat} {n:Nm} {b:Bool} (k i:Nat) (hk:sl k=kV b n sz xs) (h:H[i]? = some (n,kF b sz enc xs)) (hw:wH C c Q (upd sl k (vL enc xs)) H):wH C c Q sl H:=by
  cases b with
  | true=>exact wH_co k i hk h hw
  | false=>exact jc k i hk h hw
end
section
variable {C:Cfg} {sl:Nat->V} {H:Hp} {q:Qm} {all rest:List Oper} {K:(Nat->V)->Hp->Prop}
variable {dst:Option Tmp} {d:Nat} {t ty:TypeId} {pos:String} {after:Array Edge} {g:Option (Nat×Bool)}
theorem h_lenn {x:Operand} {e:TypeId} (hu:C.P.underlying t=some (.slice e)) (hx:ev sl x = .nil) (hw:aF all sl ⟨dst,.call ⟨.builtin .len,#[x],#[t]⟩,ty,pos,after,g⟩=some true)
    (h:aP q C all K rest (bI sl dst (vI 0)) H):aP q C all K (⟨dst,.call ⟨.builtin .len,#[x],#[t]⟩,ty,pos,after,g⟩::rest) sl H :=
  uh (v:=vI 0) (by rw [hx];simp only [uf,hu]) hw h
end
end Go.Eng

/-
  THE ENGINE: functions that are handed two slices in their boxes.
-/
namespace Go.Eng
set_option linter.unusedSectionVars false
variable [DM]
set_option linter.unusedVariables false
set_option linter.unusedSimpArgs false
def okO (os:List (Option Box)):Bool:=os.all λo=>match o with
  | some b=>b.ok 0
  | none=>true
theorem ArgsOK.set {S:Store} {x y x' y':V} (hxy:y'=x'\/y'=co S x'):∀{a b:List V} {i:Nat},ArgsOK S (a.set i x) (b.set i y)->ArgsOK S (a.set i x') (b.set i y')
  | [],[],i,h=>by simpa using h
  | [],b::bs,i,h=>by cases i <;> (simp at h;cases h)
  | a::az,[],i,h=>by cases i <;> (simp at h;cases h)
  | a::az,b::bs,0,h=>by
    simp only [List.set_cons_zero]at h ⊢
    cases h with
    | cons _ t=>exact .cons hxy t
  | a::az,b::bs,i+1,h=>by
    simp only [List.set_cons_succ]at h ⊢
    cases h with
    | cons h1 t=>exact .cons h1 (ArgsOK.set hxy t)
section
variable {C:Cfg} {sl:Nat->V} {H:Hp} {q:Qm} {all rest:List Oper} {K:(Nat->V)->Hp->Prop}
variable {dst:Option Tmp} {d:Nat} {t ty:TypeId} {pos:String} {after:Array Edge} {g:Option (Nat×Bool)}
theorem pick_at {env0 env1:List (Nat×V)} (is:List Nat) (h:pick env0 sl=env0) (e:(is.filterMap λi=>env0[i]?)=env1):pick env1 sl=env1:=by
  subst e
  unfold pick at h ⊢
  have hp:∀p∈env0,(p.1,sl p.1)=p:=by
    intro p hp
    obtain ⟨i,hi,rfl⟩:=List.getElem_of_mem hp
    have:=congrArg (λl=>l[i]?) h
    simpa [List.getElem?_map,List.getElem?_eq_getElem hi]using this
  conv=>rhs;rw [<- List.map_id (is.filterMap λi=>env0[i]?)]
  refine List.map_congr_left (λp h1 => ?_)
  obtain ⟨i,_,hi⟩:=List.mem_filterMap.1 h1
  exact hp p (List.mem_of_getElem? hi)
theorem yn {H0:Hp} (h:H.take H0.length=H0):pre H0 H:=aN h
theorem pre_at {H0 H1:Hp} (hq:pre H0 H) (h:pre H1 H0):pre H1 H:=by
  obtain ⟨is,hn,he⟩:=hq
  obtain ⟨js,hm,hf⟩:=h
  obtain ⟨hl,hg⟩:=xK he
  obtain ⟨hk,hh⟩:=xK hf
  have hjs:∀(a:Nat) (ha:a<js.length),js[a]<is.length:=λa ha=>by
    have:=(List.getElem?_eq_some_iff.1 (hh a ha (by omega))).1
    omega
  refine⟨js.map λj=>is.getD j 0,?_,?_⟩
  · refine List.pairwise_iff_getElem.2 (λa b ha hb hab e => ?_)
    simp only [List.length_map]at ha hb
    have h1:=hjs a ha
    have h2:=hjs b hb
    simp only [List.getElem_map,List.getD_eq_getElem?_getD,List.getElem?_eq_getElem h1,List.getElem?_eq_getElem h2,Option.getD_some]at e
    have hab':=(List.pairwise_iff_getElem.1 hm) a b ha hb hab
    exact hab' ((List.getElem_inj hn).1 e)
  · refine List.ext_getElem (by simp [hk]) (λi h1 h2 => ?_)
    simp only [List.length_map]at h1 h2
    have h3:=hjs i h1
    simp only [List.getElem_map,List.getD_eq_getElem?_getD,List.getElem?_eq_getElem h3,Option.getD_some]
    obtain ⟨l1,e1⟩:=List.getElem?_eq_some_iff.1 (hh i h1 h2)
    rw [hg js[i] h3 l1,e1]
end
end Go.Eng

/-
  THE ENGINE: a sort of the library's, by its contract off the shelf.
-/
namespace Go.Eng
set_option linter.unusedSectionVars false
variable [DM]
open Go.Sort
set_option linter.unusedVariables false
set_option linter.unusedSimpArgs false
theorem lH.alone {G:Gh} {w:World} {vargs:List Value} {a:V} (h:lH G w vargs [a]):∃x,vargs=[x]/\RepV G w x a:=by
 obtain ⟨hl,h⟩:=h
 match vargs,hl with
 | [x],_=>exact⟨x,rfl,h 0 (by simp) (by simp)⟩
end Go.Eng

