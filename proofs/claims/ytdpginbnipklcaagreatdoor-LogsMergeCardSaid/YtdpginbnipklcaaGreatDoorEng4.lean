/-
  The engine: what the machine does to data, shown once for all programs (part 4).
-/
import Derived.Test.YtdpginbnipklcaaGreatDoorEng3
import Derived.Sort.Row
import Derived.Sort.Grow
/-
  THE ENGINE: parts of a slice over a box; clear.
-/
namespace Go.Eng
set_option linter.unusedSectionVars false
variable [DM]
set_option linter.unusedVariables false
set_option linter.unusedSimpArgs false
theorem gB_cons {α:Type} {sz:Nat} {enc:α->List D} {xs:List α} (h:xs ≠ []):gB sz enc xs=some (bV sz enc xs):=by cases xs with
 | nil=>exact absurd rfl h
 | cons x xs=>rfl
section
variable {C:Cfg} {Q:QH} {sl:Nat->V} {H:Hp} {c:Code}
theorem Iq {α:Type} {enc:α->List D} {xs:List α} {sz lo len:Nat} {n:Nm} (k i:Nat) (hk:sl k = .vs n sz lo len) (h:H[i]? = some (n,some (bF sz enc xs))) (hle:lo+len<=xs.length) (hw:wH C c Q (upd sl k (vL enc ((xs.drop lo).take len))) H):wH C c Q sl H :=
 ry hw (λS t ag=>⟨S,by
  have:=Gst.co ⟨sl,S,t⟩ k
  have e:co S (sl k)=vL enc ((xs.drop lo).take len):=by
   rw [hk]
   have hS:=ag.get h
   have h2:Nat.ble (lo+len) xs.length=true:=Nat.ble_eq_true_of_le hle
   simp [co,co1,hS,h2,List.map_drop,List.map_take]
  simp only [e]at this
  exact this,ag⟩)
end
section
variable {C:Cfg} {sl:Nat->V} {H:Hp} {q:Qm} {all rest:List Oper} {K:(Nat->V)->Hp->Prop}
 {dst:Option Tmp} {t ty e:TypeId} {pos:String} {after:Array Edge} {g:Option (Nat×Bool)}
theorem h_clear {α:Type} {enc:α->List D} {xs:List α} {x:Operand} {n:Nm} {sz k len i:Nat} {z:List V} (p:Nat) (hp:q=none\/Nat.beq all.length (p+(rest.length+1))=true)
  (hf:∀S tk,AgR H S tk (⟨dst,.call ⟨.builtin .clear,#[x],#[t]⟩,ty,pos,after,g⟩::rest)->okQ q all p [n] true) (za:α)
  (he:dA C.P t=some e) (hs:szT C.P e=some sz) (hz:zeroCells C.P e=some z) (ha:yj z=some (enc za)) (ho:z.all kr=true) (hzl:z.length=sz) (hpos:0<sz)
  (hx:ev sl x = .vs n sz k len) (hle:k+len<=xs.length) (hH:H[i]? = some (n,some (bV sz enc xs)))
  (hw:aS all sl ⟨dst,.call ⟨.builtin .clear,#[x],#[t]⟩,ty,pos,after,g⟩=some true)
  (h:bA (oK q p [n] true) C all K rest (dM sl dst (.tup [])) (H.set i (n,some (bV sz enc (xs.take k++List.replicate len za++xs.drop (k+len)))))) :
  bA q C all K (⟨dst,.call ⟨.builtin .clear,#[x],#[t]⟩,ty,pos,after,g⟩::rest) sl H:=by
 refine nY p [n] true hp hf (sS hH) hw (λS tk K' ok ag hk => ?_)
 have hS:S n=some (.vec sz (xs.map enc)):=ag.get hH
 have hle':k+len<=(xs.map enc).length:=by simpa using hle
 by_cases h0:len=0
 ·subst h0
  refine tF (A:=⟨[(n,.vec sz (xs.map enc))],[],.tup []⟩) ?_ (hk _ (H.set i (n,some (bV sz enc (xs.take k++List.replicate 0 za++xs.drop (k+0))))) ⟨by simp,by simp⟩ (λe=>by cases e) ?_ h)
  ·show rJ C.P t S (ev sl x)=_
   simp only [rJ,he,hx,hs,hz,hS,ha]
   rw [if_pos ⟨trivial,trivial,hzl,ho,hle',hpos⟩,if_pos trivial]
  ·have:=BL ag hH (b':=some (bV sz enc (xs.take k++List.replicate 0 za++xs.drop (k+0)))) (λx hx=>by simp only [List.replicate_zero,List.append_nil,Nat.add_zero,List.take_append_drop]at hx;rw [hS];exact hx)
   exact this.tail
 ·refine tF (A:=⟨[(n,.vec sz (xs.map enc))],[(n,some (bV sz enc (xs.take k++List.replicate len za++xs.drop (k+len))))],.tup []⟩) ?_ (hk _ _ ⟨by simp,by simp⟩ (λe=>by cases e) (ag.tail.set hH (λx hx=>hx)) h)
  show rJ C.P t S (ev sl x)=_
  simp only [rJ,he,hx,hs,hz,hS,ha]
  rw [if_pos ⟨trivial,trivial,hzl,ho,hle',hpos⟩,if_neg h0]
  simp [bV,List.map_take,List.map_drop]
def oV {α:Type} (xs:List α) (lo hi:Int):Option Unit:=if 0<=lo/\0<=hi/\lo.toNat<=hi.toNat/\hi.toNat<=xs.length then some ()else none
theorem pg {α:Type} {xs:List α} {lo hi:Int} {u:Unit} (h:oV xs lo hi=some u):0<=lo/\0<=hi/\lo.toNat<=hi.toNat/\hi.toNat<=xs.length:=by
 unfold oV at h;split at h
 ·assumption
 ·cases h
theorem uj {α:Type} {xs:List α} {lo hi:Int} {u:Unit} (h:oV xs lo hi=some u):lo.toNat+(hi.toNat-lo.toNat)<=xs.length:=by
 have:=pg h;omega
section part
variable {α:Type} {enc:α->List D} {xs:List α} {sz:Nat} {n:Nm} {x l hi:Operand} {k k':IntKind} {a b:Int} {u:Unit}
theorem D7 (hu:C.P.underlying t=some (.slice e)) (hs:szT C.P e=some sz) {lo hi:Option V} {l h:Int} (h1:ny 0 lo=some l.toNat) (h2:ny xs.length hi=some h.toNat) (hr:oV xs l h=some u) :
  kI C.P t (vV n sz xs) lo hi none=some (.vs n sz l.toNat (h.toNat-l.toNat)):=by
 obtain ⟨_,_,r3,r4⟩:=pg hr
 simp only [vV,kI,hu,hs,h1,h2]
 rw [if_pos ⟨r3,r4,trivial⟩,Nat.zero_add]
theorem DZ (hu:C.P.underlying t=some (.slice e)) (hs:szT C.P e=some sz) (hx:ev sl x=vV n sz xs) (hl:ev sl l = .d (.int k a)) (hr:oV xs a xs.length=some u) (hw:aS all sl ⟨dst,.slice t x (some l) none none,ty,pos,after,g⟩=some true)
  (h:bA q C all K rest (dM sl dst (.vs n sz a.toNat (((xs.length:Int)).toNat-a.toNat))) H):bA q C all K (⟨dst,.slice t x (some l) none none,ty,pos,after,g⟩::rest) sl H :=
 aL _ hw (by
  show kI C.P t (ev sl x) (some (ev sl l)) none none=_
  rw [hx,hl];exact D7 hu hs (Ad (pg hr).1) rfl hr) h
theorem IJ (hu:C.P.underlying t=some (.slice e)) (hs:szT C.P e=some sz) (hx:ev sl x=vV n sz xs) (hh:ev sl hi = .d (.int k' b)) (hr:oV xs 0 b=some u) (hw:aS all sl ⟨dst,.slice t x none (some hi) none,ty,pos,after,g⟩=some true)
  (h:bA q C all K rest (dM sl dst (.vs n sz 0 b.toNat)) H):bA q C all K (⟨dst,.slice t x none (some hi) none,ty,pos,after,g⟩::rest) sl H :=
 aL _ hw (by
  show kI C.P t (ev sl x) none (some (ev sl hi)) none=_
  rw [hx,hh];exact D7 hu hs rfl (Ad (pg hr).2.1) hr) h
end part
end
end Go.Eng

/-
  THE ENGINE: a slice that a function writes into: its box is handed in and handed back.
-/
namespace Go.Eng
set_option linter.unusedSectionVars false
variable [DM]
set_option linter.unusedVariables false
set_option linter.unusedSimpArgs false
def dV {α:Type} (n:Nm) (sz:Nat):List α->V
  | [] => .d (.sl [])
  | x::xs => .vs n sz 0 (x::xs).length
def gI {α:Type} (sz:Nat) (enc:α->List D):List α->List Box
  | []=>[]
  | x::xs=>[.vec sz ((x::xs).map enc)]
def gT {α:Type} (xs:List α) (o:Option Box):List (Option Box):=match xs with
  | []=>[]
  | _::_=>[o]
def neL {α:Type} (xs:List α):Option Unit:=match xs with
  | []=>none
  | _::_=>some ()
def dn {α β:Type} (xs:List α) (ys:List β):Option Unit:=if xs.length=ys.length then some ()else none
def inN (i:Int) (len:Nat):Option Unit:=if 0<=i/\i.toNat<len then some ()else none
abbrev yo {α:Type} (xs:List α) (lo len:Nat):List α:=(xs.drop lo).take len
theorem neL_ne {α:Type} {xs:List α} {u:Unit} (h:neL xs=some u):xs ≠ []:=by
  cases xs with
  | nil=>cases h
  | cons x xs=>simp
theorem bN {α β:Type} {xs:List α} {ys:List β} {u:Unit} (h:dn xs ys=some u):xs.length=ys.length:=by
  unfold dn at h;split at h
  · assumption
  · cases h
theorem xH {i:Int} {n:Nat} {u:Unit} (h:inN i n=some u):0<=i:=by
  unfold inN at h;split at h
  · rename_i h1;exact h1.1
  · cases h
theorem sG {i:Int} {n:Nat} {u:Unit} (h:inN i n=some u):i.toNat<n:=by
  unfold inN at h;split at h
  · rename_i h1;exact h1.2
  · cases h
theorem AX {α:Type} {xs:List α} {k len:Nat} {z:α} (h:k+len<=xs.length):xs.length=(xs.take k++List.replicate len z++xs.drop (k+len)).length:=by
  simp only [List.length_append,List.length_take,List.length_replicate,List.length_drop];omega
theorem ax {α:Type} {n:Nm} {sz:Nat} {xs ys:List α} (h:xs.length=ys.length):dV n sz xs=dV n sz ys:=by
  cases xs with
  | nil=>cases ys with
    | nil=>rfl
    | cons y ys=>simp at h
  | cons x xs=>cases ys with
    | nil=>simp at h
    | cons y ys=>simp only [dV,h]
theorem vM {α:Type} {n:Nm} {sz:Nat} {xs:List α} (h:xs ≠ []):dV n sz xs=vV n sz xs:=by cases xs with
  | nil=>exact absurd rfl h
  | cons x xs=>rfl
theorem jb {α:Type} {sz:Nat} {enc:α->List D} {xs ys:List α} (h:ys.length=xs.length):xs=[]->gB sz enc ys=none:=λe=>by
  subst e
  cases ys with
  | nil=>rfl
  | cons y ys=>simp at h
section
variable {C:Cfg} {sl:Nat->V} {H:Hp} {Q:QH} {c:Code}
theorem wH_reH (i:Nat) {n:Nm} {b b':Option Box} (h:H[i]? = some (n,b)) (e:b=b') (hw:wH C c Q sl (H.set i (n,b'))):wH C c Q sl H:=by
  subst e
  have hi:=(List.getElem?_eq_some_iff.1 h)
  rwa [<- hi.2,List.set_getElem_self]at hw
theorem wH_re (k:Nat) {v v':V} (hk:sl k=v) (e:v=v') (h:wH C c Q (upd sl k v') H):wH C c Q sl H:=by
  have:upd sl k v'=sl:=by
    funext j
    simp only [upd]
    cases hj:Nat.beq j k with
    | true=>rw [Nat.eq_of_beq_eq_true hj,hk,e];rfl
    | false=>rfl
  rw [this]at h;exact h
theorem uW {α:Type} {enc:α->List D} {xs:List α} {sz:Nat} {n:Nm} (k i:Nat) (hk:sl k=dV n sz xs) (h:H[i]? = some (n,gF sz enc xs)) (hw:wH C c Q (upd sl k (vL enc xs)) H):wH C c Q sl H:=by
  cases xs with
  | nil=>exact wH_re k (v':=vL enc ([]:List α)) hk rfl hw
  | cons x xs=>exact CZ k i hk h hw
end
section
variable {C:Cfg} {sl:Nat->V} {H:Hp} {q:Qm} {all rest:List Oper} {K:(Nat->V)->Hp->Prop}
variable {dst:Option Tmp} {d:Nat} {t ty:TypeId} {pos:String} {after:Array Edge} {g:Option (Nat×Bool)}
theorem h_reH (i:Nat) {n:Nm} {b b':Option Box} (h:H[i]? = some (n,b)) (e:b=b') (hw:bA q C all K rest sl (H.set i (n,b'))):bA q C all K rest sl H:=by
  subst e
  have hi:=(List.getElem?_eq_some_iff.1 h)
  rwa [<- hi.2,List.set_getElem_self]at hw
theorem aO {α:Type} {xs:List α} {x i:Operand} {k:IntKind} {n:Int} {nm:Nm} {size:Nat} (hT:(dA C.P t).bind (szT C.P)=some size) (hx:ev sl x=dV nm size xs) (hi:ev sl i = .d (.int k n)) (h0:0<=n) (h1:n.toNat<xs.length)
    (hw:aS all sl ⟨dst,.indexAddr t x i,ty,pos,after,g⟩=some true) (h:bA q C all K rest (dM sl dst (.ref nm (0+n.toNat) 0)) H):bA q C all K (⟨dst,.indexAddr t x i,ty,pos,after,g⟩::rest) sl H:=by
  cases xs with
  | nil=>simp at h1
  | cons y ys=>exact A9 hT hx hi h0 h1 hw h
theorem Cj {α:Type} {n:Nm} {sz:Nat} {xs:List α} {x:Operand} {e:TypeId} (hu:C.P.underlying t=some (.slice e)) (hx:ev sl x=dV n sz xs) (hw:aS all sl ⟨dst,.call ⟨.builtin .len,#[x],#[t]⟩,ty,pos,after,g⟩=some true)
    (h:bA q C all K rest (dM sl dst (vI xs.length)) H):bA q C all K (⟨dst,.call ⟨.builtin .len,#[x],#[t]⟩,ty,pos,after,g⟩::rest) sl H:=by
  cases xs with
  | nil=>exact iT (enc:=λ_:α=>[]) (xs:=[]) hu hx hw h
  | cons y ys=>exact h_lenw hu hx hw h
theorem h_lenp {n:Nm} {sz k len:Nat} {x:Operand} {e:TypeId} (hu:C.P.underlying t=some (.slice e)) (hx:ev sl x = .vs n sz k len) (hw:aS all sl ⟨dst,.call ⟨.builtin .len,#[x],#[t]⟩,ty,pos,after,g⟩=some true)
    (h:bA q C all K rest (dM sl dst (vI len)) H):bA q C all K (⟨dst,.call ⟨.builtin .len,#[x],#[t]⟩,ty,pos,after,g⟩::rest) sl H :=
  xn (v:=vI len) (by rw [hx];simp only [yn,hu]) hw h
theorem Gi {f:Operand} {args:List Operand} {ats:Array TypeId} {fn:FuncId} {caps args0:List V} {r:V} {Sin:List Box} {Sout:List (Option Box)} (p:Nat) (is:List Nat) {l:List (Nm×Box)} (hp:q=none\/Nat.beq all.length (p+(rest.length+1))=true)
    (hfp:∀S tk,AgR H S tk (⟨some d,.call ⟨.value f,args.toArray,ats⟩,ty,pos,after,g⟩::rest)->okQ q all p (l.map (·.1)) true) (hc:FnM C.P fn args0 Sin r Sout)
    (hf:ev sl f = .fn fn caps) (hb:aR C.P fn=true) (hl:mP H is=some l) (hS:Sin.map (λb=>b.ren (l.map (·.1)))=l.map (·.2)) (hSok:Sin.all (λb=>b.ok is.length)=true)
    (hn:∀n∈(args.map (ev sl)++caps).flatMap frz,n∈l.map (·.1)) (ha:∀S tk,AgR H S tk (⟨some d,.call ⟨.value f,args.toArray,ats⟩,ty,pos,after,g⟩::rest)->ArgsOK S (args.map (ev sl)++caps) (renL (l.map (·.1)) args0)) (hok:okL is.length args0=true) (hr:okV Sout.length r=true)
    (hlen:Sout.length=is.length) (hi:is.Nodup) (hO:okOut Sout.length Sout=true)
    (hw:aS all sl ⟨some d,.call ⟨.value f,args.toArray,ats⟩,ty,pos,after,g⟩=some true)
    (v:V) (hv:ren (l.map (·.1)) r=v) (H':Hp) (hH:setH H (outs (l.map (·.1)) is (l.map (·.1)) Sout)=H')
    (h:bA (oK q p (l.map (·.1)) true) C all K rest (upd sl d v) H') :
    bA q C all K (⟨some d,.call ⟨.value f,args.toArray,ats⟩,ty,pos,after,g⟩::rest) sl H:=by
  subst hv hH
  obtain ⟨hll,hlg⟩:=mV hl
  have hsl:Sin.length=l.length:=by have:=congrArg List.length hS;simpa using this
  refine nY p (l.map (·.1)) true hp hfp (wR hl) hw (λS tk K' ok ag hk=>qU hf ?_)
  have hnd:=rM ag hi hl
  refine .inl ⟨hb,⟨[],l.map (·.1),args0,Sin,r,Sout,false⟩,?_,(λe=>by cases e),?_⟩
  · exact { does := hc
            args:=ha S tk ag
            okA:=by simp only [List.length_map,hll];exact hok
            nodup:=hnd
            ins:=by
              refine tV (by simp [hsl]) (λj h1 h2=>⟨?_,?_⟩)
              · simp only [List.length_map,hll]
                exact List.all_eq_true.1 hSok _ (List.getElem_mem h2)
              · simp only [List.length_map]at h1
                have e:=hlg j (by omega) h1
                have e2:l[j].2=Sin[j].ren (l.map (·.1)):=by
                  have:=congrArg (λx=>x[j]?) hS
                  simp only [List.getElem?_map,List.getElem?_eq_getElem h2,List.getElem?_eq_getElem h1,Option.map_some,so_]at this
                  exact this.symm
                simp only [List.getElem_map]
                show S l[j].1=_
                rw [ag.get e,e2]
            len:=by show Sin.length<=Sout.length;omega
            okR:=hr,okO:=hO,mutN:=by show mutOut (List.drop Sin.length Sout)=true;rw [List.drop_of_length_le (by omega)];rfl
            roOK:=(λe=>by cases e),have_:=(λn hn=>nomatch hn),cov:=(λn h' => .inr (hn n h')),dis:=(λn _ hn=>nomatch hn) }
  · have hdm:Sout.length-Sin.length=0:=by omega
    have e1:CallData.eff ⟨[],l.map (·.1),args0,Sin,r,Sout,false⟩ S d tk=⟨((l.map (·.1)).zip Sin).map (λp=>(p.1,p.2.ren (l.map (·.1)))),eY (l.map (·.1)) (l.map (·.1)) Sout,ren (l.map (·.1)) r⟩:=by
      simp only [CallData.eff,cond_false,CallData.names,hdm,lQ,List.range_zero,List.map_nil,List.append_nil,iO,iP,List.nil_append]
    show K' (CallData.eff _ S d tk)
    rw [e1]
    refine hk _ _ ⟨λx hx => ?_,λx hx=>rT hx⟩ (λh=>by cases h) ?_ h
    · obtain ⟨y,hy,rfl⟩:=List.mem_map.1 hx
      exact (List.of_mem_zip hy).1
    · have e3:(l.map (·.1)).length=is.length:=by simp [hll]
      have ag1:=vK (ν:=l.map (·.1)) ag hi hnd (bs:=Sout) (λj h1 h2=>by
        simp only [List.length_map]at h2
        exact⟨_,by simp only [List.getElem_map];exact hlg j h1 h2⟩)
      rw [List.take_of_length_le (by omega)]at ag1
      exact ag1.tail
theorem Bv {l:List (Nm×Box)} {i:Nat} {n:Nm} {b:Box}:∀{is:List Nat} {l:List (Nm×Box)},mP H is=some l->H[i]? = some (n,some b)->mP H (is++[i])=some (l++[(n,b)])
  | [],l,h,hi=>by
    simp only [mP,so_]at h;subst h
    simp only [List.nil_append,mP,hi]
  | j::is,l,h,hi=>by
    simp only [mP]at h
    split at h
    · rename_i n' b' l' h1 h2
      simp only [so_]at h;subst h
      simp only [List.cons_append,mP,h1,Bv (l:=l) h2 hi]
    · cases h
theorem y9 (ρ:List Nm):∀(vs:List V) (i:Nat) (v:V),renL ρ (vs.set i v)=(renL ρ vs).set i (ren ρ v)
  | [],_,_=>rfl
  | _::_,0,_=>rfl
  | x::vs,i+1,v=>by simp only [List.set_cons_succ,renL,y9 ρ vs i v]
theorem CW {k:Nat}:∀{vs:List V} {i:Nat} {v:V},okL k (vs.set i .none)=true->okV k v=true->okL k (vs.set i v)=true
  | [],_,_,_,_=>rfl
  | x::vs,0,v,h,hv=>by
    simp only [List.set_cons_zero,okL,Bool.and_eq_true]at h ⊢;exact⟨hv,h.2⟩
  | x::vs,i+1,v,h,hv=>by
    simp only [List.set_cons_succ,okL,Bool.and_eq_true]at h ⊢;exact⟨h.1,CW h.2 hv⟩
theorem rU {α:Type}:∀{l:List α} {i:Nat} {a:α},l[i]? = some a->l.set i a=l
  | x::l,0,a,h=>by simp at h;subst h;rfl
  | x::l,i+1,a,h=>by simp only [List.set_cons_succ];rw [rU (by simpa using h)]
  | [],_,_,h=>by simp at h
theorem yZ {α:Type} {a b:List α} {i:Nat} {x y:α} (h:a.set i x=b.set i x):a.set i y=b.set i y:=by
  have:=congrArg (λl=>l.set i y) h
  simpa using this
theorem DD (ν:List Nm):∀(is:List Nat) (ns:List Nm) (bs:List (Option Box)) (i:Nat) (n:Nm) (o:Option Box),is.length=bs.length->is.length=ns.length->Eng.outs ν (is++[i]) (ns++[n]) (bs++[o])=Eng.outs ν is ns bs++[(i,n,o.map (·.ren ν))]
  | [],[],[],i,n,o,_,_=>rfl
  | j::is,m::ns,b::bs,i,n,o,h1,h2=>by simp only [List.cons_append,Eng.outs];rw [DD ν is ns bs i n o (by simpa using h1) (by simpa using h2)]
  | [],_::_,_,_,_,_,_,h=>by simp at h
  | [],[],_::_,_,_,_,h,_=>by simp at h
  | _::_,[],_,_,_,_,_,h=>by simp at h
  | _::_,_::_,[],_,_,_,h,_=>by simp at h
theorem El (ν ν':List Nm):∀(is:List Nat) (ns:List Nm) (bs:List Box),bs.all (λb=>b.ok 0)=true->Eng.outs ν is ns (bs.map some)=Eng.outs ν' is ns (bs.map some)
  | [],_,_,_=>rfl
  | _::_,[],_,_=>rfl
  | _::_,_::_,[],_=>rfl
  | i::is,n::ns,b::bs,h=>by
    simp only [List.all_cons,Bool.and_eq_true]at h
    simp only [List.map_cons,Eng.outs,Option.map_some,uq h.1,El ν ν' is ns bs h.2]
theorem Ac {k:Nat} {os:List Box}:os.all (λb=>b.ok 0)=true->okOut k (os.map some)=true:=by
  induction os with
  | nil=>exact λ_=>rfl
  | cons b os ih =>
    intro h
    simp only [List.all_cons,Bool.and_eq_true]at h
    simp only [List.map_cons,okOut,Bool.and_eq_true]
    exact⟨Box.ok_mono (Nat.zero_le _) h.1,ih h.2⟩
theorem wQ {k:Nat}:∀{a b:List (Option Box)},okOut k a=true->okOut k b=true->okOut k (a++b)=true
  | [],_,_,h=>h
  | none::a,b,h1,h2=>by simp only [List.cons_append,okOut]at h1 ⊢;exact wQ h1 h2
  | some y::a,b,h1,h2=>by simp only [List.cons_append,okOut,Bool.and_eq_true]at h1 ⊢;exact⟨h1.1,wQ h1.2 h2⟩
theorem Eb {vs:List V} {i:Nat} (h:((vs.set i .none).flatMap frz).all (λ_=>false)=true) {n:Nm} (hn:n∈vs.flatMap frz):∃v,vs[i]? = some v/\n∈frz v:=by
  have hx:(vs.set i .none).flatMap frz=[]:=by
    cases hx:(vs.set i .none).flatMap frz with
    | nil=>rfl
    | cons a b=>rw [hx]at h;simp at h
  obtain ⟨v,hv,hnv⟩:=List.mem_flatMap.1 hn
  obtain ⟨j,hj,rfl⟩:=List.getElem_of_mem hv
  by_cases hij:i=j
  · subst hij;exact⟨vs[i],List.getElem?_eq_getElem hj,hnv⟩
  · exfalso
    have:vs[j]∈vs.set i .none:=by
      have:(vs.set i V.none)[j]'(by simpa using hj)=vs[j]:=by rw [List.getElem_set_ne hij]
      rw [<- this];exact List.getElem_mem _
    have:=qE hx _ this
    rw [this]at hnv;cases hnv
theorem Df {bs:List Box} (ρ:List Nm) (h:bs.all (λb=>b.ok 0)=true):bs.map (λb=>b.ren ρ)=bs:=by
  induction bs with
  | nil=>rfl
  | cons b bs ih=>simp only [List.all_cons,Bool.and_eq_true]at h;simp only [List.map_cons,uq h.1,ih h.2]
theorem EA {a b:List Nm}:∀{vs:List V},okL a.length vs=true->renL (a++b) vs=renL a vs:=by
  intro vs h
  have key:∀n,okN a.length n=true->uR (a++b) n=uR a n:=by
    intro n hn
    obtain ⟨i,hi,rfl⟩:=sQ hn
    rw [sW hi,sW (by simp;omega)]
    simp [List.getElem_append_left hi]
  have go:∀v,okV a.length v=true->ren (a++b) v=ren a v:=by
    intro v
    induction v using V.rec (motive_2:=λvs=>okL a.length vs=true->renL (a++b) vs=renL a vs)with
    | ref n i j=>intro h;simp only [ren];rw [key n h]
    | vs n sz k len=>intro h;simp only [ren];rw [key n h]
    | map n=>intro h;simp only [ren];rw [key n h]
    | fn f caps ih=>intro h;simp only [ren];rw [ih h]
    | agg cs ih=>intro h;simp only [ren];rw [ih h]
    | tup vs ih=>intro h;simp only [ren];rw [ih h]
    | nil=>intro h;rfl
    | cons v vs ih1 ih2 =>
      rename_i h
      simp only [okL,Bool.and_eq_true]at h
      simp only [renL,ih1 h.1,ih2 h.2]
    | _=>intro h;rfl
  induction vs with
  | nil=>rfl
  | cons v vs ih =>
    simp only [okL,Bool.and_eq_true]at h
    simp only [renL,go v h.1,ih h.2]
theorem bX {α:Type} {enc:α->List D} {sz:Nat} {xs:List α} {f:Operand} {args:List Operand} {ats:Array TypeId} {fn:FuncId} {caps args0:List V} {r:V} {bs os:List Box} {o:Option Box} (p:Nat) (is:List Nat) (iv po:Nat) {l:List (Nm×Box)} {n:Nm} {w:V}
    (hp:q=none\/Nat.beq all.length (p+(rest.length+1))=true)
    (hfp:∀S tk,AgR H S tk (⟨some d,.call ⟨.value f,args.toArray,ats⟩,ty,pos,after,g⟩::rest)->okQ q all p (l.map (·.1)++[n]) true)
    (hc:FnM C.P fn args0 (bs++gI sz enc xs) r (os.map some++gT xs o))
    (hf:ev sl f = .fn fn caps) (hb:aR C.P fn=true) (hl:mP H is=some l) (hv:H[iv]? = some (n,gB sz enc xs))
    (hS:l.map (·.2)=bs) (hSok:bs.all (λb=>b.ok 0)=true)
    (hw1:(args.map (ev sl)++caps)[po]? = some w) (hw2:w=gV n sz xs\/w=dV n sz xs\/w=vV n sz xs/\xs ≠ []) (hp0:args0[po]? = some (dV (ak is.length) sz xs))
    (hn:(((args.map (ev sl)++caps).set po .none).flatMap frz).all (λn=>false)=true)
    (ha:((args.map (ev sl)++caps).map co0).set po .none=(renL (l.map (·.1)) args0).set po .none) (hok:okL is.length (args0.set po .none)=true) (hr:okV 0 r=true)
    (hlen:os.length=is.length) (hi:(is++[iv]).Nodup) (hO:os.all (λb=>b.ok 0)=true) (ho:∀b,o=some b->b.ok 0=true) (hon:xs=[]->o=none)
    (hw:aS all sl ⟨some d,.call ⟨.value f,args.toArray,ats⟩,ty,pos,after,g⟩=some true)
    (H':Hp) (hH:(setH H (outs (l.map (·.1)) is (l.map (·.1)) (os.map some))).set iv (n,o)=H')
    (h:bA (oK q p (l.map (·.1)++[n]) true) C all K rest (upd sl d r) H') :
    bA q C all K (⟨some d,.call ⟨.value f,args.toArray,ats⟩,ty,pos,after,g⟩::rest) sl H:=by
  have hll:=(mV hl).1
  have hbs:bs.length=l.length:=by rw [<- hS];simp
  have hivs:iv∉is:=by
    rw [List.nodup_append]at hi
    exact λhm=>hi.2.2 iv hm iv (by simp) rfl
  have hisn:is.Nodup:=(List.nodup_append.1 hi).1
  have hset:∀{l':List (Nat×Nm×Option Box)} {H0:Hp},(∀p∈l',p.1≠iv)->(setH H0 l')[iv]? = H0[iv]? := by
    intro l'
    induction l' with
    | nil=>intro H0 _;rfl
    | cons x l' ih =>
      intro H0 hx
      obtain ⟨i,m,b⟩:=x
      simp only [setH]
      rw [ih (λp hp=>hx p (by simp [hp]))]
      have:i≠iv:=hx (i,m,b) (by simp)
      rw [List.getElem?_set_ne this]
  have houts:∀(ν:List Nm) (is:List Nat) (ns:List Nm) (os:List (Option Box)),∀p∈outs ν is ns os,p.1∈is:=by
    intro ν is
    induction is with
    | nil=>intro ns os p hp;simp [outs]at hp
    | cons i is ih =>
      intro ns os p hp
      cases ns with
      | nil=>simp [outs]at hp
      | cons m ns=>cases os with
        | nil=>simp [outs]at hp
        | cons o os =>
          simp only [outs,List.mem_cons]at hp
          rcases hp with rfl|hp
          · simp
          · exact List.mem_cons_of_mem _ (ih _ _ _ hp)
  have hco:∀(S:Store),(w=gV n sz xs\/w=dV n sz xs\/w=vV n sz xs/\xs ≠ [])->(∀x l,xs=x::l->S n=some (.vec sz (xs.map enc)))->co S w=dV n sz xs:=by
    intro S hw2 hS
    cases hxs:xs with
    | nil =>
      subst hxs
      rcases hw2 with h2|h2|⟨h2,h3⟩
      · rw [h2];rfl
      · rw [h2];rfl
      · exact absurd rfl h3
    | cons x l =>
      have:=hS x l hxs
      have e:w = .vs n sz 0 (x::l).length:=by rcases hw2 with h2 | h2 | ⟨h2,_⟩ <;> rw [h2,hxs] <;> rfl
      rw [e]
      simp only [co,co1,this,dV]
  have hargs:∀S:Store,co S w=dV n sz xs->(args.map (ev sl)++caps).map (co S)=((args.map (ev sl)++caps).map co0).set po (dV n sz xs):=by
    intro S hcw
    have h1:(args.map (ev sl)++caps)=((args.map (ev sl)++caps).set po .none).set po w:=by
      rw [List.set_set,rU hw1]
    have h2:(((args.map (ev sl)++caps).set po .none)).map (co S)=(((args.map (ev sl)++caps).set po .none)).map co0:=CQ (by
      cases hx:((args.map (ev sl)++caps).set po .none).flatMap frz with
      | nil=>rfl
      | cons a b=>rw [hx]at hn;simp at hn)
    have h3:(args.map (ev sl)++caps).map (co S)=((((args.map (ev sl)++caps).set po .none)).map (co S)).set po (co S w):=by
      rw [<- List.map_set,<- h1]
    rw [h3,h2,hcw,List.map_set,List.set_set]
  have h0:=ha
  cases hxs:xs with
  | nil =>
    have hobn:o=none:=hon hxs
    subst hobn
    have hc':FnM C.P fn args0 bs r (os.map some):=by rw [hxs]at hc;simpa [gI,gT]using hc
    have hq:okL is.length args0=true:=by
      have:=CW (v:=dV (ak is.length) sz xs) hok (by rw [hxs];rfl)
      rwa [rU hp0]at this
    refine Gi p is hp (λS tk ag=>okQ_sub (λm hm=>by simp [hm]) (hfp S tk ag)) hc' hf hb hl ?_ ?_ ?_ ?_ hq (zR (Nat.zero_le _) r hr) (by simp [hlen]) hisn (Ac hO) hw r (xe hr) H' ?_ ?_
    · rw [hS,Df _ hSok]
    · exact List.all_eq_true.2 (λb hb'=>Box.ok_mono (Nat.zero_le _) (List.all_eq_true.1 hSok b hb'))
    · intro m hm
      obtain ⟨v,hv1,hv2⟩:=Eb hn hm
      rw [hw1]at hv1
      simp only [so_]at hv1
      subst hv1
      exfalso
      rcases hw2 with h2|h2|⟨_,h2⟩
      · rw [h2,hxs]at hv2;cases hv2
      · rw [h2,hxs]at hv2;cases hv2
      · exact h2 hxs
    · intro S tk ag
      refine ArgsOK.of_map ?_
      rw [hargs S (hco S hw2 (λx l e=>by rw [hxs]at e;cases e)),yZ ha]
      have:(renL (l.map (·.1)) args0)[po]? = some (dV n sz xs):=by
        obtain ⟨hlt,he⟩:=List.getElem?_eq_some_iff.1 hp0
        rw [List.getElem?_eq_getElem (by rw [bQ];exact hlt),lC _ _ _ _ hlt,he,hxs];rfl
      rw [rU this]
    · rw [<- hH]
      symm
      apply rU
      rw [hset (λp hp e=>hivs (e ▸ houts _ _ _ _ p hp)),hv,hxs];rfl
    · cases q with
      | none=>exact h
      | some Γ =>
        intro S tk ok ag k L hk hL hO'
        refine h S tk ok ag k L hk (λp0 hp0' => ?_) (λe he m hm => ?_)
        · rcases hL p0 hp0' with h1 | ⟨e,h1,h2,h3,h4,h5⟩
          · exact .inl h1
          · refine .inr ?_
            rcases List.mem_append.1 h1 with h1|h1
            · exact⟨e,List.mem_append.2 (.inl h1),h2,h3,h4,h5⟩
            · rw [List.mem_singleton]at h1;subst h1
              exact⟨(p,l.map (·.1)++[n],true),by simp,h2,λx hx=>by simp only [List.mem_append];exact .inl (h3 x hx),λx hx=>by simp only [List.mem_append];exact .inl (h4 x hx),λe=>by cases e⟩
        · rcases List.mem_append.1 he with he | he
          · exact hO' e (List.mem_append.2 (.inl he)) m hm
          · rw [List.mem_singleton]at he;subst he
            simp only at hm
            rcases List.mem_append.1 hm with hm|hm
            · exact hO' (p,l.map (·.1),true) (by simp) m hm
            · rw [List.mem_singleton]at hm;subst hm
              rw [<- hH]at ag
              have:((setH H (outs (l.map (·.1)) is (l.map (·.1)) (os.map some))).set iv (m,none))[iv]? = some (m,none):=by
                have h1:=(List.getElem?_eq_some_iff.1 hv).1
                rw [List.getElem?_set_self (by rw [setH_at];exact h1)]
              exact (ag.at_ _ (List.mem_of_getElem? this)).1
  | cons x l' =>
    have hgB:gB sz enc xs=some (.vec sz (xs.map enc)):=by rw [hxs];rfl
    have hv':H[iv]? = some (n,some (.vec sz (xs.map enc))):=by rw [hv,hgB]
    have hc':FnM C.P fn args0 (bs++[.vec sz (xs.map enc)]) r (os.map some++[o]):=by rw [hxs]at hc ⊢;exact hc
    have hp1:=Bv (l:=l) hl hv'
    have hmap:(l++[(n,Box.vec sz (xs.map enc))]).map (·.1)=l.map (·.1)++[n]:=by simp
    have hdv:dV (ak is.length) sz xs = .vs (ak is.length) sz 0 xs.length:=by rw [hxs];rfl
    have hq:okL (is++[iv]).length args0=true:=by
      have:=CW (v:=dV (ak is.length) sz xs) (qX (Nat.le_add_right is.length 1) _ hok) (by rw [hdv];exact FK (ls_ _))
      rw [rU hp0]at this
      simpa using this
    refine Gi p (is++[iv]) hp (λS tk ag=>by rw [hmap];exact hfp S tk ag) hc' hf hb hp1 ?_ ?_ ?_ ?_ hq (zR (Nat.zero_le _) r hr) (by simp [hlen]) hi ?_ hw r (xe hr) H' ?_ ?_
    · rw [List.map_append,Df _ hSok]
      simp only [List.map_cons,List.map_nil,List.map_append,hS,Box.ren]
    · rw [List.all_append]
      simp only [Bool.and_eq_true]
      exact⟨List.all_eq_true.2 (λb hb'=>Box.ok_mono (Nat.zero_le _) (List.all_eq_true.1 hSok b hb')),rfl⟩
    · intro m hm
      obtain ⟨v,hv1,hv2⟩:=Eb hn hm
      rw [hw1]at hv1
      simp only [so_]at hv1
      subst hv1
      have e:w = .vs n sz 0 xs.length:=by rcases hw2 with h2 | h2 | ⟨h2,_⟩ <;> rw [h2,hxs] <;> rfl
      rw [e]at hv2
      rw [hmap]
      have:m=n:=by simpa [frz,JB]using hv2
      rw [this];simp
    · intro S tk ag
      refine ArgsOK.of_map ?_
      rw [hargs S (hco S hw2 (λ_ _ _=>ag.get hv')),yZ ha,hmap]
      have hpl:po<args0.length:=(List.getElem?_eq_some_iff.1 hp0).1
      have h1:args0=(args0.set po .none).set po (dV (ak is.length) sz xs):=by rw [List.set_set,rU hp0]
      have h2:renL (l.map (·.1)++[n]) args0=(renL (l.map (·.1)) (args0.set po .none)).set po (dV n sz xs):=by
        conv=>lhs;rw [h1]
        rw [y9,EA (by simp only [List.length_map,hll];exact hok),hdv]
        simp only [ren]
        rw [wD (n:=n) (by rw [List.getElem?_append_right (by simp [hll])];simp [hll])]
        rw [hxs];rfl
      rw [h2,y9,List.set_set]
    · refine wQ (Ac hO) ?_
      cases o with
      | none=>rfl
      | some b=>simp only [okOut,Bool.and_true];exact Box.ok_mono (Nat.zero_le _) (ho b rfl)
    · rw [<- hH,hmap,DD _ _ _ _ _ _ _ (by simp [hlen]) (by simp [hll]),IY,El _ (l.map (·.1)) _ _ _ hO]
      simp only [setH]
      cases o with
      | none=>rfl
      | some b=>simp only [Option.map_some,uq (ho b rfl)]
    · rw [hmap];exact h
theorem FnM.of_wHv {P:Program} {f:FuncId} {fn:Func} {body:Code} (C:Cfg) (hP:C.P=P) (hf:P.funcs[f]? = some fn) (hb:fn.body=some body) (hn:C.n=fn.ntmps)
    {α:Type} {enc:α->List D} {sz:Nat} {xs:List α} {args:List V} {bs:List Box} {r:V} {Sout:List (Option Box)} (hl:args.length<=fn.ntmps) (hok:nR C body=true)
    (h:wH C body (lJ C fn.results.toList (bs++gI sz enc xs).length r Sout) (F5 args) (uO 0 bs++[(ak bs.length,gB sz enc xs)])):FnM P f args (bs++gI sz enc xs) r Sout:=by
  refine FnM.of_wpD' hf hb hP hn hl ?_
  have hag:Ag (uO 0 bs++[(ak bs.length,gB sz enc xs)]) (kP (bs++gI sz enc xs)) 1:=by
   refine⟨Nat.one_pos,?_,λp hp => ?_⟩
   · rw [List.map_append,List.nodup_append]
     refine⟨zG _ _,by simp,λa ha b hb e => ?_⟩
     simp only [List.map_cons,List.map_nil,List.mem_singleton]at hb
     obtain ⟨p,hp,rfl⟩:=List.mem_map.1 ha
     obtain ⟨j,b',h1,h2⟩:=qO hp
     rw [h1,hb]at e
     simp only [ak,Prod.mk.injEq,and_true]at e
     have:=(List.getElem?_eq_some_iff.1 h2).1
     omega
   · rcases List.mem_append.1 hp with hp | hp
     · obtain ⟨j,b,rfl,hb⟩:=qO hp
       refine⟨Nat.one_pos,λx hx => ?_⟩
       simp only [so_]at hx
       subst hx
       rw [Ct,Nat.zero_add,List.getElem?_append_left (List.getElem?_eq_some_iff.1 hb).1];exact hb
     · simp only [List.mem_singleton]at hp
       subst hp
       refine⟨Nat.one_pos,λx hx => ?_⟩
       rw [Ct,List.getElem?_append_right (Nat.le_refl _),Nat.sub_self]
       cases xs with
       | nil=>cases hx
       | cons y ys=>exact hx
  obtain ⟨σ',hg,hw⟩:=h hok _ 1 hag
  exact⟨σ',hg,kT body (λe σ h=>Gt h) hw⟩
theorem jO {α:Type} {enc:α->List D} {sz:Nat} {rs:List ResultVar} {r:V} {e:Exit} {bs os:List Box} {xs:List α} {o:Option Box} (he:e = .normal\/e = .ret) (vs:List V) (h1:Ee C sl H rs vs) (h2:(vs.flatMap frz).all (λ_=>false)=true) (h3:DN (vs.map co0)=r) (hr:okV 0 r=true)
    (hbl:bs.length=os.length) (hj:H[os.length]? = some (ak os.length,o)) (hO:os.all (λb=>b.ok 0)=true) (ho:∀b,o=some b->b.ok 0=true) (hH:H.take os.length=uO 0 os) :
    lJ C rs (bs++gI sz enc xs).length r (os.map some++gT xs o) e sl H:=by
  have hn:vs.flatMap frz=[]:=by
    cases hx:vs.flatMap frz with
    | nil=>rfl
    | cons a b=>rw [hx]at h2;simp at h2
  have hc:∀{vs:List V},vs.flatMap frz=[]->CoL H vs (vs.map co0):=by
    intro vs
    induction vs with
    | nil=>exact λ_ => .nil
    | cons v vs ih=>exact λh => .cons (mE (qE h v (by simp)) rfl) (ih (by simp only [List.flatMap_cons,List.append_eq_nil_iff]at h;exact h.2))
  have hget:∀i (h:i<os.length),H[i]? = some (ak i,some os[i]):=λi hi=>by
    have:=wU os 0 i hi
    rw [Nat.zero_add,<- hH,List.getElem?_take,if_pos hi]at this
    exact this
  have hou:∀{ν:List Nm} {l:List Box} {j:Nat} {js:List Nat} {ns:List Nm} {bs:List (Option Box)},(∀b∈l,b.ok 0=true)->(∀i (h:i<l.length),H[j+i]? = some (ak (j+i),some l[i]))->ym H ν js ns bs->ym H ν (List.range' j l.length++js) ((List.range' j l.length).map ak++ns) (l.map some++bs):=by
    intro ν l
    induction l with
    | nil=>exact λ_ _ h=>h
    | cons b l ih =>
      intro j js ns bs hb hg hr
      simp only [List.length_cons,List.range'_succ,List.map_cons,List.cons_append]
      refine⟨?_,ih (λx hx=>hb x (by simp [hx])) (λi hi => ?_) hr⟩
      · have:=hg 0 (by simp)
        simp only [Option.map_some,uq (hb b (by simp))]
        exact this
      · have:=hg (i+1) (by simpa using hi)
        rw [show j+1+i=j+(i+1) by omega]
        exact this
  have hO':∀b∈os,b.ok 0=true:=λb hb=>List.all_eq_true.1 hO b hb
  cases xs with
  | nil =>
    refine⟨he,vs,vs.map co0,List.range' 0 os.length++[],(List.range' 0 os.length).map ak++[],h1,hc hn,by rw [h3,xe hr],hou hO' (λi hi=>by rw [Nat.zero_add];exact hget i hi) trivial,by simp [List.nodup_range'],λi hi => ?_⟩
    have:i<os.length:=by simpa [gI,hbl]using hi
    simp [this]
  | cons x xs =>
    refine⟨he,vs,vs.map co0,List.range' 0 os.length++[os.length],(List.range' 0 os.length).map ak++[ak os.length],h1,hc hn,by rw [h3,xe hr],
      hou hO' (λi hi=>by rw [Nat.zero_add];exact hget i hi) ⟨?_,trivial⟩,?_,λi hi => ?_⟩
    · rw [hj]
      cases o with
      | none=>rfl
      | some b=>simp only [Option.map_some,uq (ho b rfl)]
    · rw [List.nodup_append]
      refine⟨List.nodup_range',by simp,λa ha b hb => ?_⟩
      simp only [List.mem_singleton]at hb
      simp only [List.mem_range'_1]at ha
      omega
    · have hi':i<os.length+1:=by simpa [gI,hbl]using hi
      by_cases hlt:i<os.length
      · rw [List.getElem?_append_left (by simpa using hlt)];simp [hlt]
      · have:i=os.length:=by omega
        subst this
        rw [List.getElem?_append_right (by simp)];simp
theorem bM {α:Type} {sz:Nat} {enc:α->List D} {xs:List α}:∀b,gB sz enc xs=some b->b.ok 0=true:=by
  intro b h
  cases xs with
  | nil=>cases h
  | cons x xs=>cases h;rfl
theorem vz:∀b,(none:Option Box)=some b->b.ok 0=true:=λb h=>by cases h
end
end Go.Eng

/-
  THE ENGINE: rules for maps, arrays and new slices of zeros.
-/
namespace Go.Eng
set_option linter.unusedSectionVars false
variable [DM]
set_option linter.unusedVariables false
set_option linter.unusedSimpArgs false
section
variable {C:Cfg} {sl:Nat->V} {H:Hp} {q:Qm} {all rest:List Oper} {K:(Nat->V)->Hp->Prop}
variable {dst:Option Tmp} {d:Nat} {t ty:TypeId} {pos:String} {after:Array Edge} {g:Option (Nat×Bool)}
theorem uJ {α:Type} {enc:α->List D} {size:Nat} (hl:∀y,(enc y).length=size):∀(xs:List α) (i:Nat) (y:α),xs[i]? = some y->∃r,((xs.map enc).flatten).drop (i*size)=enc y++r
 | x::xs,0,y,h=>by
  simp only [List.getElem?_cons_zero,so_]at h;subst h
  exact⟨(xs.map enc).flatten,by simp⟩
 | x::xs,i+1,y,h=>by
  obtain ⟨r,hr⟩:=uJ hl xs i y (by simpa using h)
  refine⟨r,?_⟩
  simp only [List.map_cons,List.flatten_cons]
  rw [Nat.add_mul,Nat.one_mul,Nat.add_comm,<- List.drop_drop,<- hl x,List.drop_left,hl x]
  exact hr
 | [],_,_,h=>by simp at h
theorem h_idxa {α:Type} {enc:α->List D} {xs:List α} {x i:Operand} {k:IntKind} {n:Int} {y:α} {size e m:Nat} {agg:Bool} {ds:List D} (hu:C.P.underlying t=some (.array m e)) (hs:szT C.P e=some size) (ha:dz C.P e=agg) (hx:ev sl x = .d (.agg ds)) (hds:(xs.map enc).flatten=ds) (hm:xs.length=m)
  (hi:ev sl i = .d (.int k n)) (hy:idx xs n=some y) (hl:∀y,(enc y).length=size) (hsz:agg=true\/size=1) (v:V) (hv:rdD agg size (enc y)=some v)
  (hw:aS all sl ⟨dst,.index t x i,ty,pos,after,g⟩=some true) (h:bA q C all K rest (dM sl dst v) H):bA q C all K (⟨dst,.index t x i,ty,pos,after,g⟩::rest) sl H :=
 aL v hw (by
  show tT C.P t (ev sl x) (ev sl i)=_
  unfold idx at hy
  split at hy
  ·rename_i h0
   have hlt:n.toNat<m:=by rw [<- hm];exact (List.getElem?_eq_some_iff.1 hy).1
   obtain ⟨r,hr⟩:=uJ hl xs n.toNat y hy
   rw [hx,hi]
   have hc:(decide (0<=n)&&Nat.blt n.toNat m)=true:=by simp [h0,Nat.blt_eq,hlt]
   simp only [tT,hu,hs,hc,cond_true,ha]
   rw [<- hds,hr]
   rw [<- hv]
   have hly:=hl y
   unfold rdD
   cases agg with
   | true =>
    have h1:Nat.ble size (enc y++r).length=true:=Nat.ble_eq_true_of_le (by rw [List.length_append,hly];omega)
    have h2:Nat.ble size (enc y).length=true:=Nat.ble_eq_true_of_le (by omega)
    simp only [cond_true,h1,h2]
    rw [List.take_append_of_le_length (by omega)]
   | false =>
    simp only [cond_false]
    cases he:enc y with
    | nil=>rw [he]at hly;rcases hsz with h3 | h3;cases h3;simp at hly;omega
    | cons c cs=>rfl
  ·cases hy) h
end
end Go.Eng

/-
  THE ENGINE: slices with room made ahead; functions that are handed two slices in their boxes.
-/
namespace Go.Eng
set_option linter.unusedSectionVars false
variable [DM]
set_option linter.unusedVariables false
set_option linter.unusedSimpArgs false
def kV {α:Type} (b:Bool) (n:Nm) (sz:Nat) (xs:List α):V:=match b with
  | true=>vV n sz xs
  | false=>gV n sz xs
def kB {α:Type} (b:Bool) (sz:Nat) (enc:α->List D) (xs:List α):Option Box:=match b with
  | true=>some (bV sz enc xs)
  | false=>gB sz enc xs
def kO (b:Bool) (sz:Nat):List (Option Box):=match b with
  | true=>[some (.vec sz [])]
  | false=>[]
def zN (n:Int) (bytes:Nat):Option Unit:=if 0<n/\n*bytes<=2 ^ 47/\n<=2 ^ 47 then some ()else none
section
variable {C:Cfg} {Q:QH} {sl:Nat->V} {H:Hp} {c:Code}
end
section
variable {C:Cfg} {sl:Nat->V} {H:Hp} {q:Qm} {all rest:List Oper} {K:(Nat->V)->Hp->Prop}
variable {dst:Option Tmp} {d:Nat} {t ty:TypeId} {pos:String} {after:Array Edge} {g:Option (Nat×Bool)}
theorem h_appk {α:Type} {enc:α->List D} {xs ys zs:List α} {x y:Operand} {t' e e':TypeId} {sz bytes i:Nat} {n:Nm} {z:List V} {b:Bool} (p:Nat) (hpp:q=none\/Nat.beq all.length (p+(rest.length+1))=true) (hf:∀S tk,AgR H S tk (⟨some d,.call ⟨.builtin .append,#[x,y],#[t,t']⟩,ty,pos,after,g⟩::rest)->okQ q all p [n] true) (he:dA C.P t=some e) (he':dA C.P t'=some e') (hs:szT C.P e=some sz) (hz:zeroCells C.P e=some z) (hzl:z.length=sz) (hp:0<sz) (hby:jA C.P e=bytes) (hbb:bytes<=100000)
    (henc:∀y,(enc y).length=sz) (hx:ev sl x=kV b n sz xs) (hH:H[i]? = some (n,kB b sz enc xs)) (hy:ev sl y=vL enc ys) (ha:nC xs ys=some zs)
    (hw:aS all sl ⟨some d,.call ⟨.builtin .append,#[x,y],#[t,t']⟩,ty,pos,after,g⟩=some true)
    (h:∀n':Nm,bA (oK q p [n,n'] true) C all K rest (upd sl d (kV b n' sz zs)) (H.set i (n',kB b sz enc zs))):bA q C all K (⟨some d,.call ⟨.builtin .append,#[x,y],#[t,t']⟩,ty,pos,after,g⟩::rest) sl H:=by
  cases b with
  | true=>exact h_appv p hpp hf he he' hs hz hzl hp hby hbb henc hx hH hy ha hw h
  | false=>exact qB p hpp hf he he' hs hz hzl hp hby hbb henc hx hH hy ha hw h
theorem Jd {x:Operand} {e:TypeId} (hu:C.P.underlying t=some (.slice e)) (hx:ev sl x = .nil) (hw:aS all sl ⟨dst,.call ⟨.builtin .len,#[x],#[t]⟩,ty,pos,after,g⟩=some true)
    (h:bA q C all K rest (dM sl dst (vI 0)) H):bA q C all K (⟨dst,.call ⟨.builtin .len,#[x],#[t]⟩,ty,pos,after,g⟩::rest) sl H :=
  xn (v:=vI 0) (by rw [hx];simp only [yn,hu]) hw h
theorem IM {x:Operand} {e:TypeId} (he:dA C.P t=some e) (hx:ev sl x = .nil) (hw:aS all sl ⟨dst,.call ⟨.builtin .cap,#[x],#[t]⟩,ty,pos,after,g⟩=some true)
    (h:bA q C all K rest (dM sl dst (vI 0)) H):bA q C all K (⟨dst,.call ⟨.builtin .cap,#[x],#[t]⟩,ty,pos,after,g⟩::rest) sl H :=
  lX hw (λS tk K' _ hk=>tF (A:=⟨[],[],vI 0⟩) (by
    show (I8 C.P t (ev sl x)).bind gJ=_
    rw [hx];simp only [I8,he];rfl) (hk _ rfl rfl rfl)) h
theorem h_appz {α:Type} {enc:α->List D} {x y:Operand} {t' e:TypeId} {sz by_:Nat} {z:List V} {k:IntKind} {n:Int} {u:Unit} (p:Nat) (hpp:q=none\/Nat.beq all.length (p+(rest.length+1))=true) (he:dA C.P t=some e) (hi:l8 C.P t'=true) (hs:szT C.P e=some sz) (hz:zeroCells C.P e=some z) (hzl:z.length=sz) (hp:0<sz) (hby:jA C.P e=by_)
    (hx:ev sl x = .nil) (hy:ev sl y = .d (.int k n)) (hn:zN n by_=some u)
    (hw:aS all sl ⟨some d,.call ⟨.builtin .append,#[x,y],#[t,t']⟩,ty,pos,after,g⟩=some true)
    (h:∀nm:Nm,bA (oK q p [nm] true) C all K rest (upd sl d (.vs nm sz 0 n.toNat)) (H++[(nm,some (bV sz enc ([]:List α)))])):bA q C all K (⟨some d,.call ⟨.builtin .append,#[x,y],#[t,t']⟩,ty,pos,after,g⟩::rest) sl H:=by
  unfold zN at hn
  split at hn
  · rename_i hc
    refine rR rfl p [] hpp (λ_ _ _=>vD) (λm hm=>by cases hm) hw (λS tk K' ok ag hk=>tF (A:=⟨[],[((d,tk),some (bV sz enc ([]:List α)))],.vs (d,tk) sz 0 n.toNat⟩) ?_
      (hk _ _ _ (.inl rfl) ⟨by simp,by simp⟩ (ag.new ok rfl _) (h (d,tk))))
    show (bif l8 C.P t' then pX C.P t t' (ev sl x) (ev sl y) d tk else _)=_
    rw [hi,cond_true,hx,hy]
    simp only [pX,he,hi,cond_true,hs,hz]
    rw [if_pos ⟨hc.1,hp,hzl,by rw [hby];exact hc.2.1,hc.2.2⟩]
    rfl
  · cases hn
theorem h_cutm {x hi:Operand} {e:TypeId} {n:Nm} {sz k len m:Nat} {kk:IntKind} {b:Int} (hu:C.P.underlying t=some (.slice e)) (hs:szT C.P e=some sz) (hx:ev sl x = .vs n sz k len) (hh:ev sl hi = .d (.int kk b)) (hb:b=(m:Int)) (hle:m<=len)
    (hw:aS all sl ⟨dst,.slice t x none (some hi) none,ty,pos,after,g⟩=some true) (h:bA q C all K rest (dM sl dst (.vs n sz k m)) H):bA q C all K (⟨dst,.slice t x none (some hi) none,ty,pos,after,g⟩::rest) sl H :=
  aL _ hw (by
    show kI C.P t (ev sl x) none (some (ev sl hi)) none=_
    rw [hx,hh,hb]
    have:ny len (some (.d (.int kk (m:Int))))=some m:=by simp [ny]
    simp only [kI,hu,hs,this]
    rw [show ny 0 none=some 0 from rfl]
    simp only
    rw [if_pos ⟨Nat.zero_le _,hle,trivial⟩]
    simp) h
theorem F7 {f:Operand} {args:List Operand} {ats:Array TypeId} {fn:FuncId} {caps args0:List V} {r:V} {Sin:List Box} {Sout:List (Option Box)} (is:List Nat) (m:Nat) {l:List (Nm×Box)} (hc:FnM C.P fn args0 Sin r Sout)
    (hf:ev sl f = .fn fn caps) (hb:aR C.P fn=true) (hl:mP H is=some l) (hS:Sin.map (λb=>b.ren (l.map (·.1)))=l.map (·.2)) (hSok:Sin.all (λb=>b.ok is.length)=true)
    (hn:∀n∈(args.map (ev sl)++caps).flatMap frz,n∈l.map (·.1)) (ha:∀S tk,AgR H S tk (⟨some d,.call ⟨.value f,args.toArray,ats⟩,ty,pos,after,g⟩::rest)->ArgsOK S (args.map (ev sl)++caps) (renL (l.map (·.1)) args0)) (hok:okL is.length args0=true) (hr:okV Sout.length r=true)
    (hlen:Sout.length=is.length+m) (hi:is.Nodup) (hO:okOut Sout.length Sout=true) (hmu:mutOut (Sout.drop is.length)=true)
    (hw:aS all sl ⟨some d,.call ⟨.value f,args.toArray,ats⟩,ty,pos,after,g⟩=some true)
    (h:∀ν:Nat->Nm,bA none C all K rest (upd sl d (ren (l.map (·.1)++(List.range m).map ν) r))
      (setH H (outs (l.map (·.1)++(List.range m).map ν) is (l.map (·.1)) Sout)++news (l.map (·.1)++(List.range m).map ν) ((List.range m).map ν) (Sout.drop is.length))) :
    bA none C all K (⟨some d,.call ⟨.value f,args.toArray,ats⟩,ty,pos,after,g⟩::rest) sl H:=by
  obtain ⟨hll,hlg⟩:=mV hl
  have hsl:Sin.length=l.length:=by have:=congrArg List.length hS;simpa using this
  refine IU hw (λS tk K' ok ag hk=>qU hf ?_)
  have h:=h (λj=>(d+100000*j,tk))
  have hnd:=rM ag hi hl
  refine .inl ⟨hb,⟨[],l.map (·.1),args0,Sin,r,Sout,false⟩,?_,(λe=>by cases e),?_⟩
  · exact { does := hc
            args:=ha S tk ag
            okA:=by simp only [List.length_map,hll];exact hok
            nodup:=hnd
            ins:=by
              refine tV (by simp [hsl]) (λj h1 h2=>⟨?_,?_⟩)
              · simp only [List.length_map,hll]
                exact List.all_eq_true.1 hSok _ (List.getElem_mem h2)
              · simp only [List.length_map]at h1
                have e:=hlg j (by omega) h1
                have e2:l[j].2=Sin[j].ren (l.map (·.1)):=by
                  have:=congrArg (λx=>x[j]?) hS
                  simp only [List.getElem?_map,List.getElem?_eq_getElem h2,List.getElem?_eq_getElem h1,Option.map_some,so_]at this
                  exact this.symm
                simp only [List.getElem_map]
                show S l[j].1=_
                rw [ag.get e,e2]
            len:=by rw [hsl,hlen,hll];omega
            okR:=hr,okO:=hO,mutN:=by rw [hsl,hll];exact hmu
            roOK:=(λe=>by cases e),have_:=(λn hn=>nomatch hn),cov:=(λn h' => .inr (hn n h')),dis:=(λn _ hn=>nomatch hn) }
  · have hdm:Sout.length-Sin.length=m:=by omega
    have e1:CallData.eff ⟨[],l.map (·.1),args0,Sin,r,Sout,false⟩ S d tk=⟨((l.map (·.1)).zip Sin).map (λp=>(p.1,p.2.ren (l.map (·.1)))),eY (l.map (·.1)++lQ d tk m) (l.map (·.1)++lQ d tk m) Sout,ren (l.map (·.1)++lQ d tk m) r⟩:=by
      simp only [CallData.eff,cond_false,CallData.names,hdm,iO,iP,List.nil_append]
    show K' (CallData.eff _ S d tk)
    rw [e1]
    refine hk _ _ ?_ h
    have e2:(List.range m).map (λj=>(d+100000*j,tk))=lQ d tk m:=rfl
    rw [e2]
    show AgR _ (fT S (eY _ (l.map (·.1)++lQ d tk m) Sout)) tk rest
    rw [uX,tO]
    have e3:(l.map (·.1)).length=is.length:=by simp [hll]
    rw [e3]
    have ag1:=vK (ν:=l.map (·.1)++lQ d tk m) ag hi hnd (bs:=Sout) (λj h1 h2=>by
      simp only [List.length_map]at h2
      exact⟨_,by simp only [List.getElem_map];exact hlg j h1 h2⟩)
    rw [List.take_of_length_le (by omega)]at ag1
    have e4:lQ d tk m=(List.range' 0 m).map λj=>(d+100000*j,tk):=by rw [<- e2,Bn]
    rw [e4]at ag1 ⊢
    exact AgR.news ok rfl m 0 ⟨ag1.nd,ag1.pos⟩ (λp hp=>⟨.inl (ag1.at_ p hp).1,(ag1.at_ p hp).2⟩)
theorem xE {S:Store}:∀(vs:List V),ArgsOK S vs vs
  | [] => .nil
  | x::vs => .cons (.inl rfl) (xE vs)
theorem h_callk {α:Type} {enc:α->List D} {sz:Nat} {b:Bool} {f:Operand} {args:List Operand} {ats:Array TypeId} {fn:FuncId} {caps args0:List V}
    (hc:FnM C.P fn args0 [] (kV b (ak 0) sz ([]:List α)) (kO b sz))
    (hf:ev sl f = .fn fn caps) (hb:aR C.P fn=true)
    (hn:((args.map (ev sl)++caps).flatMap frz).all (λn=>false)=true) (ha:args.map (ev sl)++caps=args0) (hok:okL 0 args0=true)
    (hw:aS all sl ⟨some d,.call ⟨.value f,args.toArray,ats⟩,ty,pos,after,g⟩=some true)
    (h:∀n:Nm,bA none C all K rest (upd sl d (kV b n sz ([]:List α))) (H++[(n,kB b sz enc ([]:List α))])) :
    bA none C all K (⟨some d,.call ⟨.value f,args.toArray,ats⟩,ty,pos,after,g⟩::rest) sl H:=by
  have ha':∀S tk,AgR H S tk (⟨some d,.call ⟨.value f,args.toArray,ats⟩,ty,pos,after,g⟩::rest)->ArgsOK S (args.map (ev sl)++caps) (renL (([]:List (Nm×Box)).map (·.1)) args0):=λS tk _=>by
    rw [ha]
    have:renL (([]:List (Nm×Box)).map (·.1)) args0=args0:=CS hok
    rw [this];exact xE args0
  have hn':∀n∈(args.map (ev sl)++caps).flatMap frz,n∈([]:List (Nm×Box)).map (·.1):=λn hn'=>by
    cases hx:(args.map (ev sl)++caps).flatMap frz with
    | nil=>rw [hx]at hn';cases hn'
    | cons a b=>rw [hx]at hn;simp at hn
  cases b with
  | false =>
    refine F7 (Sin:=[]) (r := .nil) (Sout:=[]) [] 0 hc hf hb rfl rfl rfl hn' ha' hok rfl rfl List.nodup_nil rfl rfl hw (λν => ?_)
    simp only [List.range_zero,List.map_nil,List.append_nil,news,outs,setH]
    exact F4 (λn=>h n)
  | true =>
    refine F7 (Sin:=[]) (r:=vV (ak 0) sz ([]:List α)) (Sout:=[some (.vec sz [])]) [] 1 hc hf hb rfl rfl rfl hn' ha' hok ?_ rfl List.nodup_nil rfl rfl hw (λν => ?_)
    · exact FK (Nat.zero_lt_one)
    · have e1:ren ((([]:List (Nm×Box)).map (·.1))++(List.range 1).map ν) (vV (ak 0) sz ([]:List α))=vV (ν 0) sz ([]:List α):=by
        simp only [List.map_nil,List.nil_append,vV,ren]
        rw [wD (n:=ν 0) (by simp)]
      rw [e1]
      exact h (ν 0)
theorem finK {α:Type} {sz t:Nat} {n:Nm} {e:Exit} {enc:α->List D} (he:e = .normal\/e = .ret) (j:Nat) (h1:sl t = .vs n sz 0 0) (h2:H[j]? = some (n,some (bV sz enc ([]:List α)))) :
    lJ C [.tmp t] 0 (vV (ak 0) sz ([]:List α)) [some (.vec sz [])] e sl H :=
  ⟨he,[.vs n sz 0 0],[.vs n sz 0 0],[j],[n],⟨h1,trivial⟩,.cons (.inl rfl) .nil,by
    simp only [DN,vV,ren]
    rw [wD (n:=n) (by simp)];rfl,⟨h2,trivial⟩,by simp,λi hi=>absurd hi (Nat.not_lt_zero i)⟩
theorem finK0 {t:Nat} {e:Exit} (he:e = .normal\/e = .ret) (h1:sl t = .nil):lJ C [.tmp t] 0 .nil [] e sl H :=
  ⟨he,[.nil],[.nil],[],[],⟨h1,trivial⟩,.cons (.inl rfl) .nil,rfl,trivial,List.nodup_nil,λi hi=>absurd hi (Nat.not_lt_zero i)⟩
end
section
variable {C:Cfg} {sl:Nat->V} {H:Hp} {q:Qm} {all rest:List Oper} {K:(Nat->V)->Hp->Prop}
variable {d:Nat} {t ty:TypeId} {pos:String} {after:Array Edge} {g:Option (Nat×Bool)}
end
end Go.Eng

/-
  THE ENGINE: functions that are handed two slices in their boxes.
-/
namespace Go.Eng
set_option linter.unusedSectionVars false
variable [DM]
set_option linter.unusedVariables false
set_option linter.unusedSimpArgs false
def okO (os:List (Option Box)):Bool:=os.all λo=>match o with
  | some b=>b.ok 0
  | none=>true
theorem ArgsOK.set {S:Store} {x y x' y':V} (hxy:y'=x'\/y'=co S x'):∀{a b:List V} {i:Nat},ArgsOK S (a.set i x) (b.set i y)->ArgsOK S (a.set i x') (b.set i y')
  | [],[],i,h=>by simpa using h
  | [],b::bs,i,h=>by cases i <;> (simp at h;cases h)
  | a::az,[],i,h=>by cases i <;> (simp at h;cases h)
  | a::az,b::bs,0,h=>by
    simp only [List.set_cons_zero]at h ⊢
    cases h with
    | cons _ t=>exact .cons hxy t
  | a::az,b::bs,i+1,h=>by
    simp only [List.set_cons_succ]at h ⊢
    cases h with
    | cons h1 t=>exact .cons h1 (ArgsOK.set hxy t)
section
variable {C:Cfg} {sl:Nat->V} {H:Hp} {q:Qm} {all rest:List Oper} {K:(Nat->V)->Hp->Prop}
variable {dst:Option Tmp} {d:Nat} {t ty:TypeId} {pos:String} {after:Array Edge} {g:Option (Nat×Bool)}
theorem zb {H0:Hp} (h:H.take H0.length=H0):pre H0 H:=aC h
theorem FZ {H0:Hp} {is:List Nat} (hg:∀(i:Nat) (h1:i<is.length) (h2:i<H0.length),H[is[i]]? = some H0[i]) (hl:is.length=H0.length) {ν:List Nm}:∀{js:List Nat} {ns:List Nm} {bs:List (Option Box)},ym H0 ν js ns bs->ym H ν (js.map λj=>is.getD j 0) ns bs
  | [],[],[],_=>trivial
  | j::_,_::_,_::_,h=>by
    obtain ⟨l1,e1⟩:=List.getElem?_eq_some_iff.1 h.1
    have h3:j<is.length:=by omega
    refine⟨?_,FZ hg hl h.2⟩
    simp only [List.getD_eq_getElem?_getD,List.getElem?_eq_getElem h3,Option.getD_some]
    rw [hg j h3 l1,e1]
  | [],_::_,_,h=>h.elim
  | [],[],_::_,h=>h.elim
  | _::_,[],_,h=>h.elim
  | _::_,_::_,[],h=>h.elim
theorem BV {H0:Hp} {ν:List Nm}:∀{js:List Nat} {ns:List Nm} {bs:List (Option Box)},ym H0 ν js ns bs->∀j∈js,j<H0.length
  | [],_,_,_,j,hj=>by cases hj
  | _::_,_::_,_::_,h,j,hj=>by
    rcases List.mem_cons.1 hj with rfl|hj
    · exact (List.getElem?_eq_some_iff.1 h.1).1
    · exact BV h.2 j hj
  | _::_,[],_,h,_,_=>h.elim
  | _::_,_::_,[],h,_,_=>h.elim
theorem uB {H0:Hp} {k:Nat} {r:V} {Sout:List (Option Box)} {e:Exit} {sl':Nat->V} (hq:pre H0 H) (h:lJ C [] k r Sout e sl' H0):lJ C [] k r Sout e sl H:=by
  obtain ⟨he,vs,vs',js,ν,h1,h2,h3,h4,h5,h6⟩:=h
  obtain ⟨is,hn,hf⟩:=hq
  obtain ⟨hl,hg⟩:=F6 hf
  cases vs with
  | cons v vs=>exact h1.elim
  | nil =>
    cases h2
    refine⟨he,[],[],js.map λj=>is.getD j 0,ν,trivial,.nil,h3,FZ hg hl h4,?_,h6⟩
    refine List.pairwise_iff_getElem.2 (λa b ha hb hab e => ?_)
    simp only [List.length_map]at ha hb
    have l1:js[a]<is.length:=by have:=BV h4 _ (List.getElem_mem ha);omega
    have l2:js[b]<is.length:=by have:=BV h4 _ (List.getElem_mem hb);omega
    simp only [List.getElem_map,List.getD_eq_getElem?_getD,List.getElem?_eq_getElem l1,List.getElem?_eq_getElem l2,Option.getD_some]at e
    exact (List.pairwise_iff_getElem.1 h5) a b ha hb hab ((List.getElem_inj hn).1 e)
end
end Go.Eng

/-
  THE ENGINE: a sort of the library's, by its contract off the shelf.
-/
namespace Go.Eng
set_option linter.unusedSectionVars false
variable [DM]
open Go.Sort
set_option linter.unusedVariables false
set_option linter.unusedSimpArgs false
theorem qh.alone {G:Gh} {w:World} {vargs:List Value} {a:V} (h:qh G w vargs [a]):∃x,vargs=[x]/\RepV G w x a:=by
 obtain ⟨hl,h⟩:=h
 match vargs,hl with
 | [x],_=>exact⟨x,rfl,h 0 (by simp) (by simp)⟩
end Go.Eng

