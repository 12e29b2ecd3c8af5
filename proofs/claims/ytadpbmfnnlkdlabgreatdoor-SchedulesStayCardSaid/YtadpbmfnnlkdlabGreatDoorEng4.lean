/-
  The engine: what the machine does to data, shown once for all programs (part 4).
-/
import Derived.Test.YtadpbmfnnlkdlabGreatDoorEng3
import Derived.Sort.Row
import Derived.Sort.Grow
/-
  THE ENGINE: parts of a slice over a box; clear.
-/
namespace Go.Eng
set_option linter.unusedSectionVars false
variable [DM]
set_option linter.unusedVariables false
set_option linter.unusedSimpArgs false
theorem Ns {α:Type} {n:Nm} {sz:Nat} {xs:List α} (h:xs ≠ []):gV n sz xs=vV n sz xs:=by cases xs with
 | nil=>exact absurd rfl h
 | cons x xs=>rfl
theorem EO {α:Type} {sz:Nat} {enc:α->List D} {xs:List α} (h:xs ≠ []):gB sz enc xs=some (bV sz enc xs):=by cases xs with
 | nil=>exact absurd rfl h
 | cons x xs=>rfl
section
variable {C:Cfg} {Q:QH} {sl:Nat->V} {H:Hp} {c:Code}
theorem Px {α:Type} {enc:α->List D} {xs:List α} {sz lo len:Nat} {n:Nm} (k i:Nat) (hk:sl k = .vs n sz lo len) (h:H[i]? = some (n,some (bF sz enc xs))) (hle:lo+len<=xs.length) (hw:wH C c Q (upd sl k (vL enc ((xs.drop lo).take len))) H):wH C c Q sl H :=
 qV hw (λS t ag=>⟨S,by
  have:=Gst.co ⟨sl,S,t⟩ k
  have e:co S (sl k)=vL enc ((xs.drop lo).take len):=by
   rw [hk]
   have hS:=ag.get h
   have h2:Nat.ble (lo+len) xs.length=true:=Nat.ble_eq_true_of_le hle
   simp [co,co1,hS,h2,List.map_drop,List.map_take]
  simp only [e]at this
  exact this,ag⟩)
end
section
variable {C:Cfg} {sl:Nat->V} {H:Hp} {q:Qm} {all rest:List Oper} {K:(Nat->V)->Hp->Prop}
 {dst:Option Tmp} {t ty e:TypeId} {pos:String} {after:Array Edge} {g:Option (Nat×Bool)}
theorem M8 {α:Type} {enc:α->List D} {xs:List α} {x:Operand} {n:Nm} {sz k len i:Nat} {z:List V} (p:Nat) (hp:q=none\/Nat.beq all.length (p+(rest.length+1))=true)
  (hf:∀S tk,AgR H S tk (⟨dst,.call ⟨.builtin .clear,#[x],#[t]⟩,ty,pos,after,g⟩::rest)->okQ q all p [n] true) (za:α)
  (he:bR C.P t=some e) (hs:szT C.P e=some sz) (hz:zeroCells C.P e=some z) (ha:GX z=some (enc za)) (ho:z.all iK=true) (hzl:z.length=sz) (hpos:0<sz)
  (hx:ev sl x = .vs n sz k len) (hle:k+len<=xs.length) (hH:H[i]? = some (n,some (bV sz enc xs)))
  (hw:aO all sl ⟨dst,.call ⟨.builtin .clear,#[x],#[t]⟩,ty,pos,after,g⟩=some true)
  (h:aX (qB q p [n] true) C all K rest (dZ sl dst (.tup [])) (H.set i (n,some (bV sz enc (xs.take k++List.replicate len za++xs.drop (k+len)))))) :
  aX q C all K (⟨dst,.call ⟨.builtin .clear,#[x],#[t]⟩,ty,pos,after,g⟩::rest) sl H:=by
 refine ry p [n] true hp hf (y8 hH) hw (λS tk K' ok ag hk => ?_)
 have hS:S n=some (.vec sz (xs.map enc)):=ag.get hH
 have hle':k+len<=(xs.map enc).length:=by simpa using hle
 by_cases h0:len=0
 ·subst h0
  refine wu (A:=⟨[(n,.vec sz (xs.map enc))],[],.tup []⟩) ?_ (hk _ (H.set i (n,some (bV sz enc (xs.take k++List.replicate 0 za++xs.drop (k+0))))) ⟨by simp,by simp⟩ (λe=>by cases e) ?_ h)
  ·show xG C.P t S (ev sl x)=_
   simp only [xG,he,hx,hs,hz,hS,ha]
   rw [if_pos ⟨trivial,trivial,hzl,ho,hle',hpos⟩,if_pos trivial]
  ·have:=Jm ag hH (b':=some (bV sz enc (xs.take k++List.replicate 0 za++xs.drop (k+0)))) (λx hx=>by simp only [List.replicate_zero,List.append_nil,Nat.add_zero,List.take_append_drop]at hx;rw [hS];exact hx)
   exact this.tail
 ·refine wu (A:=⟨[(n,.vec sz (xs.map enc))],[(n,some (bV sz enc (xs.take k++List.replicate len za++xs.drop (k+len))))],.tup []⟩) ?_ (hk _ _ ⟨by simp,by simp⟩ (λe=>by cases e) (ag.tail.set hH (λx hx=>hx)) h)
  show xG C.P t S (ev sl x)=_
  simp only [xG,he,hx,hs,hz,hS,ha]
  rw [if_pos ⟨trivial,trivial,hzl,ho,hle',hpos⟩,if_neg h0]
  simp [bV,List.map_take,List.map_drop]
def rP {α:Type} (xs:List α) (lo hi:Int):Option Unit:=if 0<=lo/\0<=hi/\lo.toNat<=hi.toNat/\hi.toNat<=xs.length then some ()else none
theorem zY {α:Type} {xs:List α} {lo hi:Int} {u:Unit} (h:rP xs lo hi=some u):0<=lo/\0<=hi/\lo.toNat<=hi.toNat/\hi.toNat<=xs.length:=by
 unfold rP at h;split at h
 ·assumption
 ·cases h
theorem tY {α:Type} {xs:List α} {lo hi:Int} {u:Unit} (h:rP xs lo hi=some u):lo.toNat+(hi.toNat-lo.toNat)<=xs.length:=by
 have:=zY h;omega
section part
variable {α:Type} {enc:α->List D} {xs:List α} {sz:Nat} {n:Nm} {x l hi:Operand} {k k':IntKind} {a b:Int} {u:Unit}
theorem KE (hu:C.P.underlying t=some (.slice e)) (hs:szT C.P e=some sz) {lo hi:Option V} {l h:Int} (h1:sM 0 lo=some l.toNat) (h2:sM xs.length hi=some h.toNat) (hr:rP xs l h=some u) :
  p8 C.P t (vV n sz xs) lo hi none=some (.vs n sz l.toNat (h.toNat-l.toNat)):=by
 obtain ⟨_,_,r3,r4⟩:=zY hr
 simp only [vV,p8,hu,hs,h1,h2]
 rw [if_pos ⟨r3,r4,trivial⟩,Nat.zero_add]
theorem Hd (hu:C.P.underlying t=some (.slice e)) (hs:szT C.P e=some sz) (hx:ev sl x=vV n sz xs) (hl:ev sl l = .d (.int k a)) (hr:rP xs a xs.length=some u) (hw:aO all sl ⟨dst,.slice t x (some l) none none,ty,pos,after,g⟩=some true)
  (h:aX q C all K rest (dZ sl dst (.vs n sz a.toNat (((xs.length:Int)).toNat-a.toNat))) H):aX q C all K (⟨dst,.slice t x (some l) none none,ty,pos,after,g⟩::rest) sl H :=
 aK _ hw (by
  show p8 C.P t (ev sl x) (some (ev sl l)) none none=_
  rw [hx,hl];exact KE hu hs (Nc (zY hr).1) rfl hr) h
theorem KU (hu:C.P.underlying t=some (.slice e)) (hs:szT C.P e=some sz) (hx:ev sl x=vV n sz xs) (hh:ev sl hi = .d (.int k' b)) (hr:rP xs 0 b=some u) (hw:aO all sl ⟨dst,.slice t x none (some hi) none,ty,pos,after,g⟩=some true)
  (h:aX q C all K rest (dZ sl dst (.vs n sz 0 b.toNat)) H):aX q C all K (⟨dst,.slice t x none (some hi) none,ty,pos,after,g⟩::rest) sl H :=
 aK _ hw (by
  show p8 C.P t (ev sl x) none (some (ev sl hi)) none=_
  rw [hx,hh];exact KE hu hs rfl (Nc (zY hr).2.1) hr) h
end part
end
end Go.Eng

/-
  THE ENGINE: a slice that a function writes into: its box is handed in and handed back.
-/
namespace Go.Eng
set_option linter.unusedSectionVars false
variable [DM]
set_option linter.unusedVariables false
set_option linter.unusedSimpArgs false
def dV {α:Type} (n:Nm) (sz:Nat):List α->V
  | [] => .d (.sl [])
  | x::xs => .vs n sz 0 (x::xs).length
def gI {α:Type} (sz:Nat) (enc:α->List D):List α->List Box
  | []=>[]
  | x::xs=>[.vec sz ((x::xs).map enc)]
def gT {α:Type} (xs:List α) (o:Option Box):List (Option Box):=match xs with
  | []=>[]
  | _::_=>[o]
def neL {α:Type} (xs:List α):Option Unit:=match xs with
  | []=>none
  | _::_=>some ()
def mo {α β:Type} (xs:List α) (ys:List β):Option Unit:=if xs.length=ys.length then some ()else none
def inN (i:Int) (len:Nat):Option Unit:=if 0<=i/\i.toNat<len then some ()else none
abbrev cutL {α:Type} (xs:List α) (lo len:Nat):List α:=(xs.drop lo).take len
theorem Mj {α:Type} {xs:List α} {u:Unit} (h:neL xs=some u):xs ≠ []:=by
  cases xs with
  | nil=>cases h
  | cons x xs=>simp
theorem qo {α β:Type} {xs:List α} {ys:List β} {u:Unit} (h:mo xs ys=some u):xs.length=ys.length:=by
  unfold mo at h;split at h
  · assumption
  · cases h
theorem QB {i:Int} {n:Nat} {u:Unit} (h:inN i n=some u):0<=i:=by
  unfold inN at h;split at h
  · rename_i h1;exact h1.1
  · cases h
theorem L6 {i:Int} {n:Nat} {u:Unit} (h:inN i n=some u):i.toNat<n:=by
  unfold inN at h;split at h
  · rename_i h1;exact h1.2
  · cases h
theorem zW {α:Type} {xs:List α} {k len:Nat} {z:α} (h:k+len<=xs.length):xs.length=(xs.take k++List.replicate len z++xs.drop (k+len)).length:=by
  simp only [List.length_append,List.length_take,List.length_replicate,List.length_drop];omega
theorem lH {α:Type} {n:Nm} {sz:Nat} {xs ys:List α} (h:xs.length=ys.length):dV n sz xs=dV n sz ys:=by
  cases xs with
  | nil=>cases ys with
    | nil=>rfl
    | cons y ys=>simp at h
  | cons x xs=>cases ys with
    | nil=>simp at h
    | cons y ys=>simp only [dV,h]
theorem Ck {α:Type} {n:Nm} {sz:Nat} {xs:List α} (h:xs ≠ []):dV n sz xs=vV n sz xs:=by cases xs with
  | nil=>exact absurd rfl h
  | cons x xs=>rfl
theorem Ay {α:Type} {sz:Nat} {enc:α->List D} {xs ys:List α} (h:ys.length=xs.length):xs=[]->gB sz enc ys=none:=λe=>by
  subst e
  cases ys with
  | nil=>rfl
  | cons y ys=>simp at h
section
variable {C:Cfg} {sl:Nat->V} {H:Hp} {Q:QH} {c:Code}
theorem wH_re (k:Nat) {v v':V} (hk:sl k=v) (e:v=v') (h:wH C c Q (upd sl k v') H):wH C c Q sl H:=by
  have:upd sl k v'=sl:=by
    funext j
    simp only [upd]
    cases hj:Nat.beq j k with
    | true=>rw [Nat.eq_of_beq_eq_true hj,hk,e];rfl
    | false=>rfl
  rw [this]at h;exact h
theorem Bv {α:Type} {enc:α->List D} {xs:List α} {sz:Nat} {n:Nm} (k i:Nat) (hk:sl k=dV n sz xs) (h:H[i]? = some (n,gF sz enc xs)) (hw:wH C c Q (upd sl k (vL enc xs)) H):wH C c Q sl H:=by
  cases xs with
  | nil=>exact wH_re k (v':=vL enc ([]:List α)) hk rfl hw
  | cons x xs=>exact Ja k i hk h hw
end
section
variable {C:Cfg} {sl:Nat->V} {H:Hp} {q:Qm} {all rest:List Oper} {K:(Nat->V)->Hp->Prop}
variable {dst:Option Tmp} {d:Nat} {t ty:TypeId} {pos:String} {after:Array Edge} {g:Option (Nat×Bool)}
theorem Io (i:Nat) {n:Nm} {b b':Option Box} (h:H[i]? = some (n,b)) (e:b=b') (hw:aX q C all K rest sl (H.set i (n,b'))):aX q C all K rest sl H:=by
  subst e
  have hi:=(List.getElem?_eq_some_iff.1 h)
  rwa [<- hi.2,List.set_getElem_self]at hw
theorem qC {α:Type} {xs:List α} {x i:Operand} {k:IntKind} {n:Int} {nm:Nm} {size:Nat} (hT:(bR C.P t).bind (szT C.P)=some size) (hx:ev sl x=dV nm size xs) (hi:ev sl i = .d (.int k n)) (h0:0<=n) (h1:n.toNat<xs.length)
    (hw:aO all sl ⟨dst,.indexAddr t x i,ty,pos,after,g⟩=some true) (h:aX q C all K rest (dZ sl dst (.ref nm (0+n.toNat) 0)) H):aX q C all K (⟨dst,.indexAddr t x i,ty,pos,after,g⟩::rest) sl H:=by
  cases xs with
  | nil=>simp at h1
  | cons y ys=>exact BU hT hx hi h0 h1 hw h
theorem BJ {α:Type} {n:Nm} {sz:Nat} {xs:List α} {x:Operand} {e:TypeId} (hu:C.P.underlying t=some (.slice e)) (hx:ev sl x=dV n sz xs) (hw:aO all sl ⟨dst,.call ⟨.builtin .len,#[x],#[t]⟩,ty,pos,after,g⟩=some true)
    (h:aX q C all K rest (dZ sl dst (vI xs.length)) H):aX q C all K (⟨dst,.call ⟨.builtin .len,#[x],#[t]⟩,ty,pos,after,g⟩::rest) sl H:=by
  cases xs with
  | nil=>exact bS (enc:=λ_:α=>[]) (xs:=[]) hu hx hw h
  | cons y ys=>exact Ki hu hx hw h
theorem h_lenp {n:Nm} {sz k len:Nat} {x:Operand} {e:TypeId} (hu:C.P.underlying t=some (.slice e)) (hx:ev sl x = .vs n sz k len) (hw:aO all sl ⟨dst,.call ⟨.builtin .len,#[x],#[t]⟩,ty,pos,after,g⟩=some true)
    (h:aX q C all K rest (dZ sl dst (vI len)) H):aX q C all K (⟨dst,.call ⟨.builtin .len,#[x],#[t]⟩,ty,pos,after,g⟩::rest) sl H :=
  Bt (v:=vI len) (by rw [hx];simp only [Cs,hu]) hw h
theorem ER {f:Operand} {args:List Operand} {ats:Array TypeId} {fn:FuncId} {caps args0:List V} {r:V} {Sin:List Box} {Sout:List (Option Box)} (p:Nat) (is:List Nat) {l:List (Nm×Box)} (hp:q=none\/Nat.beq all.length (p+(rest.length+1))=true)
    (hfp:∀S tk,AgR H S tk (⟨some d,.call ⟨.value f,args.toArray,ats⟩,ty,pos,after,g⟩::rest)->okQ q all p (l.map (·.1)) true) (hc:FnM C.P fn args0 Sin r Sout)
    (hf:ev sl f = .fn fn caps) (hb:aJ C.P fn=true) (hl:mF H is=some l) (hS:Sin.map (λb=>b.ren (l.map (·.1)))=l.map (·.2)) (hSok:Sin.all (λb=>b.ok is.length)=true)
    (hn:∀n∈(args.map (ev sl)++caps).flatMap frz,n∈l.map (·.1)) (ha:∀S tk,AgR H S tk (⟨some d,.call ⟨.value f,args.toArray,ats⟩,ty,pos,after,g⟩::rest)->ArgsOK S (args.map (ev sl)++caps) (renL (l.map (·.1)) args0)) (hok:okL is.length args0=true) (hr:okV Sout.length r=true)
    (hlen:Sout.length=is.length) (hi:is.Nodup) (hO:okOut Sout.length Sout=true)
    (hw:aO all sl ⟨some d,.call ⟨.value f,args.toArray,ats⟩,ty,pos,after,g⟩=some true)
    (v:V) (hv:ren (l.map (·.1)) r=v) (H':Hp) (hH:setH H (outs (l.map (·.1)) is (l.map (·.1)) Sout)=H')
    (h:aX (qB q p (l.map (·.1)) true) C all K rest (upd sl d v) H') :
    aX q C all K (⟨some d,.call ⟨.value f,args.toArray,ats⟩,ty,pos,after,g⟩::rest) sl H:=by
  subst hv hH
  obtain ⟨hll,hlg⟩:=lg hl
  have hsl:Sin.length=l.length:=by have:=congrArg List.length hS;simpa using this
  refine ry p (l.map (·.1)) true hp hfp (CZ hl) hw (λS tk K' ok ag hk=>uR hf ?_)
  have hnd:=yu ag hi hl
  refine .inl ⟨hb,⟨[],l.map (·.1),args0,Sin,r,Sout,false⟩,?_,(λe=>by cases e),?_⟩
  · exact { does := hc
            args:=ha S tk ag
            okA:=by simp only [List.length_map,hll];exact hok
            nodup:=hnd
            ins:=by
              refine wT (by simp [hsl]) (λj h1 h2=>⟨?_,?_⟩)
              · simp only [List.length_map,hll]
                exact List.all_eq_true.1 hSok _ (List.getElem_mem h2)
              · simp only [List.length_map]at h1
                have e:=hlg j (by omega) h1
                have e2:l[j].2=Sin[j].ren (l.map (·.1)):=by
                  have:=congrArg (λx=>x[j]?) hS
                  simp only [List.getElem?_map,List.getElem?_eq_getElem h2,List.getElem?_eq_getElem h1,Option.map_some,so_]at this
                  exact this.symm
                simp only [List.getElem_map]
                show S l[j].1=_
                rw [ag.get e,e2]
            len:=by show Sin.length<=Sout.length;omega
            okR:=hr,okO:=hO,mutN:=by show mutOut (List.drop Sin.length Sout)=true;rw [List.drop_of_length_le (by omega)];rfl
            roOK:=(λe=>by cases e),have_:=(λn hn=>nomatch hn),cov:=(λn h' => .inr (hn n h')),dis:=(λn _ hn=>nomatch hn) }
  · have hdm:Sout.length-Sin.length=0:=by omega
    have e1:CallData.eff ⟨[],l.map (·.1),args0,Sin,r,Sout,false⟩ S d tk=⟨((l.map (·.1)).zip Sin).map (λp=>(p.1,p.2.ren (l.map (·.1)))),eD (l.map (·.1)) (l.map (·.1)) Sout,ren (l.map (·.1)) r⟩:=by
      simp only [CallData.eff,cond_false,CallData.names,hdm,mJ,List.range_zero,List.map_nil,List.append_nil,gp,gz,List.nil_append]
    show K' (CallData.eff _ S d tk)
    rw [e1]
    refine hk _ _ ⟨λx hx => ?_,λx hx=>xQ hx⟩ (λh=>by cases h) ?_ h
    · obtain ⟨y,hy,rfl⟩:=List.mem_map.1 hx
      exact (List.of_mem_zip hy).1
    · have e3:(l.map (·.1)).length=is.length:=by simp [hll]
      have ag1:=Cu (ν:=l.map (·.1)) ag hi hnd (bs:=Sout) (λj h1 h2=>by
        simp only [List.length_map]at h2
        exact⟨_,by simp only [List.getElem_map];exact hlg j h1 h2⟩)
      rw [List.take_of_length_le (by omega)]at ag1
      exact ag1.tail
theorem DF {l:List (Nm×Box)} {i:Nat} {n:Nm} {b:Box}:∀{is:List Nat} {l:List (Nm×Box)},mF H is=some l->H[i]? = some (n,some b)->mF H (is++[i])=some (l++[(n,b)])
  | [],l,h,hi=>by
    simp only [mF,so_]at h;subst h
    simp only [List.nil_append,mF,hi]
  | j::is,l,h,hi=>by
    simp only [mF]at h
    split at h
    · rename_i n' b' l' h1 h2
      simp only [so_]at h;subst h
      simp only [List.cons_append,mF,h1,DF (l:=l) h2 hi]
    · cases h
theorem uP (ρ:List Nm):∀(vs:List V) (i:Nat) (v:V),renL ρ (vs.set i v)=(renL ρ vs).set i (ren ρ v)
  | [],_,_=>rfl
  | _::_,0,_=>rfl
  | x::vs,i+1,v=>by simp only [List.set_cons_succ,renL,uP ρ vs i v]
theorem Ct {k:Nat}:∀{vs:List V} {i:Nat} {v:V},okL k (vs.set i .none)=true->okV k v=true->okL k (vs.set i v)=true
  | [],_,_,_,_=>rfl
  | x::vs,0,v,h,hv=>by
    simp only [List.set_cons_zero,okL,Bool.and_eq_true]at h ⊢;exact⟨hv,h.2⟩
  | x::vs,i+1,v,h,hv=>by
    simp only [List.set_cons_succ,okL,Bool.and_eq_true]at h ⊢;exact⟨h.1,Ct h.2 hv⟩
theorem nT {α:Type}:∀{l:List α} {i:Nat} {a:α},l[i]? = some a->l.set i a=l
  | x::l,0,a,h=>by simp at h;subst h;rfl
  | x::l,i+1,a,h=>by simp only [List.set_cons_succ];rw [nT (by simpa using h)]
  | [],_,_,h=>by simp at h
theorem Br {α:Type} {a b:List α} {i:Nat} {x y:α} (h:a.set i x=b.set i x):a.set i y=b.set i y:=by
  have:=congrArg (λl=>l.set i y) h
  simpa using this
theorem GG (ν:List Nm):∀(is:List Nat) (ns:List Nm) (bs:List (Option Box)) (i:Nat) (n:Nm) (o:Option Box),is.length=bs.length->is.length=ns.length->Eng.outs ν (is++[i]) (ns++[n]) (bs++[o])=Eng.outs ν is ns bs++[(i,n,o.map (·.ren ν))]
  | [],[],[],i,n,o,_,_=>rfl
  | j::is,m::ns,b::bs,i,n,o,h1,h2=>by simp only [List.cons_append,Eng.outs];rw [GG ν is ns bs i n o (by simpa using h1) (by simpa using h2)]
  | [],_::_,_,_,_,_,_,h=>by simp at h
  | [],[],_::_,_,_,_,h,_=>by simp at h
  | _::_,[],_,_,_,_,_,h=>by simp at h
  | _::_,_::_,[],_,_,_,h,_=>by simp at h
theorem Lc (ν ν':List Nm):∀(is:List Nat) (ns:List Nm) (bs:List Box),bs.all (λb=>b.ok 0)=true->Eng.outs ν is ns (bs.map some)=Eng.outs ν' is ns (bs.map some)
  | [],_,_,_=>rfl
  | _::_,[],_,_=>rfl
  | _::_,_::_,[],_=>rfl
  | i::is,n::ns,b::bs,h=>by
    simp only [List.all_cons,Bool.and_eq_true]at h
    simp only [List.map_cons,Eng.outs,Option.map_some,vN h.1,Lc ν ν' is ns bs h.2]
theorem FB {k:Nat} {os:List Box}:os.all (λb=>b.ok 0)=true->okOut k (os.map some)=true:=by
  induction os with
  | nil=>exact λ_=>rfl
  | cons b os ih =>
    intro h
    simp only [List.all_cons,Bool.and_eq_true]at h
    simp only [List.map_cons,okOut,Bool.and_eq_true]
    exact⟨Box.ok_mono (Nat.zero_le _) h.1,ih h.2⟩
theorem zT {k:Nat}:∀{a b:List (Option Box)},okOut k a=true->okOut k b=true->okOut k (a++b)=true
  | [],_,_,h=>h
  | none::a,b,h1,h2=>by simp only [List.cons_append,okOut]at h1 ⊢;exact zT h1 h2
  | some y::a,b,h1,h2=>by simp only [List.cons_append,okOut,Bool.and_eq_true]at h1 ⊢;exact⟨h1.1,zT h1.2 h2⟩
theorem BQ {vs:List V} {i:Nat} (h:((vs.set i .none).flatMap frz).all (λ_=>false)=true) {n:Nm} (hn:n∈vs.flatMap frz):∃v,vs[i]? = some v/\n∈frz v:=by
  have hx:(vs.set i .none).flatMap frz=[]:=by
    cases hx:(vs.set i .none).flatMap frz with
    | nil=>rfl
    | cons a b=>rw [hx]at h;simp at h
  obtain ⟨v,hv,hnv⟩:=List.mem_flatMap.1 hn
  obtain ⟨j,hj,rfl⟩:=List.getElem_of_mem hv
  by_cases hij:i=j
  · subst hij;exact⟨vs[i],List.getElem?_eq_getElem hj,hnv⟩
  · exfalso
    have:vs[j]∈vs.set i .none:=by
      have:(vs.set i V.none)[j]'(by simpa using hj)=vs[j]:=by rw [List.getElem_set_ne hij]
      rw [<- this];exact List.getElem_mem _
    have:=uq hx _ this
    rw [this]at hnv;cases hnv
theorem Lg {bs:List Box} (ρ:List Nm) (h:bs.all (λb=>b.ok 0)=true):bs.map (λb=>b.ren ρ)=bs:=by
  induction bs with
  | nil=>rfl
  | cons b bs ih=>simp only [List.all_cons,Bool.and_eq_true]at h;simp only [List.map_cons,vN h.1,ih h.2]
theorem vQ {a b:List Nm}:∀{vs:List V},okL a.length vs=true->renL (a++b) vs=renL a vs:=by
  intro vs h
  have key:∀n,okN a.length n=true->uN (a++b) n=uN a n:=by
    intro n hn
    obtain ⟨i,hi,rfl⟩:=uU hn
    rw [uX hi,uX (by simp;omega)]
    simp [List.getElem_append_left hi]
  have go:∀v,okV a.length v=true->ren (a++b) v=ren a v:=by
    intro v
    induction v using V.rec (motive_2:=λvs=>okL a.length vs=true->renL (a++b) vs=renL a vs)with
    | ref n i j=>intro h;simp only [ren];rw [key n h]
    | vs n sz k len=>intro h;simp only [ren];rw [key n h]
    | map n=>intro h;simp only [ren];rw [key n h]
    | fn f caps ih=>intro h;simp only [ren];rw [ih h]
    | agg cs ih=>intro h;simp only [ren];rw [ih h]
    | tup vs ih=>intro h;simp only [ren];rw [ih h]
    | nil=>intro h;rfl
    | cons v vs ih1 ih2 =>
      rename_i h
      simp only [okL,Bool.and_eq_true]at h
      simp only [renL,ih1 h.1,ih2 h.2]
    | _=>intro h;rfl
  induction vs with
  | nil=>rfl
  | cons v vs ih =>
    simp only [okL,Bool.and_eq_true]at h
    simp only [renL,go v h.1,ih h.2]
theorem oN {α:Type} {enc:α->List D} {sz:Nat} {xs:List α} {f:Operand} {args:List Operand} {ats:Array TypeId} {fn:FuncId} {caps args0:List V} {r:V} {bs os:List Box} {o:Option Box} (p:Nat) (is:List Nat) (iv po:Nat) {l:List (Nm×Box)} {n:Nm} {w:V}
    (hp:q=none\/Nat.beq all.length (p+(rest.length+1))=true)
    (hfp:∀S tk,AgR H S tk (⟨some d,.call ⟨.value f,args.toArray,ats⟩,ty,pos,after,g⟩::rest)->okQ q all p (l.map (·.1)++[n]) true)
    (hc:FnM C.P fn args0 (bs++gI sz enc xs) r (os.map some++gT xs o))
    (hf:ev sl f = .fn fn caps) (hb:aJ C.P fn=true) (hl:mF H is=some l) (hv:H[iv]? = some (n,gB sz enc xs))
    (hS:l.map (·.2)=bs) (hSok:bs.all (λb=>b.ok 0)=true)
    (hw1:(args.map (ev sl)++caps)[po]? = some w) (hw2:w=gV n sz xs\/w=dV n sz xs\/w=vV n sz xs/\xs ≠ []) (hp0:args0[po]? = some (dV (aG is.length) sz xs))
    (hn:(((args.map (ev sl)++caps).set po .none).flatMap frz).all (λn=>false)=true)
    (ha:((args.map (ev sl)++caps).map co0).set po .none=(renL (l.map (·.1)) args0).set po .none) (hok:okL is.length (args0.set po .none)=true) (hr:okV 0 r=true)
    (hlen:os.length=is.length) (hi:(is++[iv]).Nodup) (hO:os.all (λb=>b.ok 0)=true) (ho:∀b,o=some b->b.ok 0=true) (hon:xs=[]->o=none)
    (hw:aO all sl ⟨some d,.call ⟨.value f,args.toArray,ats⟩,ty,pos,after,g⟩=some true)
    (H':Hp) (hH:(setH H (outs (l.map (·.1)) is (l.map (·.1)) (os.map some))).set iv (n,o)=H')
    (h:aX (qB q p (l.map (·.1)++[n]) true) C all K rest (upd sl d r) H') :
    aX q C all K (⟨some d,.call ⟨.value f,args.toArray,ats⟩,ty,pos,after,g⟩::rest) sl H:=by
  have hll:=(lg hl).1
  have hbs:bs.length=l.length:=by rw [<- hS];simp
  have hivs:iv∉is:=by
    rw [List.nodup_append]at hi
    exact λhm=>hi.2.2 iv hm iv (by simp) rfl
  have hisn:is.Nodup:=(List.nodup_append.1 hi).1
  have hset:∀{l':List (Nat×Nm×Option Box)} {H0:Hp},(∀p∈l',p.1≠iv)->(setH H0 l')[iv]? = H0[iv]? := by
    intro l'
    induction l' with
    | nil=>intro H0 _;rfl
    | cons x l' ih =>
      intro H0 hx
      obtain ⟨i,m,b⟩:=x
      simp only [setH]
      rw [ih (λp hp=>hx p (by simp [hp]))]
      have:i≠iv:=hx (i,m,b) (by simp)
      rw [List.getElem?_set_ne this]
  have houts:∀(ν:List Nm) (is:List Nat) (ns:List Nm) (os:List (Option Box)),∀p∈outs ν is ns os,p.1∈is:=by
    intro ν is
    induction is with
    | nil=>intro ns os p hp;simp [outs]at hp
    | cons i is ih =>
      intro ns os p hp
      cases ns with
      | nil=>simp [outs]at hp
      | cons m ns=>cases os with
        | nil=>simp [outs]at hp
        | cons o os =>
          simp only [outs,List.mem_cons]at hp
          rcases hp with rfl|hp
          · simp
          · exact List.mem_cons_of_mem _ (ih _ _ _ hp)
  have hco:∀(S:Store),(w=gV n sz xs\/w=dV n sz xs\/w=vV n sz xs/\xs ≠ [])->(∀x l,xs=x::l->S n=some (.vec sz (xs.map enc)))->co S w=dV n sz xs:=by
    intro S hw2 hS
    cases hxs:xs with
    | nil =>
      subst hxs
      rcases hw2 with h2|h2|⟨h2,h3⟩
      · rw [h2];rfl
      · rw [h2];rfl
      · exact absurd rfl h3
    | cons x l =>
      have:=hS x l hxs
      have e:w = .vs n sz 0 (x::l).length:=by rcases hw2 with h2 | h2 | ⟨h2,_⟩ <;> rw [h2,hxs] <;> rfl
      rw [e]
      simp only [co,co1,this,dV]
  have hargs:∀S:Store,co S w=dV n sz xs->(args.map (ev sl)++caps).map (co S)=((args.map (ev sl)++caps).map co0).set po (dV n sz xs):=by
    intro S hcw
    have h1:(args.map (ev sl)++caps)=((args.map (ev sl)++caps).set po .none).set po w:=by
      rw [List.set_set,nT hw1]
    have h2:(((args.map (ev sl)++caps).set po .none)).map (co S)=(((args.map (ev sl)++caps).set po .none)).map co0:=Be (by
      cases hx:((args.map (ev sl)++caps).set po .none).flatMap frz with
      | nil=>rfl
      | cons a b=>rw [hx]at hn;simp at hn)
    have h3:(args.map (ev sl)++caps).map (co S)=((((args.map (ev sl)++caps).set po .none)).map (co S)).set po (co S w):=by
      rw [<- List.map_set,<- h1]
    rw [h3,h2,hcw,List.map_set,List.set_set]
  have h0:=ha
  cases hxs:xs with
  | nil =>
    have hobn:o=none:=hon hxs
    subst hobn
    have hc':FnM C.P fn args0 bs r (os.map some):=by rw [hxs]at hc;simpa [gI,gT]using hc
    have hq:okL is.length args0=true:=by
      have:=Ct (v:=dV (aG is.length) sz xs) hok (by rw [hxs];rfl)
      rwa [nT hp0]at this
    refine ER p is hp (λS tk ag=>NM (λm hm=>by simp [hm]) (hfp S tk ag)) hc' hf hb hl ?_ ?_ ?_ ?_ hq (uF (Nat.zero_le _) r hr) (by simp [hlen]) hisn (FB hO) hw r (uQ hr) H' ?_ ?_
    · rw [hS,Lg _ hSok]
    · exact List.all_eq_true.2 (λb hb'=>Box.ok_mono (Nat.zero_le _) (List.all_eq_true.1 hSok b hb'))
    · intro m hm
      obtain ⟨v,hv1,hv2⟩:=BQ hn hm
      rw [hw1]at hv1
      simp only [so_]at hv1
      subst hv1
      exfalso
      rcases hw2 with h2|h2|⟨_,h2⟩
      · rw [h2,hxs]at hv2;cases hv2
      · rw [h2,hxs]at hv2;cases hv2
      · exact h2 hxs
    · intro S tk ag
      refine ArgsOK.of_map ?_
      rw [hargs S (hco S hw2 (λx l e=>by rw [hxs]at e;cases e)),Br ha]
      have:(renL (l.map (·.1)) args0)[po]? = some (dV n sz xs):=by
        obtain ⟨hlt,he⟩:=List.getElem?_eq_some_iff.1 hp0
        rw [List.getElem?_eq_getElem (by rw [dn];exact hlt),l5 _ _ _ _ hlt,he,hxs];rfl
      rw [nT this]
    · rw [<- hH]
      symm
      apply nT
      rw [hset (λp hp e=>hivs (e ▸ houts _ _ _ _ p hp)),hv,hxs];rfl
    · cases q with
      | none=>exact h
      | some Γ =>
        intro S tk ok ag k L hk hL hO'
        refine h S tk ok ag k L hk (λp0 hp0' => ?_) (λe he m hm => ?_)
        · rcases hL p0 hp0' with h1 | ⟨e,h1,h2,h3,h4,h5⟩
          · exact .inl h1
          · refine .inr ?_
            rcases List.mem_append.1 h1 with h1|h1
            · exact⟨e,List.mem_append.2 (.inl h1),h2,h3,h4,h5⟩
            · rw [List.mem_singleton]at h1;subst h1
              exact⟨(p,l.map (·.1)++[n],true),by simp,h2,λx hx=>by simp only [List.mem_append];exact .inl (h3 x hx),λx hx=>by simp only [List.mem_append];exact .inl (h4 x hx),λe=>by cases e⟩
        · rcases List.mem_append.1 he with he | he
          · exact hO' e (List.mem_append.2 (.inl he)) m hm
          · rw [List.mem_singleton]at he;subst he
            simp only at hm
            rcases List.mem_append.1 hm with hm|hm
            · exact hO' (p,l.map (·.1),true) (by simp) m hm
            · rw [List.mem_singleton]at hm;subst hm
              rw [<- hH]at ag
              have:((setH H (outs (l.map (·.1)) is (l.map (·.1)) (os.map some))).set iv (m,none))[iv]? = some (m,none):=by
                have h1:=(List.getElem?_eq_some_iff.1 hv).1
                rw [List.getElem?_set_self (by rw [setH_at];exact h1)]
              exact (ag.at_ _ (List.mem_of_getElem? this)).1
  | cons x l' =>
    have hgB:gB sz enc xs=some (.vec sz (xs.map enc)):=by rw [hxs];rfl
    have hv':H[iv]? = some (n,some (.vec sz (xs.map enc))):=by rw [hv,hgB]
    have hc':FnM C.P fn args0 (bs++[.vec sz (xs.map enc)]) r (os.map some++[o]):=by rw [hxs]at hc ⊢;exact hc
    have hp1:=DF (l:=l) hl hv'
    have hmap:(l++[(n,Box.vec sz (xs.map enc))]).map (·.1)=l.map (·.1)++[n]:=by simp
    have hdv:dV (aG is.length) sz xs = .vs (aG is.length) sz 0 xs.length:=by rw [hxs];rfl
    have hq:okL (is++[iv]).length args0=true:=by
      have:=Ct (v:=dV (aG is.length) sz xs) (uB (Nat.le_add_right is.length 1) _ hok) (by rw [hdv];exact Da (ls_ _))
      rw [nT hp0]at this
      simpa using this
    refine ER p (is++[iv]) hp (λS tk ag=>by rw [hmap];exact hfp S tk ag) hc' hf hb hp1 ?_ ?_ ?_ ?_ hq (uF (Nat.zero_le _) r hr) (by simp [hlen]) hi ?_ hw r (uQ hr) H' ?_ ?_
    · rw [List.map_append,Lg _ hSok]
      simp only [List.map_cons,List.map_nil,List.map_append,hS,Box.ren]
    · rw [List.all_append]
      simp only [Bool.and_eq_true]
      exact⟨List.all_eq_true.2 (λb hb'=>Box.ok_mono (Nat.zero_le _) (List.all_eq_true.1 hSok b hb')),rfl⟩
    · intro m hm
      obtain ⟨v,hv1,hv2⟩:=BQ hn hm
      rw [hw1]at hv1
      simp only [so_]at hv1
      subst hv1
      have e:w = .vs n sz 0 xs.length:=by rcases hw2 with h2 | h2 | ⟨h2,_⟩ <;> rw [h2,hxs] <;> rfl
      rw [e]at hv2
      rw [hmap]
      have:m=n:=by simpa [frz,OL]using hv2
      rw [this];simp
    · intro S tk ag
      refine ArgsOK.of_map ?_
      rw [hargs S (hco S hw2 (λ_ _ _=>ag.get hv')),Br ha,hmap]
      have hpl:po<args0.length:=(List.getElem?_eq_some_iff.1 hp0).1
      have h1:args0=(args0.set po .none).set po (dV (aG is.length) sz xs):=by rw [List.set_set,nT hp0]
      have h2:renL (l.map (·.1)++[n]) args0=(renL (l.map (·.1)) (args0.set po .none)).set po (dV n sz xs):=by
        conv=>lhs;rw [h1]
        rw [uP,vQ (by simp only [List.length_map,hll];exact hok),hdv]
        simp only [ren]
        rw [ug (n:=n) (by rw [List.getElem?_append_right (by simp [hll])];simp [hll])]
        rw [hxs];rfl
      rw [h2,uP,List.set_set]
    · refine zT (FB hO) ?_
      cases o with
      | none=>rfl
      | some b=>simp only [okOut,Bool.and_true];exact Box.ok_mono (Nat.zero_le _) (ho b rfl)
    · rw [<- hH,hmap,GG _ _ _ _ _ _ _ (by simp [hlen]) (by simp [hll]),KZ,Lc _ (l.map (·.1)) _ _ _ hO]
      simp only [setH]
      cases o with
      | none=>rfl
      | some b=>simp only [Option.map_some,vN (ho b rfl)]
    · rw [hmap];exact h
theorem FnM.of_wHv {P:Program} {f:FuncId} {fn:Func} {body:Code} (C:Cfg) (hP:C.P=P) (hf:P.funcs[f]? = some fn) (hb:fn.body=some body) (hn:C.n=fn.ntmps)
    {α:Type} {enc:α->List D} {sz:Nat} {xs:List α} {args:List V} {bs:List Box} {r:V} {Sout:List (Option Box)} (hl:args.length<=fn.ntmps) (hok:qI C body=true)
    (h:wH C body (uz C fn.results.toList (bs++gI sz enc xs).length r Sout) (NF args) (p9 0 bs++[(aG bs.length,gB sz enc xs)])):FnM P f args (bs++gI sz enc xs) r Sout:=by
  refine FnM.of_wpD' hf hb hP hn hl ?_
  have hag:Ag (p9 0 bs++[(aG bs.length,gB sz enc xs)]) (fO (bs++gI sz enc xs)) 1:=by
   refine⟨Nat.one_pos,?_,λp hp => ?_⟩
   · rw [List.map_append,List.nodup_append]
     refine⟨Hf _ _,by simp,λa ha b hb e => ?_⟩
     simp only [List.map_cons,List.map_nil,List.mem_singleton]at hb
     obtain ⟨p,hp,rfl⟩:=List.mem_map.1 ha
     obtain ⟨j,b',h1,h2⟩:=xc hp
     rw [h1,hb]at e
     simp only [aG,Prod.mk.injEq,and_true]at e
     have:=(List.getElem?_eq_some_iff.1 h2).1
     omega
   · rcases List.mem_append.1 hp with hp | hp
     · obtain ⟨j,b,rfl,hb⟩:=xc hp
       refine⟨Nat.one_pos,λx hx => ?_⟩
       simp only [so_]at hx
       subst hx
       rw [tQ,Nat.zero_add,List.getElem?_append_left (List.getElem?_eq_some_iff.1 hb).1];exact hb
     · simp only [List.mem_singleton]at hp
       subst hp
       refine⟨Nat.one_pos,λx hx => ?_⟩
       rw [tQ,List.getElem?_append_right (Nat.le_refl _),Nat.sub_self]
       cases xs with
       | nil=>cases hx
       | cons y ys=>exact hx
  obtain ⟨σ',hg,hw⟩:=h hok _ 1 hag
  exact⟨σ',hg,kQ body (λe σ h=>Nq h) hw⟩
theorem Hz {α:Type} {enc:α->List D} {sz:Nat} {rs:List ResultVar} {r:V} {e:Exit} {bs os:List Box} {xs:List α} {o:Option Box} (he:e = .normal\/e = .ret) (vs:List V) (h1:Fv C sl H rs vs) (h2:(vs.flatMap frz).all (λ_=>false)=true) (h3:FC (vs.map co0)=r) (hr:okV 0 r=true)
    (hbl:bs.length=os.length) (hj:H[os.length]? = some (aG os.length,o)) (hO:os.all (λb=>b.ok 0)=true) (ho:∀b,o=some b->b.ok 0=true) (hH:H.take os.length=p9 0 os) :
    uz C rs (bs++gI sz enc xs).length r (os.map some++gT xs o) e sl H:=by
  have hn:vs.flatMap frz=[]:=by
    cases hx:vs.flatMap frz with
    | nil=>rfl
    | cons a b=>rw [hx]at h2;simp at h2
  have hc:∀{vs:List V},vs.flatMap frz=[]->CoL H vs (vs.map co0):=by
    intro vs
    induction vs with
    | nil=>exact λ_ => .nil
    | cons v vs ih=>exact λh => .cons (kK (uq h v (by simp)) rfl) (ih (by simp only [List.flatMap_cons,List.append_eq_nil_iff]at h;exact h.2))
  have hget:∀i (h:i<os.length),H[i]? = some (aG i,some os[i]):=λi hi=>by
    have:=uj os 0 i hi
    rw [Nat.zero_add,<- hH,List.getElem?_take,if_pos hi]at this
    exact this
  have hou:∀{ν:List Nm} {l:List Box} {j:Nat} {js:List Nat} {ns:List Nm} {bs:List (Option Box)},(∀b∈l,b.ok 0=true)->(∀i (h:i<l.length),H[j+i]? = some (aG (j+i),some l[i]))->Bz H ν js ns bs->Bz H ν (List.range' j l.length++js) ((List.range' j l.length).map aG++ns) (l.map some++bs):=by
    intro ν l
    induction l with
    | nil=>exact λ_ _ h=>h
    | cons b l ih =>
      intro j js ns bs hb hg hr
      simp only [List.length_cons,List.range'_succ,List.map_cons,List.cons_append]
      refine⟨?_,ih (λx hx=>hb x (by simp [hx])) (λi hi => ?_) hr⟩
      · have:=hg 0 (by simp)
        simp only [Option.map_some,vN (hb b (by simp))]
        exact this
      · have:=hg (i+1) (by simpa using hi)
        rw [show j+1+i=j+(i+1) by omega]
        exact this
  have hO':∀b∈os,b.ok 0=true:=λb hb=>List.all_eq_true.1 hO b hb
  cases xs with
  | nil =>
    refine⟨he,vs,vs.map co0,List.range' 0 os.length++[],(List.range' 0 os.length).map aG++[],h1,hc hn,by rw [h3,uQ hr],hou hO' (λi hi=>by rw [Nat.zero_add];exact hget i hi) trivial,by simp [List.nodup_range'],λi hi => ?_⟩
    have:i<os.length:=by simpa [gI,hbl]using hi
    simp [this]
  | cons x xs =>
    refine⟨he,vs,vs.map co0,List.range' 0 os.length++[os.length],(List.range' 0 os.length).map aG++[aG os.length],h1,hc hn,by rw [h3,uQ hr],
      hou hO' (λi hi=>by rw [Nat.zero_add];exact hget i hi) ⟨?_,trivial⟩,?_,λi hi => ?_⟩
    · rw [hj]
      cases o with
      | none=>rfl
      | some b=>simp only [Option.map_some,vN (ho b rfl)]
    · rw [List.nodup_append]
      refine⟨List.nodup_range',by simp,λa ha b hb => ?_⟩
      simp only [List.mem_singleton]at hb
      simp only [List.mem_range'_1]at ha
      omega
    · have hi':i<os.length+1:=by simpa [gI,hbl]using hi
      by_cases hlt:i<os.length
      · rw [List.getElem?_append_left (by simpa using hlt)];simp [hlt]
      · have:i=os.length:=by omega
        subst this
        rw [List.getElem?_append_right (by simp)];simp
theorem rC {α:Type} {sz:Nat} {enc:α->List D} {xs:List α}:∀b,gB sz enc xs=some b->b.ok 0=true:=by
  intro b h
  cases xs with
  | nil=>cases h
  | cons x xs=>cases h;rfl
theorem Cc:∀b,(none:Option Box)=some b->b.ok 0=true:=λb h=>by cases h
end
end Go.Eng

/-
  THE ENGINE: rules for maps, arrays and new slices of zeros.
-/
namespace Go.Eng
set_option linter.unusedSectionVars false
variable [DM]
set_option linter.unusedVariables false
set_option linter.unusedSimpArgs false
def DW {K T:Type} (eq:K->K->Bool) (k:K):List (K×T)->Option Nat
 | []=>none
 | e::es=>if eq k e.1=true then some 0 else (DW eq k es).map (· + 1)
def dK {K T:Type} (eq:K->K->Bool) (es:List (K×T)) (k:K):Option T:=match DW eq k es with
 | some j=>(es[j]?).map (·.2)
 | none=>none
def Dt {K T:Type} (eq:K->K->Bool) (es:List (K×T)) (k:K) (v:T):List (K×T):=match DW eq k es with
 | some j=>es.set j (k,v)
 | none=>es++[(k,v)]
abbrev bM {K T:Type} (kD:K->D) (vD:T->D) (es:List (K×T)):Box := .map (es.map λe=>(kD e.1,vD e.2))
abbrev eqS (a b:ByteArray):Bool:=a==b
theorem Nz {K T:Type} {eq:K->K->Bool} {k:K}:∀{es:List (K×T)} {j:Nat},DW eq k es=some j->j<es.length
 | e::es,j,h=>by
  simp only [DW]at h
  split at h
  ·simp only [so_]at h;subst h;simp
  ·simp only [Option.map_eq_some_iff]at h
   obtain ⟨i,hi,rfl⟩:=h
   have:=Nz hi
   simpa using this
theorem Ba {K T:Type} {eq:K->K->Bool} {kD:K->D} {vD:T->D} {k:K} (he:∀a b,w9 (kD a) (kD b)=some (eq a b)):∀(es:List (K×T)),rY (kD k) (es.map λe=>(kD e.1,vD e.2))=some (DW eq k es)
 | []=>rfl
 | e::es=>by
  simp only [List.map_cons,rY,he,DW]
  cases h:eq k e.1 with
  | true=>simp
  | false=>simp [Ba he es]
section
variable {C:Cfg} {sl:Nat->V} {H:Hp} {q:Qm} {all rest:List Oper} {K:(Nat->V)->Hp->Prop}
variable {dst:Option Tmp} {d:Nat} {t ty:TypeId} {pos:String} {after:Array Edge} {g:Option (Nat×Bool)}
theorem Nj (p:Nat) (hp:q=none\/Nat.beq all.length (p+(rest.length+1))=true) (hw:aO all sl ⟨some d,.makeMap t none,ty,pos,after,g⟩=some true)
  (h:∀n:Nm,aX (qB q p [n] true) C all K rest (upd sl d (.map n)) (H++[(n,some (.map []))])):aX q C all K (⟨some d,.makeMap t none,ty,pos,after,g⟩::rest) sl H :=
 vK rfl p [] hp (λ_ _ _=>Ai) (λm hm=>by cases hm) hw (λS tk K' ok ag hk=>jy (A:=⟨[],[((d,tk),some (.map []))],.map (d,tk)⟩) (λc e=>by cases e) rfl
  (hk _ _ _ (.inl rfl) ⟨by simp,by simp⟩ (ag.new ok rfl _) (h (d,tk))))
theorem F5 {Kt T:Type} {eq:Kt->Kt->Bool} {kD:Kt->D} {vD:T->D} {es:List (Kt×T)} {k:Kt} {z:T} {x i:Operand} {kt et:TypeId} {ok:Bool} {n:Nm} (p j:Nat) (hp:q=none\/Nat.beq all.length (p+(rest.length+1))=true)
  (hf:∀S tk,AgR H S tk (⟨dst,.lookup t x i ok,ty,pos,after,g⟩::rest)->okQ q all p [n] false) (he:∀a b,w9 (kD a) (kD b)=some (eq a b)) (hm:DV C.P t=some (kt,et)) (hkk:vC C.P kt (kD k)=true) (hz:zeroV C.P et=some (.d (vD z)))
  (hx:ev sl x = .map n) (hi:ev sl i = .d (kD k)) (hH:H[j]? = some (n,some (bM kD vD es))) (v:V) (hv:EA ok (.d (vD ((dK eq es k).getD z))) (dK eq es k).isSome=v)
  (hw:aO all sl ⟨dst,.lookup t x i ok,ty,pos,after,g⟩=some true) (h:aX (qB q p [n] false) C all K rest (dZ sl dst v) H):aX q C all K (⟨dst,.lookup t x i ok,ty,pos,after,g⟩::rest) sl H:=by
 subst hv
 refine ry p [n] false hp hf (y8 hH) hw (λS tk K' ok' ag hk=>jy (A:=⟨[(n,bM kD vD es)],[],EA ok (.d (vD ((dK eq es k).getD z))) (dK eq es k).isSome⟩) (λc e=>by cases e) ?_ (hk _ H ⟨by simp,by simp⟩ (λ_=>rfl) ag.tail h))
 show xV C.P t S (ev sl x) (ev sl i) ok=_
 unfold xV
 rw [hm,hi,hx]
 simp only [hkk,cond_true,ag.get hH,Ba he]
 unfold dK
 cases hj:DW eq k es with
 | none=>simp only [hz,Option.map_some,Option.getD_none,Option.isSome_none]
 | some j =>
  have hlt:=Nz hj
  simp only [List.getElem?_map,List.getElem?_eq_getElem hlt,Option.map_some,Option.getD_some,Option.isSome_some]
theorem O4 {Kt T:Type} {kD:Kt->D} {vD:T->D} {es:List (Kt×T)} {x:Operand} {kt et:TypeId} {n:Nm} (p j:Nat) (hp:q=none\/Nat.beq all.length (p+(rest.length+1))=true)
  (hf:∀S tk,AgR H S tk (⟨dst,.call ⟨.builtin .len,#[x],#[t]⟩,ty,pos,after,g⟩::rest)->okQ q all p [n] false) (hm:DV C.P t=some (kt,et))
  (hx:ev sl x = .map n) (hH:H[j]? = some (n,some (bM kD vD es)))
  (hw:aO all sl ⟨dst,.call ⟨.builtin .len,#[x],#[t]⟩,ty,pos,after,g⟩=some true) (h:aX (qB q p [n] false) C all K rest (dZ sl dst (vI es.length)) H):aX q C all K (⟨dst,.call ⟨.builtin .len,#[x],#[t]⟩,ty,pos,after,g⟩::rest) sl H:=by
 refine ry p [n] false hp hf (y8 hH) hw (λS tk K' ok' ag hk=>wu (A:=⟨[(n,bM kD vD es)],[],vI es.length⟩) ?_ (hk _ H ⟨by simp,by simp⟩ (λ_=>rfl) ag.tail h))
 show (bif DU (ev sl x)then tL C.P t S (ev sl x)else (Cs C.P t (ev sl x)).bind fZ)=_
 rw [hx]
 show tL C.P t S (.map n)=_
 unfold tL
 simp only [hm,ag.get hH,List.length_map]
theorem K5 {Kt T:Type} {eq:Kt->Kt->Bool} {kD:Kt->D} {vD:T->D} {es:List (Kt×T)} {k:Kt} {v:T} {m i x:Operand} {kt et:TypeId} {n:Nm} (p j:Nat) (hp:q=none\/Nat.beq all.length (p+(rest.length+1))=true)
  (hf:∀S tk,AgR H S tk (⟨dst,.mapUpdate t m i x,ty,pos,after,g⟩::rest)->okQ q all p [n] true) (he:∀a b,w9 (kD a) (kD b)=some (eq a b)) (hm:DV C.P t=some (kt,et)) (hkk:vC C.P kt (kD k)=true)
  (hx:ev sl m = .map n) (hi:ev sl i = .d (kD k)) (hd:datum (ev sl x)=some (vD v)) (hH:H[j]? = some (n,some (bM kD vD es)))
  (hw:aO all sl ⟨dst,.mapUpdate t m i x,ty,pos,after,g⟩=some true) (h:aX (qB q p [n] true) C all K rest (dZ sl dst .none) (H.set j (n,some (bM kD vD (Dt eq es k v))))):aX q C all K (⟨dst,.mapUpdate t m i x,ty,pos,after,g⟩::rest) sl H:=by
 refine ry p [n] true hp hf (y8 hH) hw (λS tk K' ok' ag hk=>jy (A:=⟨[(n,bM kD vD es)],[(n,some (bM kD vD (Dt eq es k v)))],.none⟩) (λc e=>by cases e) ?_ (hk _ _ ⟨by simp,by simp⟩ (λe=>by cases e) (ag.tail.set hH (λx hx=>hx)) h))
 show lw C.P t S (ev sl m) (ev sl i) (ev sl x)=_
 rw [J2 hd]
 unfold ng
 rw [hm,hi,hx,hd]
 simp only [hkk,cond_true,ag.get hH,Ba he]
 unfold Dt
 cases hj:DW eq k es with
 | none=>simp only [bM,List.map_append,List.map_cons,List.map_nil]
 | some j=>simp only [bM,List.map_set]
theorem AU {α:Type} {enc:α->List D} {size:Nat} (hl:∀y,(enc y).length=size):∀(xs:List α) (i:Nat) (y:α),xs[i]? = some y->∃r,((xs.map enc).flatten).drop (i*size)=enc y++r
 | x::xs,0,y,h=>by
  simp only [List.getElem?_cons_zero,so_]at h;subst h
  exact⟨(xs.map enc).flatten,by simp⟩
 | x::xs,i+1,y,h=>by
  obtain ⟨r,hr⟩:=AU hl xs i y (by simpa using h)
  refine⟨r,?_⟩
  simp only [List.map_cons,List.flatten_cons]
  rw [Nat.add_mul,Nat.one_mul,Nat.add_comm,<- List.drop_drop,<- hl x,List.drop_left,hl x]
  exact hr
 | [],_,_,h=>by simp at h
theorem h_idxa {α:Type} {enc:α->List D} {xs:List α} {x i:Operand} {k:IntKind} {n:Int} {y:α} {size e m:Nat} {agg:Bool} {ds:List D} (hu:C.P.underlying t=some (.array m e)) (hs:szT C.P e=some size) (ha:cO C.P e=agg) (hx:ev sl x = .d (.agg ds)) (hds:(xs.map enc).flatten=ds) (hm:xs.length=m)
  (hi:ev sl i = .d (.int k n)) (hy:idx xs n=some y) (hl:∀y,(enc y).length=size) (hsz:agg=true\/size=1) (v:V) (hv:rdD agg size (enc y)=some v)
  (hw:aO all sl ⟨dst,.index t x i,ty,pos,after,g⟩=some true) (h:aX q C all K rest (dZ sl dst v) H):aX q C all K (⟨dst,.index t x i,ty,pos,after,g⟩::rest) sl H :=
 aK v hw (by
  show zG C.P t (ev sl x) (ev sl i)=_
  unfold idx at hy
  split at hy
  ·rename_i h0
   have hlt:n.toNat<m:=by rw [<- hm];exact (List.getElem?_eq_some_iff.1 hy).1
   obtain ⟨r,hr⟩:=AU hl xs n.toNat y hy
   rw [hx,hi]
   have hc:(decide (0<=n)&&Nat.blt n.toNat m)=true:=by simp [h0,Nat.blt_eq,hlt]
   simp only [zG,hu,hs,hc,cond_true,ha]
   rw [<- hds,hr]
   rw [<- hv]
   have hly:=hl y
   unfold rdD
   cases agg with
   | true =>
    have h1:Nat.ble size (enc y++r).length=true:=Nat.ble_eq_true_of_le (by rw [List.length_append,hly];omega)
    have h2:Nat.ble size (enc y).length=true:=Nat.ble_eq_true_of_le (by omega)
    simp only [cond_true,h1,h2]
    rw [List.take_append_of_le_length (by omega)]
   | false =>
    simp only [cond_false]
    cases he:enc y with
    | nil=>rw [he]at hly;rcases hsz with h3 | h3;cases h3;simp at hly;omega
    | cons c cs=>rfl
  ·cases hy) h
end
end Go.Eng

/-
  THE ENGINE: slices with room made ahead; functions that are handed two slices in their boxes.
-/
namespace Go.Eng
set_option linter.unusedSectionVars false
variable [DM]
set_option linter.unusedVariables false
set_option linter.unusedSimpArgs false
def kV {α:Type} (b:Bool) (n:Nm) (sz:Nat) (xs:List α):V:=match b with
  | true=>vV n sz xs
  | false=>gV n sz xs
def kB {α:Type} (b:Bool) (sz:Nat) (enc:α->List D) (xs:List α):Option Box:=match b with
  | true=>some (bV sz enc xs)
  | false=>gB sz enc xs
def kF {α:Type} (b:Bool) (sz:Nat) (enc:α->List D) (xs:List α):Option Box:=match b with
  | true=>some (bF sz enc xs)
  | false=>gF sz enc xs
def kO (b:Bool) (sz:Nat):List (Option Box):=match b with
  | true=>[some (.vec sz [])]
  | false=>[]
def zN (n:Int) (bytes:Nat):Option Unit:=if 0<n/\n*bytes<=2 ^ 47/\n<=2 ^ 47 then some ()else none
section
variable {C:Cfg} {Q:QH} {sl:Nat->V} {H:Hp} {c:Code}
theorem K9 {α:Type} {enc:α->List D} {xs:List α} {sz:Nat} {n:Nm} {b:Bool} (i:Nat) (h:H[i]? = some (n,kB b sz enc xs)) (hw:wH C c Q sl (H.set i (n,kF b sz enc xs))):wH C c Q sl H:=by
  cases b with
  | true=>exact Kh i h hw
  | false=>exact jb i h hw
theorem DD {α:Type} {enc:α->List D} {xs:List α} {sz:Nat} {n:Nm} {b:Bool} (k i:Nat) (hk:sl k=kV b n sz xs) (h:H[i]? = some (n,kF b sz enc xs)) (hw:wH C c Q (upd sl k (vL enc xs)) H):wH C c Q sl H:=by
  cases b with
  | true=>exact Ja k i hk h hw
  | false=>exact fC k i hk h hw
end
section
variable {C:Cfg} {sl:Nat->V} {H:Hp} {q:Qm} {all rest:List Oper} {K:(Nat->V)->Hp->Prop}
variable {dst:Option Tmp} {d:Nat} {t ty:TypeId} {pos:String} {after:Array Edge} {g:Option (Nat×Bool)}
theorem MF {α:Type} {enc:α->List D} {xs ys zs:List α} {x y:Operand} {t' e e':TypeId} {sz bytes i:Nat} {n:Nm} {z:List V} {b:Bool} (p:Nat) (hpp:q=none\/Nat.beq all.length (p+(rest.length+1))=true) (hf:∀S tk,AgR H S tk (⟨some d,.call ⟨.builtin .append,#[x,y],#[t,t']⟩,ty,pos,after,g⟩::rest)->okQ q all p [n] true) (he:bR C.P t=some e) (he':bR C.P t'=some e') (hs:szT C.P e=some sz) (hz:zeroCells C.P e=some z) (hzl:z.length=sz) (hp:0<sz) (hby:gM C.P e=bytes) (hbb:bytes<=100000)
    (henc:∀y,(enc y).length=sz) (hx:ev sl x=kV b n sz xs) (hH:H[i]? = some (n,kB b sz enc xs)) (hy:ev sl y=vL enc ys) (ha:lm xs ys=some zs)
    (hw:aO all sl ⟨some d,.call ⟨.builtin .append,#[x,y],#[t,t']⟩,ty,pos,after,g⟩=some true)
    (h:∀n':Nm,aX (qB q p [n,n'] true) C all K rest (upd sl d (kV b n' sz zs)) (H.set i (n',kB b sz enc zs))):aX q C all K (⟨some d,.call ⟨.builtin .append,#[x,y],#[t,t']⟩,ty,pos,after,g⟩::rest) sl H:=by
  cases b with
  | true=>exact O7 p hpp hf he he' hs hz hzl hp hby hbb henc hx hH hy ha hw h
  | false=>exact kJ p hpp hf he he' hs hz hzl hp hby hbb henc hx hH hy ha hw h
theorem GN {x:Operand} {e:TypeId} (hu:C.P.underlying t=some (.slice e)) (hx:ev sl x = .nil) (hw:aO all sl ⟨dst,.call ⟨.builtin .len,#[x],#[t]⟩,ty,pos,after,g⟩=some true)
    (h:aX q C all K rest (dZ sl dst (vI 0)) H):aX q C all K (⟨dst,.call ⟨.builtin .len,#[x],#[t]⟩,ty,pos,after,g⟩::rest) sl H :=
  Bt (v:=vI 0) (by rw [hx];simp only [Cs,hu]) hw h
theorem Jk {x:Operand} {e:TypeId} (he:bR C.P t=some e) (hx:ev sl x = .nil) (hw:aO all sl ⟨dst,.call ⟨.builtin .cap,#[x],#[t]⟩,ty,pos,after,g⟩=some true)
    (h:aX q C all K rest (dZ sl dst (vI 0)) H):aX q C all K (⟨dst,.call ⟨.builtin .cap,#[x],#[t]⟩,ty,pos,after,g⟩::rest) sl H :=
  lL hw (λS tk K' _ hk=>wu (A:=⟨[],[],vI 0⟩) (by
    show (PQ C.P t (ev sl x)).bind fZ=_
    rw [hx];simp only [PQ,he];rfl) (hk _ rfl rfl rfl)) h
theorem QC {α:Type} {enc:α->List D} {x y:Operand} {t' e:TypeId} {sz by_:Nat} {z:List V} {k:IntKind} {n:Int} {u:Unit} (p:Nat) (hpp:q=none\/Nat.beq all.length (p+(rest.length+1))=true) (he:bR C.P t=some e) (hi:oh C.P t'=true) (hs:szT C.P e=some sz) (hz:zeroCells C.P e=some z) (hzl:z.length=sz) (hp:0<sz) (hby:gM C.P e=by_)
    (hx:ev sl x = .nil) (hy:ev sl y = .d (.int k n)) (hn:zN n by_=some u)
    (hw:aO all sl ⟨some d,.call ⟨.builtin .append,#[x,y],#[t,t']⟩,ty,pos,after,g⟩=some true)
    (h:∀nm:Nm,aX (qB q p [nm] true) C all K rest (upd sl d (.vs nm sz 0 n.toNat)) (H++[(nm,some (bV sz enc ([]:List α)))])):aX q C all K (⟨some d,.call ⟨.builtin .append,#[x,y],#[t,t']⟩,ty,pos,after,g⟩::rest) sl H:=by
  unfold zN at hn
  split at hn
  · rename_i hc
    refine vK rfl p [] hpp (λ_ _ _=>Ai) (λm hm=>by cases hm) hw (λS tk K' ok ag hk=>wu (A:=⟨[],[((d,tk),some (bV sz enc ([]:List α)))],.vs (d,tk) sz 0 n.toNat⟩) ?_
      (hk _ _ _ (.inl rfl) ⟨by simp,by simp⟩ (ag.new ok rfl _) (h (d,tk))))
    show (bif oh C.P t' then uI C.P t t' (ev sl x) (ev sl y) d tk else _)=_
    rw [hi,cond_true,hx,hy]
    simp only [uI,he,hi,cond_true,hs,hz]
    rw [if_pos ⟨hc.1,hp,hzl,by rw [hby];exact hc.2.1,hc.2.2⟩]
    rfl
  · cases hn
theorem PD {x hi:Operand} {e:TypeId} {n:Nm} {sz k len m:Nat} {kk:IntKind} {b:Int} (hu:C.P.underlying t=some (.slice e)) (hs:szT C.P e=some sz) (hx:ev sl x = .vs n sz k len) (hh:ev sl hi = .d (.int kk b)) (hb:b=(m:Int)) (hle:m<=len)
    (hw:aO all sl ⟨dst,.slice t x none (some hi) none,ty,pos,after,g⟩=some true) (h:aX q C all K rest (dZ sl dst (.vs n sz k m)) H):aX q C all K (⟨dst,.slice t x none (some hi) none,ty,pos,after,g⟩::rest) sl H :=
  aK _ hw (by
    show p8 C.P t (ev sl x) none (some (ev sl hi)) none=_
    rw [hx,hh,hb]
    have:sM len (some (.d (.int kk (m:Int))))=some m:=by simp [sM]
    simp only [p8,hu,hs,this]
    rw [show sM 0 none=some 0 from rfl]
    simp only
    rw [if_pos ⟨Nat.zero_le _,hle,trivial⟩]
    simp) h
theorem Nk {f:Operand} {args:List Operand} {ats:Array TypeId} {fn:FuncId} {caps args0:List V} {r:V} {Sin:List Box} {Sout:List (Option Box)} (is:List Nat) (m:Nat) {l:List (Nm×Box)} (hc:FnM C.P fn args0 Sin r Sout)
    (hf:ev sl f = .fn fn caps) (hb:aJ C.P fn=true) (hl:mF H is=some l) (hS:Sin.map (λb=>b.ren (l.map (·.1)))=l.map (·.2)) (hSok:Sin.all (λb=>b.ok is.length)=true)
    (hn:∀n∈(args.map (ev sl)++caps).flatMap frz,n∈l.map (·.1)) (ha:∀S tk,AgR H S tk (⟨some d,.call ⟨.value f,args.toArray,ats⟩,ty,pos,after,g⟩::rest)->ArgsOK S (args.map (ev sl)++caps) (renL (l.map (·.1)) args0)) (hok:okL is.length args0=true) (hr:okV Sout.length r=true)
    (hlen:Sout.length=is.length+m) (hi:is.Nodup) (hO:okOut Sout.length Sout=true) (hmu:mutOut (Sout.drop is.length)=true)
    (hw:aO all sl ⟨some d,.call ⟨.value f,args.toArray,ats⟩,ty,pos,after,g⟩=some true)
    (h:∀ν:Nat->Nm,aX none C all K rest (upd sl d (ren (l.map (·.1)++(List.range m).map ν) r))
      (setH H (outs (l.map (·.1)++(List.range m).map ν) is (l.map (·.1)) Sout)++news (l.map (·.1)++(List.range m).map ν) ((List.range m).map ν) (Sout.drop is.length))) :
    aX none C all K (⟨some d,.call ⟨.value f,args.toArray,ats⟩,ty,pos,after,g⟩::rest) sl H:=by
  obtain ⟨hll,hlg⟩:=lg hl
  have hsl:Sin.length=l.length:=by have:=congrArg List.length hS;simpa using this
  refine MJ hw (λS tk K' ok ag hk=>uR hf ?_)
  have h:=h (λj=>(d+100000*j,tk))
  have hnd:=yu ag hi hl
  refine .inl ⟨hb,⟨[],l.map (·.1),args0,Sin,r,Sout,false⟩,?_,(λe=>by cases e),?_⟩
  · exact { does := hc
            args:=ha S tk ag
            okA:=by simp only [List.length_map,hll];exact hok
            nodup:=hnd
            ins:=by
              refine wT (by simp [hsl]) (λj h1 h2=>⟨?_,?_⟩)
              · simp only [List.length_map,hll]
                exact List.all_eq_true.1 hSok _ (List.getElem_mem h2)
              · simp only [List.length_map]at h1
                have e:=hlg j (by omega) h1
                have e2:l[j].2=Sin[j].ren (l.map (·.1)):=by
                  have:=congrArg (λx=>x[j]?) hS
                  simp only [List.getElem?_map,List.getElem?_eq_getElem h2,List.getElem?_eq_getElem h1,Option.map_some,so_]at this
                  exact this.symm
                simp only [List.getElem_map]
                show S l[j].1=_
                rw [ag.get e,e2]
            len:=by rw [hsl,hlen,hll];omega
            okR:=hr,okO:=hO,mutN:=by rw [hsl,hll];exact hmu
            roOK:=(λe=>by cases e),have_:=(λn hn=>nomatch hn),cov:=(λn h' => .inr (hn n h')),dis:=(λn _ hn=>nomatch hn) }
  · have hdm:Sout.length-Sin.length=m:=by omega
    have e1:CallData.eff ⟨[],l.map (·.1),args0,Sin,r,Sout,false⟩ S d tk=⟨((l.map (·.1)).zip Sin).map (λp=>(p.1,p.2.ren (l.map (·.1)))),eD (l.map (·.1)++mJ d tk m) (l.map (·.1)++mJ d tk m) Sout,ren (l.map (·.1)++mJ d tk m) r⟩:=by
      simp only [CallData.eff,cond_false,CallData.names,hdm,gp,gz,List.nil_append]
    show K' (CallData.eff _ S d tk)
    rw [e1]
    refine hk _ _ ?_ h
    have e2:(List.range m).map (λj=>(d+100000*j,tk))=mJ d tk m:=rfl
    rw [e2]
    show AgR _ (fe S (eD _ (l.map (·.1)++mJ d tk m) Sout)) tk rest
    rw [Bl,zD]
    have e3:(l.map (·.1)).length=is.length:=by simp [hll]
    rw [e3]
    have ag1:=Cu (ν:=l.map (·.1)++mJ d tk m) ag hi hnd (bs:=Sout) (λj h1 h2=>by
      simp only [List.length_map]at h2
      exact⟨_,by simp only [List.getElem_map];exact hlg j h1 h2⟩)
    rw [List.take_of_length_le (by omega)]at ag1
    have e4:mJ d tk m=(List.range' 0 m).map λj=>(d+100000*j,tk):=by rw [<- e2,IV]
    rw [e4]at ag1 ⊢
    exact AgR.news ok rfl m 0 ⟨ag1.nd,ag1.pos⟩ (λp hp=>⟨.inl (ag1.at_ p hp).1,(ag1.at_ p hp).2⟩)
theorem Er {S:Store}:∀(vs:List V),ArgsOK S vs vs
  | [] => .nil
  | x::vs => .cons (.inl rfl) (Er vs)
theorem Nf {α:Type} {enc:α->List D} {sz:Nat} {b:Bool} {f:Operand} {args:List Operand} {ats:Array TypeId} {fn:FuncId} {caps args0:List V}
    (hc:FnM C.P fn args0 [] (kV b (aG 0) sz ([]:List α)) (kO b sz))
    (hf:ev sl f = .fn fn caps) (hb:aJ C.P fn=true)
    (hn:((args.map (ev sl)++caps).flatMap frz).all (λn=>false)=true) (ha:args.map (ev sl)++caps=args0) (hok:okL 0 args0=true)
    (hw:aO all sl ⟨some d,.call ⟨.value f,args.toArray,ats⟩,ty,pos,after,g⟩=some true)
    (h:∀n:Nm,aX none C all K rest (upd sl d (kV b n sz ([]:List α))) (H++[(n,kB b sz enc ([]:List α))])) :
    aX none C all K (⟨some d,.call ⟨.value f,args.toArray,ats⟩,ty,pos,after,g⟩::rest) sl H:=by
  have ha':∀S tk,AgR H S tk (⟨some d,.call ⟨.value f,args.toArray,ats⟩,ty,pos,after,g⟩::rest)->ArgsOK S (args.map (ev sl)++caps) (renL (([]:List (Nm×Box)).map (·.1)) args0):=λS tk _=>by
    rw [ha]
    have:renL (([]:List (Nm×Box)).map (·.1)) args0=args0:=JC hok
    rw [this];exact Er args0
  have hn':∀n∈(args.map (ev sl)++caps).flatMap frz,n∈([]:List (Nm×Box)).map (·.1):=λn hn'=>by
    cases hx:(args.map (ev sl)++caps).flatMap frz with
    | nil=>rw [hx]at hn';cases hn'
    | cons a b=>rw [hx]at hn;simp at hn
  cases b with
  | false =>
    refine Nk (Sin:=[]) (r := .nil) (Sout:=[]) [] 0 hc hf hb rfl rfl rfl hn' ha' hok rfl rfl List.nodup_nil rfl rfl hw (λν => ?_)
    simp only [List.range_zero,List.map_nil,List.append_nil,news,outs,setH]
    exact JI (λn=>h n)
  | true =>
    refine Nk (Sin:=[]) (r:=vV (aG 0) sz ([]:List α)) (Sout:=[some (.vec sz [])]) [] 1 hc hf hb rfl rfl rfl hn' ha' hok ?_ rfl List.nodup_nil rfl rfl hw (λν => ?_)
    · exact Da (Nat.zero_lt_one)
    · have e1:ren ((([]:List (Nm×Box)).map (·.1))++(List.range 1).map ν) (vV (aG 0) sz ([]:List α))=vV (ν 0) sz ([]:List α):=by
        simp only [List.map_nil,List.nil_append,vV,ren]
        rw [ug (n:=ν 0) (by simp)]
      rw [e1]
      exact h (ν 0)
theorem finK {α:Type} {sz t:Nat} {n:Nm} {e:Exit} {enc:α->List D} (he:e = .normal\/e = .ret) (j:Nat) (h1:sl t = .vs n sz 0 0) (h2:H[j]? = some (n,some (bV sz enc ([]:List α)))) :
    uz C [.tmp t] 0 (vV (aG 0) sz ([]:List α)) [some (.vec sz [])] e sl H :=
  ⟨he,[.vs n sz 0 0],[.vs n sz 0 0],[j],[n],⟨h1,trivial⟩,.cons (.inl rfl) .nil,by
    simp only [FC,vV,ren]
    rw [ug (n:=n) (by simp)];rfl,⟨h2,trivial⟩,by simp,λi hi=>absurd hi (Nat.not_lt_zero i)⟩
theorem finK0 {t:Nat} {e:Exit} (he:e = .normal\/e = .ret) (h1:sl t = .nil):uz C [.tmp t] 0 .nil [] e sl H :=
  ⟨he,[.nil],[.nil],[],[],⟨h1,trivial⟩,.cons (.inl rfl) .nil,rfl,trivial,List.nodup_nil,λi hi=>absurd hi (Nat.not_lt_zero i)⟩
end
section
variable {C:Cfg} {sl:Nat->V} {H:Hp} {q:Qm} {all rest:List Oper} {K:(Nat->V)->Hp->Prop}
variable {d:Nat} {t ty:TypeId} {pos:String} {after:Array Edge} {g:Option (Nat×Bool)}
end
end Go.Eng

/-
  THE ENGINE: functions that are handed two slices in their boxes.
-/
namespace Go.Eng
set_option linter.unusedSectionVars false
variable [DM]
set_option linter.unusedVariables false
set_option linter.unusedSimpArgs false
def okO (os:List (Option Box)):Bool:=os.all λo=>match o with
  | some b=>b.ok 0
  | none=>true
theorem ArgsOK.set {S:Store} {x y x' y':V} (hxy:y'=x'\/y'=co S x'):∀{a b:List V} {i:Nat},ArgsOK S (a.set i x) (b.set i y)->ArgsOK S (a.set i x') (b.set i y')
  | [],[],i,h=>by simpa using h
  | [],b::bs,i,h=>by cases i <;> (simp at h;cases h)
  | a::az,[],i,h=>by cases i <;> (simp at h;cases h)
  | a::az,b::bs,0,h=>by
    simp only [List.set_cons_zero]at h ⊢
    cases h with
    | cons _ t=>exact .cons hxy t
  | a::az,b::bs,i+1,h=>by
    simp only [List.set_cons_succ]at h ⊢
    cases h with
    | cons h1 t=>exact .cons h1 (ArgsOK.set hxy t)
section
variable {C:Cfg} {sl:Nat->V} {H:Hp} {q:Qm} {all rest:List Oper} {K:(Nat->V)->Hp->Prop}
variable {dst:Option Tmp} {d:Nat} {t ty:TypeId} {pos:String} {after:Array Edge} {g:Option (Nat×Bool)}
theorem pick_at {env0 env1:List (Nat×V)} (is:List Nat) (h:pick env0 sl=env0) (e:(is.filterMap λi=>env0[i]?)=env1):pick env1 sl=env1:=by
  subst e
  unfold pick at h ⊢
  have hp:∀p∈env0,(p.1,sl p.1)=p:=by
    intro p hp
    obtain ⟨i,hi,rfl⟩:=List.getElem_of_mem hp
    have:=congrArg (λl=>l[i]?) h
    simpa [List.getElem?_map,List.getElem?_eq_getElem hi]using this
  conv=>rhs;rw [<- List.map_id (is.filterMap λi=>env0[i]?)]
  refine List.map_congr_left (λp h1 => ?_)
  obtain ⟨i,_,hi⟩:=List.mem_filterMap.1 h1
  exact hp p (List.mem_of_getElem? hi)
theorem wy {H0:Hp} (h:H.take H0.length=H0):pre H0 H:=aI h
theorem pre_at {H0 H1:Hp} (hq:pre H0 H) (h:pre H1 H0):pre H1 H:=by
  obtain ⟨is,hn,he⟩:=hq
  obtain ⟨js,hm,hf⟩:=h
  obtain ⟨hl,hg⟩:=EN he
  obtain ⟨hk,hh⟩:=EN hf
  have hjs:∀(a:Nat) (ha:a<js.length),js[a]<is.length:=λa ha=>by
    have:=(List.getElem?_eq_some_iff.1 (hh a ha (by omega))).1
    omega
  refine⟨js.map λj=>is.getD j 0,?_,?_⟩
  · refine List.pairwise_iff_getElem.2 (λa b ha hb hab e => ?_)
    simp only [List.length_map]at ha hb
    have h1:=hjs a ha
    have h2:=hjs b hb
    simp only [List.getElem_map,List.getD_eq_getElem?_getD,List.getElem?_eq_getElem h1,List.getElem?_eq_getElem h2,Option.getD_some]at e
    have hab':=(List.pairwise_iff_getElem.1 hm) a b ha hb hab
    exact hab' ((List.getElem_inj hn).1 e)
  · refine List.ext_getElem (by simp [hk]) (λi h1 h2 => ?_)
    simp only [List.length_map]at h1 h2
    have h3:=hjs i h1
    simp only [List.getElem_map,List.getD_eq_getElem?_getD,List.getElem?_eq_getElem h3,Option.getD_some]
    obtain ⟨l1,e1⟩:=List.getElem?_eq_some_iff.1 (hh i h1 h2)
    rw [hg js[i] h3 l1,e1]
theorem NR {H0:Hp} {is:List Nat} (hg:∀(i:Nat) (h1:i<is.length) (h2:i<H0.length),H[is[i]]? = some H0[i]) (hl:is.length=H0.length) {ν:List Nm}:∀{js:List Nat} {ns:List Nm} {bs:List (Option Box)},Bz H0 ν js ns bs->Bz H ν (js.map λj=>is.getD j 0) ns bs
  | [],[],[],_=>trivial
  | j::_,_::_,_::_,h=>by
    obtain ⟨l1,e1⟩:=List.getElem?_eq_some_iff.1 h.1
    have h3:j<is.length:=by omega
    refine⟨?_,NR hg hl h.2⟩
    simp only [List.getD_eq_getElem?_getD,List.getElem?_eq_getElem h3,Option.getD_some]
    rw [hg j h3 l1,e1]
  | [],_::_,_,h=>h.elim
  | [],[],_::_,h=>h.elim
  | _::_,[],_,h=>h.elim
  | _::_,_::_,[],h=>h.elim
theorem JL {H0:Hp} {ν:List Nm}:∀{js:List Nat} {ns:List Nm} {bs:List (Option Box)},Bz H0 ν js ns bs->∀j∈js,j<H0.length
  | [],_,_,_,j,hj=>by cases hj
  | _::_,_::_,_::_,h,j,hj=>by
    rcases List.mem_cons.1 hj with rfl|hj
    · exact (List.getElem?_eq_some_iff.1 h.1).1
    · exact JL h.2 j hj
  | _::_,[],_,h,_,_=>h.elim
  | _::_,_::_,[],h,_,_=>h.elim
theorem xU {H0:Hp} {k:Nat} {r:V} {Sout:List (Option Box)} {e:Exit} {sl':Nat->V} (hq:pre H0 H) (h:uz C [] k r Sout e sl' H0):uz C [] k r Sout e sl H:=by
  obtain ⟨he,vs,vs',js,ν,h1,h2,h3,h4,h5,h6⟩:=h
  obtain ⟨is,hn,hf⟩:=hq
  obtain ⟨hl,hg⟩:=EN hf
  cases vs with
  | cons v vs=>exact h1.elim
  | nil =>
    cases h2
    refine⟨he,[],[],js.map λj=>is.getD j 0,ν,trivial,.nil,h3,NR hg hl h4,?_,h6⟩
    refine List.pairwise_iff_getElem.2 (λa b ha hb hab e => ?_)
    simp only [List.length_map]at ha hb
    have l1:js[a]<is.length:=by have:=JL h4 _ (List.getElem_mem ha);omega
    have l2:js[b]<is.length:=by have:=JL h4 _ (List.getElem_mem hb);omega
    simp only [List.getElem_map,List.getD_eq_getElem?_getD,List.getElem?_eq_getElem l1,List.getElem?_eq_getElem l2,Option.getD_some]at e
    exact (List.pairwise_iff_getElem.1 h5) a b ha hb hab ((List.getElem_inj hn).1 e)
end
end Go.Eng

/-
  THE ENGINE: a sort of the library's, by its contract off the shelf.
-/
namespace Go.Eng
set_option linter.unusedSectionVars false
variable [DM]
open Go.Sort
set_option linter.unusedVariables false
set_option linter.unusedSimpArgs false
theorem u6.alone {G:Gh} {w:World} {vargs:List Value} {a:V} (h:u6 G w vargs [a]):∃x,vargs=[x]/\RepV G w x a:=by
 obtain ⟨hl,h⟩:=h
 match vargs,hl with
 | [x],_=>exact⟨x,rfl,h 0 (by simp) (by simp)⟩
theorem GD {α:Type} (ed:α->D):∀(xs:List α),(Box.vec 1 (xs.map λx=>[ed x])).all=xs.map λx=>V.d (ed x)
 | []=>rfl
 | x::xs=>by
  have:=GD ed xs
  simp only [Box.all,List.map_cons,List.map_nil,List.flatten_cons,List.cons_append,List.nil_append]at this ⊢
  rw [this]
theorem Gt {α:Type} [Inhabited α] {ev:α->Value} {w:World} {b o:Nat} {d:Array α} {arr:Array Value} {t:TypeId} {fr:Nat×Nat} (h:w.heap[b]? = some (.cells arr t fr)) :
  (putRow ev w b o d).heap[b]? = some (.cells (putCells ev o d arr) t fr):=by
 unfold putRow mapBlock
 simp only [Array.getElem?_modify,if_true,h,Option.map_some,onCells]
theorem ym {α:Type} [Inhabited α] {ev:α->Value} {w:World} {b b' o:Nat} {d:Array α} (h:b'≠b):(putRow ev w b o d).heap[b']? = w.heap[b']? := by
 unfold putRow mapBlock
 simp only [Array.getElem?_modify,if_neg (Ne.symm h)]
theorem O1 {α:Type} (ev:α->Value) (ed:α->D) (h1:∀I w x v,RepD I w v (ed x)->v=ev x) (h2:∀I w x,RepD I w (ev x) (ed x)) (h3:∀x,(ev x).oneCell'=true) [Inhabited α]
  (srt:List α->List α) (hs:∀l,(srt l).length=l.length) {P:Program} {f:FuncId}
  (hC:∀(blk off cap:Nat) (zs:List α) (w:World),Holds ev w blk off zs.toArray->blk<w.heap.size->zs.length<4611686018427387904 ->
   Calls P f #[.slice (some ⟨blk,off,Option.none⟩) zs.length cap] w λe w'=>e = .returned (.tuple #[])/\∃n os,w'=grow (putRow ev (Sort.ahead w n) blk off (srt zs).toArray) os)
  (h0:∀(p:Option Addr) (cap:Nat) (w:World),Calls P f #[.slice p 0 cap] w λe w'=>e = .returned (.tuple #[])/\w'=w)
  {xs:List α} (hx:xs.length<4611686018427387904) :
  FnM P f [dV (aG 0) 1 xs] (([]:List Box)++gI 1 (λx=>[ed x]) xs) (.tup []) (([]:List Box).map some++gT xs (gB 1 (λx=>[ed x]) (srt xs))):=by
 have unit:∀G w,RepV G w (.tuple #[]) (.tup []):=λG w => .tup [] [] rfl (λi h1=>absurd h1 (Nat.not_lt_zero i))
 intro G w vargs hinv hargs
 obtain ⟨v,rfl,hv⟩:=hargs.alone
 cases hxs:xs with
 | nil =>
  rw [hxs]at hv hinv
  have hv':RepD G.imm w v (.sl []):=hv.d_inv
  obtain ⟨p,cap,rfl⟩:∃p cap,v = .slice p 0 cap:=by
   cases hv' with
   | sl0 a cap=>exact⟨_,_,rfl⟩
   | sl b off cap sz _ us=>exact⟨_,_,rfl⟩
  refine (h0 p cap w).mono ?_
  rintro e w' ⟨rfl,rfl⟩
  exact⟨_,G,fO [],1,_,[],rfl,hinv,unit _ _,rfl,List.nodup_nil,λi hi=>absurd hi (Nat.not_lt_zero i),λi bx hb=>by simp [gT]at hb⟩
 | cons y ys =>
  have hB:gB 1 (λx=>[ed x]) (srt xs)=some (.vec 1 ((srt xs).map λx=>[ed x])):=by
   have:=hs xs
   cases hsx:srt xs with
   | nil=>rw [hsx,hxs]at this;simp at this
   | cons a b=>rfl
  rw [<- hxs]
  have hI:(([]:List Box)++gI 1 (λx=>[ed x]) xs)=[.vec 1 (xs.map λx=>[ed x])]:=by rw [hxs];rfl
  have hT:(([]:List Box).map some++gT xs (gB 1 (λx=>[ed x]) (srt xs)))=[some (.vec 1 ((srt xs).map λx=>[ed x]))]:=by rw [hB,hxs];rfl
  rw [hI]at hinv ⊢
  rw [hT]
  have hdv:dV (aG 0) 1 xs = .vs (aG 0) 1 0 xs.length:=by rw [hxs];rfl
  rw [hdv]at hv
  have hS:fO [.vec 1 (xs.map λx=>[ed x])] (aG 0)=some (.vec 1 (xs.map λx=>[ed x])):=by rw [tQ];rfl
  obtain ⟨b,o,sz,hmu,hst,hE⟩:=hinv.box _ _ hS
  have hst':Stands G w (.vec 1 (xs.map λx=>[ed x])) b o sz:=hst
  have hsz:sz=1:=hst'.sz
  subst hsz
  have hpos:xs.length≠0:=by rw [hxs];simp
  generalize hk:xs.length=k at hv
  cases hv with
  | vs0=>exact absurd hk hpos
  | @vs _ b2 o2 _ _ _ cap hm hcap hb =>
   rw [hmu]at hm
   simp only [so_,Prod.mk.injEq]at hm
   obtain ⟨rfl,rfl,_⟩:=hm
   obtain ⟨⟨arr,elem,harr⟩,hnoimm⟩:=hst'.free rfl
   have hall:=GD ed xs
   have hlen:(Box.vec 1 (xs.map λx=>[ed x])).all.length=xs.length:=by rw [hall];simp
   have hroom:o+xs.length<=arr.size:=by have:=hst'.room;rw [hlen,bf harr]at this;exact this
   have hcell:∀j (h:j<xs.length),arr[o+j]? = some (ev xs[j]):=λj h=>by
    obtain ⟨u,hu,_,hr⟩:=hst'.cell j (by rw [hlen];exact h)
    rw [cell_of_row harr]at hu
    have e:(Box.vec 1 (xs.map λx=>[ed x])).all[j]'(by rw [hlen];exact h)=V.d (ed xs[j]):=by simp only [hall,List.getElem_map]
    rw [e]at hr
    rw [hu,h1 _ _ _ _ hr.d_inv]
   have hH:Holds ev w b o xs.toArray:=λj hj=>by
    have hj':j<xs.length:=by simpa using hj
    refine⟨?_,?_⟩
    ·rw [cell_of_row harr,hcell j hj']
     simp [hj']
    ·simp only [World.frozen?,harr];simp
   have hadr:(⟨b,o+0*1,Option.none⟩:Addr)=⟨b,o,Option.none⟩:=by simp
   show Calls P f #[.slice (some ⟨b,o+0*1,Option.none⟩) k cap] w _
   rw [hadr,<- hk]
   refine (hC b o cap xs w hH (hinv.bound _ _ _ _ hmu) hx).mono ?_
   rintro e w' ⟨rfl,n,os,rfl⟩
   have harr':(Sort.ahead w n).heap[b]? = some (.cells arr elem (0,0)):=harr
   have hput:=Gt (ev:=ev) (o:=o) (d:=(srt xs).toArray) harr'
   have hpsz:(putCells ev o (srt xs).toArray arr).size=arr.size:=by simp [putCells]
   have hsl:(srt xs).length=xs.length:=hs xs
   have hall2:=GD ed (srt xs)
   obtain ⟨i1,e1⟩:=hinv.write (w':=putRow ev (Sort.ahead w n) b o (srt xs).toArray) hS rfl hmu (λb' hb'=>ym hb') (by simp [putRow,mapBlock,Sort.ahead]) (by rw [bf harr,bf hput,hpsz];exact Nat.le_refl _) (λe he=>by rw [jT harr]at he;rw [jT hput];exact he) hnoimm rfl rfl rfl (.vec 1 ((srt xs).map λx=>[ed x])) (λe=>by
    show Stands _ _ _ _ _ _
    refine { sz:=rfl,even:=λy hy=>by obtain ⟨z,_,rfl⟩:=List.mem_map.1 hy;rfl,room := ?_,cell:=λj hj => ?_,free:=λ_=>⟨⟨_,_,hput⟩,hnoimm⟩,froz:=λe=>by cases e }
    ·rw [hall2,bf hput,hpsz];simp [hsl];exact hroom
    ·have hj':j<(srt xs).length:=by rw [hall2]at hj;simpa using hj
     refine⟨ev (srt xs)[j],?_,h3 _,?_⟩
     ·rw [cell_of_row hput]
      have hlt:o+j<arr.size:=by omega
      simp only [putCells,Array.getElem?_mapIdx,Array.getElem?_eq_getElem hlt,Option.map_some,List.size_toArray]
      rw [if_pos ⟨by omega,by omega⟩,show o+j-o=j by omega]
      simp [hj']
     ·have e:(Box.vec 1 ((srt xs).map λx=>[ed x])).all[j]'hj=V.d (ed (srt xs)[j]):=by simp only [hall2,List.getElem_map]
      rw [e];exact .d (h2 _ _ _))
   obtain ⟨i2,e2⟩:=i1.more (w':=grow (putRow ev (Sort.ahead w n) b o (srt xs).toArray) os) (λb' hb'=>by
    show ((putRow ev (Sort.ahead w n) b o (srt xs).toArray).heap++os)[b']? = _
    rw [Array.getElem?_append_left hb']) (by simp [grow]) rfl rfl rfl (λ_ _ h=>h) (λ_ _ h => .inl h) rfl (λ_ h=>h)
   refine⟨_,G,_,1,_,[aG 0],rfl,i2,unit _ _,rfl,by simp,λi hi => ?_,λi bx hb => ?_⟩
   ·have:i=0:=by simpa using hi
    subst this;rfl
   ·cases i with
    | zero =>
     simp only [List.getElem?_cons_zero,so_]at hb
     subst hb
     exact⟨aG 0,rfl,by simp [supd,Box.ren]⟩
    | succ i=>simp at hb
def LA (l:List Int):Option (List Int):=if l.length<4611686018427387904 then some (l.mergeSort λx y=>decide (x<=y))else none
theorem Pz {P:Program} {f:FuncId}
  (hC:∀(blk off cap:Nat) (zs:List Int) (w:World),Holds (Value.int .i64) w blk off zs.toArray->blk<w.heap.size->zs.length<4611686018427387904 ->
   Calls P f #[.slice (some ⟨blk,off,Option.none⟩) zs.length cap] w λe w'=>e = .returned (.tuple #[])/\∃n os,w'=grow (putRow (Value.int .i64) (Sort.ahead w n) blk off (zs.mergeSort λx y=>decide (x<=y)).toArray) os)
  (h0:∀(p:Option Addr) (cap:Nat) (w:World),Calls P f #[.slice p 0 cap] w λe w'=>e = .returned (.tuple #[])/\w'=w)
  {xs r:List Int} (hF:LA xs=some r):FnM P f [dV (aG 0) 1 xs] (([]:List Box)++gI 1 eI xs) (.tup []) (([]:List Box).map some++gT xs (gB 1 eI r)):=by
 unfold LA at hF
 split at hF
 ·simp only [so_]at hF
  subst hF
  exact O1 (Value.int .i64) (D.int .i64) (λI w x v h=>by cases h;rfl) (λI w x => .int _ _) (λ_=>rfl) _ (λl=>List.length_mergeSort l) hC h0 ‹_›
 ·cases hF
end Go.Eng

