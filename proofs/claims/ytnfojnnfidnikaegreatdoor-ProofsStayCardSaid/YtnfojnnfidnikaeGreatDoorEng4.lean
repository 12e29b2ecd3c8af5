/-
  The engine: what the machine does to data, shown once for all programs (part 4).
-/
import Derived.Test.YtnfojnnfidnikaeGreatDoorEng3
import Derived.Sort.Row
import Derived.Sort.Grow
/-
  THE ENGINE: parts of a slice over a box; clear.
-/
namespace Go.Eng
set_option linter.unusedSectionVars false
variable [DM]
set_option linter.unusedVariables false
set_option linter.unusedSimpArgs false
theorem Qh {α:Type} {n:Nm} {sz:Nat} {xs:List α} (h:xs ≠ []):gV n sz xs=vV n sz xs:=by cases xs with
 | nil=>exact absurd rfl h
 | cons x xs=>rfl
theorem Gb {α:Type} {sz:Nat} {enc:α->List D} {xs:List α} (h:xs ≠ []):gB sz enc xs=some (bV sz enc xs):=by cases xs with
 | nil=>exact absurd rfl h
 | cons x xs=>rfl
section
variable {C:Cfg} {Q:QH} {sl:Nat->V} {H:Hp} {c:Code}
theorem RX {α:Type} {enc:α->List D} {xs:List α} {sz lo len:Nat} {n:Nm} (k i:Nat) (o:sl k = .vs n sz lo len) (h:H[i]? = some (n,some (bF sz enc xs))) (f:lo+len<=xs.length) (A:wH C c Q (upd sl k (vL enc ((xs.drop lo).take len))) H):wH C c Q sl H :=
 wT A (λS t j=>⟨S,by
  have:=Gst.co ⟨sl,S,t⟩ k
  have e:co S (sl k)=vL enc ((xs.drop lo).take len):=by
   rw [o]
   have B:=j.get h
   have h2:Nat.ble (lo+len) xs.length=true:=Nat.ble_eq_true_of_le f
   simp [co,co1,B,h2,List.map_drop,List.map_take]
  simp only [e]at this
  exact this,j⟩)
end
section
variable {C:Cfg} {sl:Nat->V} {H:Hp} {q:Qm} {all rest:List Oper} {K:(Nat->V)->Hp->Prop}
 {dst:Option Tmp} {t ty e:TypeId} {pos:String} {after:Array Edge} {g:Option (Nat×Bool)}
theorem Qe {α:Type} {enc:α->List D} {xs:List α} {x:Operand} {n:Nm} {sz k len i:Nat} {z:List V} (p:Nat) (W:q=none\/Nat.beq all.length (p+(rest.length+1))=true)
  (Y:∀S tk,AgR H S tk (⟨dst,.call ⟨.builtin .clear,#[x],#[t]⟩,ty,pos,after,g⟩::rest)->okQ q all p [n] true) (B:α)
  (he:bG C.P t=some e) (hs:szT C.P e=some sz) (N:zeroCells C.P e=some z) (R:EE z=some (enc B)) (ho:z.all kW=true) (F:z.length=sz) (f:0<sz)
  (o:ev sl x = .vs n sz k len) (M:k+len<=xs.length) (I:H[i]? = some (n,some (bV sz enc xs)))
  (T:aQ all sl ⟨dst,.call ⟨.builtin .clear,#[x],#[t]⟩,ty,pos,after,g⟩=some true)
  (h:aZ (pO q p [n] true) C all K rest (dI sl dst (.tup [])) (H.set i (n,some (bV sz enc (xs.take k++List.replicate len B++xs.drop (k+len)))))) :
  aZ q C all K (⟨dst,.call ⟨.builtin .clear,#[x],#[t]⟩,ty,pos,after,g⟩::rest) sl H:=by
 refine ol p [n] true W Y (wP I) T (λS tk Z ok L O => ?_)
 have J:S n=some (.vec sz (xs.map enc)):=L.get I
 have j:k+len<=(xs.map enc).length:=by simpa using M
 by_cases h0:len=0
 ·subst h0
  refine zq (A:=⟨[(n,.vec sz (xs.map enc))],[],.tup []⟩) ?_ (O _ (H.set i (n,some (bV sz enc (xs.take k++List.replicate 0 B++xs.drop (k+0))))) ⟨by simp,by simp⟩ (λe=>by cases e) ?_ h)
  ·show yQ C.P t S (ev sl x)=_
   simp only [yQ,he,o,hs,N,J,R]
   rw [if_pos ⟨trivial,trivial,F,ho,j,f⟩,if_pos trivial]
  ·have:=Lx L I (b':=some (bV sz enc (xs.take k++List.replicate 0 B++xs.drop (k+0)))) (λx o=>by simp only [List.replicate_zero,List.append_nil,Nat.add_zero,List.take_append_drop]at o;rw [J];exact o)
   exact this.tail
 ·refine zq (A:=⟨[(n,.vec sz (xs.map enc))],[(n,some (bV sz enc (xs.take k++List.replicate len B++xs.drop (k+len))))],.tup []⟩) ?_ (O _ _ ⟨by simp,by simp⟩ (λe=>by cases e) (L.tail.set I (λx o=>o)) h)
  show yQ C.P t S (ev sl x)=_
  simp only [yQ,he,o,hs,N,J,R]
  rw [if_pos ⟨trivial,trivial,F,ho,j,f⟩,if_neg h0]
  simp [bV,List.map_take,List.map_drop]
def xX {α:Type} (xs:List α) (lo hi:Int):Option Unit:=if 0<=lo/\0<=hi/\lo.toNat<=hi.toNat/\hi.toNat<=xs.length then some ()else none
theorem vJ {α:Type} {xs:List α} {lo hi:Int} {u:Unit} (h:xX xs lo hi=some u):0<=lo/\0<=hi/\lo.toNat<=hi.toNat/\hi.toNat<=xs.length:=by
 unfold xX at h;split at h
 ·assumption
 ·cases h
theorem tN {α:Type} {xs:List α} {lo hi:Int} {u:Unit} (h:xX xs lo hi=some u):lo.toNat+(hi.toNat-lo.toNat)<=xs.length:=by
 have:=vJ h;omega
section part
variable {α:Type} {enc:α->List D} {xs:List α} {sz:Nat} {n:Nm} {x l hi:Operand} {k k':IntKind} {a b:Int} {u:Unit}
theorem Mr (A:C.P.underlying t=some (.slice e)) (hs:szT C.P e=some sz) {lo hi:Option V} {l h:Int} (h1:rD 0 lo=some l.toNat) (h2:rD xs.length hi=some h.toNat) (o:xX xs l h=some u) :
  mo C.P t (vV n sz xs) lo hi none=some (.vs n sz l.toNat (h.toNat-l.toNat)):=by
 obtain ⟨_,_,j,f⟩:=vJ o
 simp only [vV,mo,A,hs,h1,h2]
 rw [if_pos ⟨j,f,trivial⟩,Nat.zero_add]
theorem Dj (A:C.P.underlying t=some (.slice e)) (hs:szT C.P e=some sz) (o:ev sl x=vV n sz xs) (hl:ev sl l = .d (.int k a)) (f:xX xs a xs.length=some u) (j:aQ all sl ⟨dst,.slice t x (some l) none none,ty,pos,after,g⟩=some true)
  (h:aZ q C all K rest (dI sl dst (.vs n sz a.toNat (((xs.length:Int)).toNat-a.toNat))) H):aZ q C all K (⟨dst,.slice t x (some l) none none,ty,pos,after,g⟩::rest) sl H :=
 aL _ j (by
  show mo C.P t (ev sl x) (some (ev sl l)) none none=_
  rw [o,hl];exact Mr A hs (JB (vJ f).1) rfl f) h
theorem Nb (B:C.P.underlying t=some (.slice e)) (hs:szT C.P e=some sz) (A:ev sl x=vV n sz xs) (o:ev sl hi = .d (.int k' b)) (f:xX xs 0 b=some u) (j:aQ all sl ⟨dst,.slice t x none (some hi) none,ty,pos,after,g⟩=some true)
  (h:aZ q C all K rest (dI sl dst (.vs n sz 0 b.toNat)) H):aZ q C all K (⟨dst,.slice t x none (some hi) none,ty,pos,after,g⟩::rest) sl H :=
 aL _ j (by
  show mo C.P t (ev sl x) none (some (ev sl hi)) none=_
  rw [A,o];exact Mr B hs rfl (JB (vJ f).2.1) f) h
end part
end
end Go.Eng

/-
  THE ENGINE: a slice that a function writes into: its box is handed in and handed back.
-/
namespace Go.Eng
set_option linter.unusedSectionVars false
variable [DM]
set_option linter.unusedVariables false
set_option linter.unusedSimpArgs false
def dV {α:Type} (n:Nm) (sz:Nat):List α->V
  | [] => .d (.sl [])
  | x::xs => .vs n sz 0 (x::xs).length
def gI {α:Type} (sz:Nat) (enc:α->List D):List α->List Box
  | []=>[]
  | x::xs=>[.vec sz ((x::xs).map enc)]
def gT {α:Type} (xs:List α) (o:Option Box):List (Option Box):=match xs with
  | []=>[]
  | _::_=>[o]
def neL {α:Type} (xs:List α):Option Unit:=match xs with
  | []=>none
  | _::_=>some ()
def fu {α β:Type} (xs:List α) (ys:List β):Option Unit:=if xs.length=ys.length then some ()else none
def inN (i:Int) (len:Nat):Option Unit:=if 0<=i/\i.toNat<len then some ()else none
abbrev FI {α:Type} (xs:List α) (lo len:Nat):List α:=(xs.drop lo).take len
theorem Tv {α:Type} {xs:List α} {u:Unit} (h:neL xs=some u):xs ≠ []:=by
  cases xs with
  | nil=>cases h
  | cons x xs=>simp
theorem iY {α β:Type} {xs:List α} {ys:List β} {u:Unit} (h:fu xs ys=some u):xs.length=ys.length:=by
  unfold fu at h;split at h
  · assumption
  · cases h
theorem AV {i:Int} {n:Nat} {u:Unit} (h:inN i n=some u):0<=i:=by
  unfold inN at h;split at h
  · rename_i h1;exact h1.1
  · cases h
theorem wU {i:Int} {n:Nat} {u:Unit} (h:inN i n=some u):i.toNat<n:=by
  unfold inN at h;split at h
  · rename_i h1;exact h1.2
  · cases h
theorem Bh {α:Type} {xs:List α} {k len:Nat} {z:α} (h:k+len<=xs.length):xs.length=(xs.take k++List.replicate len z++xs.drop (k+len)).length:=by
  simp only [List.length_append,List.length_take,List.length_replicate,List.length_drop];omega
theorem bC {α:Type} {n:Nm} {sz:Nat} {xs ys:List α} (h:xs.length=ys.length):dV n sz xs=dV n sz ys:=by
  cases xs with
  | nil=>cases ys with
    | nil=>rfl
    | cons y ys=>simp at h
  | cons x xs=>cases ys with
    | nil=>simp at h
    | cons y ys=>simp only [dV,h]
theorem Du {α:Type} {n:Nm} {sz:Nat} {xs:List α} (h:xs ≠ []):dV n sz xs=vV n sz xs:=by cases xs with
  | nil=>exact absurd rfl h
  | cons x xs=>rfl
theorem qY {α:Type} {sz:Nat} {enc:α->List D} {xs ys:List α} (h:ys.length=xs.length):xs=[]->gB sz enc ys=none:=λe=>by
  subst e
  cases ys with
  | nil=>rfl
  | cons y ys=>simp at h
section
variable {C:Cfg} {sl:Nat->V} {H:Hp} {Q:QH} {c:Code}
theorem RA (i:Nat) {n:Nm} {b b':Option Box} (h:H[i]? = some (n,b)) (e:b=b') (f:wH C c Q sl (H.set i (n,b'))):wH C c Q sl H:=by
  subst e
  have hi:=(List.getElem?_eq_some_iff.1 h)
  rwa [<- hi.2,List.set_getElem_self]at f
theorem Pf (k:Nat) {v v':V} (f:sl k=v) (e:v=v') (h:wH C c Q (upd sl k v') H):wH C c Q sl H:=by
  have:upd sl k v'=sl:=by
    funext j
    simp only [upd]
    cases hj:Nat.beq j k with
    | true=>rw [Nat.eq_of_beq_eq_true hj,f,e];rfl
    | false=>rfl
  rw [this]at h;exact h
theorem CP {α:Type} {enc:α->List D} {xs:List α} {sz:Nat} {n:Nm} (k i:Nat) (j:sl k=dV n sz xs) (h:H[i]? = some (n,gF sz enc xs)) (f:wH C c Q (upd sl k (vL enc xs)) H):wH C c Q sl H:=by
  cases xs with
  | nil=>exact Pf k (v':=vL enc ([]:List α)) j rfl f
  | cons x xs=>exact EY k i j h f
end
section
variable {C:Cfg} {sl:Nat->V} {H:Hp} {q:Qm} {all rest:List Oper} {K:(Nat->V)->Hp->Prop}
variable {dst:Option Tmp} {d:Nat} {t ty:TypeId} {pos:String} {after:Array Edge} {g:Option (Nat×Bool)}
theorem Nh (i:Nat) {n:Nm} {b b':Option Box} (h:H[i]? = some (n,b)) (e:b=b') (f:aZ q C all K rest sl (H.set i (n,b'))):aZ q C all K rest sl H:=by
  subst e
  have hi:=(List.getElem?_eq_some_iff.1 h)
  rwa [<- hi.2,List.set_getElem_self]at f
theorem je {α:Type} {xs:List α} {x i:Operand} {k:IntKind} {n:Int} {nm:Nm} {size:Nat} (A:(bG C.P t).bind (szT C.P)=some size) (j:ev sl x=dV nm size xs) (hi:ev sl i = .d (.int k n)) (f:0<=n) (h1:n.toNat<xs.length)
    (o:aQ all sl ⟨dst,.indexAddr t x i,ty,pos,after,g⟩=some true) (h:aZ q C all K rest (dI sl dst (.ref nm (0+n.toNat) 0)) H):aZ q C all K (⟨dst,.indexAddr t x i,ty,pos,after,g⟩::rest) sl H:=by
  cases xs with
  | nil=>simp at h1
  | cons y ys=>exact zO A j hi f h1 o h
theorem xR {α:Type} {n:Nm} {sz:Nat} {xs:List α} {x:Operand} {e:TypeId} (o:C.P.underlying t=some (.slice e)) (f:ev sl x=dV n sz xs) (j:aQ all sl ⟨dst,.call ⟨.builtin .len,#[x],#[t]⟩,ty,pos,after,g⟩=some true)
    (h:aZ q C all K rest (dI sl dst (vI xs.length)) H):aZ q C all K (⟨dst,.call ⟨.builtin .len,#[x],#[t]⟩,ty,pos,after,g⟩::rest) sl H:=by
  cases xs with
  | nil=>exact bA (enc:=λ_:α=>[]) (xs:=[]) o f j h
  | cons y ys=>exact R7 o f j h
theorem Tz {n:Nm} {sz k len:Nat} {x:Operand} {e:TypeId} (o:C.P.underlying t=some (.slice e)) (f:ev sl x = .vs n sz k len) (j:aQ all sl ⟨dst,.call ⟨.builtin .len,#[x],#[t]⟩,ty,pos,after,g⟩=some true)
    (h:aZ q C all K rest (dI sl dst (vI len)) H):aZ q C all K (⟨dst,.call ⟨.builtin .len,#[x],#[t]⟩,ty,pos,after,g⟩::rest) sl H :=
  Eo (v:=vI len) (by rw [f];simp only [FM,o]) j h
theorem Gm {f:Operand} {args:List Operand} {A:Array TypeId} {fn:FuncId} {caps o:List V} {r:V} {Sin:List Box} {Sout:List (Option Box)} (p:Nat) (F:List Nat) {l:List (Nm×Box)} (hp:q=none\/Nat.beq all.length (p+(rest.length+1))=true)
    (Z:∀S tk,AgR H S tk (⟨some d,.call ⟨.value f,args.toArray,A⟩,ty,pos,after,g⟩::rest)->okQ q all p (l.map (·.1)) true) (hc:FnM C.P fn o Sin r Sout)
    (hf:ev sl f = .fn fn caps) (hb:aJ C.P fn=true) (hl:oU H F=some l) (hS:Sin.map (λb=>b.ren (l.map (·.1)))=l.map (·.2)) (L:Sin.all (λb=>b.ok F.length)=true)
    (J:∀n∈(args.map (ev sl)++caps).flatMap frz,n∈l.map (·.1)) (ha:∀S tk,AgR H S tk (⟨some d,.call ⟨.value f,args.toArray,A⟩,ty,pos,after,g⟩::rest)->ArgsOK S (args.map (ev sl)++caps) (renL (l.map (·.1)) o)) (R:okL F.length o=true) (hr:okV Sout.length r=true)
    (hlen:Sout.length=F.length) (hi:F.Nodup) (hO:okOut Sout.length Sout=true)
    (hw:aQ all sl ⟨some d,.call ⟨.value f,args.toArray,A⟩,ty,pos,after,g⟩=some true)
    (v:V) (hv:ren (l.map (·.1)) r=v) (H':Hp) (hH:setH H (outs (l.map (·.1)) F (l.map (·.1)) Sout)=H')
    (h:aZ (pO q p (l.map (·.1)) true) C all K rest (upd sl d v) H') :
    aZ q C all K (⟨some d,.call ⟨.value f,args.toArray,A⟩,ty,pos,after,g⟩::rest) sl H:=by
  subst hv hH
  obtain ⟨B,N⟩:=mD hl
  have Y:Sin.length=l.length:=by have:=congrArg List.length hS;simpa using this
  refine ol p (l.map (·.1)) true hp Z (Ej hl) hw (λS tk K' ok O hk=>wL hf ?_)
  have I:=zw O hi hl
  refine .inl ⟨hb,⟨[],l.map (·.1),o,Sin,r,Sout,false⟩,?_,(λe=>by cases e),?_⟩
  · exact { does := hc
            args:=ha S tk O
            okA:=by simp only [List.length_map,B];exact R
            nodup:=I
            ins:=by
              refine yj (by simp [Y]) (λj h1 h2=>⟨?_,?_⟩)
              · simp only [List.length_map,B]
                exact List.all_eq_true.1 L _ (List.getElem_mem h2)
              · simp only [List.length_map]at h1
                have e:=N j (by omega) h1
                have e2:l[j].2=Sin[j].ren (l.map (·.1)):=by
                  have:=congrArg (λx=>x[j]?) hS
                  simp only [List.getElem?_map,List.getElem?_eq_getElem h2,List.getElem?_eq_getElem h1,Option.map_some,so_]at this
                  exact this.symm
                simp only [List.getElem_map]
                show S l[j].1=_
                rw [O.get e,e2]
            len:=by show Sin.length<=Sout.length;omega
            okR:=hr,okO:=hO,mutN:=by show mutOut (List.drop Sin.length Sout)=true;rw [List.drop_of_length_le (by omega)];rfl
            roOK:=(λe=>by cases e),have_:=(λn J=>nomatch J),cov:=(λn h' => .inr (J n h')),dis:=(λn _ J=>nomatch J) }
  · have T:Sout.length-Sin.length=0:=by omega
    have e1:CallData.eff ⟨[],l.map (·.1),o,Sin,r,Sout,false⟩ S d tk=⟨((l.map (·.1)).zip Sin).map (λp=>(p.1,p.2.ren (l.map (·.1)))),eD (l.map (·.1)) (l.map (·.1)) Sout,ren (l.map (·.1)) r⟩:=by
      simp only [CallData.eff,cond_false,CallData.names,T,ou,List.range_zero,List.map_nil,List.append_nil,ic,ig,List.nil_append]
    show K' (CallData.eff _ S d tk)
    rw [e1]
    refine hk _ _ ⟨λx W => ?_,λx W=>zk W⟩ (λh=>by cases h) ?_ h
    · obtain ⟨y,hy,rfl⟩:=List.mem_map.1 W
      exact (List.of_mem_zip hy).1
    · have e3:(l.map (·.1)).length=F.length:=by simp [B]
      have M:=DT (ν:=l.map (·.1)) O hi I (bs:=Sout) (λj h1 h2=>by
        simp only [List.length_map]at h2
        exact⟨_,by simp only [List.getElem_map];exact N j h1 h2⟩)
      rw [List.take_of_length_le (by omega)]at M
      exact M.tail
theorem D9 {l:List (Nm×Box)} {i:Nat} {n:Nm} {b:Box}:∀{f:List Nat} {l:List (Nm×Box)},oU H f=some l->H[i]? = some (n,some b)->oU H (f++[i])=some (l++[(n,b)])
  | [],l,h,hi=>by
    simp only [oU,so_]at h;subst h
    simp only [List.nil_append,oU,hi]
  | j::f,l,h,hi=>by
    simp only [oU]at h
    split at h
    · rename_i o b' A h1 h2
      simp only [so_]at h;subst h
      simp only [List.cons_append,oU,h1,D9 (l:=l) h2 hi]
    · cases h
theorem wI (ρ:List Nm):∀(vs:List V) (i:Nat) (v:V),renL ρ (vs.set i v)=(renL ρ vs).set i (ren ρ v)
  | [],_,_=>rfl
  | _::_,0,_=>rfl
  | x::vs,i+1,v=>by simp only [List.set_cons_succ,renL,wI ρ vs i v]
theorem CY {k:Nat}:∀{vs:List V} {i:Nat} {v:V},okL k (vs.set i .none)=true->okV k v=true->okL k (vs.set i v)=true
  | [],_,_,_,_=>rfl
  | x::vs,0,v,h,f=>by
    simp only [List.set_cons_zero,okL,Bool.and_eq_true]at h ⊢;exact⟨f,h.2⟩
  | x::vs,i+1,v,h,f=>by
    simp only [List.set_cons_succ,okL,Bool.and_eq_true]at h ⊢;exact⟨h.1,CY h.2 f⟩
theorem nZ {α:Type}:∀{l:List α} {i:Nat} {a:α},l[i]? = some a->l.set i a=l
  | x::l,0,a,h=>by simp at h;subst h;rfl
  | x::l,i+1,a,h=>by simp only [List.set_cons_succ];rw [nZ (by simpa using h)]
  | [],_,_,h=>by simp at h
theorem Cy {α:Type} {a b:List α} {i:Nat} {x y:α} (h:a.set i x=b.set i x):a.set i y=b.set i y:=by
  have:=congrArg (λl=>l.set i y) h
  simpa using this
theorem H9 (ν:List Nm):∀(f:List Nat) (ns:List Nm) (bs:List (Option Box)) (i:Nat) (n:Nm) (o:Option Box),f.length=bs.length->f.length=ns.length->Eng.outs ν (f++[i]) (ns++[n]) (bs++[o])=Eng.outs ν f ns bs++[(i,n,o.map (·.ren ν))]
  | [],[],[],i,n,o,_,_=>rfl
  | j::f,m::ns,b::bs,i,n,o,h1,h2=>by simp only [List.cons_append,Eng.outs];rw [H9 ν f ns bs i n o (by simpa using h1) (by simpa using h2)]
  | [],_::_,_,_,_,_,_,h=>by simp at h
  | [],[],_::_,_,_,_,h,_=>by simp at h
  | _::_,[],_,_,_,_,_,h=>by simp at h
  | _::_,_::_,[],_,_,_,h,_=>by simp at h
theorem Nj (ν j:List Nm):∀(f:List Nat) (ns:List Nm) (bs:List Box),bs.all (λb=>b.ok 0)=true->Eng.outs ν f ns (bs.map some)=Eng.outs j f ns (bs.map some)
  | [],_,_,_=>rfl
  | _::_,[],_,_=>rfl
  | _::_,_::_,[],_=>rfl
  | i::f,n::ns,b::bs,h=>by
    simp only [List.all_cons,Bool.and_eq_true]at h
    simp only [List.map_cons,Eng.outs,Option.map_some,vo h.1,Nj ν j f ns bs h.2]
theorem GL {k:Nat} {os:List Box}:os.all (λb=>b.ok 0)=true->okOut k (os.map some)=true:=by
  induction os with
  | nil=>exact λ_=>rfl
  | cons b os f =>
    intro h
    simp only [List.all_cons,Bool.and_eq_true]at h
    simp only [List.map_cons,okOut,Bool.and_eq_true]
    exact⟨Box.ok_mono (Nat.zero_le _) h.1,f h.2⟩
theorem BD {k:Nat}:∀{a b:List (Option Box)},okOut k a=true->okOut k b=true->okOut k (a++b)=true
  | [],_,_,h=>h
  | none::a,b,h1,h2=>by simp only [List.cons_append,okOut]at h1 ⊢;exact BD h1 h2
  | some y::a,b,h1,h2=>by simp only [List.cons_append,okOut,Bool.and_eq_true]at h1 ⊢;exact⟨h1.1,BD h1.2 h2⟩
theorem DI {vs:List V} {i:Nat} (h:((vs.set i .none).flatMap frz).all (λ_=>false)=true) {n:Nm} (B:n∈vs.flatMap frz):∃v,vs[i]? = some v/\n∈frz v:=by
  have o:(vs.set i .none).flatMap frz=[]:=by
    cases o:(vs.set i .none).flatMap frz with
    | nil=>rfl
    | cons a b=>rw [o]at h;simp at h
  obtain ⟨v,A,f⟩:=List.mem_flatMap.1 B
  obtain ⟨j,hj,rfl⟩:=List.getElem_of_mem A
  by_cases hij:i=j
  · subst hij;exact⟨vs[i],List.getElem?_eq_getElem hj,f⟩
  · exfalso
    have:vs[j]∈vs.set i .none:=by
      have:(vs.set i V.none)[j]'(by simpa using hj)=vs[j]:=by rw [List.getElem_set_ne hij]
      rw [<- this];exact List.getElem_mem _
    have:=ww o _ this
    rw [this]at f;cases f
theorem MF {bs:List Box} (ρ:List Nm) (h:bs.all (λb=>b.ok 0)=true):bs.map (λb=>b.ren ρ)=bs:=by
  induction bs with
  | nil=>rfl
  | cons b bs f=>simp only [List.all_cons,Bool.and_eq_true]at h;simp only [List.map_cons,vo h.1,f h.2]
theorem xJ {a b:List Nm}:∀{vs:List V},okL a.length vs=true->renL (a++b) vs=renL a vs:=by
  intro vs h
  have key:∀n,okN a.length n=true->AU (a++b) n=AU a n:=by
    intro n F
    obtain ⟨i,hi,rfl⟩:=xe F
    rw [wX hi,wX (by simp;omega)]
    simp [List.getElem_append_left hi]
  have go:∀v,okV a.length v=true->ren (a++b) v=ren a v:=by
    intro v
    induction v using V.rec (motive_2:=λvs=>okL a.length vs=true->renL (a++b) vs=renL a vs)with
    | ref n i j=>intro h;simp only [ren];rw [key n h]
    | vs n sz k len=>intro h;simp only [ren];rw [key n h]
    | map n=>intro h;simp only [ren];rw [key n h]
    | fn f caps o=>intro h;simp only [ren];rw [o h]
    | agg cs o=>intro h;simp only [ren];rw [o h]
    | tup vs o=>intro h;simp only [ren];rw [o h]
    | nil=>intro h;rfl
    | cons v vs B A =>
      rename_i h
      simp only [okL,Bool.and_eq_true]at h
      simp only [renL,B h.1,A h.2]
    | _=>intro h;rfl
  induction vs with
  | nil=>rfl
  | cons v vs o =>
    simp only [okL,Bool.and_eq_true]at h
    simp only [renL,go v h.1,o h.2]
theorem jN {α:Type} {enc:α->List D} {sz:Nat} {xs:List α} {f:Operand} {args:List Operand} {ats:Array TypeId} {fn:FuncId} {caps j:List V} {r:V} {bs os:List Box} {o:Option Box} (p:Nat) (A:List Nat) (O B:Nat) {l:List (Nm×Box)} {n:Nm} {w:V}
    (M:q=none\/Nat.beq all.length (p+(rest.length+1))=true)
    (hfp:∀S tk,AgR H S tk (⟨some d,.call ⟨.value f,args.toArray,ats⟩,ty,pos,after,g⟩::rest)->okQ q all p (l.map (·.1)++[n]) true)
    (hc:FnM C.P fn j (bs++gI sz enc xs) r (os.map some++gT xs o))
    (hf:ev sl f = .fn fn caps) (hb:aJ C.P fn=true) (hl:oU H A=some l) (hv:H[O]? = some (n,gB sz enc xs))
    (hS:l.map (·.2)=bs) (T:bs.all (λb=>b.ok 0)=true)
    (hw1:(args.map (ev sl)++caps)[B]? = some w) (N:w=gV n sz xs\/w=dV n sz xs\/w=vV n sz xs/\xs ≠ []) (Y:j[B]? = some (dV (aA A.length) sz xs))
    (hn:(((args.map (ev sl)++caps).set B .none).flatMap frz).all (λn=>false)=true)
    (ha:((args.map (ev sl)++caps).map co0).set B .none=(renL (l.map (·.1)) j).set B .none) (hok:okL A.length (j.set B .none)=true) (hr:okV 0 r=true)
    (W:os.length=A.length) (hi:(A++[O]).Nodup) (hO:os.all (λb=>b.ok 0)=true) (ho:∀b,o=some b->b.ok 0=true) (hon:xs=[]->o=none)
    (hw:aQ all sl ⟨some d,.call ⟨.value f,args.toArray,ats⟩,ty,pos,after,g⟩=some true)
    (H':Hp) (hH:(setH H (outs (l.map (·.1)) A (l.map (·.1)) (os.map some))).set O (n,o)=H')
    (h:aZ (pO q p (l.map (·.1)++[n]) true) C all K rest (upd sl d r) H') :
    aZ q C all K (⟨some d,.call ⟨.value f,args.toArray,ats⟩,ty,pos,after,g⟩::rest) sl H:=by
  have hll:=(mD hl).1
  have hbs:bs.length=l.length:=by rw [<- hS];simp
  have hivs:O∉A:=by
    rw [List.nodup_append]at hi
    exact λI=>hi.2.2 O I O (by simp) rfl
  have hisn:A.Nodup:=(List.nodup_append.1 hi).1
  have hset:∀{l':List (Nat×Nm×Option Box)} {H0:Hp},(∀p∈l',p.1≠O)->(setH H0 l')[O]? = H0[O]? := by
    intro l'
    induction l' with
    | nil=>intro H0 _;rfl
    | cons x l' ih =>
      intro H0 hx
      obtain ⟨i,m,b⟩:=x
      simp only [setH]
      rw [ih (λp M=>hx p (by simp [M]))]
      have:i≠O:=hx (i,m,b) (by simp)
      rw [List.getElem?_set_ne this]
  have houts:∀(ν:List Nm) (A:List Nat) (ns:List Nm) (os:List (Option Box)),∀p∈outs ν A ns os,p.1∈A:=by
    intro ν A
    induction A with
    | nil=>intro ns os p M;simp [outs]at M
    | cons i A ih =>
      intro ns os p M
      cases ns with
      | nil=>simp [outs]at M
      | cons m ns=>cases os with
        | nil=>simp [outs]at M
        | cons o os =>
          simp only [outs,List.mem_cons]at M
          rcases M with rfl|M
          · simp
          · exact List.mem_cons_of_mem _ (ih _ _ _ M)
  have hco:∀(S:Store),(w=gV n sz xs\/w=dV n sz xs\/w=vV n sz xs/\xs ≠ [])->(∀x l,xs=x::l->S n=some (.vec sz (xs.map enc)))->co S w=dV n sz xs:=by
    intro S N hS
    cases hxs:xs with
    | nil =>
      subst hxs
      rcases N with h2|h2|⟨h2,h3⟩
      · rw [h2];rfl
      · rw [h2];rfl
      · exact absurd rfl h3
    | cons x l =>
      have:=hS x l hxs
      have e:w = .vs n sz 0 (x::l).length:=by rcases N with h2 | h2 | ⟨h2,_⟩ <;> rw [h2,hxs] <;> rfl
      rw [e]
      simp only [co,co1,this,dV]
  have Z:∀S:Store,co S w=dV n sz xs->(args.map (ev sl)++caps).map (co S)=((args.map (ev sl)++caps).map co0).set B (dV n sz xs):=by
    intro S hcw
    have h1:(args.map (ev sl)++caps)=((args.map (ev sl)++caps).set B .none).set B w:=by
      rw [List.set_set,nZ hw1]
    have h2:(((args.map (ev sl)++caps).set B .none)).map (co S)=(((args.map (ev sl)++caps).set B .none)).map co0:=Ck (by
      cases hx:((args.map (ev sl)++caps).set B .none).flatMap frz with
      | nil=>rfl
      | cons a b=>rw [hx]at hn;simp at hn)
    have h3:(args.map (ev sl)++caps).map (co S)=((((args.map (ev sl)++caps).set B .none)).map (co S)).set B (co S w):=by
      rw [<- List.map_set,<- h1]
    rw [h3,h2,hcw,List.map_set,List.set_set]
  have h0:=ha
  cases hxs:xs with
  | nil =>
    have hobn:o=none:=hon hxs
    subst hobn
    have hc':FnM C.P fn j bs r (os.map some):=by rw [hxs]at hc;simpa [gI,gT]using hc
    have hq:okL A.length j=true:=by
      have:=CY (v:=dV (aA A.length) sz xs) hok (by rw [hxs];rfl)
      rwa [nZ Y]at this
    refine Gm p A M (λS tk ag=>Lc (λm I=>by simp [I]) (hfp S tk ag)) hc' hf hb hl ?_ ?_ ?_ ?_ hq (wS (Nat.zero_le _) r hr) (by simp [W]) hisn (GL hO) hw r (wW hr) H' ?_ ?_
    · rw [hS,MF _ T]
    · exact List.all_eq_true.2 (λb hb'=>Box.ok_mono (Nat.zero_le _) (List.all_eq_true.1 T b hb'))
    · intro m I
      obtain ⟨v,R,J⟩:=DI hn I
      rw [hw1]at R
      simp only [so_]at R
      subst R
      exfalso
      rcases N with h2|h2|⟨_,h2⟩
      · rw [h2,hxs]at J;cases J
      · rw [h2,hxs]at J;cases J
      · exact h2 hxs
    · intro S tk ag
      refine ArgsOK.of_map ?_
      rw [Z S (hco S N (λx l e=>by rw [hxs]at e;cases e)),Cy ha]
      have:(renL (l.map (·.1)) j)[B]? = some (dV n sz xs):=by
        obtain ⟨hlt,he⟩:=List.getElem?_eq_some_iff.1 Y
        rw [List.getElem?_eq_getElem (by rw [cz];exact hlt),nP _ _ _ _ hlt,he,hxs];rfl
      rw [nZ this]
    · rw [<- hH]
      symm
      apply nZ
      rw [hset (λp M e=>hivs (e ▸ houts _ _ _ _ p M)),hv,hxs];rfl
    · cases q with
      | none=>exact h
      | some Γ =>
        intro S tk ok ag k L hk hL hO'
        refine h S tk ok ag k L hk (λp0 hp0' => ?_) (λe he m I => ?_)
        · rcases hL p0 hp0' with h1 | ⟨e,h1,h2,h3,h4,h5⟩
          · exact .inl h1
          · refine .inr ?_
            rcases List.mem_append.1 h1 with h1|h1
            · exact⟨e,List.mem_append.2 (.inl h1),h2,h3,h4,h5⟩
            · rw [List.mem_singleton]at h1;subst h1
              exact⟨(p,l.map (·.1)++[n],true),by simp,h2,λx hx=>by simp only [List.mem_append];exact .inl (h3 x hx),λx hx=>by simp only [List.mem_append];exact .inl (h4 x hx),λe=>by cases e⟩
        · rcases List.mem_append.1 he with he | he
          · exact hO' e (List.mem_append.2 (.inl he)) m I
          · rw [List.mem_singleton]at he;subst he
            simp only at I
            rcases List.mem_append.1 I with I|I
            · exact hO' (p,l.map (·.1),true) (by simp) m I
            · rw [List.mem_singleton]at I;subst I
              rw [<- hH]at ag
              have:((setH H (outs (l.map (·.1)) A (l.map (·.1)) (os.map some))).set O (m,none))[O]? = some (m,none):=by
                have h1:=(List.getElem?_eq_some_iff.1 hv).1
                rw [List.getElem?_set_self (by rw [Qi];exact h1)]
              exact (ag.at_ _ (List.mem_of_getElem? this)).1
  | cons x l' =>
    have hgB:gB sz enc xs=some (.vec sz (xs.map enc)):=by rw [hxs];rfl
    have hv':H[O]? = some (n,some (.vec sz (xs.map enc))):=by rw [hv,hgB]
    have hc':FnM C.P fn j (bs++[.vec sz (xs.map enc)]) r (os.map some++[o]):=by rw [hxs]at hc ⊢;exact hc
    have hp1:=D9 (l:=l) hl hv'
    have F:(l++[(n,Box.vec sz (xs.map enc))]).map (·.1)=l.map (·.1)++[n]:=by simp
    have hdv:dV (aA A.length) sz xs = .vs (aA A.length) sz 0 xs.length:=by rw [hxs];rfl
    have hq:okL (A++[O]).length j=true:=by
      have:=CY (v:=dV (aA A.length) sz xs) (vX (Nat.le_add_right A.length 1) _ hok) (by rw [hdv];exact GK (ls_ _))
      rw [nZ Y]at this
      simpa using this
    refine Gm p (A++[O]) M (λS tk ag=>by rw [F];exact hfp S tk ag) hc' hf hb hp1 ?_ ?_ ?_ ?_ hq (wS (Nat.zero_le _) r hr) (by simp [W]) hi ?_ hw r (wW hr) H' ?_ ?_
    · rw [List.map_append,MF _ T]
      simp only [List.map_cons,List.map_nil,List.map_append,hS,Box.ren]
    · rw [List.all_append]
      simp only [Bool.and_eq_true]
      exact⟨List.all_eq_true.2 (λb hb'=>Box.ok_mono (Nat.zero_le _) (List.all_eq_true.1 T b hb')),rfl⟩
    · intro m I
      obtain ⟨v,R,J⟩:=DI hn I
      rw [hw1]at R
      simp only [so_]at R
      subst R
      have e:w = .vs n sz 0 xs.length:=by rcases N with h2 | h2 | ⟨h2,_⟩ <;> rw [h2,hxs] <;> rfl
      rw [e]at J
      rw [F]
      have:m=n:=by simpa [frz,Rh]using J
      rw [this];simp
    · intro S tk ag
      refine ArgsOK.of_map ?_
      rw [Z S (hco S N (λ_ _ _=>ag.get hv')),Cy ha,F]
      have hpl:B<j.length:=(List.getElem?_eq_some_iff.1 Y).1
      have h1:j=(j.set B .none).set B (dV (aA A.length) sz xs):=by rw [List.set_set,nZ Y]
      have h2:renL (l.map (·.1)++[n]) j=(renL (l.map (·.1)) (j.set B .none)).set B (dV n sz xs):=by
        conv=>lhs;rw [h1]
        rw [wI,xJ (by simp only [List.length_map,hll];exact hok),hdv]
        simp only [ren]
        rw [tJ (n:=n) (by rw [List.getElem?_append_right (by simp [hll])];simp [hll])]
        rw [hxs];rfl
      rw [h2,wI,List.set_set]
    · refine BD (GL hO) ?_
      cases o with
      | none=>rfl
      | some b=>simp only [okOut,Bool.and_true];exact Box.ok_mono (Nat.zero_le _) (ho b rfl)
    · rw [<- hH,F,H9 _ _ _ _ _ _ _ (by simp [W]) (by simp [hll]),Mh,Nj _ (l.map (·.1)) _ _ _ hO]
      simp only [setH]
      cases o with
      | none=>rfl
      | some b=>simp only [Option.map_some,vo (ho b rfl)]
    · rw [F];exact h
theorem FnM.of_wHv {P:Program} {f:FuncId} {fn:Func} {body:Code} (C:Cfg) (N:C.P=P) (O:P.funcs[f]? = some fn) (hb:fn.body=some body) (L:C.n=fn.ntmps)
    {α:Type} {enc:α->List D} {sz:Nat} {xs:List α} {args:List V} {bs:List Box} {r:V} {Sout:List (Option Box)} (hl:args.length<=fn.ntmps) (B:tC C body=true)
    (h:wH C body (qI C fn.results.toList (bs++gI sz enc xs).length r Sout) (PZ args) (qW 0 bs++[(aA bs.length,gB sz enc xs)])):FnM P f args (bs++gI sz enc xs) r Sout:=by
  refine FnM.of_wpD' O hb N L hl ?_
  have hag:Ag (qW 0 bs++[(aA bs.length,gB sz enc xs)]) (kS (bs++gI sz enc xs)) 1:=by
   refine⟨Nat.one_pos,?_,λp o => ?_⟩
   · rw [List.map_append,List.nodup_append]
     refine⟨IC _ _,by simp,λa M b hb e => ?_⟩
     simp only [List.map_cons,List.map_nil,List.mem_singleton]at hb
     obtain ⟨p,o,rfl⟩:=List.mem_map.1 M
     obtain ⟨j,b',h1,h2⟩:=x8 o
     rw [h1,hb]at e
     simp only [aA,Prod.mk.injEq,and_true]at e
     have:=(List.getElem?_eq_some_iff.1 h2).1
     omega
   · rcases List.mem_append.1 o with o | o
     · obtain ⟨j,b,rfl,hb⟩:=x8 o
       refine⟨Nat.one_pos,λx A => ?_⟩
       simp only [so_]at A
       subst A
       rw [Gq,Nat.zero_add,List.getElem?_append_left (List.getElem?_eq_some_iff.1 hb).1];exact hb
     · simp only [List.mem_singleton]at o
       subst o
       refine⟨Nat.one_pos,λx A => ?_⟩
       rw [Gq,List.getElem?_append_right (Nat.le_refl _),Nat.sub_self]
       cases xs with
       | nil=>cases A
       | cons y ys=>exact A
  obtain ⟨J,F,I⟩:=h B _ 1 hag
  exact⟨J,F,mW body (λe σ h=>PL h) I⟩
theorem oq {α:Type} {enc:α->List D} {sz:Nat} {T:List ResultVar} {r:V} {e:Exit} {bs os:List Box} {xs:List α} {o:Option Box} (he:e = .normal\/e = .ret) (vs:List V) (h1:GX C sl H T vs) (h2:(vs.flatMap frz).all (λ_=>false)=true) (N:Jp (vs.map co0)=r) (I:okV 0 r=true)
    (A:bs.length=os.length) (hj:H[os.length]? = some (aA os.length,o)) (hO:os.all (λb=>b.ok 0)=true) (ho:∀b,o=some b->b.ok 0=true) (W:H.take os.length=qW 0 os) :
    qI C T (bs++gI sz enc xs).length r (os.map some++gT xs o) e sl H:=by
  have R:vs.flatMap frz=[]:=by
    cases M:vs.flatMap frz with
    | nil=>rfl
    | cons a b=>rw [M]at h2;simp at h2
  have hc:∀{vs:List V},vs.flatMap frz=[]->CoL H vs (vs.map co0):=by
    intro vs
    induction vs with
    | nil=>exact λ_ => .nil
    | cons v vs L=>exact λh => .cons (oh (ww h v (by simp)) rfl) (L (by simp only [List.flatMap_cons,List.append_eq_nil_iff]at h;exact h.2))
  have f:∀i (h:i<os.length),H[i]? = some (aA i,some os[i]):=λi hi=>by
    have:=sQ os 0 i hi
    rw [Nat.zero_add,<- W,List.getElem?_take,if_pos hi]at this
    exact this
  have B:∀{ν:List Nm} {l:List Box} {j:Nat} {J:List Nat} {ns:List Nm} {bs:List (Option Box)},(∀b∈l,b.ok 0=true)->(∀i (h:i<l.length),H[j+i]? = some (aA (j+i),some l[i]))->Ba H ν J ns bs->Ba H ν (List.range' j l.length++J) ((List.range' j l.length).map aA++ns) (l.map some++bs):=by
    intro ν l
    induction l with
    | nil=>exact λ_ _ h=>h
    | cons b l L =>
      intro j J ns bs hb O I
      simp only [List.length_cons,List.range'_succ,List.map_cons,List.cons_append]
      refine⟨?_,L (λx M=>hb x (by simp [M])) (λi hi => ?_) I⟩
      · have:=O 0 (by simp)
        simp only [Option.map_some,vo (hb b (by simp))]
        exact this
      · have:=O (i+1) (by simpa using hi)
        rw [show j+1+i=j+(i+1) by omega]
        exact this
  have F:∀b∈os,b.ok 0=true:=λb hb=>List.all_eq_true.1 hO b hb
  cases xs with
  | nil =>
    refine⟨he,vs,vs.map co0,List.range' 0 os.length++[],(List.range' 0 os.length).map aA++[],h1,hc R,by rw [N,wW I],B F (λi hi=>by rw [Nat.zero_add];exact f i hi) trivial,by simp [List.nodup_range'],λi hi => ?_⟩
    have:i<os.length:=by simpa [gI,A]using hi
    simp [this]
  | cons x xs =>
    refine⟨he,vs,vs.map co0,List.range' 0 os.length++[os.length],(List.range' 0 os.length).map aA++[aA os.length],h1,hc R,by rw [N,wW I],
      B F (λi hi=>by rw [Nat.zero_add];exact f i hi) ⟨?_,trivial⟩,?_,λi hi => ?_⟩
    · rw [hj]
      cases o with
      | none=>rfl
      | some b=>simp only [Option.map_some,vo (ho b rfl)]
    · rw [List.nodup_append]
      refine⟨List.nodup_range',by simp,λa Y b hb => ?_⟩
      simp only [List.mem_singleton]at hb
      simp only [List.mem_range'_1]at Y
      omega
    · have Z:i<os.length+1:=by simpa [gI,A]using hi
      by_cases hlt:i<os.length
      · rw [List.getElem?_append_left (by simpa using hlt)];simp [hlt]
      · have:i=os.length:=by omega
        subst this
        rw [List.getElem?_append_right (by simp)];simp
theorem jm {α:Type} {sz:Nat} {enc:α->List D} {xs:List α}:∀b,gB sz enc xs=some b->b.ok 0=true:=by
  intro b h
  cases xs with
  | nil=>cases h
  | cons x xs=>cases h;rfl
theorem F5:∀b,(none:Option Box)=some b->b.ok 0=true:=λb h=>by cases h
end
end Go.Eng

/-
  THE ENGINE: rules for maps, arrays and new slices of zeros.
-/
namespace Go.Eng
set_option linter.unusedSectionVars false
variable [DM]
set_option linter.unusedVariables false
set_option linter.unusedSimpArgs false
def vW {K T:Type} (eq:K->K->Bool) (k:K):List (K×T)->Option Nat
 | []=>none
 | e::es=>if eq k e.1=true then some 0 else (vW eq k es).map (· + 1)
def Oo {K T:Type} (eq:K->K->Bool) (es:List (K×T)) (k:K):Option T:=match vW eq k es with
 | some j=>(es[j]?).map (·.2)
 | none=>none
def R6 {K T:Type} (eq:K->K->Bool) (es:List (K×T)) (k:K) (v:T):List (K×T):=match vW eq k es with
 | some j=>es.set j (k,v)
 | none=>es++[(k,v)]
abbrev bM {K T:Type} (kD:K->D) (vD:T->D) (es:List (K×T)):Box := .map (es.map λe=>(kD e.1,vD e.2))
abbrev eqS (a b:ByteArray):Bool:=a==b
abbrev eqI (a b:Int):Bool:=a==b
theorem Ld {K T:Type} {eq:K->K->Bool} {k:K}:∀{es:List (K×T)} {j:Nat},vW eq k es=some j->j<es.length
 | e::es,j,h=>by
  simp only [vW]at h
  split at h
  ·simp only [so_]at h;subst h;simp
  ·simp only [Option.map_eq_some_iff]at h
   obtain ⟨i,hi,rfl⟩:=h
   have:=Ld hi
   simpa using this
theorem yP {K T:Type} {eq:K->K->Bool} {kD:K->D} {vD:T->D} {k:K} (he:∀a b,uZ (kD a) (kD b)=some (eq a b)):∀(es:List (K×T)),ul (kD k) (es.map λe=>(kD e.1,vD e.2))=some (vW eq k es)
 | []=>rfl
 | e::es=>by
  simp only [List.map_cons,ul,he,vW]
  cases h:eq k e.1 with
  | true=>simp
  | false=>simp [yP he es]
section
variable {C:Cfg} {sl:Nat->V} {H:Hp} {q:Qm} {all rest:List Oper} {K:(Nat->V)->Hp->Prop}
variable {dst:Option Tmp} {d:Nat} {t ty:TypeId} {pos:String} {after:Array Edge} {g:Option (Nat×Bool)}
theorem Qw (p:Nat) (F:q=none\/Nat.beq all.length (p+(rest.length+1))=true) (o:aQ all sl ⟨some d,.makeMap t none,ty,pos,after,g⟩=some true)
  (h:∀n:Nm,aZ (pO q p [n] true) C all K rest (upd sl d (.map n)) (H++[(n,some (.map []))])):aZ q C all K (⟨some d,.makeMap t none,ty,pos,after,g⟩::rest) sl H :=
 vH rfl p [] F (λ_ _ _=>yM) (λm f=>by cases f) o (λS tk I ok j B=>jb (A:=⟨[],[((d,tk),some (.map []))],.map (d,tk)⟩) (λc e=>by cases e) rfl
  (B _ _ _ (.inl rfl) ⟨by simp,by simp⟩ (j.new ok rfl _) (h (d,tk))))
theorem TR {Kt T:Type} {eq:Kt->Kt->Bool} {kD:Kt->D} {vD:T->D} {es:List (Kt×T)} {k:Kt} {z:T} {x i:Operand} {kt et:TypeId} {ok:Bool} {n:Nm} (p j:Nat) (L:q=none\/Nat.beq all.length (p+(rest.length+1))=true)
  (Y:∀S tk,AgR H S tk (⟨dst,.lookup t x i ok,ty,pos,after,g⟩::rest)->okQ q all p [n] false) (he:∀a b,uZ (kD a) (kD b)=some (eq a b)) (I:CU C.P t=some (kt,et)) (o:uY C.P kt (kD k)=true) (J:zeroV C.P et=some (.d (vD z)))
  (O:ev sl x = .map n) (hi:ev sl i = .d (kD k)) (B:H[j]? = some (n,some (bM kD vD es))) (v:V) (W:C8 ok (.d (vD ((Oo eq es k).getD z))) (Oo eq es k).isSome=v)
  (R:aQ all sl ⟨dst,.lookup t x i ok,ty,pos,after,g⟩=some true) (h:aZ (pO q p [n] false) C all K rest (dI sl dst v) H):aZ q C all K (⟨dst,.lookup t x i ok,ty,pos,after,g⟩::rest) sl H:=by
 subst W
 refine ol p [n] false L Y (wP B) R (λS tk Z N F M=>jb (A:=⟨[(n,bM kD vD es)],[],C8 ok (.d (vD ((Oo eq es k).getD z))) (Oo eq es k).isSome⟩) (λc e=>by cases e) ?_ (M _ H ⟨by simp,by simp⟩ (λ_=>rfl) F.tail h))
 show vF C.P t S (ev sl x) (ev sl i) ok=_
 unfold vF
 rw [I,hi,O]
 simp only [o,cond_true,F.get B,yP he]
 unfold Oo
 cases hj:vW eq k es with
 | none=>simp only [J,Option.map_some,Option.getD_none,Option.isSome_none]
 | some j =>
  have f:=Ld hj
  simp only [List.getElem?_map,List.getElem?_eq_getElem f,Option.map_some,Option.getD_some,Option.isSome_some]
theorem Tc {Kt T:Type} {eq:Kt->Kt->Bool} {kD:Kt->D} {vD:T->D} {es:List (Kt×T)} {k:Kt} {v:T} {m i x:Operand} {kt et:TypeId} {n:Nm} (p j:Nat) (L:q=none\/Nat.beq all.length (p+(rest.length+1))=true)
  (R:∀S tk,AgR H S tk (⟨dst,.mapUpdate t m i x,ty,pos,after,g⟩::rest)->okQ q all p [n] true) (he:∀a b,uZ (kD a) (kD b)=some (eq a b)) (J:CU C.P t=some (kt,et)) (B:uY C.P kt (kD k)=true)
  (o:ev sl m = .map n) (hi:ev sl i = .d (kD k)) (I:datum (ev sl x)=some (vD v)) (f:H[j]? = some (n,some (bM kD vD es)))
  (O:aQ all sl ⟨dst,.mapUpdate t m i x,ty,pos,after,g⟩=some true) (h:aZ (pO q p [n] true) C all K rest (dI sl dst .none) (H.set j (n,some (bM kD vD (R6 eq es k v))))):aZ q C all K (⟨dst,.mapUpdate t m i x,ty,pos,after,g⟩::rest) sl H:=by
 refine ol p [n] true L R (wP f) O (λS tk W N F M=>jb (A:=⟨[(n,bM kD vD es)],[(n,some (bM kD vD (R6 eq es k v)))],.none⟩) (λc e=>by cases e) ?_ (M _ _ ⟨by simp,by simp⟩ (λe=>by cases e) (F.tail.set f (λx o=>o)) h))
 show kY C.P t S (ev sl m) (ev sl i) (ev sl x)=_
 rw [KU I]
 unfold oF
 rw [J,hi,o,I]
 simp only [B,cond_true,F.get f,yP he]
 unfold R6
 cases hj:vW eq k es with
 | none=>simp only [bM,List.map_append,List.map_cons,List.map_nil]
 | some j=>simp only [bM,List.map_set]
theorem BV {α:Type} {enc:α->List D} {size:Nat} (hl:∀y,(enc y).length=size):∀(xs:List α) (i:Nat) (y:α),xs[i]? = some y->∃r,((xs.map enc).flatten).drop (i*size)=enc y++r
 | x::xs,0,y,h=>by
  simp only [List.getElem?_cons_zero,so_]at h;subst h
  exact⟨(xs.map enc).flatten,by simp⟩
 | x::xs,i+1,y,h=>by
  obtain ⟨r,f⟩:=BV hl xs i y (by simpa using h)
  refine⟨r,?_⟩
  simp only [List.map_cons,List.flatten_cons]
  rw [Nat.add_mul,Nat.one_mul,Nat.add_comm,<- List.drop_drop,<- hl x,List.drop_left,hl x]
  exact f
 | [],_,_,h=>by simp at h
theorem SE {α:Type} {enc:α->List D} {xs:List α} {x i:Operand} {k:IntKind} {n:Int} {y:α} {size e m:Nat} {agg:Bool} {ds:List D} (J:C.P.underlying t=some (.array m e)) (hs:szT C.P e=some size) (O:bU C.P e=agg) (L:ev sl x = .d (.agg ds)) (o:(xs.map enc).flatten=ds) (I:xs.length=m)
  (hi:ev sl i = .d (.int k n)) (j:idx xs n=some y) (hl:∀y,(enc y).length=size) (hsz:agg=true\/size=1) (v:V) (R:rdD agg size (enc y)=some v)
  (M:aQ all sl ⟨dst,.index t x i,ty,pos,after,g⟩=some true) (h:aZ q C all K rest (dI sl dst v) H):aZ q C all K (⟨dst,.index t x i,ty,pos,after,g⟩::rest) sl H :=
 aL v M (by
  show Ah C.P t (ev sl x) (ev sl i)=_
  unfold idx at j
  split at j
  ·rename_i F
   have A:n.toNat<m:=by rw [<- I];exact (List.getElem?_eq_some_iff.1 j).1
   obtain ⟨r,N⟩:=BV hl xs n.toNat y j
   rw [L,hi]
   have hc:(decide (0<=n)&&Nat.blt n.toNat m)=true:=by simp [F,Nat.blt_eq,A]
   simp only [Ah,J,hs,hc,cond_true,O]
   rw [<- o,N]
   rw [<- R]
   have f:=hl y
   unfold rdD
   cases agg with
   | true =>
    have h1:Nat.ble size (enc y++r).length=true:=Nat.ble_eq_true_of_le (by rw [List.length_append,f];omega)
    have h2:Nat.ble size (enc y).length=true:=Nat.ble_eq_true_of_le (by omega)
    simp only [cond_true,h1,h2]
    rw [List.take_append_of_le_length (by omega)]
   | false =>
    simp only [cond_false]
    cases he:enc y with
    | nil=>rw [he]at f;rcases hsz with B | B;cases B;simp at f;omega
    | cons c cs=>rfl
  ·cases j) h
def mkN (n:Int) (bytes:Nat):Option Nat:=if 0<=n/\n*bytes<=281474976710656/\n<=281474976710656 then some n.toNat else none
theorem Rx {α:Type} {enc:α->List D} {x y:Operand} {k k':IntKind} {n:Int} {m e sz F:Nat} {z:List V} (p:Nat) (M:q=none\/Nat.beq all.length (p+(rest.length+1))=true) (j:α)
  (he:bG C.P t=some e) (hs:szT C.P e=some sz) (J:zeroCells C.P e=some z) (hb:fI C.P e=F) (W:EE z=some (enc j)) (B:z.length=sz) (f:0<sz) (ho:z.all kW=true)
  (O:ev sl x = .d (.int k n)) (L:ev sl y = .d (.int k' n)) (o:mkN n F=some m)
  (R:aQ all sl ⟨some d,.makeSlice t x y,ty,pos,after,g⟩=some true)
  (h:∀nm:Nm,aZ (pO q p [nm] true) C all K rest (upd sl d (vV nm sz (List.replicate m j))) (H++[(nm,some (bV sz enc (List.replicate m j)))])):aZ q C all K (⟨some d,.makeSlice t x y,ty,pos,after,g⟩::rest) sl H:=by
 unfold mkN at o
 split at o
 ·rename_i hc
  simp only [so_]at o;subst o
  refine vH rfl p [] M (λ_ _ _=>yM) (λm I=>by cases I) R (λS tk Y ok T N=>jb (A:=⟨[],[((d,tk),some (bV sz enc (List.replicate n.toNat j)))],vV (d,tk) sz (List.replicate n.toNat j)⟩) (λc e=>by cases e) ?_
   (N _ _ _ (.inl rfl) ⟨by simp,by simp⟩ (T.new ok rfl _) (h (d,tk))))
  show qM C.P t (ev sl x) (ev sl y) d tk=_
  unfold qM
  rw [he,O,L]
  simp only [hs,J,hb]
  by_cases hn0:n=0
  ·rw [if_pos ⟨hn0,Int.le_refl _,hc.2.1,hc.2.2,B,f⟩]
   subst hn0
   simp [bV,vV]
  ·rw [if_neg (λh=>hn0 h.1),if_pos ⟨hc.1,trivial,hc.2.1,hc.2.2,B,f,ho⟩,W]
   simp [bV,vV]
 ·cases o
end
end Go.Eng

/-
  THE ENGINE: slices with room made ahead; functions that are handed two slices in their boxes.
-/
namespace Go.Eng
set_option linter.unusedSectionVars false
variable [DM]
set_option linter.unusedVariables false
set_option linter.unusedSimpArgs false
def kV {α:Type} (b:Bool) (n:Nm) (sz:Nat) (xs:List α):V:=match b with
  | true=>vV n sz xs
  | false=>gV n sz xs
def kB {α:Type} (b:Bool) (sz:Nat) (enc:α->List D) (xs:List α):Option Box:=match b with
  | true=>some (bV sz enc xs)
  | false=>gB sz enc xs
def kF {α:Type} (b:Bool) (sz:Nat) (enc:α->List D) (xs:List α):Option Box:=match b with
  | true=>some (bF sz enc xs)
  | false=>gF sz enc xs
def kO (b:Bool) (sz:Nat):List (Option Box):=match b with
  | true=>[some (.vec sz [])]
  | false=>[]
def zN (n:Int) (bytes:Nat):Option Unit:=if 0<n/\n*bytes<=2 ^ 47/\n<=2 ^ 47 then some ()else none
section
variable {C:Cfg} {Q:QH} {sl:Nat->V} {H:Hp} {c:Code}
theorem TL {α:Type} {enc:α->List D} {xs:List α} {sz:Nat} {n:Nm} {b:Bool} (i:Nat) (h:H[i]? = some (n,kB b sz enc xs)) (f:wH C c Q sl (H.set i (n,kF b sz enc xs))):wH C c Q sl H:=by
  cases b with
  | true=>exact Gl i h f
  | false=>exact iq i h f
theorem Oy {α:Type} {enc:α->List D} {xs:List α} {sz:Nat} {n:Nm} {b:Bool} (k i:Nat) (j:sl k=kV b n sz xs) (h:H[i]? = some (n,kF b sz enc xs)) (f:wH C c Q (upd sl k (vL enc xs)) H):wH C c Q sl H:=by
  cases b with
  | true=>exact EY k i j h f
  | false=>exact cO k i j h f
end
section
variable {C:Cfg} {sl:Nat->V} {H:Hp} {q:Qm} {all rest:List Oper} {K:(Nat->V)->Hp->Prop}
variable {dst:Option Tmp} {d:Nat} {t ty:TypeId} {pos:String} {after:Array Edge} {g:Option (Nat×Bool)}
theorem Sr {α:Type} {enc:α->List D} {xs ys zs:List α} {x y:Operand} {t' e e':TypeId} {sz bytes i:Nat} {n:Nm} {z:List V} {b:Bool} (p:Nat) (A:q=none\/Nat.beq all.length (p+(rest.length+1))=true) (W:∀S tk,AgR H S tk (⟨some d,.call ⟨.builtin .append,#[x,y],#[t,t']⟩,ty,pos,after,g⟩::rest)->okQ q all p [n] true) (he:bG C.P t=some e) (o:bG C.P t'=some e') (hs:szT C.P e=some sz) (J:zeroCells C.P e=some z) (F:z.length=sz) (O:0<sz) (B:fI C.P e=bytes) (j:bytes<=100000)
    (f:∀y,(enc y).length=sz) (L:ev sl x=kV b n sz xs) (T:H[i]? = some (n,kB b sz enc xs)) (M:ev sl y=vL enc ys) (R:kv xs ys=some zs)
    (N:aQ all sl ⟨some d,.call ⟨.builtin .append,#[x,y],#[t,t']⟩,ty,pos,after,g⟩=some true)
    (h:∀I:Nm,aZ (pO q p [n,I] true) C all K rest (upd sl d (kV b I sz zs)) (H.set i (I,kB b sz enc zs))):aZ q C all K (⟨some d,.call ⟨.builtin .append,#[x,y],#[t,t']⟩,ty,pos,after,g⟩::rest) sl H:=by
  cases b with
  | true=>exact h_appv p A W he o hs J F O B j f L T M R N h
  | false=>exact jF p A W he o hs J F O B j f L T M R N h
theorem Lp {x:Operand} {e:TypeId} (o:C.P.underlying t=some (.slice e)) (j:ev sl x = .nil) (f:aQ all sl ⟨dst,.call ⟨.builtin .len,#[x],#[t]⟩,ty,pos,after,g⟩=some true)
    (h:aZ q C all K rest (dI sl dst (vI 0)) H):aZ q C all K (⟨dst,.call ⟨.builtin .len,#[x],#[t]⟩,ty,pos,after,g⟩::rest) sl H :=
  Eo (v:=vI 0) (by rw [j];simp only [FM,o]) f h
theorem K8 {x:Operand} {e:TypeId} (he:bG C.P t=some e) (f:ev sl x = .nil) (o:aQ all sl ⟨dst,.call ⟨.builtin .cap,#[x],#[t]⟩,ty,pos,after,g⟩=some true)
    (h:aZ q C all K rest (dI sl dst (vI 0)) H):aZ q C all K (⟨dst,.call ⟨.builtin .cap,#[x],#[t]⟩,ty,pos,after,g⟩::rest) sl H :=
  nW o (λS tk B _ j=>zq (A:=⟨[],[],vI 0⟩) (by
    show (Uo C.P t (ev sl x)).bind gM=_
    rw [f];simp only [Uo,he];rfl) (j _ rfl rfl rfl)) h
theorem UB {α:Type} {enc:α->List D} {x y:Operand} {t' e:TypeId} {sz f:Nat} {z:List V} {k:IntKind} {n:Int} {u:Unit} (p:Nat) (j:q=none\/Nat.beq all.length (p+(rest.length+1))=true) (he:bG C.P t=some e) (hi:qb C.P t'=true) (hs:szT C.P e=some sz) (J:zeroCells C.P e=some z) (F:z.length=sz) (T:0<sz) (B:fI C.P e=f)
    (L:ev sl x = .nil) (M:ev sl y = .d (.int k n)) (o:zN n f=some u)
    (N:aQ all sl ⟨some d,.call ⟨.builtin .append,#[x,y],#[t,t']⟩,ty,pos,after,g⟩=some true)
    (h:∀nm:Nm,aZ (pO q p [nm] true) C all K rest (upd sl d (.vs nm sz 0 n.toNat)) (H++[(nm,some (bV sz enc ([]:List α)))])):aZ q C all K (⟨some d,.call ⟨.builtin .append,#[x,y],#[t,t']⟩,ty,pos,after,g⟩::rest) sl H:=by
  unfold zN at o
  split at o
  · rename_i hc
    refine vH rfl p [] j (λ_ _ _=>yM) (λm I=>by cases I) N (λS tk W ok R O=>zq (A:=⟨[],[((d,tk),some (bV sz enc ([]:List α)))],.vs (d,tk) sz 0 n.toNat⟩) ?_
      (O _ _ _ (.inl rfl) ⟨by simp,by simp⟩ (R.new ok rfl _) (h (d,tk))))
    show (bif qb C.P t' then vR C.P t t' (ev sl x) (ev sl y) d tk else _)=_
    rw [hi,cond_true,L,M]
    simp only [vR,he,hi,cond_true,hs,J]
    rw [if_pos ⟨hc.1,T,F,by rw [B];exact hc.2.1,hc.2.2⟩]
    rfl
  · cases o
theorem UE {x hi:Operand} {e:TypeId} {n:Nm} {sz k len m:Nat} {j:IntKind} {b:Int} (F:C.P.underlying t=some (.slice e)) (hs:szT C.P e=some sz) (o:ev sl x = .vs n sz k len) (B:ev sl hi = .d (.int j b)) (hb:b=(m:Int)) (f:m<=len)
    (A:aQ all sl ⟨dst,.slice t x none (some hi) none,ty,pos,after,g⟩=some true) (h:aZ q C all K rest (dI sl dst (.vs n sz k m)) H):aZ q C all K (⟨dst,.slice t x none (some hi) none,ty,pos,after,g⟩::rest) sl H :=
  aL _ A (by
    show mo C.P t (ev sl x) none (some (ev sl hi)) none=_
    rw [o,B,hb]
    have:rD len (some (.d (.int j (m:Int))))=some m:=by simp [rD]
    simp only [mo,F,hs,this]
    rw [show rD 0 none=some 0 from rfl]
    simp only
    rw [if_pos ⟨Nat.zero_le _,f,trivial⟩]
    simp) h
theorem P7 {f:Operand} {args:List Operand} {I:Array TypeId} {fn:FuncId} {caps o:List V} {r:V} {Sin:List Box} {Sout:List (Option Box)} (F:List Nat) (m:Nat) {l:List (Nm×Box)} (hc:FnM C.P fn o Sin r Sout)
    (hf:ev sl f = .fn fn caps) (hb:aJ C.P fn=true) (hl:oU H F=some l) (hS:Sin.map (λb=>b.ren (l.map (·.1)))=l.map (·.2)) (O:Sin.all (λb=>b.ok F.length)=true)
    (N:∀n∈(args.map (ev sl)++caps).flatMap frz,n∈l.map (·.1)) (ha:∀S tk,AgR H S tk (⟨some d,.call ⟨.value f,args.toArray,I⟩,ty,pos,after,g⟩::rest)->ArgsOK S (args.map (ev sl)++caps) (renL (l.map (·.1)) o)) (Y:okL F.length o=true) (hr:okV Sout.length r=true)
    (L:Sout.length=F.length+m) (hi:F.Nodup) (hO:okOut Sout.length Sout=true) (hmu:mutOut (Sout.drop F.length)=true)
    (hw:aQ all sl ⟨some d,.call ⟨.value f,args.toArray,I⟩,ty,pos,after,g⟩=some true)
    (h:∀ν:Nat->Nm,aZ none C all K rest (upd sl d (ren (l.map (·.1)++(List.range m).map ν) r))
      (setH H (outs (l.map (·.1)++(List.range m).map ν) F (l.map (·.1)) Sout)++news (l.map (·.1)++(List.range m).map ν) ((List.range m).map ν) (Sout.drop F.length))) :
    aZ none C all K (⟨some d,.call ⟨.value f,args.toArray,I⟩,ty,pos,after,g⟩::rest) sl H:=by
  obtain ⟨B,R⟩:=mD hl
  have J:Sin.length=l.length:=by have:=congrArg List.length hS;simpa using this
  refine NU hw (λS tk K' ok W hk=>wL hf ?_)
  have h:=h (λj=>(d+100000*j,tk))
  have M:=zw W hi hl
  refine .inl ⟨hb,⟨[],l.map (·.1),o,Sin,r,Sout,false⟩,?_,(λe=>by cases e),?_⟩
  · exact { does := hc
            args:=ha S tk W
            okA:=by simp only [List.length_map,B];exact Y
            nodup:=M
            ins:=by
              refine yj (by simp [J]) (λj h1 h2=>⟨?_,?_⟩)
              · simp only [List.length_map,B]
                exact List.all_eq_true.1 O _ (List.getElem_mem h2)
              · simp only [List.length_map]at h1
                have e:=R j (by omega) h1
                have T:l[j].2=Sin[j].ren (l.map (·.1)):=by
                  have:=congrArg (λx=>x[j]?) hS
                  simp only [List.getElem?_map,List.getElem?_eq_getElem h2,List.getElem?_eq_getElem h1,Option.map_some,so_]at this
                  exact this.symm
                simp only [List.getElem_map]
                show S l[j].1=_
                rw [W.get e,T]
            len:=by rw [J,L,B];omega
            okR:=hr,okO:=hO,mutN:=by rw [J,B];exact hmu
            roOK:=(λe=>by cases e),have_:=(λn N=>nomatch N),cov:=(λn h' => .inr (N n h')),dis:=(λn _ N=>nomatch N) }
  · have Z:Sout.length-Sin.length=m:=by omega
    have e1:CallData.eff ⟨[],l.map (·.1),o,Sin,r,Sout,false⟩ S d tk=⟨((l.map (·.1)).zip Sin).map (λp=>(p.1,p.2.ren (l.map (·.1)))),eD (l.map (·.1)++ou d tk m) (l.map (·.1)++ou d tk m) Sout,ren (l.map (·.1)++ou d tk m) r⟩:=by
      simp only [CallData.eff,cond_false,CallData.names,Z,ic,ig,List.nil_append]
    show K' (CallData.eff _ S d tk)
    rw [e1]
    refine hk _ _ ?_ h
    have T:(List.range m).map (λj=>(d+100000*j,tk))=ou d tk m:=rfl
    rw [T]
    show AgR _ (fo S (eD _ (l.map (·.1)++ou d tk m) Sout)) tk rest
    rw [Cs,Af]
    have e3:(l.map (·.1)).length=F.length:=by simp [B]
    rw [e3]
    have A:=DT (ν:=l.map (·.1)++ou d tk m) W hi M (bs:=Sout) (λj h1 h2=>by
      simp only [List.length_map]at h2
      exact⟨_,by simp only [List.getElem_map];exact R j h1 h2⟩)
    rw [List.take_of_length_le (by omega)]at A
    have e4:ou d tk m=(List.range' 0 m).map λj=>(d+100000*j,tk):=by rw [<- T,J7]
    rw [e4]at A ⊢
    exact AgR.news ok rfl m 0 ⟨A.nd,A.pos⟩ (λp hp=>⟨.inl (A.at_ p hp).1,(A.at_ p hp).2⟩)
theorem Fu {S:Store}:∀(vs:List V),ArgsOK S vs vs
  | [] => .nil
  | x::vs => .cons (.inl rfl) (Fu vs)
theorem QA {α:Type} {enc:α->List D} {sz:Nat} {b:Bool} {f:Operand} {args:List Operand} {B:Array TypeId} {fn:FuncId} {caps j:List V}
    (hc:FnM C.P fn j [] (kV b (aA 0) sz ([]:List α)) (kO b sz))
    (L:ev sl f = .fn fn caps) (hb:aJ C.P fn=true)
    (J:((args.map (ev sl)++caps).flatMap frz).all (λn=>false)=true) (M:args.map (ev sl)++caps=j) (A:okL 0 j=true)
    (I:aQ all sl ⟨some d,.call ⟨.value f,args.toArray,B⟩,ty,pos,after,g⟩=some true)
    (h:∀n:Nm,aZ none C all K rest (upd sl d (kV b n sz ([]:List α))) (H++[(n,kB b sz enc ([]:List α))])) :
    aZ none C all K (⟨some d,.call ⟨.value f,args.toArray,B⟩,ty,pos,after,g⟩::rest) sl H:=by
  have F:∀S tk,AgR H S tk (⟨some d,.call ⟨.value f,args.toArray,B⟩,ty,pos,after,g⟩::rest)->ArgsOK S (args.map (ev sl)++caps) (renL (([]:List (Nm×Box)).map (·.1)) j):=λS tk _=>by
    rw [M]
    have:renL (([]:List (Nm×Box)).map (·.1)) j=j:=KD A
    rw [this];exact Fu j
  have o:∀n∈(args.map (ev sl)++caps).flatMap frz,n∈([]:List (Nm×Box)).map (·.1):=λn o=>by
    cases hx:(args.map (ev sl)++caps).flatMap frz with
    | nil=>rw [hx]at o;cases o
    | cons a b=>rw [hx]at J;simp at J
  cases b with
  | false =>
    refine P7 (Sin:=[]) (r := .nil) (Sout:=[]) [] 0 hc L hb rfl rfl rfl o F A rfl rfl List.nodup_nil rfl rfl I (λν => ?_)
    simp only [List.range_zero,List.map_nil,List.append_nil,news,outs,setH]
    exact KT (λn=>h n)
  | true =>
    refine P7 (Sin:=[]) (r:=vV (aA 0) sz ([]:List α)) (Sout:=[some (.vec sz [])]) [] 1 hc L hb rfl rfl rfl o F A ?_ rfl List.nodup_nil rfl rfl I (λν => ?_)
    · exact GK (Nat.zero_lt_one)
    · have N:ren ((([]:List (Nm×Box)).map (·.1))++(List.range 1).map ν) (vV (aA 0) sz ([]:List α))=vV (ν 0) sz ([]:List α):=by
        simp only [List.map_nil,List.nil_append,vV,ren]
        rw [tJ (n:=ν 0) (by simp)]
      rw [N]
      exact h (ν 0)
theorem finK {α:Type} {sz t:Nat} {n:Nm} {e:Exit} {enc:α->List D} (he:e = .normal\/e = .ret) (j:Nat) (h1:sl t = .vs n sz 0 0) (h2:H[j]? = some (n,some (bV sz enc ([]:List α)))) :
    qI C [.tmp t] 0 (vV (aA 0) sz ([]:List α)) [some (.vec sz [])] e sl H :=
  ⟨he,[.vs n sz 0 0],[.vs n sz 0 0],[j],[n],⟨h1,trivial⟩,.cons (.inl rfl) .nil,by
    simp only [Jp,vV,ren]
    rw [tJ (n:=n) (by simp)];rfl,⟨h2,trivial⟩,by simp,λi hi=>absurd hi (Nat.not_lt_zero i)⟩
theorem finK0 {t:Nat} {e:Exit} (he:e = .normal\/e = .ret) (h1:sl t = .nil):qI C [.tmp t] 0 .nil [] e sl H :=
  ⟨he,[.nil],[.nil],[],[],⟨h1,trivial⟩,.cons (.inl rfl) .nil,rfl,trivial,List.nodup_nil,λi hi=>absurd hi (Nat.not_lt_zero i)⟩
end
section
variable {C:Cfg} {sl:Nat->V} {H:Hp} {q:Qm} {all rest:List Oper} {K:(Nat->V)->Hp->Prop}
variable {d:Nat} {t ty:TypeId} {pos:String} {after:Array Edge} {g:Option (Nat×Bool)}
end
end Go.Eng

/-
  THE ENGINE: functions that are handed two slices in their boxes.
-/
namespace Go.Eng
set_option linter.unusedSectionVars false
variable [DM]
set_option linter.unusedVariables false
set_option linter.unusedSimpArgs false
def okO (os:List (Option Box)):Bool:=os.all λo=>match o with
  | some b=>b.ok 0
  | none=>true
theorem ArgsOK.set {S:Store} {x y x' y':V} (f:y'=x'\/y'=co S x'):∀{a b:List V} {i:Nat},ArgsOK S (a.set i x) (b.set i y)->ArgsOK S (a.set i x') (b.set i y')
  | [],[],i,h=>by simpa using h
  | [],b::bs,i,h=>by cases i <;> (simp at h;cases h)
  | a::j,[],i,h=>by cases i <;> (simp at h;cases h)
  | a::j,b::bs,0,h=>by
    simp only [List.set_cons_zero]at h ⊢
    cases h with
    | cons _ t=>exact .cons f t
  | a::j,b::bs,i+1,h=>by
    simp only [List.set_cons_succ]at h ⊢
    cases h with
    | cons h1 t=>exact .cons h1 (ArgsOK.set f t)
section
variable {C:Cfg} {sl:Nat->V} {H:Hp} {q:Qm} {all rest:List Oper} {K:(Nat->V)->Hp->Prop}
variable {dst:Option Tmp} {d:Nat} {t ty:TypeId} {pos:String} {after:Array Edge} {g:Option (Nat×Bool)}
theorem AC {H0:Hp} (h:H.take H0.length=H0):pre H0 H:=aG h
theorem Qs {H0:Hp} {f:List Nat} (B:∀(i:Nat) (h1:i<f.length) (h2:i<H0.length),H[f[i]]? = some H0[i]) (hl:f.length=H0.length) {ν:List Nm}:∀{o:List Nat} {ns:List Nm} {bs:List (Option Box)},Ba H0 ν o ns bs->Ba H ν (o.map λj=>f.getD j 0) ns bs
  | [],[],[],_=>trivial
  | j::_,_::_,_::_,h=>by
    obtain ⟨F,I⟩:=List.getElem?_eq_some_iff.1 h.1
    have A:j<f.length:=by omega
    refine⟨?_,Qs B hl h.2⟩
    simp only [List.getD_eq_getElem?_getD,List.getElem?_eq_getElem A,Option.getD_some]
    rw [B j A F,I]
  | [],_::_,_,h=>h.elim
  | [],[],_::_,h=>h.elim
  | _::_,[],_,h=>h.elim
  | _::_,_::_,[],h=>h.elim
theorem Li {H0:Hp} {ν:List Nm}:∀{f:List Nat} {ns:List Nm} {bs:List (Option Box)},Ba H0 ν f ns bs->∀j∈f,j<H0.length
  | [],_,_,_,j,hj=>by cases hj
  | _::_,_::_,_::_,h,j,hj=>by
    rcases List.mem_cons.1 hj with rfl|hj
    · exact (List.getElem?_eq_some_iff.1 h.1).1
    · exact Li h.2 j hj
  | _::_,[],_,h,_,_=>h.elim
  | _::_,_::_,[],h,_,_=>h.elim
theorem qz {H0:Hp} {k:Nat} {r:V} {Sout:List (Option Box)} {e:Exit} {sl':Nat->V} (N:pre H0 H) (h:qI C [] k r Sout e sl' H0):qI C [] k r Sout e sl H:=by
  obtain ⟨he,vs,L,f,ν,h1,h2,J,A,R,W⟩:=h
  obtain ⟨o,M,Y⟩:=N
  obtain ⟨hl,T⟩:=Bv Y
  cases vs with
  | cons v vs=>exact h1.elim
  | nil =>
    cases h2
    refine⟨he,[],[],f.map λj=>o.getD j 0,ν,trivial,.nil,J,Qs T hl A,?_,W⟩
    refine List.pairwise_iff_getElem.2 (λa b B hb F e => ?_)
    simp only [List.length_map]at B hb
    have I:f[a]<o.length:=by have:=Li A _ (List.getElem_mem B);omega
    have O:f[b]<o.length:=by have:=Li A _ (List.getElem_mem hb);omega
    simp only [List.getElem_map,List.getD_eq_getElem?_getD,List.getElem?_eq_getElem I,List.getElem?_eq_getElem O,Option.getD_some]at e
    exact (List.pairwise_iff_getElem.1 R) a b B hb F ((List.getElem_inj M).1 e)
end
end Go.Eng

/-
  THE ENGINE: a sort of the library's, by its contract off the shelf.
-/
namespace Go.Eng
set_option linter.unusedSectionVars false
variable [DM]
open Go.Sort
set_option linter.unusedVariables false
set_option linter.unusedSimpArgs false
theorem xm.alone {G:Gh} {w:World} {f:List Value} {a:V} (h:xm G w f [a]):∃x,f=[x]/\RepV G w x a:=by
 obtain ⟨hl,h⟩:=h
 match f,hl with
 | [x],_=>exact⟨x,rfl,h 0 (by simp) (by simp)⟩
theorem Gx {α:Type} (f:α->D):∀(xs:List α),(Box.vec 1 (xs.map λx=>[f x])).all=xs.map λx=>V.d (f x)
 | []=>rfl
 | x::xs=>by
  have:=Gx f xs
  simp only [Box.all,List.map_cons,List.map_nil,List.flatten_cons,List.cons_append,List.nil_append]at this ⊢
  rw [this]
theorem Ow {α:Type} [Inhabited α] {ev:α->Value} {w:World} {b o:Nat} {d:Array α} {arr:Array Value} {t:TypeId} {f:Nat×Nat} (h:w.heap[b]? = some (.cells arr t f)) :
  (putRow ev w b o d).heap[b]? = some (.cells (putCells ev o d arr) t f):=by
 unfold putRow mapBlock
 simp only [Array.getElem?_modify,if_true,h,Option.map_some,onCells]
theorem Kh {α:Type} [Inhabited α] {ev:α->Value} {w:World} {b b' o:Nat} {d:Array α} (h:b'≠b):(putRow ev w b o d).heap[b']? = w.heap[b']? := by
 unfold putRow mapBlock
 simp only [Array.getElem?_modify,if_neg (Ne.symm h)]
theorem RD {α:Type} (ev:α->Value) (F:α->D) (h1:∀I w x v,RepD I w v (F x)->v=ev x) (h2:∀I w x,RepD I w (ev x) (F x)) (h3:∀x,(ev x).oneCell'=true) [Inhabited α]
  (A:List α->List α) (hs:∀l,(A l).length=l.length) {P:Program} {f:FuncId}
  (hC:∀(T off cap:Nat) (zs:List α) (w:World),Holds ev w T off zs.toArray->T<w.heap.size->zs.length<4611686018427387904 ->
   Calls P f #[.slice (some ⟨T,off,Option.none⟩) zs.length cap] w λe w'=>e = .returned (.tuple #[])/\∃n os,w'=grow (putRow ev (Sort.ahead w n) T off (A zs).toArray) os)
  (h0:∀(p:Option Addr) (cap:Nat) (w:World),Calls P f #[.slice p 0 cap] w λe w'=>e = .returned (.tuple #[])/\w'=w)
  {xs:List α} (hx:xs.length<4611686018427387904) :
  FnM P f [dV (aA 0) 1 xs] (([]:List Box)++gI 1 (λx=>[F x]) xs) (.tup []) (([]:List Box).map some++gT xs (gB 1 (λx=>[F x]) (A xs))):=by
 have unit:∀G w,RepV G w (.tuple #[]) (.tup []):=λG w => .tup [] [] rfl (λi h1=>absurd h1 (Nat.not_lt_zero i))
 intro G w vargs J hargs
 obtain ⟨v,rfl,hv⟩:=hargs.alone
 cases hxs:xs with
 | nil =>
  rw [hxs]at hv J
  have hv':RepD G.imm w v (.sl []):=hv.d_inv
  obtain ⟨p,cap,rfl⟩:∃p cap,v = .slice p 0 cap:=by
   cases hv' with
   | sl0 a cap=>exact⟨_,_,rfl⟩
   | sl b off cap sz _ us=>exact⟨_,_,rfl⟩
  refine (h0 p cap w).mono ?_
  rintro e w' ⟨rfl,rfl⟩
  exact⟨_,G,kS [],1,_,[],rfl,J,unit _ _,rfl,List.nodup_nil,λi hi=>absurd hi (Nat.not_lt_zero i),λi bx hb=>by simp [gT]at hb⟩
 | cons y ys =>
  have hB:gB 1 (λx=>[F x]) (A xs)=some (.vec 1 ((A xs).map λx=>[F x])):=by
   have:=hs xs
   cases hsx:A xs with
   | nil=>rw [hsx,hxs]at this;simp at this
   | cons a b=>rfl
  rw [<- hxs]
  have hI:(([]:List Box)++gI 1 (λx=>[F x]) xs)=[.vec 1 (xs.map λx=>[F x])]:=by rw [hxs];rfl
  have hT:(([]:List Box).map some++gT xs (gB 1 (λx=>[F x]) (A xs)))=[some (.vec 1 ((A xs).map λx=>[F x]))]:=by rw [hB,hxs];rfl
  rw [hI]at J ⊢
  rw [hT]
  have hdv:dV (aA 0) 1 xs = .vs (aA 0) 1 0 xs.length:=by rw [hxs];rfl
  rw [hdv]at hv
  have hS:kS [.vec 1 (xs.map λx=>[F x])] (aA 0)=some (.vec 1 (xs.map λx=>[F x])):=by rw [Gq];rfl
  obtain ⟨b,o,sz,hmu,hst,hE⟩:=J.box _ _ hS
  have N:Stands G w (.vec 1 (xs.map λx=>[F x])) b o sz:=hst
  have hsz:sz=1:=N.sz
  subst hsz
  have hpos:xs.length≠0:=by rw [hxs];simp
  generalize hk:xs.length=k at hv
  cases hv with
  | vs0=>exact absurd hk hpos
  | @vs _ b2 o2 _ _ _ cap hm hcap hb =>
   rw [hmu]at hm
   simp only [so_,Prod.mk.injEq]at hm
   obtain ⟨rfl,rfl,_⟩:=hm
   obtain ⟨⟨arr,elem,B⟩,O⟩:=N.free rfl
   have Y:=Gx F xs
   have R:(Box.vec 1 (xs.map λx=>[F x])).all.length=xs.length:=by rw [Y];simp
   have hroom:o+xs.length<=arr.size:=by have:=N.room;rw [R,bR B]at this;exact this
   have hcell:∀j (h:j<xs.length),arr[o+j]? = some (ev xs[j]):=λj h=>by
    obtain ⟨u,hu,_,hr⟩:=N.cell j (by rw [R];exact h)
    rw [cell_of_row B]at hu
    have e:(Box.vec 1 (xs.map λx=>[F x])).all[j]'(by rw [R];exact h)=V.d (F xs[j]):=by simp only [Y,List.getElem_map]
    rw [e]at hr
    rw [hu,h1 _ _ _ _ hr.d_inv]
   have hH:Holds ev w b o xs.toArray:=λj hj=>by
    have W:j<xs.length:=by simpa using hj
    refine⟨?_,?_⟩
    ·rw [cell_of_row B,hcell j W]
     simp [W]
    ·simp only [World.frozen?,B];simp
   have hadr:(⟨b,o+0*1,Option.none⟩:Addr)=⟨b,o,Option.none⟩:=by simp
   show Calls P f #[.slice (some ⟨b,o+0*1,Option.none⟩) k cap] w _
   rw [hadr,<- hk]
   refine (hC b o cap xs w hH (J.bound _ _ _ _ hmu) hx).mono ?_
   rintro e w' ⟨rfl,n,os,rfl⟩
   have harr':(Sort.ahead w n).heap[b]? = some (.cells arr elem (0,0)):=B
   have L:=Ow (ev:=ev) (o:=o) (d:=(A xs).toArray) harr'
   have Z:(putCells ev o (A xs).toArray arr).size=arr.size:=by simp [putCells]
   have hsl:(A xs).length=xs.length:=hs xs
   have M:=Gx F (A xs)
   obtain ⟨i1,e1⟩:=J.write (w':=putRow ev (Sort.ahead w n) b o (A xs).toArray) hS rfl hmu (λb' hb'=>Kh hb') (by simp [putRow,mapBlock,Sort.ahead]) (by rw [bR B,bR L,Z];exact Nat.le_refl _) (λe he=>by rw [q9 B]at he;rw [q9 L];exact he) O rfl rfl rfl (.vec 1 ((A xs).map λx=>[F x])) (λe=>by
    show Stands _ _ _ _ _ _
    refine { sz:=rfl,even:=λy hy=>by obtain ⟨z,_,rfl⟩:=List.mem_map.1 hy;rfl,room := ?_,cell:=λj hj => ?_,free:=λ_=>⟨⟨_,_,L⟩,O⟩,froz:=λe=>by cases e }
    ·rw [M,bR L,Z];simp [hsl];exact hroom
    ·have W:j<(A xs).length:=by rw [M]at hj;simpa using hj
     refine⟨ev (A xs)[j],?_,h3 _,?_⟩
     ·rw [cell_of_row L]
      have hlt:o+j<arr.size:=by omega
      simp only [putCells,Array.getElem?_mapIdx,Array.getElem?_eq_getElem hlt,Option.map_some,List.size_toArray]
      rw [if_pos ⟨by omega,by omega⟩,show o+j-o=j by omega]
      simp [W]
     ·have e:(Box.vec 1 ((A xs).map λx=>[F x])).all[j]'hj=V.d (F (A xs)[j]):=by simp only [M,List.getElem_map]
      rw [e];exact .d (h2 _ _ _))
   obtain ⟨i2,e2⟩:=i1.more (w':=grow (putRow ev (Sort.ahead w n) b o (A xs).toArray) os) (λb' hb'=>by
    show ((putRow ev (Sort.ahead w n) b o (A xs).toArray).heap++os)[b']? = _
    rw [Array.getElem?_append_left hb']) (by simp [grow]) rfl rfl rfl (λ_ _ h=>h) (λ_ _ h => .inl h) rfl (λ_ h=>h)
   refine⟨_,G,_,1,_,[aA 0],rfl,i2,unit _ _,rfl,by simp,λi hi => ?_,λi bx hb => ?_⟩
   ·have:i=0:=by simpa using hi
    subst this;rfl
   ·cases i with
    | zero =>
     simp only [List.getElem?_cons_zero,so_]at hb
     subst hb
     exact⟨aA 0,rfl,by simp [supd,Box.ren]⟩
    | succ i=>simp at hb
def JL (l:List Int):Option (List Int):=if l.length<4611686018427387904 then some (l.mergeSort λx y=>decide (x<=y))else none
theorem Ub {P:Program} {f:FuncId}
  (B:∀(j off cap:Nat) (zs:List Int) (w:World),Holds (Value.int .i64) w j off zs.toArray->j<w.heap.size->zs.length<4611686018427387904 ->
   Calls P f #[.slice (some ⟨j,off,Option.none⟩) zs.length cap] w λe w'=>e = .returned (.tuple #[])/\∃n os,w'=grow (putRow (Value.int .i64) (Sort.ahead w n) j off (zs.mergeSort λx y=>decide (x<=y)).toArray) os)
  (A:∀(p:Option Addr) (cap:Nat) (w:World),Calls P f #[.slice p 0 cap] w λe w'=>e = .returned (.tuple #[])/\w'=w)
  {xs r:List Int} (o:JL xs=some r):FnM P f [dV (aA 0) 1 xs] (([]:List Box)++gI 1 eI xs) (.tup []) (([]:List Box).map some++gT xs (gB 1 eI r)):=by
 unfold JL at o
 split at o
 ·simp only [so_]at o
  subst o
  exact RD (Value.int .i64) (D.int .i64) (λI w x v h=>by cases h;rfl) (λI w x => .int _ _) (λ_=>rfl) _ (λl=>List.length_mergeSort l) B A ‹_›
 ·cases o
end Go.Eng

