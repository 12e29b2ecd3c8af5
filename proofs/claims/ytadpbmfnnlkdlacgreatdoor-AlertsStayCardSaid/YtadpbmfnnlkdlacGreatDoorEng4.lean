/-
  The engine: what the machine does to data, shown once for all programs (part 4).
-/
import Derived.Test.YtadpbmfnnlkdlacGreatDoorEng3
import Derived.Sort.Row
import Derived.Sort.Grow
/-
  THE ENGINE: parts of a slice over a box; clear.
-/
namespace Go.Eng
set_option linter.unusedSectionVars false
variable [DM]
set_option linter.unusedVariables false
set_option linter.unusedSimpArgs false
theorem Pz {α:Type} {sz:Nat} {enc:α->List D} {xs:List α} (h:xs ≠ []):gB sz enc xs=some (bV sz enc xs):=by cases xs with
 | nil=>exact absurd rfl h
 | cons x xs=>rfl
section
variable {C:Cfg} {Q:QH} {sl:Nat->V} {H:Hp} {c:Code}
theorem RJ {α:Type} {enc:α->List D} {xs:List α} {sz o len:Nat} {n:Nm} (k i:Nat) (I:sl k = .vs n sz o len) (h:H[i]? = some (n,some (bF sz enc xs))) (A:o+len<=xs.length) (J:wH C c Q (upd sl k (vL enc ((xs.drop o).take len))) H):wH C c Q sl H :=
 nP J (λS t B=>⟨S,by
  have:=Gst.co ⟨sl,S,t⟩ k
  have e:co S (sl k)=vL enc ((xs.drop o).take len):=by
   rw [I]
   have F:=B.get h
   have h2:Nat.ble (o+len) xs.length=true:=Nat.ble_eq_true_of_le A
   simp [co,co1,F,h2,List.map_drop,List.map_take]
  simp only [e]at this
  exact this,B⟩)
end
section
variable {C:Cfg} {sl:Nat->V} {H:Hp} {q:Qm} {all rest:List Oper} {K:(Nat->V)->Hp->Prop}
 {dst:Option Tmp} {t ty e:TypeId} {pos:String} {after:Array Edge} {g:Option (Nat×Bool)}
theorem Pm {α:Type} {enc:α->List D} {xs:List α} {x:Operand} {n:Nm} {sz k len i:Nat} {z:List V} (p:Nat) (Z:q=none\/Nat.beq all.length (p+(rest.length+1))=true)
  (hf:∀S tk,AgR H S tk (⟨dst,.call ⟨.builtin .clear,#[x],#[t]⟩,ty,pos,after,g⟩::rest)->okQ q all p [n] true) (J:α)
  (R:bO C.P t=some e) (hs:szT C.P e=some sz) (X:zeroCells C.P e=some z) (Y:Gw z=some (enc J)) (ho:z.all kw=true) (I:z.length=sz) (B:0<sz)
  (F:ev sl x = .vs n sz k len) (N:k+len<=xs.length) (L:H[i]? = some (n,some (bV sz enc xs)))
  (hw:aQ all sl ⟨dst,.call ⟨.builtin .clear,#[x],#[t]⟩,ty,pos,after,g⟩=some true)
  (h:bu (uT q p [n] true) C all K rest (eF sl dst (.tup [])) (H.set i (n,some (bV sz enc (xs.take k++List.replicate len J++xs.drop (k+len)))))) :
  bu q C all K (⟨dst,.call ⟨.builtin .clear,#[x],#[t]⟩,ty,pos,after,g⟩::rest) sl H:=by
 refine uX p [n] true Z hf (Bj L) hw (λS tk K' ok O W => ?_)
 have M:S n=some (.vec sz (xs.map enc)):=O.get L
 have o:k+len<=(xs.map enc).length:=by simpa using N
 by_cases h0:len=0
 ·subst h0
  refine zg (A:=⟨[(n,.vec sz (xs.map enc))],[],.tup []⟩) ?_ (W _ (H.set i (n,some (bV sz enc (xs.take k++List.replicate 0 J++xs.drop (k+0))))) ⟨by simp,by simp⟩ (λe=>by cases e) ?_ h)
  ·show yF C.P t S (ev sl x)=_
   simp only [yF,R,F,hs,X,M,Y]
   rw [if_pos ⟨trivial,trivial,I,ho,o,B⟩,if_pos trivial]
  ·have:=K3 O L (b':=some (bV sz enc (xs.take k++List.replicate 0 J++xs.drop (k+0)))) (λx F=>by simp only [List.replicate_zero,List.append_nil,Nat.add_zero,List.take_append_drop]at F;rw [M];exact F)
   exact this.tail
 ·refine zg (A:=⟨[(n,.vec sz (xs.map enc))],[(n,some (bV sz enc (xs.take k++List.replicate len J++xs.drop (k+len))))],.tup []⟩) ?_ (W _ _ ⟨by simp,by simp⟩ (λe=>by cases e) (O.tail.set L (λx F=>F)) h)
  show yF C.P t S (ev sl x)=_
  simp only [yF,R,F,hs,X,M,Y]
  rw [if_pos ⟨trivial,trivial,I,ho,o,B⟩,if_neg h0]
  simp [bV,List.map_take,List.map_drop]
def xm {α:Type} (xs:List α) (h hi:Int):Option Unit:=if 0<=h/\0<=hi/\h.toNat<=hi.toNat/\hi.toNat<=xs.length then some ()else none
theorem AC {α:Type} {xs:List α} {o hi:Int} {u:Unit} (h:xm xs o hi=some u):0<=o/\0<=hi/\o.toNat<=hi.toNat/\hi.toNat<=xs.length:=by
 unfold xm at h;split at h
 ·assumption
 ·cases h
theorem uQ {α:Type} {xs:List α} {o hi:Int} {u:Unit} (h:xm xs o hi=some u):o.toNat+(hi.toNat-o.toNat)<=xs.length:=by
 have:=AC h;omega
section part
variable {α:Type} {enc:α->List D} {xs:List α} {sz:Nat} {n:Nm} {x l hi:Operand} {k k':IntKind} {a b:Int} {u:Unit}
theorem MM (A:C.P.underlying t=some (.slice e)) (hs:szT C.P e=some sz) {o hi:Option V} {l h:Int} (h1:si 0 o=some l.toNat) (h2:si xs.length hi=some h.toNat) (I:xm xs l h=some u) :
  oq C.P t (vV n sz xs) o hi none=some (.vs n sz l.toNat (h.toNat-l.toNat)):=by
 obtain ⟨_,_,F,B⟩:=AC I
 simp only [vV,oq,A,hs,h1,h2]
 rw [if_pos ⟨F,B,trivial⟩,Nat.zero_add]
theorem Cz (A:C.P.underlying t=some (.slice e)) (hs:szT C.P e=some sz) (F:ev sl x=vV n sz xs) (hl:ev sl l = .d (.int k a)) (o:xm xs a xs.length=some u) (B:aQ all sl ⟨dst,.slice t x (some l) none none,ty,pos,after,g⟩=some true)
  (h:bu q C all K rest (eF sl dst (.vs n sz a.toNat (((xs.length:Int)).toNat-a.toNat))) H):bu q C all K (⟨dst,.slice t x (some l) none none,ty,pos,after,g⟩::rest) sl H :=
 aJ _ B (by
  show oq C.P t (ev sl x) (some (ev sl l)) none none=_
  rw [F,hl];exact MM A hs (MZ (AC o).1) rfl o) h
theorem Mk (B:C.P.underlying t=some (.slice e)) (hs:szT C.P e=some sz) (I:ev sl x=vV n sz xs) (A:ev sl hi = .d (.int k' b)) (o:xm xs 0 b=some u) (F:aQ all sl ⟨dst,.slice t x none (some hi) none,ty,pos,after,g⟩=some true)
  (h:bu q C all K rest (eF sl dst (.vs n sz 0 b.toNat)) H):bu q C all K (⟨dst,.slice t x none (some hi) none,ty,pos,after,g⟩::rest) sl H :=
 aJ _ F (by
  show oq C.P t (ev sl x) none (some (ev sl hi)) none=_
  rw [I,A];exact MM B hs rfl (MZ (AC o).2.1) o) h
end part
end
end Go.Eng

/-
  THE ENGINE: a slice that a function writes into: its box is handed in and handed back.
-/
namespace Go.Eng
set_option linter.unusedSectionVars false
variable [DM]
set_option linter.unusedVariables false
set_option linter.unusedSimpArgs false
def dV {α:Type} (n:Nm) (sz:Nat):List α->V
  | [] => .d (.sl [])
  | x::xs => .vs n sz 0 (x::xs).length
def gI {α:Type} (sz:Nat) (enc:α->List D):List α->List Box
  | []=>[]
  | x::xs=>[.vec sz ((x::xs).map enc)]
def gT {α:Type} (xs:List α) (o:Option Box):List (Option Box):=match xs with
  | []=>[]
  | _::_=>[o]
def neL {α:Type} (xs:List α):Option Unit:=match xs with
  | []=>none
  | _::_=>some ()
def iP {α β:Type} (xs:List α) (ys:List β):Option Unit:=if xs.length=ys.length then some ()else none
def inN (i:Int) (len:Nat):Option Unit:=if 0<=i/\i.toNat<len then some ()else none
abbrev IW {α:Type} (xs:List α) (lo len:Nat):List α:=(xs.drop lo).take len
theorem Q3 {α:Type} {xs:List α} {u:Unit} (h:neL xs=some u):xs ≠ []:=by
  cases xs with
  | nil=>cases h
  | cons x xs=>simp
theorem jQ {α β:Type} {xs:List α} {ys:List β} {u:Unit} (h:iP xs ys=some u):xs.length=ys.length:=by
  unfold iP at h;split at h
  · assumption
  · cases h
theorem JG {i:Int} {n:Nat} {u:Unit} (h:inN i n=some u):0<=i:=by
  unfold inN at h;split at h
  · rename_i h1;exact h1.1
  · cases h
theorem DX {i:Int} {n:Nat} {u:Unit} (h:inN i n=some u):i.toNat<n:=by
  unfold inN at h;split at h
  · rename_i h1;exact h1.2
  · cases h
theorem Aq {α:Type} {xs:List α} {k len:Nat} {z:α} (h:k+len<=xs.length):xs.length=(xs.take k++List.replicate len z++xs.drop (k+len)).length:=by
  simp only [List.length_append,List.length_take,List.length_replicate,List.length_drop];omega
theorem bP {α:Type} {n:Nm} {sz:Nat} {xs ys:List α} (h:xs.length=ys.length):dV n sz xs=dV n sz ys:=by
  cases xs with
  | nil=>cases ys with
    | nil=>rfl
    | cons y ys=>simp at h
  | cons x xs=>cases ys with
    | nil=>simp at h
    | cons y ys=>simp only [dV,h]
theorem sV {α:Type} {n:Nm} {sz:Nat} {xs:List α} (h:xs ≠ []):dV n sz xs=vV n sz xs:=by cases xs with
  | nil=>exact absurd rfl h
  | cons x xs=>rfl
theorem tV {α:Type} {sz:Nat} {enc:α->List D} {xs ys:List α} (h:ys.length=xs.length):xs=[]->gB sz enc ys=none:=λe=>by
  subst e
  cases ys with
  | nil=>rfl
  | cons y ys=>simp at h
section
variable {C:Cfg} {sl:Nat->V} {H:Hp} {Q:QH} {c:Code}
theorem wH_reH (i:Nat) {n:Nm} {b b':Option Box} (h:H[i]? = some (n,b)) (e:b=b') (o:wH C c Q sl (H.set i (n,b'))):wH C c Q sl H:=by
  subst e
  have hi:=(List.getElem?_eq_some_iff.1 h)
  rwa [<- hi.2,List.set_getElem_self]at o
theorem wH_re (k:Nat) {v v':V} (o:sl k=v) (e:v=v') (h:wH C c Q (upd sl k v') H):wH C c Q sl H:=by
  have:upd sl k v'=sl:=by
    funext j
    simp only [upd]
    cases hj:Nat.beq j k with
    | true=>rw [Nat.eq_of_beq_eq_true hj,o,e];rfl
    | false=>rfl
  rw [this]at h;exact h
theorem Cn {α:Type} {enc:α->List D} {xs:List α} {sz:Nat} {n:Nm} (k i:Nat) (A:sl k=dV n sz xs) (h:H[i]? = some (n,gF sz enc xs)) (o:wH C c Q (upd sl k (vL enc xs)) H):wH C c Q sl H:=by
  cases xs with
  | nil=>exact wH_re k (v':=vL enc ([]:List α)) A rfl o
  | cons x xs=>exact JJ k i A h o
end
section
variable {C:Cfg} {sl:Nat->V} {H:Hp} {q:Qm} {all rest:List Oper} {K:(Nat->V)->Hp->Prop}
variable {dst:Option Tmp} {d:Nat} {t ty:TypeId} {pos:String} {after:Array Edge} {g:Option (Nat×Bool)}
theorem Lh (i:Nat) {n:Nm} {b b':Option Box} (h:H[i]? = some (n,b)) (e:b=b') (o:bu q C all K rest sl (H.set i (n,b'))):bu q C all K rest sl H:=by
  subst e
  have hi:=(List.getElem?_eq_some_iff.1 h)
  rwa [<- hi.2,List.set_getElem_self]at o
theorem iZ {α:Type} {xs:List α} {x i:Operand} {k:IntKind} {n:Int} {nm:Nm} {size:Nat} (A:(bO C.P t).bind (szT C.P)=some size) (B:ev sl x=dV nm size xs) (hi:ev sl i = .d (.int k n)) (o:0<=n) (h1:n.toNat<xs.length)
    (F:aQ all sl ⟨dst,.indexAddr t x i,ty,pos,after,g⟩=some true) (h:bu q C all K rest (eF sl dst (.ref nm (0+n.toNat) 0)) H):bu q C all K (⟨dst,.indexAddr t x i,ty,pos,after,g⟩::rest) sl H:=by
  cases xs with
  | nil=>simp at h1
  | cons y ys=>exact Bz A B hi o h1 F h
theorem wZ {α:Type} {n:Nm} {sz:Nat} {xs:List α} {x:Operand} {e:TypeId} (o:C.P.underlying t=some (.slice e)) (A:ev sl x=dV n sz xs) (B:aQ all sl ⟨dst,.call ⟨.builtin .len,#[x],#[t]⟩,ty,pos,after,g⟩=some true)
    (h:bu q C all K rest (eF sl dst (vI xs.length)) H):bu q C all K (⟨dst,.call ⟨.builtin .len,#[x],#[t]⟩,ty,pos,after,g⟩::rest) sl H:=by
  cases xs with
  | nil=>exact bJ (enc:=λ_:α=>[]) (xs:=[]) o A B h
  | cons y ys=>exact h_lenw o A B h
theorem Rw {n:Nm} {sz k len:Nat} {x:Operand} {e:TypeId} (o:C.P.underlying t=some (.slice e)) (B:ev sl x = .vs n sz k len) (A:aQ all sl ⟨dst,.call ⟨.builtin .len,#[x],#[t]⟩,ty,pos,after,g⟩=some true)
    (h:bu q C all K rest (eF sl dst (vI len)) H):bu q C all K (⟨dst,.call ⟨.builtin .len,#[x],#[t]⟩,ty,pos,after,g⟩::rest) sl H :=
  BQ (v:=vI len) (by rw [B];simp only [EC,o]) A h
theorem Pi {f:Operand} {args:List Operand} {A:Array TypeId} {fn:FuncId} {caps o:List V} {r:V} {Sin:List Box} {Sout:List (Option Box)} (p:Nat) (is:List Nat) {l:List (Nm×Box)} (hp:q=none\/Nat.beq all.length (p+(rest.length+1))=true)
    (Y:∀S tk,AgR H S tk (⟨some d,.call ⟨.value f,args.toArray,A⟩,ty,pos,after,g⟩::rest)->okQ q all p (l.map (·.1)) true) (hc:FnM C.P fn o Sin r Sout)
    (hf:ev sl f = .fn fn caps) (hb:aI C.P fn=true) (hl:pF H is=some l) (Z:Sin.map (λb=>b.ren (l.map (·.1)))=l.map (·.2)) (F:Sin.all (λb=>b.ok is.length)=true)
    (J:∀n∈(args.map (ev sl)++caps).flatMap frz,n∈l.map (·.1)) (ha:∀S tk,AgR H S tk (⟨some d,.call ⟨.value f,args.toArray,A⟩,ty,pos,after,g⟩::rest)->ArgsOK S (args.map (ev sl)++caps) (renL (l.map (·.1)) o)) (R:okL is.length o=true) (hr:okV Sout.length r=true)
    (hlen:Sout.length=is.length) (hi:is.Nodup) (hO:okOut Sout.length Sout=true)
    (hw:aQ all sl ⟨some d,.call ⟨.value f,args.toArray,A⟩,ty,pos,after,g⟩=some true)
    (v:V) (hv:ren (l.map (·.1)) r=v) (H':Hp) (hH:setH H (outs (l.map (·.1)) is (l.map (·.1)) Sout)=H')
    (h:bu (uT q p (l.map (·.1)) true) C all K rest (upd sl d v) H') :
    bu q C all K (⟨some d,.call ⟨.value f,args.toArray,A⟩,ty,pos,after,g⟩::rest) sl H:=by
  subst hv hH
  obtain ⟨B,I⟩:=pq hl
  have X:Sin.length=l.length:=by have:=congrArg List.length Z;simpa using this
  refine uX p (l.map (·.1)) true hp Y (Eb hl) hw (λS tk K' ok N hk=>wu hf ?_)
  have M:=yx N hi hl
  refine .inl ⟨hb,⟨[],l.map (·.1),o,Sin,r,Sout,false⟩,?_,(λe=>by cases e),?_⟩
  · exact { does := hc
            args:=ha S tk N
            okA:=by simp only [List.length_map,B];exact R
            nodup:=M
            ins:=by
              refine yg (by simp [X]) (λj h1 h2=>⟨?_,?_⟩)
              · simp only [List.length_map,B]
                exact List.all_eq_true.1 F _ (List.getElem_mem h2)
              · simp only [List.length_map]at h1
                have e:=I j (by omega) h1
                have e2:l[j].2=Sin[j].ren (l.map (·.1)):=by
                  have:=congrArg (λx=>x[j]?) Z
                  simp only [List.getElem?_map,List.getElem?_eq_getElem h2,List.getElem?_eq_getElem h1,Option.map_some,so_]at this
                  exact this.symm
                simp only [List.getElem_map]
                show S l[j].1=_
                rw [N.get e,e2]
            len:=by show Sin.length<=Sout.length;omega
            okR:=hr,okO:=hO,mutN:=by show mutOut (List.drop Sin.length Sout)=true;rw [List.drop_of_length_le (by omega)];rfl
            roOK:=(λe=>by cases e),have_:=(λn J=>nomatch J),cov:=(λn h' => .inr (J n h')),dis:=(λn _ J=>nomatch J) }
  · have O:Sout.length-Sin.length=0:=by omega
    have e1:CallData.eff ⟨[],l.map (·.1),o,Sin,r,Sout,false⟩ S d tk=⟨((l.map (·.1)).zip Sin).map (λp=>(p.1,p.2.ren (l.map (·.1)))),fq (l.map (·.1)) (l.map (·.1)) Sout,ren (l.map (·.1)) r⟩:=by
      simp only [CallData.eff,cond_false,CallData.names,O,nW,List.range_zero,List.map_nil,List.append_nil,iC,iB,List.nil_append]
    show K' (CallData.eff _ S d tk)
    rw [e1]
    refine hk _ _ ⟨λx W => ?_,λx W=>ym W⟩ (λh=>by cases h) ?_ h
    · obtain ⟨y,hy,rfl⟩:=List.mem_map.1 W
      exact (List.of_mem_zip hy).1
    · have e3:(l.map (·.1)).length=is.length:=by simp [B]
      have L:=C9 (ν:=l.map (·.1)) N hi M (bs:=Sout) (λj h1 h2=>by
        simp only [List.length_map]at h2
        exact⟨_,by simp only [List.getElem_map];exact I j h1 h2⟩)
      rw [List.take_of_length_le (by omega)]at L
      exact L.tail
theorem Jy {l:List (Nm×Box)} {i:Nat} {n:Nm} {b:Box}:∀{is:List Nat} {l:List (Nm×Box)},pF H is=some l->H[i]? = some (n,some b)->pF H (is++[i])=some (l++[(n,b)])
  | [],l,h,hi=>by
    simp only [pF,so_]at h;subst h
    simp only [List.nil_append,pF,hi]
  | j::is,l,h,hi=>by
    simp only [pF]at h
    split at h
    · rename_i o b' A h1 h2
      simp only [so_]at h;subst h
      simp only [List.cons_append,pF,h1,Jy (l:=l) h2 hi]
    · cases h
theorem Iu (ρ:List Nm):∀(vs:List V) (i:Nat) (v:V),renL ρ (vs.set i v)=(renL ρ vs).set i (ren ρ v)
  | [],_,_=>rfl
  | _::_,0,_=>rfl
  | x::vs,i+1,v=>by simp only [List.set_cons_succ,renL,Iu ρ vs i v]
theorem Km {k:Nat}:∀{vs:List V} {i:Nat} {v:V},okL k (vs.set i .none)=true->okV k v=true->okL k (vs.set i v)=true
  | [],_,_,_,_=>rfl
  | x::vs,0,v,h,o=>by
    simp only [List.set_cons_zero,okL,Bool.and_eq_true]at h ⊢;exact⟨o,h.2⟩
  | x::vs,i+1,v,h,o=>by
    simp only [List.set_cons_succ,okL,Bool.and_eq_true]at h ⊢;exact⟨h.1,Km h.2 o⟩
theorem tq {α:Type}:∀{l:List α} {i:Nat} {a:α},l[i]? = some a->l.set i a=l
  | x::l,0,a,h=>by simp at h;subst h;rfl
  | x::l,i+1,a,h=>by simp only [List.set_cons_succ];rw [tq (by simpa using h)]
  | [],_,_,h=>by simp at h
theorem GY {α:Type} {a b:List α} {i:Nat} {x y:α} (h:a.set i x=b.set i x):a.set i y=b.set i y:=by
  have:=congrArg (λl=>l.set i y) h
  simpa using this
theorem Mc (ν:List Nm):∀(is:List Nat) (A:List Nm) (bs:List (Option Box)) (i:Nat) (n:Nm) (o:Option Box),is.length=bs.length->is.length=A.length->Eng.outs ν (is++[i]) (A++[n]) (bs++[o])=Eng.outs ν is A bs++[(i,n,o.map (·.ren ν))]
  | [],[],[],i,n,o,_,_=>rfl
  | j::is,m::A,b::bs,i,n,o,h1,h2=>by simp only [List.cons_append,Eng.outs];rw [Mc ν is A bs i n o (by simpa using h1) (by simpa using h2)]
  | [],_::_,_,_,_,_,_,h=>by simp at h
  | [],[],_::_,_,_,_,h,_=>by simp at h
  | _::_,[],_,_,_,_,_,h=>by simp at h
  | _::_,_::_,[],_,_,_,h,_=>by simp at h
theorem MS (ν A:List Nm):∀(is:List Nat) (o:List Nm) (bs:List Box),bs.all (λb=>b.ok 0)=true->Eng.outs ν is o (bs.map some)=Eng.outs A is o (bs.map some)
  | [],_,_,_=>rfl
  | _::_,[],_,_=>rfl
  | _::_,_::_,[],_=>rfl
  | i::is,n::o,b::bs,h=>by
    simp only [List.all_cons,Bool.and_eq_true]at h
    simp only [List.map_cons,Eng.outs,Option.map_some,y9 h.1,MS ν A is o bs h.2]
theorem IL {k:Nat} {os:List Box}:os.all (λb=>b.ok 0)=true->okOut k (os.map some)=true:=by
  induction os with
  | nil=>exact λ_=>rfl
  | cons b os o =>
    intro h
    simp only [List.all_cons,Bool.and_eq_true]at h
    simp only [List.map_cons,okOut,Bool.and_eq_true]
    exact⟨Box.ok_mono (Nat.zero_le _) h.1,o h.2⟩
theorem DN {k:Nat}:∀{a b:List (Option Box)},okOut k a=true->okOut k b=true->okOut k (a++b)=true
  | [],_,_,h=>h
  | none::a,b,h1,h2=>by simp only [List.cons_append,okOut]at h1 ⊢;exact DN h1 h2
  | some y::a,b,h1,h2=>by simp only [List.cons_append,okOut,Bool.and_eq_true]at h1 ⊢;exact⟨h1.1,DN h1.2 h2⟩
theorem Me {vs:List V} {i:Nat} (h:((vs.set i .none).flatMap frz).all (λ_=>false)=true) {n:Nm} (B:n∈vs.flatMap frz):∃v,vs[i]? = some v/\n∈frz v:=by
  have A:(vs.set i .none).flatMap frz=[]:=by
    cases A:(vs.set i .none).flatMap frz with
    | nil=>rfl
    | cons a b=>rw [A]at h;simp at h
  obtain ⟨v,F,o⟩:=List.mem_flatMap.1 B
  obtain ⟨j,hj,rfl⟩:=List.getElem_of_mem F
  by_cases hij:i=j
  · subst hij;exact⟨vs[i],List.getElem?_eq_getElem hj,o⟩
  · exfalso
    have:vs[j]∈vs.set i .none:=by
      have:(vs.set i V.none)[j]'(by simpa using hj)=vs[j]:=by rw [List.getElem_set_ne hij]
      rw [<- this];exact List.getElem_mem _
    have:=vo A _ this
    rw [this]at o;cases o
theorem MV {bs:List Box} (ρ:List Nm) (h:bs.all (λb=>b.ok 0)=true):bs.map (λb=>b.ren ρ)=bs:=by
  induction bs with
  | nil=>rfl
  | cons b bs o=>simp only [List.all_cons,Bool.and_eq_true]at h;simp only [List.map_cons,y9 h.1,o h.2]
theorem LZ {a b:List Nm}:∀{vs:List V},okL a.length vs=true->renL (a++b) vs=renL a vs:=by
  intro vs h
  have key:∀n,okN a.length n=true->yB (a++b) n=yB a n:=by
    intro n F
    obtain ⟨i,hi,rfl⟩:=wy F
    rw [wC hi,wC (by simp;omega)]
    simp [List.getElem_append_left hi]
  have go:∀v,okV a.length v=true->ren (a++b) v=ren a v:=by
    intro v
    induction v using V.rec (motive_2:=λvs=>okL a.length vs=true->renL (a++b) vs=renL a vs)with
    | ref n i j=>intro h;simp only [ren];rw [key n h]
    | vs n sz k len=>intro h;simp only [ren];rw [key n h]
    | map n=>intro h;simp only [ren];rw [key n h]
    | fn f caps o=>intro h;simp only [ren];rw [o h]
    | agg cs o=>intro h;simp only [ren];rw [o h]
    | tup vs o=>intro h;simp only [ren];rw [o h]
    | nil=>intro h;rfl
    | cons v vs B A =>
      rename_i h
      simp only [okL,Bool.and_eq_true]at h
      simp only [renL,B h.1,A h.2]
    | _=>intro h;rfl
  induction vs with
  | nil=>rfl
  | cons v vs o =>
    simp only [okL,Bool.and_eq_true]at h
    simp only [renL,go v h.1,o h.2]
theorem kC {α:Type} {enc:α->List D} {sz:Nat} {xs:List α} {f:Operand} {args:List Operand} {ats:Array TypeId} {fn:FuncId} {caps A:List V} {r:V} {bs os:List Box} {o:Option Box} (p:Nat) (is:List Nat) (M B:Nat) {l:List (Nm×Box)} {n:Nm} {w:V}
    (I:q=none\/Nat.beq all.length (p+(rest.length+1))=true)
    (hfp:∀S tk,AgR H S tk (⟨some d,.call ⟨.value f,args.toArray,ats⟩,ty,pos,after,g⟩::rest)->okQ q all p (l.map (·.1)++[n]) true)
    (hc:FnM C.P fn A (bs++gI sz enc xs) r (os.map some++gT xs o))
    (hf:ev sl f = .fn fn caps) (hb:aI C.P fn=true) (hl:pF H is=some l) (hv:H[M]? = some (n,gB sz enc xs))
    (hS:l.map (·.2)=bs) (R:bs.all (λb=>b.ok 0)=true)
    (hw1:(args.map (ev sl)++caps)[B]? = some w) (N:w=gV n sz xs\/w=dV n sz xs\/w=vV n sz xs/\xs ≠ []) (W:A[B]? = some (dV (ax is.length) sz xs))
    (hn:(((args.map (ev sl)++caps).set B .none).flatMap frz).all (λn=>false)=true)
    (ha:((args.map (ev sl)++caps).map co0).set B .none=(renL (l.map (·.1)) A).set B .none) (hok:okL is.length (A.set B .none)=true) (hr:okV 0 r=true)
    (X:os.length=is.length) (hi:(is++[M]).Nodup) (hO:os.all (λb=>b.ok 0)=true) (ho:∀b,o=some b->b.ok 0=true) (hon:xs=[]->o=none)
    (hw:aQ all sl ⟨some d,.call ⟨.value f,args.toArray,ats⟩,ty,pos,after,g⟩=some true)
    (H':Hp) (hH:(setH H (outs (l.map (·.1)) is (l.map (·.1)) (os.map some))).set M (n,o)=H')
    (h:bu (uT q p (l.map (·.1)++[n]) true) C all K rest (upd sl d r) H') :
    bu q C all K (⟨some d,.call ⟨.value f,args.toArray,ats⟩,ty,pos,after,g⟩::rest) sl H:=by
  have hll:=(pq hl).1
  have hbs:bs.length=l.length:=by rw [<- hS];simp
  have hivs:M∉is:=by
    rw [List.nodup_append]at hi
    exact λhm=>hi.2.2 M hm M (by simp) rfl
  have hisn:is.Nodup:=(List.nodup_append.1 hi).1
  have hset:∀{l':List (Nat×Nm×Option Box)} {H0:Hp},(∀p∈l',p.1≠M)->(setH H0 l')[M]? = H0[M]? := by
    intro l'
    induction l' with
    | nil=>intro H0 _;rfl
    | cons x l' ih =>
      intro H0 hx
      obtain ⟨i,m,b⟩:=x
      simp only [setH]
      rw [ih (λp I=>hx p (by simp [I]))]
      have:i≠M:=hx (i,m,b) (by simp)
      rw [List.getElem?_set_ne this]
  have houts:∀(ν:List Nm) (is:List Nat) (ns:List Nm) (os:List (Option Box)),∀p∈outs ν is ns os,p.1∈is:=by
    intro ν is
    induction is with
    | nil=>intro ns os p I;simp [outs]at I
    | cons i is ih =>
      intro ns os p I
      cases ns with
      | nil=>simp [outs]at I
      | cons m ns=>cases os with
        | nil=>simp [outs]at I
        | cons o os =>
          simp only [outs,List.mem_cons]at I
          rcases I with rfl|I
          · simp
          · exact List.mem_cons_of_mem _ (ih _ _ _ I)
  have hco:∀(S:Store),(w=gV n sz xs\/w=dV n sz xs\/w=vV n sz xs/\xs ≠ [])->(∀x l,xs=x::l->S n=some (.vec sz (xs.map enc)))->co S w=dV n sz xs:=by
    intro S N hS
    cases hxs:xs with
    | nil =>
      subst hxs
      rcases N with h2|h2|⟨h2,h3⟩
      · rw [h2];rfl
      · rw [h2];rfl
      · exact absurd rfl h3
    | cons x l =>
      have:=hS x l hxs
      have e:w = .vs n sz 0 (x::l).length:=by rcases N with h2 | h2 | ⟨h2,_⟩ <;> rw [h2,hxs] <;> rfl
      rw [e]
      simp only [co,co1,this,dV]
  have Y:∀S:Store,co S w=dV n sz xs->(args.map (ev sl)++caps).map (co S)=((args.map (ev sl)++caps).map co0).set B (dV n sz xs):=by
    intro S hcw
    have h1:(args.map (ev sl)++caps)=((args.map (ev sl)++caps).set B .none).set B w:=by
      rw [List.set_set,tq hw1]
    have h2:(((args.map (ev sl)++caps).set B .none)).map (co S)=(((args.map (ev sl)++caps).set B .none)).map co0:=Gm (by
      cases hx:((args.map (ev sl)++caps).set B .none).flatMap frz with
      | nil=>rfl
      | cons a b=>rw [hx]at hn;simp at hn)
    have h3:(args.map (ev sl)++caps).map (co S)=((((args.map (ev sl)++caps).set B .none)).map (co S)).set B (co S w):=by
      rw [<- List.map_set,<- h1]
    rw [h3,h2,hcw,List.map_set,List.set_set]
  have h0:=ha
  cases hxs:xs with
  | nil =>
    have hobn:o=none:=hon hxs
    subst hobn
    have hc':FnM C.P fn A bs r (os.map some):=by rw [hxs]at hc;simpa [gI,gT]using hc
    have hq:okL is.length A=true:=by
      have:=Km (v:=dV (ax is.length) sz xs) hok (by rw [hxs];rfl)
      rwa [tq W]at this
    refine Pi p is I (λS tk Z=>Pk (λm hm=>by simp [hm]) (hfp S tk Z)) hc' hf hb hl ?_ ?_ ?_ ?_ hq (vJ (Nat.zero_le _) r hr) (by simp [X]) hisn (IL hO) hw r (wB hr) H' ?_ ?_
    · rw [hS,MV _ R]
    · exact List.all_eq_true.2 (λb hb'=>Box.ok_mono (Nat.zero_le _) (List.all_eq_true.1 R b hb'))
    · intro m hm
      obtain ⟨v,O,J⟩:=Me hn hm
      rw [hw1]at O
      simp only [so_]at O
      subst O
      exfalso
      rcases N with h2|h2|⟨_,h2⟩
      · rw [h2,hxs]at J;cases J
      · rw [h2,hxs]at J;cases J
      · exact h2 hxs
    · intro S tk Z
      refine ArgsOK.of_map ?_
      rw [Y S (hco S N (λx l e=>by rw [hxs]at e;cases e)),GY ha]
      have:(renL (l.map (·.1)) A)[B]? = some (dV n sz xs):=by
        obtain ⟨hlt,he⟩:=List.getElem?_eq_some_iff.1 W
        rw [List.getElem?_eq_getElem (by rw [cB];exact hlt),nC _ _ _ _ hlt,he,hxs];rfl
      rw [tq this]
    · rw [<- hH]
      symm
      apply tq
      rw [hset (λp I e=>hivs (e ▸ houts _ _ _ _ p I)),hv,hxs];rfl
    · cases q with
      | none=>exact h
      | some Γ =>
        intro S tk ok Z k L hk hL hO'
        refine h S tk ok Z k L hk (λp0 hp0' => ?_) (λe he m hm => ?_)
        · rcases hL p0 hp0' with h1 | ⟨e,h1,h2,h3,h4,h5⟩
          · exact .inl h1
          · refine .inr ?_
            rcases List.mem_append.1 h1 with h1|h1
            · exact⟨e,List.mem_append.2 (.inl h1),h2,h3,h4,h5⟩
            · rw [List.mem_singleton]at h1;subst h1
              exact⟨(p,l.map (·.1)++[n],true),by simp,h2,λx hx=>by simp only [List.mem_append];exact .inl (h3 x hx),λx hx=>by simp only [List.mem_append];exact .inl (h4 x hx),λe=>by cases e⟩
        · rcases List.mem_append.1 he with he | he
          · exact hO' e (List.mem_append.2 (.inl he)) m hm
          · rw [List.mem_singleton]at he;subst he
            simp only at hm
            rcases List.mem_append.1 hm with hm|hm
            · exact hO' (p,l.map (·.1),true) (by simp) m hm
            · rw [List.mem_singleton]at hm;subst hm
              rw [<- hH]at Z
              have:((setH H (outs (l.map (·.1)) is (l.map (·.1)) (os.map some))).set M (m,none))[M]? = some (m,none):=by
                have h1:=(List.getElem?_eq_some_iff.1 hv).1
                rw [List.getElem?_set_self (by rw [setH_at];exact h1)]
              exact (Z.at_ _ (List.mem_of_getElem? this)).1
  | cons x l' =>
    have hgB:gB sz enc xs=some (.vec sz (xs.map enc)):=by rw [hxs];rfl
    have hv':H[M]? = some (n,some (.vec sz (xs.map enc))):=by rw [hv,hgB]
    have hc':FnM C.P fn A (bs++[.vec sz (xs.map enc)]) r (os.map some++[o]):=by rw [hxs]at hc ⊢;exact hc
    have hp1:=Jy (l:=l) hl hv'
    have F:(l++[(n,Box.vec sz (xs.map enc))]).map (·.1)=l.map (·.1)++[n]:=by simp
    have hdv:dV (ax is.length) sz xs = .vs (ax is.length) sz 0 xs.length:=by rw [hxs];rfl
    have hq:okL (is++[M]).length A=true:=by
      have:=Km (v:=dV (ax is.length) sz xs) (xP (Nat.le_add_right is.length 1) _ hok) (by rw [hdv];exact NU (ls_ _))
      rw [tq W]at this
      simpa using this
    refine Pi p (is++[M]) I (λS tk Z=>by rw [F];exact hfp S tk Z) hc' hf hb hp1 ?_ ?_ ?_ ?_ hq (vJ (Nat.zero_le _) r hr) (by simp [X]) hi ?_ hw r (wB hr) H' ?_ ?_
    · rw [List.map_append,MV _ R]
      simp only [List.map_cons,List.map_nil,List.map_append,hS,Box.ren]
    · rw [List.all_append]
      simp only [Bool.and_eq_true]
      exact⟨List.all_eq_true.2 (λb hb'=>Box.ok_mono (Nat.zero_le _) (List.all_eq_true.1 R b hb')),rfl⟩
    · intro m hm
      obtain ⟨v,O,J⟩:=Me hn hm
      rw [hw1]at O
      simp only [so_]at O
      subst O
      have e:w = .vs n sz 0 xs.length:=by rcases N with h2 | h2 | ⟨h2,_⟩ <;> rw [h2,hxs] <;> rfl
      rw [e]at J
      rw [F]
      have:m=n:=by simpa [frz,Ta]using J
      rw [this];simp
    · intro S tk Z
      refine ArgsOK.of_map ?_
      rw [Y S (hco S N (λ_ _ _=>Z.get hv')),GY ha,F]
      have hpl:B<A.length:=(List.getElem?_eq_some_iff.1 W).1
      have h1:A=(A.set B .none).set B (dV (ax is.length) sz xs):=by rw [List.set_set,tq W]
      have h2:renL (l.map (·.1)++[n]) A=(renL (l.map (·.1)) (A.set B .none)).set B (dV n sz xs):=by
        conv=>lhs;rw [h1]
        rw [Iu,LZ (by simp only [List.length_map,hll];exact hok),hdv]
        simp only [ren]
        rw [yQ (n:=n) (by rw [List.getElem?_append_right (by simp [hll])];simp [hll])]
        rw [hxs];rfl
      rw [h2,Iu,List.set_set]
    · refine DN (IL hO) ?_
      cases o with
      | none=>rfl
      | some b=>simp only [okOut,Bool.and_true];exact Box.ok_mono (Nat.zero_le _) (ho b rfl)
    · rw [<- hH,F,Mc _ _ _ _ _ _ _ (by simp [X]) (by simp [hll]),SE,MS _ (l.map (·.1)) _ _ _ hO]
      simp only [setH]
      cases o with
      | none=>rfl
      | some b=>simp only [Option.map_some,y9 (ho b rfl)]
    · rw [F];exact h
theorem FnM.of_wHv {P:Program} {f:FuncId} {fn:Func} {body:Code} (C:Cfg) (F:C.P=P) (hf:P.funcs[f]? = some fn) (hb:fn.body=some body) (N:C.n=fn.ntmps)
    {α:Type} {enc:α->List D} {sz:Nat} {xs:List α} {args:List V} {bs:List Box} {r:V} {Sout:List (Option Box)} (hl:args.length<=fn.ntmps) (B:sF C body=true)
    (h:wH C body (pI C fn.results.toList (bs++gI sz enc xs).length r Sout) (PK args) (ru 0 bs++[(ax bs.length,gB sz enc xs)])):FnM P f args (bs++gI sz enc xs) r Sout:=by
  refine FnM.of_wpD' hf hb F N hl ?_
  have hag:Ag (ru 0 bs++[(ax bs.length,gB sz enc xs)]) (iY (bs++gI sz enc xs)) 1:=by
   refine⟨Nat.one_pos,?_,λp o => ?_⟩
   · rw [List.map_append,List.nodup_append]
     refine⟨Gq _ _,by simp,λa J b hb e => ?_⟩
     simp only [List.map_cons,List.map_nil,List.mem_singleton]at hb
     obtain ⟨p,o,rfl⟩:=List.mem_map.1 J
     obtain ⟨j,b',h1,h2⟩:=xZ o
     rw [h1,hb]at e
     simp only [ax,Prod.mk.injEq,and_true]at e
     have:=(List.getElem?_eq_some_iff.1 h2).1
     omega
   · rcases List.mem_append.1 o with o | o
     · obtain ⟨j,b,rfl,hb⟩:=xZ o
       refine⟨Nat.one_pos,λx A => ?_⟩
       simp only [so_]at A
       subst A
       rw [Cx,Nat.zero_add,List.getElem?_append_left (List.getElem?_eq_some_iff.1 hb).1];exact hb
     · simp only [List.mem_singleton]at o
       subst o
       refine⟨Nat.one_pos,λx A => ?_⟩
       rw [Cx,List.getElem?_append_right (Nat.le_refl _),Nat.sub_self]
       cases xs with
       | nil=>cases A
       | cons y ys=>exact A
  obtain ⟨L,I,M⟩:=h B _ 1 hag
  exact⟨L,I,l6 body (λe σ h=>OU h) M⟩
theorem uY {α:Type} {enc:α->List D} {sz:Nat} {X:List ResultVar} {r:V} {e:Exit} {bs os:List Box} {xs:List α} {o:Option Box} (R:e = .normal\/e = .ret) (vs:List V) (h1:Ic C sl H X vs) (h2:(vs.flatMap frz).all (λ_=>false)=true) (Z:GI (vs.map co0)=r) (J:okV 0 r=true)
    (B:bs.length=os.length) (hj:H[os.length]? = some (ax os.length,o)) (hO:os.all (λb=>b.ok 0)=true) (ho:∀b,o=some b->b.ok 0=true) (hH:H.take os.length=ru 0 os) :
    pI C X (bs++gI sz enc xs).length r (os.map some++gT xs o) e sl H:=by
  have Y:vs.flatMap frz=[]:=by
    cases M:vs.flatMap frz with
    | nil=>rfl
    | cons a b=>rw [M]at h2;simp at h2
  have hc:∀{vs:List V},vs.flatMap frz=[]->CoL H vs (vs.map co0):=by
    intro vs
    induction vs with
    | nil=>exact λ_ => .nil
    | cons v vs N=>exact λh => .cons (kX (vo h v (by simp)) rfl) (N (by simp only [List.flatMap_cons,List.append_eq_nil_iff]at h;exact h.2))
  have A:∀i (h:i<os.length),H[i]? = some (ax i,some os[i]):=λi hi=>by
    have:=u7 os 0 i hi
    rw [Nat.zero_add,<- hH,List.getElem?_take,if_pos hi]at this
    exact this
  have F:∀{ν:List Nm} {l:List Box} {j:Nat} {L:List Nat} {O:List Nm} {bs:List (Option Box)},(∀b∈l,b.ok 0=true)->(∀i (h:i<l.length),H[j+i]? = some (ax (j+i),some l[i]))->Cm H ν L O bs->Cm H ν (List.range' j l.length++L) ((List.range' j l.length).map ax++O) (l.map some++bs):=by
    intro ν l
    induction l with
    | nil=>exact λ_ _ h=>h
    | cons b l N =>
      intro j L O bs hb W J
      simp only [List.length_cons,List.range'_succ,List.map_cons,List.cons_append]
      refine⟨?_,N (λx M=>hb x (by simp [M])) (λi hi => ?_) J⟩
      · have:=W 0 (by simp)
        simp only [Option.map_some,y9 (hb b (by simp))]
        exact this
      · have:=W (i+1) (by simpa using hi)
        rw [show j+1+i=j+(i+1) by omega]
        exact this
  have I:∀b∈os,b.ok 0=true:=λb hb=>List.all_eq_true.1 hO b hb
  cases xs with
  | nil =>
    refine⟨R,vs,vs.map co0,List.range' 0 os.length++[],(List.range' 0 os.length).map ax++[],h1,hc Y,by rw [Z,wB J],F I (λi hi=>by rw [Nat.zero_add];exact A i hi) trivial,by simp [List.nodup_range'],λi hi => ?_⟩
    have:i<os.length:=by simpa [gI,B]using hi
    simp [this]
  | cons x xs =>
    refine⟨R,vs,vs.map co0,List.range' 0 os.length++[os.length],(List.range' 0 os.length).map ax++[ax os.length],h1,hc Y,by rw [Z,wB J],
      F I (λi hi=>by rw [Nat.zero_add];exact A i hi) ⟨?_,trivial⟩,?_,λi hi => ?_⟩
    · rw [hj]
      cases o with
      | none=>rfl
      | some b=>simp only [Option.map_some,y9 (ho b rfl)]
    · rw [List.nodup_append]
      refine⟨List.nodup_range',by simp,λa ha b hb => ?_⟩
      simp only [List.mem_singleton]at hb
      simp only [List.mem_range'_1]at ha
      omega
    · have hi':i<os.length+1:=by simpa [gI,B]using hi
      by_cases hlt:i<os.length
      · rw [List.getElem?_append_left (by simpa using hlt)];simp [hlt]
      · have:i=os.length:=by omega
        subst this
        rw [List.getElem?_append_right (by simp)];simp
theorem jN {α:Type} {sz:Nat} {enc:α->List D} {xs:List α}:∀b,gB sz enc xs=some b->b.ok 0=true:=by
  intro b h
  cases xs with
  | nil=>cases h
  | cons x xs=>cases h;rfl
theorem wV:∀b,(none:Option Box)=some b->b.ok 0=true:=λb h=>by cases h
end
end Go.Eng

/-
  THE ENGINE: rules for maps, arrays and new slices of zeros.
-/
namespace Go.Eng
set_option linter.unusedSectionVars false
variable [DM]
set_option linter.unusedVariables false
set_option linter.unusedSimpArgs false
def A9 {K T:Type} (eq:K->K->Bool) (k:K):List (K×T)->Option Nat
 | []=>none
 | e::es=>if eq k e.1=true then some 0 else (A9 eq k es).map (· + 1)
def mGet {K T:Type} (eq:K->K->Bool) (es:List (K×T)) (k:K):Option T:=match A9 eq k es with
 | some j=>(es[j]?).map (·.2)
 | none=>none
def zY {K T:Type} (eq:K->K->Bool) (es:List (K×T)) (k:K) (v:T):List (K×T):=match A9 eq k es with
 | some j=>es.set j (k,v)
 | none=>es++[(k,v)]
abbrev bM {K T:Type} (kD:K->D) (vD:T->D) (es:List (K×T)):Box := .map (es.map λe=>(kD e.1,vD e.2))
abbrev eqS (a b:ByteArray):Bool:=a==b
theorem Oy {K T:Type} {eq:K->K->Bool} {k:K}:∀{es:List (K×T)} {j:Nat},A9 eq k es=some j->j<es.length
 | e::es,j,h=>by
  simp only [A9]at h
  split at h
  ·simp only [so_]at h;subst h;simp
  ·simp only [Option.map_eq_some_iff]at h
   obtain ⟨i,hi,rfl⟩:=h
   have:=Oy hi
   simpa using this
theorem BR {K T:Type} {eq:K->K->Bool} {kD:K->D} {vD:T->D} {k:K} (o:∀a b,xI (kD a) (kD b)=some (eq a b)):∀(es:List (K×T)),tL (kD k) (es.map λe=>(kD e.1,vD e.2))=some (A9 eq k es)
 | []=>rfl
 | e::es=>by
  simp only [List.map_cons,tL,o,A9]
  cases h:eq k e.1 with
  | true=>simp
  | false=>simp [BR o es]
section
variable {C:Cfg} {sl:Nat->V} {H:Hp} {q:Qm} {all rest:List Oper} {K:(Nat->V)->Hp->Prop}
variable {dst:Option Tmp} {d:Nat} {t ty:TypeId} {pos:String} {after:Array Edge} {g:Option (Nat×Bool)}
theorem J2 (p:Nat) (o:q=none\/Nat.beq all.length (p+(rest.length+1))=true) (F:aQ all sl ⟨some d,.makeMap t none,ty,pos,after,g⟩=some true)
  (h:∀n:Nm,bu (uT q p [n] true) C all K rest (upd sl d (.map n)) (H++[(n,some (.map []))])):bu q C all K (⟨some d,.makeMap t none,ty,pos,after,g⟩::rest) sl H :=
 y8 rfl p [] o (λ_ _ _=>CE) (λm hm=>by cases hm) F (λS tk J ok B I=>kU (A:=⟨[],[((d,tk),some (.map []))],.map (d,tk)⟩) (λc e=>by cases e) rfl
  (I _ _ _ (.inl rfl) ⟨by simp,by simp⟩ (B.new ok rfl _) (h (d,tk))))
theorem Dc {o T:Type} {eq:o->o->Bool} {kD:o->D} {vD:T->D} {es:List (o×T)} {k:o} {z:T} {x i:Operand} {kt et:TypeId} {ok:Bool} {n:Nm} (p j:Nat) (M:q=none\/Nat.beq all.length (p+(rest.length+1))=true)
  (hf:∀S tk,AgR H S tk (⟨dst,.lookup t x i ok,ty,pos,after,g⟩::rest)->okQ q all p [n] false) (L:∀a b,xI (kD a) (kD b)=some (eq a b)) (hm:D5 C.P t=some (kt,et)) (B:wP C.P kt (kD k)=true) (R:zeroV C.P et=some (.d (vD z)))
  (N:ev sl x = .map n) (hi:ev sl i = .d (kD k)) (I:H[j]? = some (n,some (bM kD vD es))) (v:V) (X:FN ok (.d (vD ((mGet eq es k).getD z))) (mGet eq es k).isSome=v)
  (Y:aQ all sl ⟨dst,.lookup t x i ok,ty,pos,after,g⟩=some true) (h:bu (uT q p [n] false) C all K rest (eF sl dst v) H):bu q C all K (⟨dst,.lookup t x i ok,ty,pos,after,g⟩::rest) sl H:=by
 subst X
 refine uX p [n] false M hf (Bj I) Y (λS tk Z O J W=>kU (A:=⟨[(n,bM kD vD es)],[],FN ok (.d (vD ((mGet eq es k).getD z))) (mGet eq es k).isSome⟩) (λc e=>by cases e) ?_ (W _ H ⟨by simp,by simp⟩ (λ_=>rfl) J.tail h))
 show y7 C.P t S (ev sl x) (ev sl i) ok=_
 unfold y7
 rw [hm,hi,N]
 simp only [B,cond_true,J.get I,BR L]
 unfold mGet
 cases hj:A9 eq k es with
 | none=>simp only [R,Option.map_some,Option.getD_none,Option.isSome_none]
 | some j =>
  have F:=Oy hj
  simp only [List.getElem?_map,List.getElem?_eq_getElem F,Option.map_some,Option.getD_some,Option.isSome_some]
theorem Ir {o T:Type} {eq:o->o->Bool} {kD:o->D} {vD:T->D} {es:List (o×T)} {k:o} {v:T} {m i x:Operand} {kt et:TypeId} {n:Nm} (p j:Nat) (N:q=none\/Nat.beq all.length (p+(rest.length+1))=true)
  (hf:∀S tk,AgR H S tk (⟨dst,.mapUpdate t m i x,ty,pos,after,g⟩::rest)->okQ q all p [n] true) (M:∀a b,xI (kD a) (kD b)=some (eq a b)) (hm:D5 C.P t=some (kt,et)) (I:wP C.P kt (kD k)=true)
  (B:ev sl m = .map n) (hi:ev sl i = .d (kD k)) (J:datum (ev sl x)=some (vD v)) (F:H[j]? = some (n,some (bM kD vD es)))
  (W:aQ all sl ⟨dst,.mapUpdate t m i x,ty,pos,after,g⟩=some true) (h:bu (uT q p [n] true) C all K rest (eF sl dst .none) (H.set j (n,some (bM kD vD (zY eq es k v))))):bu q C all K (⟨dst,.mapUpdate t m i x,ty,pos,after,g⟩::rest) sl H:=by
 refine uX p [n] true N hf (Bj F) W (λS tk X O L R=>kU (A:=⟨[(n,bM kD vD es)],[(n,some (bM kD vD (zY eq es k v)))],.none⟩) (λc e=>by cases e) ?_ (R _ _ ⟨by simp,by simp⟩ (λe=>by cases e) (L.tail.set F (λx B=>B)) h))
 show mU C.P t S (ev sl m) (ev sl i) (ev sl x)=_
 rw [Ka J]
 unfold ou
 rw [hm,hi,B,J]
 simp only [I,cond_true,L.get F,BR M]
 unfold zY
 cases hj:A9 eq k es with
 | none=>simp only [bM,List.map_append,List.map_cons,List.map_nil]
 | some j=>simp only [bM,List.map_set]
theorem Bn {α:Type} {enc:α->List D} {size:Nat} (hl:∀y,(enc y).length=size):∀(xs:List α) (i:Nat) (y:α),xs[i]? = some y->∃r,((xs.map enc).flatten).drop (i*size)=enc y++r
 | x::xs,0,y,h=>by
  simp only [List.getElem?_cons_zero,so_]at h;subst h
  exact⟨(xs.map enc).flatten,by simp⟩
 | x::xs,i+1,y,h=>by
  obtain ⟨r,o⟩:=Bn hl xs i y (by simpa using h)
  refine⟨r,?_⟩
  simp only [List.map_cons,List.flatten_cons]
  rw [Nat.add_mul,Nat.one_mul,Nat.add_comm,<- List.drop_drop,<- hl x,List.drop_left,hl x]
  exact o
 | [],_,_,h=>by simp at h
theorem Tg {α:Type} {enc:α->List D} {xs:List α} {x i:Operand} {k:IntKind} {n:Int} {y:α} {size e m:Nat} {agg:Bool} {ds:List D} (J:C.P.underlying t=some (.array m e)) (hs:szT C.P e=some size) (M:bW C.P e=agg) (L:ev sl x = .d (.agg ds)) (B:(xs.map enc).flatten=ds) (hm:xs.length=m)
  (hi:ev sl i = .d (.int k n)) (A:idx xs n=some y) (hl:∀y,(enc y).length=size) (hsz:agg=true\/size=1) (v:V) (O:rdD agg size (enc y)=some v)
  (W:aQ all sl ⟨dst,.index t x i,ty,pos,after,g⟩=some true) (h:bu q C all K rest (eF sl dst v) H):bu q C all K (⟨dst,.index t x i,ty,pos,after,g⟩::rest) sl H :=
 aJ v W (by
  show zA C.P t (ev sl x) (ev sl i)=_
  unfold idx at A
  split at A
  ·rename_i N
   have F:n.toNat<m:=by rw [<- hm];exact (List.getElem?_eq_some_iff.1 A).1
   obtain ⟨r,R⟩:=Bn hl xs n.toNat y A
   rw [L,hi]
   have hc:(decide (0<=n)&&Nat.blt n.toNat m)=true:=by simp [N,Nat.blt_eq,F]
   simp only [zA,J,hs,hc,cond_true,M]
   rw [<- B,R]
   rw [<- O]
   have o:=hl y
   unfold rdD
   cases agg with
   | true =>
    have h1:Nat.ble size (enc y++r).length=true:=Nat.ble_eq_true_of_le (by rw [List.length_append,o];omega)
    have h2:Nat.ble size (enc y).length=true:=Nat.ble_eq_true_of_le (by omega)
    simp only [cond_true,h1,h2]
    rw [List.take_append_of_le_length (by omega)]
   | false =>
    simp only [cond_false]
    cases he:enc y with
    | nil=>rw [he]at o;rcases hsz with I | I;cases I;simp at o;omega
    | cons c cs=>rfl
  ·cases A) h
end
end Go.Eng

/-
  THE ENGINE: slices with room made ahead; functions that are handed two slices in their boxes.
-/
namespace Go.Eng
set_option linter.unusedSectionVars false
variable [DM]
set_option linter.unusedVariables false
set_option linter.unusedSimpArgs false
def kV {α:Type} (b:Bool) (n:Nm) (sz:Nat) (xs:List α):V:=match b with
  | true=>vV n sz xs
  | false=>gV n sz xs
def kB {α:Type} (b:Bool) (sz:Nat) (enc:α->List D) (xs:List α):Option Box:=match b with
  | true=>some (bV sz enc xs)
  | false=>gB sz enc xs
def kF {α:Type} (b:Bool) (sz:Nat) (enc:α->List D) (xs:List α):Option Box:=match b with
  | true=>some (bF sz enc xs)
  | false=>gF sz enc xs
def kO (b:Bool) (sz:Nat):List (Option Box):=match b with
  | true=>[some (.vec sz [])]
  | false=>[]
def zN (n:Int) (bytes:Nat):Option Unit:=if 0<n/\n*bytes<=2 ^ 47/\n<=2 ^ 47 then some ()else none
section
variable {C:Cfg} {Q:QH} {sl:Nat->V} {H:Hp} {c:Code}
theorem MN {α:Type} {enc:α->List D} {xs:List α} {sz:Nat} {n:Nm} {b:Bool} (i:Nat) (h:H[i]? = some (n,kB b sz enc xs)) (o:wH C c Q sl (H.set i (n,kF b sz enc xs))):wH C c Q sl H:=by
  cases b with
  | true=>exact Lb i h o
  | false=>exact jP i h o
theorem DV {α:Type} {enc:α->List D} {xs:List α} {sz:Nat} {n:Nm} {b:Bool} (k i:Nat) (o:sl k=kV b n sz xs) (h:H[i]? = some (n,kF b sz enc xs)) (A:wH C c Q (upd sl k (vL enc xs)) H):wH C c Q sl H:=by
  cases b with
  | true=>exact JJ k i o h A
  | false=>exact fI k i o h A
end
section
variable {C:Cfg} {sl:Nat->V} {H:Hp} {q:Qm} {all rest:List Oper} {K:(Nat->V)->Hp->Prop}
variable {dst:Option Tmp} {d:Nat} {t ty:TypeId} {pos:String} {after:Array Edge} {g:Option (Nat×Bool)}
theorem Nr {α:Type} {enc:α->List D} {xs ys zs:List α} {x y:Operand} {t' e e':TypeId} {sz bytes i:Nat} {n:Nm} {z:List V} {b:Bool} (p:Nat) (F:q=none\/Nat.beq all.length (p+(rest.length+1))=true) (hf:∀S tk,AgR H S tk (⟨some d,.call ⟨.builtin .append,#[x,y],#[t,t']⟩,ty,pos,after,g⟩::rest)->okQ q all p [n] true) (N:bO C.P t=some e) (I:bO C.P t'=some e') (hs:szT C.P e=some sz) (X:zeroCells C.P e=some z) (A:z.length=sz) (O:0<sz) (B:iw C.P e=bytes) (J:bytes<=100000)
    (o:∀y,(enc y).length=sz) (W:ev sl x=kV b n sz xs) (Y:H[i]? = some (n,kB b sz enc xs)) (M:ev sl y=vL enc ys) (R:mK xs ys=some zs)
    (Z:aQ all sl ⟨some d,.call ⟨.builtin .append,#[x,y],#[t,t']⟩,ty,pos,after,g⟩=some true)
    (h:∀L:Nm,bu (uT q p [n,L] true) C all K rest (upd sl d (kV b L sz zs)) (H.set i (L,kB b sz enc zs))):bu q C all K (⟨some d,.call ⟨.builtin .append,#[x,y],#[t,t']⟩,ty,pos,after,g⟩::rest) sl H:=by
  cases b with
  | true=>exact h_appv p F hf N I hs X A O B J o W Y M R Z h
  | false=>exact lh p F hf N I hs X A O B J o W Y M R Z h
theorem EA {x:Operand} {e:TypeId} (o:C.P.underlying t=some (.slice e)) (B:ev sl x = .nil) (A:aQ all sl ⟨dst,.call ⟨.builtin .len,#[x],#[t]⟩,ty,pos,after,g⟩=some true)
    (h:bu q C all K rest (eF sl dst (vI 0)) H):bu q C all K (⟨dst,.call ⟨.builtin .len,#[x],#[t]⟩,ty,pos,after,g⟩::rest) sl H :=
  BQ (v:=vI 0) (by rw [B];simp only [EC,o]) A h
theorem Ey {x:Operand} {e:TypeId} (F:bO C.P t=some e) (o:ev sl x = .nil) (I:aQ all sl ⟨dst,.call ⟨.builtin .cap,#[x],#[t]⟩,ty,pos,after,g⟩=some true)
    (h:bu q C all K rest (eF sl dst (vI 0)) H):bu q C all K (⟨dst,.call ⟨.builtin .cap,#[x],#[t]⟩,ty,pos,after,g⟩::rest) sl H :=
  mV I (λS tk J _ B=>zg (A:=⟨[],[],vI 0⟩) (by
    show (SK C.P t (ev sl x)).bind iE=_
    rw [o];simp only [SK,F];rfl) (B _ rfl rfl rfl)) h
theorem N7 {α:Type} {enc:α->List D} {x y:Operand} {t' e:TypeId} {sz o:Nat} {z:List V} {k:IntKind} {n:Int} {u:Unit} (p:Nat) (J:q=none\/Nat.beq all.length (p+(rest.length+1))=true) (M:bO C.P t=some e) (hi:pM C.P t'=true) (hs:szT C.P e=some sz) (X:zeroCells C.P e=some z) (F:z.length=sz) (O:0<sz) (I:iw C.P e=o)
    (R:ev sl x = .nil) (L:ev sl y = .d (.int k n)) (B:zN n o=some u)
    (Y:aQ all sl ⟨some d,.call ⟨.builtin .append,#[x,y],#[t,t']⟩,ty,pos,after,g⟩=some true)
    (h:∀nm:Nm,bu (uT q p [nm] true) C all K rest (upd sl d (.vs nm sz 0 n.toNat)) (H++[(nm,some (bV sz enc ([]:List α)))])):bu q C all K (⟨some d,.call ⟨.builtin .append,#[x,y],#[t,t']⟩,ty,pos,after,g⟩::rest) sl H:=by
  unfold zN at B
  split at B
  · rename_i hc
    refine y8 rfl p [] J (λ_ _ _=>CE) (λm hm=>by cases hm) Y (λS tk Z ok W N=>zg (A:=⟨[],[((d,tk),some (bV sz enc ([]:List α)))],.vs (d,tk) sz 0 n.toNat⟩) ?_
      (N _ _ _ (.inl rfl) ⟨by simp,by simp⟩ (W.new ok rfl _) (h (d,tk))))
    show (bif pM C.P t' then vg C.P t t' (ev sl x) (ev sl y) d tk else _)=_
    rw [hi,cond_true,R,L]
    simp only [vg,M,hi,cond_true,hs,X]
    rw [if_pos ⟨hc.1,O,F,by rw [I];exact hc.2.1,hc.2.2⟩]
    rfl
  · cases B
theorem Nz {x hi:Operand} {e:TypeId} {n:Nm} {sz k len m:Nat} {A:IntKind} {b:Int} (B:C.P.underlying t=some (.slice e)) (hs:szT C.P e=some sz) (F:ev sl x = .vs n sz k len) (I:ev sl hi = .d (.int A b)) (hb:b=(m:Int)) (o:m<=len)
    (J:aQ all sl ⟨dst,.slice t x none (some hi) none,ty,pos,after,g⟩=some true) (h:bu q C all K rest (eF sl dst (.vs n sz k m)) H):bu q C all K (⟨dst,.slice t x none (some hi) none,ty,pos,after,g⟩::rest) sl H :=
  aJ _ J (by
    show oq C.P t (ev sl x) none (some (ev sl hi)) none=_
    rw [F,I,hb]
    have:si len (some (.d (.int A (m:Int))))=some m:=by simp [si]
    simp only [oq,B,hs,this]
    rw [show si 0 none=some 0 from rfl]
    simp only
    rw [if_pos ⟨Nat.zero_le _,o,trivial⟩]
    simp) h
theorem Ph {f:Operand} {args:List Operand} {F:Array TypeId} {fn:FuncId} {caps o:List V} {r:V} {Sin:List Box} {Sout:List (Option Box)} (is:List Nat) (m:Nat) {l:List (Nm×Box)} (hc:FnM C.P fn o Sin r Sout)
    (hf:ev sl f = .fn fn caps) (hb:aI C.P fn=true) (hl:pF H is=some l) (hS:Sin.map (λb=>b.ren (l.map (·.1)))=l.map (·.2)) (J:Sin.all (λb=>b.ok is.length)=true)
    (N:∀n∈(args.map (ev sl)++caps).flatMap frz,n∈l.map (·.1)) (ha:∀S tk,AgR H S tk (⟨some d,.call ⟨.value f,args.toArray,F⟩,ty,pos,after,g⟩::rest)->ArgsOK S (args.map (ev sl)++caps) (renL (l.map (·.1)) o)) (Y:okL is.length o=true) (hr:okV Sout.length r=true)
    (L:Sout.length=is.length+m) (hi:is.Nodup) (hO:okOut Sout.length Sout=true) (Z:mutOut (Sout.drop is.length)=true)
    (hw:aQ all sl ⟨some d,.call ⟨.value f,args.toArray,F⟩,ty,pos,after,g⟩=some true)
    (h:∀ν:Nat->Nm,bu none C all K rest (upd sl d (ren (l.map (·.1)++(List.range m).map ν) r))
      (setH H (outs (l.map (·.1)++(List.range m).map ν) is (l.map (·.1)) Sout)++news (l.map (·.1)++(List.range m).map ν) ((List.range m).map ν) (Sout.drop is.length))) :
    bu none C all K (⟨some d,.call ⟨.value f,args.toArray,F⟩,ty,pos,after,g⟩::rest) sl H:=by
  obtain ⟨B,M⟩:=pq hl
  have I:Sin.length=l.length:=by have:=congrArg List.length hS;simpa using this
  refine Om hw (λS tk K' ok W hk=>wu hf ?_)
  have h:=h (λj=>(d+100000*j,tk))
  have O:=yx W hi hl
  refine .inl ⟨hb,⟨[],l.map (·.1),o,Sin,r,Sout,false⟩,?_,(λe=>by cases e),?_⟩
  · exact { does := hc
            args:=ha S tk W
            okA:=by simp only [List.length_map,B];exact Y
            nodup:=O
            ins:=by
              refine yg (by simp [I]) (λj h1 h2=>⟨?_,?_⟩)
              · simp only [List.length_map,B]
                exact List.all_eq_true.1 J _ (List.getElem_mem h2)
              · simp only [List.length_map]at h1
                have e:=M j (by omega) h1
                have R:l[j].2=Sin[j].ren (l.map (·.1)):=by
                  have:=congrArg (λx=>x[j]?) hS
                  simp only [List.getElem?_map,List.getElem?_eq_getElem h2,List.getElem?_eq_getElem h1,Option.map_some,so_]at this
                  exact this.symm
                simp only [List.getElem_map]
                show S l[j].1=_
                rw [W.get e,R]
            len:=by rw [I,L,B];omega
            okR:=hr,okO:=hO,mutN:=by rw [I,B];exact Z
            roOK:=(λe=>by cases e),have_:=(λn N=>nomatch N),cov:=(λn h' => .inr (N n h')),dis:=(λn _ N=>nomatch N) }
  · have X:Sout.length-Sin.length=m:=by omega
    have e1:CallData.eff ⟨[],l.map (·.1),o,Sin,r,Sout,false⟩ S d tk=⟨((l.map (·.1)).zip Sin).map (λp=>(p.1,p.2.ren (l.map (·.1)))),fq (l.map (·.1)++nW d tk m) (l.map (·.1)++nW d tk m) Sout,ren (l.map (·.1)++nW d tk m) r⟩:=by
      simp only [CallData.eff,cond_false,CallData.names,X,iC,iB,List.nil_append]
    show K' (CallData.eff _ S d tk)
    rw [e1]
    refine hk _ _ ?_ h
    have R:(List.range m).map (λj=>(d+100000*j,tk))=nW d tk m:=rfl
    rw [R]
    show AgR _ (fP S (fq _ (l.map (·.1)++nW d tk m) Sout)) tk rest
    rw [Ck,zD]
    have e3:(l.map (·.1)).length=is.length:=by simp [B]
    rw [e3]
    have A:=C9 (ν:=l.map (·.1)++nW d tk m) W hi O (bs:=Sout) (λj h1 h2=>by
      simp only [List.length_map]at h2
      exact⟨_,by simp only [List.getElem_map];exact M j h1 h2⟩)
    rw [List.take_of_length_le (by omega)]at A
    have e4:nW d tk m=(List.range' 0 m).map λj=>(d+100000*j,tk):=by rw [<- R,JC]
    rw [e4]at A ⊢
    exact AgR.news ok rfl m 0 ⟨A.nd,A.pos⟩ (λp hp=>⟨.inl (A.at_ p hp).1,(A.at_ p hp).2⟩)
theorem EH {S:Store}:∀(vs:List V),ArgsOK S vs vs
  | [] => .nil
  | x::vs => .cons (.inl rfl) (EH vs)
theorem Kg {α:Type} {enc:α->List D} {sz:Nat} {b:Bool} {f:Operand} {args:List Operand} {F:Array TypeId} {fn:FuncId} {caps o:List V}
    (hc:FnM C.P fn o [] (kV b (ax 0) sz ([]:List α)) (kO b sz))
    (hf:ev sl f = .fn fn caps) (hb:aI C.P fn=true)
    (J:((args.map (ev sl)++caps).flatMap frz).all (λn=>false)=true) (N:args.map (ev sl)++caps=o) (B:okL 0 o=true)
    (L:aQ all sl ⟨some d,.call ⟨.value f,args.toArray,F⟩,ty,pos,after,g⟩=some true)
    (h:∀n:Nm,bu none C all K rest (upd sl d (kV b n sz ([]:List α))) (H++[(n,kB b sz enc ([]:List α))])) :
    bu none C all K (⟨some d,.call ⟨.value f,args.toArray,F⟩,ty,pos,after,g⟩::rest) sl H:=by
  have I:∀S tk,AgR H S tk (⟨some d,.call ⟨.value f,args.toArray,F⟩,ty,pos,after,g⟩::rest)->ArgsOK S (args.map (ev sl)++caps) (renL (([]:List (Nm×Box)).map (·.1)) o):=λS tk _=>by
    rw [N]
    have:renL (([]:List (Nm×Box)).map (·.1)) o=o:=Ky B
    rw [this];exact EH o
  have A:∀n∈(args.map (ev sl)++caps).flatMap frz,n∈([]:List (Nm×Box)).map (·.1):=λn A=>by
    cases hx:(args.map (ev sl)++caps).flatMap frz with
    | nil=>rw [hx]at A;cases A
    | cons a b=>rw [hx]at J;simp at J
  cases b with
  | false =>
    refine Ph (Sin:=[]) (r := .nil) (Sout:=[]) [] 0 hc hf hb rfl rfl rfl A I B rfl rfl List.nodup_nil rfl rfl L (λν => ?_)
    simp only [List.range_zero,List.map_nil,List.append_nil,news,outs,setH]
    exact Kh (λn=>h n)
  | true =>
    refine Ph (Sin:=[]) (r:=vV (ax 0) sz ([]:List α)) (Sout:=[some (.vec sz [])]) [] 1 hc hf hb rfl rfl rfl A I B ?_ rfl List.nodup_nil rfl rfl L (λν => ?_)
    · exact NU (Nat.zero_lt_one)
    · have M:ren ((([]:List (Nm×Box)).map (·.1))++(List.range 1).map ν) (vV (ax 0) sz ([]:List α))=vV (ν 0) sz ([]:List α):=by
        simp only [List.map_nil,List.nil_append,vV,ren]
        rw [yQ (n:=ν 0) (by simp)]
      rw [M]
      exact h (ν 0)
theorem finK {α:Type} {sz t:Nat} {n:Nm} {e:Exit} {enc:α->List D} (h:e = .normal\/e = .ret) (j:Nat) (h1:sl t = .vs n sz 0 0) (h2:H[j]? = some (n,some (bV sz enc ([]:List α)))) :
    pI C [.tmp t] 0 (vV (ax 0) sz ([]:List α)) [some (.vec sz [])] e sl H :=
  ⟨h,[.vs n sz 0 0],[.vs n sz 0 0],[j],[n],⟨h1,trivial⟩,.cons (.inl rfl) .nil,by
    simp only [GI,vV,ren]
    rw [yQ (n:=n) (by simp)];rfl,⟨h2,trivial⟩,by simp,λi hi=>absurd hi (Nat.not_lt_zero i)⟩
theorem RS {t:Nat} {e:Exit} (h:e = .normal\/e = .ret) (h1:sl t = .nil):pI C [.tmp t] 0 .nil [] e sl H :=
  ⟨h,[.nil],[.nil],[],[],⟨h1,trivial⟩,.cons (.inl rfl) .nil,rfl,trivial,List.nodup_nil,λi hi=>absurd hi (Nat.not_lt_zero i)⟩
end
section
variable {C:Cfg} {sl:Nat->V} {H:Hp} {q:Qm} {all rest:List Oper} {K:(Nat->V)->Hp->Prop}
variable {d:Nat} {t ty:TypeId} {pos:String} {after:Array Edge} {g:Option (Nat×Bool)}
end
end Go.Eng

/-
  THE ENGINE: functions that are handed two slices in their boxes.
-/
namespace Go.Eng
set_option linter.unusedSectionVars false
variable [DM]
set_option linter.unusedVariables false
set_option linter.unusedSimpArgs false
def okO (os:List (Option Box)):Bool:=os.all λo=>match o with
  | some b=>b.ok 0
  | none=>true
theorem ArgsOK.set {S:Store} {x y B A:V} (o:A=B\/A=co S B):∀{a b:List V} {i:Nat},ArgsOK S (a.set i x) (b.set i y)->ArgsOK S (a.set i B) (b.set i A)
  | [],[],i,h=>by simpa using h
  | [],b::bs,i,h=>by cases i <;> (simp at h;cases h)
  | a::F,[],i,h=>by cases i <;> (simp at h;cases h)
  | a::F,b::bs,0,h=>by
    simp only [List.set_cons_zero]at h ⊢
    cases h with
    | cons _ t=>exact .cons o t
  | a::F,b::bs,i+1,h=>by
    simp only [List.set_cons_succ]at h ⊢
    cases h with
    | cons h1 t=>exact .cons h1 (ArgsOK.set o t)
section
variable {C:Cfg} {sl:Nat->V} {H:Hp} {q:Qm} {all rest:List Oper} {K:(Nat->V)->Hp->Prop}
variable {dst:Option Tmp} {d:Nat} {t ty:TypeId} {pos:String} {after:Array Edge} {g:Option (Nat×Bool)}
theorem pick_at {o A:List (Nat×V)} (is:List Nat) (h:pick o sl=o) (e:(is.filterMap λi=>o[i]?)=A):pick A sl=A:=by
  subst e
  unfold pick at h ⊢
  have B:∀p∈o,(p.1,sl p.1)=p:=by
    intro p B
    obtain ⟨i,hi,rfl⟩:=List.getElem_of_mem B
    have:=congrArg (λl=>l[i]?) h
    simpa [List.getElem?_map,List.getElem?_eq_getElem hi]using this
  conv=>rhs;rw [<- List.map_id (is.filterMap λi=>o[i]?)]
  refine List.map_congr_left (λp h1 => ?_)
  obtain ⟨i,_,hi⟩:=List.mem_filterMap.1 h1
  exact B p (List.mem_of_getElem? hi)
theorem yN {H0:Hp} (h:H.take H0.length=H0):pre H0 H:=aG h
theorem pre_at {H0 J:Hp} (R:pre H0 H) (h:pre J H0):pre J H:=by
  obtain ⟨is,N,O⟩:=R
  obtain ⟨F,hm,hf⟩:=h
  obtain ⟨hl,W⟩:=FW O
  obtain ⟨X,M⟩:=FW hf
  have o:∀(a:Nat) (A:a<F.length),F[a]<is.length:=λa A=>by
    have:=(List.getElem?_eq_some_iff.1 (M a A (by omega))).1
    omega
  refine⟨F.map λj=>is.getD j 0,?_,?_⟩
  · refine List.pairwise_iff_getElem.2 (λa b A hb I e => ?_)
    simp only [List.length_map]at A hb
    have h1:=o a A
    have h2:=o b hb
    simp only [List.getElem_map,List.getD_eq_getElem?_getD,List.getElem?_eq_getElem h1,List.getElem?_eq_getElem h2,Option.getD_some]at e
    have B:=(List.pairwise_iff_getElem.1 hm) a b A hb I
    exact B ((List.getElem_inj N).1 e)
  · refine List.ext_getElem (by simp [X]) (λi h1 h2 => ?_)
    simp only [List.length_map]at h1 h2
    have L:=o i h1
    simp only [List.getElem_map,List.getD_eq_getElem?_getD,List.getElem?_eq_getElem L,Option.getD_some]
    obtain ⟨Z,Y⟩:=List.getElem?_eq_some_iff.1 (M i h1 h2)
    rw [W F[i] L Z,Y]
theorem OE {H0:Hp} {is:List Nat} (o:∀(i:Nat) (h1:i<is.length) (h2:i<H0.length),H[is[i]]? = some H0[i]) (hl:is.length=H0.length) {ν:List Nm}:∀{B:List Nat} {F:List Nm} {bs:List (Option Box)},Cm H0 ν B F bs->Cm H ν (B.map λj=>is.getD j 0) F bs
  | [],[],[],_=>trivial
  | j::_,_::_,_::_,h=>by
    obtain ⟨J,I⟩:=List.getElem?_eq_some_iff.1 h.1
    have A:j<is.length:=by omega
    refine⟨?_,OE o hl h.2⟩
    simp only [List.getD_eq_getElem?_getD,List.getElem?_eq_getElem A,Option.getD_some]
    rw [o j A J,I]
  | [],_::_,_,h=>h.elim
  | [],[],_::_,h=>h.elim
  | _::_,[],_,h=>h.elim
  | _::_,_::_,[],h=>h.elim
theorem La {H0:Hp} {ν:List Nm}:∀{o:List Nat} {A:List Nm} {bs:List (Option Box)},Cm H0 ν o A bs->∀j∈o,j<H0.length
  | [],_,_,_,j,hj=>by cases hj
  | _::_,_::_,_::_,h,j,hj=>by
    rcases List.mem_cons.1 hj with rfl|hj
    · exact (List.getElem?_eq_some_iff.1 h.1).1
    · exact La h.2 j hj
  | _::_,[],_,h,_,_=>h.elim
  | _::_,_::_,[],h,_,_=>h.elim
theorem nV {H0:Hp} {k:Nat} {r:V} {Sout:List (Option Box)} {e:Exit} {sl':Nat->V} (M:pre H0 H) (h:pI C [] k r Sout e sl' H0):pI C [] k r Sout e sl H:=by
  obtain ⟨L,vs,N,A,ν,h1,h2,W,o,X,J⟩:=h
  obtain ⟨is,I,hf⟩:=M
  obtain ⟨hl,O⟩:=FW hf
  cases vs with
  | cons v vs=>exact h1.elim
  | nil =>
    cases h2
    refine⟨L,[],[],A.map λj=>is.getD j 0,ν,trivial,.nil,W,OE O hl o,?_,J⟩
    refine List.pairwise_iff_getElem.2 (λa b F hb B e => ?_)
    simp only [List.length_map]at F hb
    have Y:A[a]<is.length:=by have:=La o _ (List.getElem_mem F);omega
    have R:A[b]<is.length:=by have:=La o _ (List.getElem_mem hb);omega
    simp only [List.getElem_map,List.getD_eq_getElem?_getD,List.getElem?_eq_getElem Y,List.getElem?_eq_getElem R,Option.getD_some]at e
    exact (List.pairwise_iff_getElem.1 X) a b F hb B ((List.getElem_inj I).1 e)
def ww (S:Store):List Bool->List V->List V
  | b::bs,v::vs=>(bif b then co1 S v else v)::ww S bs vs
  | _,_=>[]
theorem zJ (S:Store):∀(bs:List Bool) (vs:List V),bs.length=vs.length->(ww S bs vs).length=vs.length/\∀j (h1:j<(ww S bs vs).length) (h2:j<vs.length),(ww S bs vs)[j]=vs[j]\/(ww S bs vs)[j]=co1 S vs[j]
  | [],[],_=>⟨rfl,λj h1 h2=>absurd h2 (Nat.not_lt_zero j)⟩
  | [],_::_,h=>by simp at h
  | _::_,[],h=>by simp at h
  | b::bs,v::vs,h=>by
    obtain ⟨h1,h2⟩:=zJ S bs vs (by simpa using h)
    refine⟨by simp [ww,h1],λj A o => ?_⟩
    cases j with
    | zero=>cases b <;> simp [ww]
    | succ j=>simpa [ww]using h2 j (by simpa [ww]using A) (by simpa using o)
theorem wH_coc1 {Q:QH} {c:Code} {s:Nat} {m:Nm} {cs:List V} (j:Nat) (bs:List Bool) (h:List V) (hj:H[j]? = some (m,some (.cells s cs))) (hb:bs.length=cs.length) (hc:∀S,ww S bs cs=h) (B:wH C c Q sl (H.set j (m,some (.cells s h)))):wH C c Q sl H:=by
  refine nP B (λS t o => ?_)
  have hm:=o.get hj
  obtain ⟨h1,h2⟩:=zJ S bs cs hb
  rw [hc S]at h1 h2
  exact⟨supd S m (some (.cells s h)),Gst.coM ⟨sl,S,t⟩ m s cs h hm h1 h2,o.set hj (λx A=>A)⟩
theorem wH_coc3 {Q:QH} {c:Code} {α:Type} {enc:α->List D} {xs:List α} {sz s:Nat} {n m:Nm} {cs:List V} (i j:Nat) (bs:List Bool) (h:List V) (hi:H[i]? = some (n,gF sz enc xs)) (hj:H[j]? = some (m,some (.cells s cs))) (hb:bs.length=cs.length)
    (hc:∀S,co1 S (gV n sz xs)=vL enc xs->ww S bs cs=h) (B:wH C c Q sl (H.set j (m,some (.cells s h)))):wH C c Q sl H:=by
  refine nP B (λS t o => ?_)
  have hm:=o.get hj
  obtain ⟨h1,h2⟩:=zJ S bs cs hb
  rw [hc S (co_gF o hi)]at h1 h2
  exact⟨supd S m (some (.cells s h)),Gst.coM ⟨sl,S,t⟩ m s cs h hm h1 h2,o.set hj (λx A=>A)⟩
end
end Go.Eng

/-
  THE ENGINE: a sort of the library's, by its contract off the shelf.
-/
namespace Go.Eng
set_option linter.unusedSectionVars false
variable [DM]
open Go.Sort
set_option linter.unusedVariables false
set_option linter.unusedSimpArgs false
theorem wh.alone {G:Gh} {w:World} {o:List Value} {a:V} (h:wh G w o [a]):∃x,o=[x]/\RepV G w x a:=by
 obtain ⟨hl,h⟩:=h
 match o,hl with
 | [x],_=>exact⟨x,rfl,h 0 (by simp) (by simp)⟩
theorem IA {α:Type} (h:α->D):∀(xs:List α),(Box.vec 1 (xs.map λx=>[h x])).all=xs.map λx=>V.d (h x)
 | []=>rfl
 | x::xs=>by
  have:=IA h xs
  simp only [Box.all,List.map_cons,List.map_nil,List.flatten_cons,List.cons_append,List.nil_append]at this ⊢
  rw [this]
theorem G8 {α:Type} [Inhabited α] {ev:α->Value} {w:World} {b o:Nat} {d:Array α} {arr:Array Value} {t:TypeId} {fr:Nat×Nat} (h:w.heap[b]? = some (.cells arr t fr)) :
  (putRow ev w b o d).heap[b]? = some (.cells (putCells ev o d arr) t fr):=by
 unfold putRow mapBlock
 simp only [Array.getElem?_modify,if_true,h,Option.map_some,onCells]
theorem zh {α:Type} [Inhabited α] {ev:α->Value} {w:World} {b b' o:Nat} {d:Array α} (h:b'≠b):(putRow ev w b o d).heap[b']? = w.heap[b']? := by
 unfold putRow mapBlock
 simp only [Array.getElem?_modify,if_neg (Ne.symm h)]
theorem SL {α:Type} (ev:α->Value) (F:α->D) (h1:∀I w x v,RepD I w v (F x)->v=ev x) (h2:∀I w x,RepD I w (ev x) (F x)) (h3:∀x,(ev x).oneCell'=true) [Inhabited α]
  (A:List α->List α) (hs:∀l,(A l).length=l.length) {P:Program} {f:FuncId}
  (hC:∀(W off cap:Nat) (zs:List α) (w:World),Holds ev w W off zs.toArray->W<w.heap.size->zs.length<4611686018427387904 ->
   Calls P f #[.slice (some ⟨W,off,Option.none⟩) zs.length cap] w λe w'=>e = .returned (.tuple #[])/\∃n os,w'=grow (putRow ev (Sort.ahead w n) W off (A zs).toArray) os)
  (h0:∀(p:Option Addr) (cap:Nat) (w:World),Calls P f #[.slice p 0 cap] w λe w'=>e = .returned (.tuple #[])/\w'=w)
  {xs:List α} (hx:xs.length<4611686018427387904) :
  FnM P f [dV (ax 0) 1 xs] (([]:List Box)++gI 1 (λx=>[F x]) xs) (.tup []) (([]:List Box).map some++gT xs (gB 1 (λx=>[F x]) (A xs))):=by
 have unit:∀G w,RepV G w (.tuple #[]) (.tup []):=λG w => .tup [] [] rfl (λi h1=>absurd h1 (Nat.not_lt_zero i))
 intro G w vargs J hargs
 obtain ⟨v,rfl,hv⟩:=hargs.alone
 cases hxs:xs with
 | nil =>
  rw [hxs]at hv J
  have hv':RepD G.imm w v (.sl []):=hv.d_inv
  obtain ⟨p,cap,rfl⟩:∃p cap,v = .slice p 0 cap:=by
   cases hv' with
   | sl0 a cap=>exact⟨_,_,rfl⟩
   | sl b off cap sz _ us=>exact⟨_,_,rfl⟩
  refine (h0 p cap w).mono ?_
  rintro e w' ⟨rfl,rfl⟩
  exact⟨_,G,iY [],1,_,[],rfl,J,unit _ _,rfl,List.nodup_nil,λi hi=>absurd hi (Nat.not_lt_zero i),λi bx hb=>by simp [gT]at hb⟩
 | cons y ys =>
  have hB:gB 1 (λx=>[F x]) (A xs)=some (.vec 1 ((A xs).map λx=>[F x])):=by
   have:=hs xs
   cases hsx:A xs with
   | nil=>rw [hsx,hxs]at this;simp at this
   | cons a b=>rfl
  rw [<- hxs]
  have hI:(([]:List Box)++gI 1 (λx=>[F x]) xs)=[.vec 1 (xs.map λx=>[F x])]:=by rw [hxs];rfl
  have hT:(([]:List Box).map some++gT xs (gB 1 (λx=>[F x]) (A xs)))=[some (.vec 1 ((A xs).map λx=>[F x]))]:=by rw [hB,hxs];rfl
  rw [hI]at J ⊢
  rw [hT]
  have hdv:dV (ax 0) 1 xs = .vs (ax 0) 1 0 xs.length:=by rw [hxs];rfl
  rw [hdv]at hv
  have hS:iY [.vec 1 (xs.map λx=>[F x])] (ax 0)=some (.vec 1 (xs.map λx=>[F x])):=by rw [Cx];rfl
  obtain ⟨b,o,sz,hmu,hst,hE⟩:=J.box _ _ hS
  have N:Stands G w (.vec 1 (xs.map λx=>[F x])) b o sz:=hst
  have hsz:sz=1:=N.sz
  subst hsz
  have hpos:xs.length≠0:=by rw [hxs];simp
  generalize hk:xs.length=k at hv
  cases hv with
  | vs0=>exact absurd hk hpos
  | @vs _ b2 o2 _ _ _ cap hm hcap hb =>
   rw [hmu]at hm
   simp only [so_,Prod.mk.injEq]at hm
   obtain ⟨rfl,rfl,_⟩:=hm
   obtain ⟨⟨arr,elem,B⟩,O⟩:=N.free rfl
   have Y:=IA F xs
   have R:(Box.vec 1 (xs.map λx=>[F x])).all.length=xs.length:=by rw [Y];simp
   have hroom:o+xs.length<=arr.size:=by have:=N.room;rw [R,bA B]at this;exact this
   have hcell:∀j (h:j<xs.length),arr[o+j]? = some (ev xs[j]):=λj h=>by
    obtain ⟨u,hu,_,hr⟩:=N.cell j (by rw [R];exact h)
    rw [cell_of_row B]at hu
    have e:(Box.vec 1 (xs.map λx=>[F x])).all[j]'(by rw [R];exact h)=V.d (F xs[j]):=by simp only [Y,List.getElem_map]
    rw [e]at hr
    rw [hu,h1 _ _ _ _ hr.d_inv]
   have hH:Holds ev w b o xs.toArray:=λj hj=>by
    have X:j<xs.length:=by simpa using hj
    refine⟨?_,?_⟩
    ·rw [cell_of_row B,hcell j X]
     simp [X]
    ·simp only [World.frozen?,B];simp
   have hadr:(⟨b,o+0*1,Option.none⟩:Addr)=⟨b,o,Option.none⟩:=by simp
   show Calls P f #[.slice (some ⟨b,o+0*1,Option.none⟩) k cap] w _
   rw [hadr,<- hk]
   refine (hC b o cap xs w hH (J.bound _ _ _ _ hmu) hx).mono ?_
   rintro e w' ⟨rfl,n,os,rfl⟩
   have harr':(Sort.ahead w n).heap[b]? = some (.cells arr elem (0,0)):=B
   have L:=G8 (ev:=ev) (o:=o) (d:=(A xs).toArray) harr'
   have Z:(putCells ev o (A xs).toArray arr).size=arr.size:=by simp [putCells]
   have hsl:(A xs).length=xs.length:=hs xs
   have M:=IA F (A xs)
   obtain ⟨i1,e1⟩:=J.write (w':=putRow ev (Sort.ahead w n) b o (A xs).toArray) hS rfl hmu (λb' hb'=>zh hb') (by simp [putRow,mapBlock,Sort.ahead]) (by rw [bA B,bA L,Z];exact Nat.le_refl _) (λe he=>by rw [lm B]at he;rw [lm L];exact he) O rfl rfl rfl (.vec 1 ((A xs).map λx=>[F x])) (λe=>by
    show Stands _ _ _ _ _ _
    refine { sz:=rfl,even:=λy hy=>by obtain ⟨z,_,rfl⟩:=List.mem_map.1 hy;rfl,room := ?_,cell:=λj hj => ?_,free:=λ_=>⟨⟨_,_,L⟩,O⟩,froz:=λe=>by cases e }
    ·rw [M,bA L,Z];simp [hsl];exact hroom
    ·have X:j<(A xs).length:=by rw [M]at hj;simpa using hj
     refine⟨ev (A xs)[j],?_,h3 _,?_⟩
     ·rw [cell_of_row L]
      have hlt:o+j<arr.size:=by omega
      simp only [putCells,Array.getElem?_mapIdx,Array.getElem?_eq_getElem hlt,Option.map_some,List.size_toArray]
      rw [if_pos ⟨by omega,by omega⟩,show o+j-o=j by omega]
      simp [X]
     ·have e:(Box.vec 1 ((A xs).map λx=>[F x])).all[j]'hj=V.d (F (A xs)[j]):=by simp only [M,List.getElem_map]
      rw [e];exact .d (h2 _ _ _))
   obtain ⟨i2,e2⟩:=i1.more (w':=grow (putRow ev (Sort.ahead w n) b o (A xs).toArray) os) (λb' hb'=>by
    show ((putRow ev (Sort.ahead w n) b o (A xs).toArray).heap++os)[b']? = _
    rw [Array.getElem?_append_left hb']) (by simp [grow]) rfl rfl rfl (λ_ _ h=>h) (λ_ _ h => .inl h) rfl (λ_ h=>h)
   refine⟨_,G,_,1,_,[ax 0],rfl,i2,unit _ _,rfl,by simp,λi hi => ?_,λi bx hb => ?_⟩
   ·have:i=0:=by simpa using hi
    subst this;rfl
   ·cases i with
    | zero =>
     simp only [List.getElem?_cons_zero,so_]at hb
     subst hb
     exact⟨ax 0,rfl,by simp [supd,Box.ren]⟩
    | succ i=>simp at hb
def Ps (l:List Int):Option (List Int):=if l.length<4611686018427387904 then some (l.mergeSort λx y=>decide (x<=y))else none
theorem Rt {P:Program} {f:FuncId}
  (F:∀(o off cap:Nat) (zs:List Int) (w:World),Holds (Value.int .i64) w o off zs.toArray->o<w.heap.size->zs.length<4611686018427387904 ->
   Calls P f #[.slice (some ⟨o,off,Option.none⟩) zs.length cap] w λe w'=>e = .returned (.tuple #[])/\∃n os,w'=grow (putRow (Value.int .i64) (Sort.ahead w n) o off (zs.mergeSort λx y=>decide (x<=y)).toArray) os)
  (B:∀(p:Option Addr) (cap:Nat) (w:World),Calls P f #[.slice p 0 cap] w λe w'=>e = .returned (.tuple #[])/\w'=w)
  {xs r:List Int} (A:Ps xs=some r):FnM P f [dV (ax 0) 1 xs] (([]:List Box)++gI 1 eI xs) (.tup []) (([]:List Box).map some++gT xs (gB 1 eI r)):=by
 unfold Ps at A
 split at A
 ·simp only [so_]at A
  subst A
  exact SL (Value.int .i64) (D.int .i64) (λI w x v h=>by cases h;rfl) (λI w x => .int _ _) (λ_=>rfl) _ (λl=>List.length_mergeSort l) F B ‹_›
 ·cases A
end Go.Eng

