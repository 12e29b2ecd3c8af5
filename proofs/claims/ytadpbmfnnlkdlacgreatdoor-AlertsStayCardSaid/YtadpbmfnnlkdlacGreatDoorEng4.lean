/-
  The engine: what the machine does to data, shown once for all programs (part 4).
-/
import Derived.Test.YtadpbmfnnlkdlacGreatDoorEng3
import Derived.Sort.Row
import Derived.Sort.Grow
/-
  THE ENGINE: parts of a slice over a box; clear.
-/
namespace Go.Eng
set_option linter.unusedSectionVars false
variable [DM]
set_option linter.unusedVariables false
set_option linter.unusedSimpArgs false
theorem PL {α:Type} {sz:Nat} {enc:α->List D} {xs:List α} (h:xs ≠ []):gB sz enc xs=some (bV sz enc xs):=by cases xs with
 | nil=>exact absurd rfl h
 | cons x xs=>rfl
section
variable {C:Cfg} {Q:QH} {sl:Nat->V} {H:Hp} {c:Code}
theorem Te {α:Type} {enc:α->List D} {xs:List α} {sz o len:Nat} {n:Nm} (k i:Nat) (J:sl k = .vs n sz o len) (h:H[i]? = some (n,some (bF sz enc xs))) (A:o+len<=xs.length) (F:wH C c Q (upd sl k (vL enc ((xs.drop o).take len))) H):wH C c Q sl H :=
 nP F (λS t B=>⟨S,by
  have:=Gst.co ⟨sl,S,t⟩ k
  have e:co S (sl k)=vL enc ((xs.drop o).take len):=by
   rw [J]
   have I:=B.get h
   have h2:Nat.ble (o+len) xs.length=true:=Nat.ble_eq_true_of_le A
   simp [co,co1,I,h2,List.map_drop,List.map_take]
  simp only [e]at this
  exact this,B⟩)
end
section
variable {C:Cfg} {sl:Nat->V} {H:Hp} {q:Qm} {all rest:List Oper} {K:(Nat->V)->Hp->Prop}
 {dst:Option Tmp} {t ty e:TypeId} {pos:String} {after:Array Edge} {g:Option (Nat×Bool)}
theorem PM {α:Type} {enc:α->List D} {xs:List α} {x:Operand} {n:Nm} {sz k len i:Nat} {z:List V} (p:Nat) (hp:q=none\/Nat.beq all.length (p+(rest.length+1))=true)
  (hf:∀S tk,AgR H S tk (⟨dst,.call ⟨.builtin .clear,#[x],#[t]⟩,ty,pos,after,g⟩::rest)->okQ q all p [n] true) (J:α)
  (X:bP C.P t=some e) (hs:szT C.P e=some sz) (Y:zeroCells C.P e=some z) (R:GY z=some (enc J)) (ho:z.all kz=true) (I:z.length=sz) (B:0<sz)
  (F:ev sl x = .vs n sz k len) (M:k+len<=xs.length) (L:H[i]? = some (n,some (bV sz enc xs)))
  (Z:aQ all sl ⟨dst,.call ⟨.builtin .clear,#[x],#[t]⟩,ty,pos,after,g⟩=some true)
  (h:bv (uU q p [n] true) C all K rest (eQ sl dst (.tup [])) (H.set i (n,some (bV sz enc (xs.take k++List.replicate len J++xs.drop (k+len)))))) :
  bv q C all K (⟨dst,.call ⟨.builtin .clear,#[x],#[t]⟩,ty,pos,after,g⟩::rest) sl H:=by
 refine uQ p [n] true hp hf (Bl L) Z (λS tk K' ok O W => ?_)
 have N:S n=some (.vec sz (xs.map enc)):=O.get L
 have o:k+len<=(xs.map enc).length:=by simpa using M
 by_cases h0:len=0
 ·subst h0
  refine zk (A:=⟨[(n,.vec sz (xs.map enc))],[],.tup []⟩) ?_ (W _ (H.set i (n,some (bV sz enc (xs.take k++List.replicate 0 J++xs.drop (k+0))))) ⟨by simp,by simp⟩ (λe=>by cases e) ?_ h)
  ·show zb C.P t S (ev sl x)=_
   simp only [zb,X,F,hs,Y,N,R]
   rw [if_pos ⟨trivial,trivial,I,ho,o,B⟩,if_pos trivial]
  ·have:=Kz O L (b':=some (bV sz enc (xs.take k++List.replicate 0 J++xs.drop (k+0)))) (λx F=>by simp only [List.replicate_zero,List.append_nil,Nat.add_zero,List.take_append_drop]at F;rw [N];exact F)
   exact this.tail
 ·refine zk (A:=⟨[(n,.vec sz (xs.map enc))],[(n,some (bV sz enc (xs.take k++List.replicate len J++xs.drop (k+len))))],.tup []⟩) ?_ (W _ _ ⟨by simp,by simp⟩ (λe=>by cases e) (O.tail.set L (λx F=>F)) h)
  show zb C.P t S (ev sl x)=_
  simp only [zb,X,F,hs,Y,N,R]
  rw [if_pos ⟨trivial,trivial,I,ho,o,B⟩,if_neg h0]
  simp [bV,List.map_take,List.map_drop]
def rY {α:Type} (xs:List α) (h hi:Int):Option Unit:=if 0<=h/\0<=hi/\h.toNat<=hi.toNat/\hi.toNat<=xs.length then some ()else none
theorem AA {α:Type} {xs:List α} {o hi:Int} {u:Unit} (h:rY xs o hi=some u):0<=o/\0<=hi/\o.toNat<=hi.toNat/\hi.toNat<=xs.length:=by
 unfold rY at h;split at h
 ·assumption
 ·cases h
theorem uW {α:Type} {xs:List α} {o hi:Int} {u:Unit} (h:rY xs o hi=some u):o.toNat+(hi.toNat-o.toNat)<=xs.length:=by
 have:=AA h;omega
section part
variable {α:Type} {enc:α->List D} {xs:List α} {sz:Nat} {n:Nm} {x l hi:Operand} {k k':IntKind} {a b:Int} {u:Unit}
theorem LQ (I:C.P.underlying t=some (.slice e)) (hs:szT C.P e=some sz) {o hi:Option V} {l h:Int} (h1:sM 0 o=some l.toNat) (h2:sM xs.length hi=some h.toNat) (A:rY xs l h=some u) :
  og C.P t (vV n sz xs) o hi none=some (.vs n sz l.toNat (h.toNat-l.toNat)):=by
 obtain ⟨_,_,B,F⟩:=AA A
 simp only [vV,og,I,hs,h1,h2]
 rw [if_pos ⟨B,F,trivial⟩,Nat.zero_add]
theorem Cy (F:C.P.underlying t=some (.slice e)) (hs:szT C.P e=some sz) (A:ev sl x=vV n sz xs) (hl:ev sl l = .d (.int k a)) (o:rY xs a xs.length=some u) (B:aQ all sl ⟨dst,.slice t x (some l) none none,ty,pos,after,g⟩=some true)
  (h:bv q C all K rest (eQ sl dst (.vs n sz a.toNat (((xs.length:Int)).toNat-a.toNat))) H):bv q C all K (⟨dst,.slice t x (some l) none none,ty,pos,after,g⟩::rest) sl H :=
 aJ _ B (by
  show og C.P t (ev sl x) (some (ev sl l)) none none=_
  rw [A,hl];exact LQ F hs (LA (AA o).1) rfl o) h
theorem Lx (I:C.P.underlying t=some (.slice e)) (hs:szT C.P e=some sz) (A:ev sl x=vV n sz xs) (F:ev sl hi = .d (.int k' b)) (o:rY xs 0 b=some u) (B:aQ all sl ⟨dst,.slice t x none (some hi) none,ty,pos,after,g⟩=some true)
  (h:bv q C all K rest (eQ sl dst (.vs n sz 0 b.toNat)) H):bv q C all K (⟨dst,.slice t x none (some hi) none,ty,pos,after,g⟩::rest) sl H :=
 aJ _ B (by
  show og C.P t (ev sl x) none (some (ev sl hi)) none=_
  rw [A,F];exact LQ I hs rfl (LA (AA o).2.1) o) h
end part
end
end Go.Eng

/-
  THE ENGINE: a slice that a function writes into: its box is handed in and handed back.
-/
namespace Go.Eng
set_option linter.unusedSectionVars false
variable [DM]
set_option linter.unusedVariables false
set_option linter.unusedSimpArgs false
def dV {α:Type} (n:Nm) (sz:Nat):List α->V
  | [] => .d (.sl [])
  | x::xs => .vs n sz 0 (x::xs).length
def gI {α:Type} (sz:Nat) (enc:α->List D):List α->List Box
  | []=>[]
  | x::xs=>[.vec sz ((x::xs).map enc)]
def gT {α:Type} (xs:List α) (o:Option Box):List (Option Box):=match xs with
  | []=>[]
  | _::_=>[o]
def neL {α:Type} (xs:List α):Option Unit:=match xs with
  | []=>none
  | _::_=>some ()
def iQ {α β:Type} (xs:List α) (ys:List β):Option Unit:=if xs.length=ys.length then some ()else none
def inN (i:Int) (len:Nat):Option Unit:=if 0<=i/\i.toNat<len then some ()else none
abbrev I9 {α:Type} (xs:List α) (lo len:Nat):List α:=(xs.drop lo).take len
theorem Q9 {α:Type} {xs:List α} {u:Unit} (h:neL xs=some u):xs ≠ []:=by
  cases xs with
  | nil=>cases h
  | cons x xs=>simp
theorem jO {α β:Type} {xs:List α} {ys:List β} {u:Unit} (h:iQ xs ys=some u):xs.length=ys.length:=by
  unfold iQ at h;split at h
  · assumption
  · cases h
theorem JU {i:Int} {n:Nat} {u:Unit} (h:inN i n=some u):0<=i:=by
  unfold inN at h;split at h
  · rename_i h1;exact h1.1
  · cases h
theorem D6 {i:Int} {n:Nat} {u:Unit} (h:inN i n=some u):i.toNat<n:=by
  unfold inN at h;split at h
  · rename_i h1;exact h1.2
  · cases h
theorem Ar {α:Type} {xs:List α} {k len:Nat} {z:α} (h:k+len<=xs.length):xs.length=(xs.take k++List.replicate len z++xs.drop (k+len)).length:=by
  simp only [List.length_append,List.length_take,List.length_replicate,List.length_drop];omega
theorem bQ {α:Type} {n:Nm} {sz:Nat} {xs ys:List α} (h:xs.length=ys.length):dV n sz xs=dV n sz ys:=by
  cases xs with
  | nil=>cases ys with
    | nil=>rfl
    | cons y ys=>simp at h
  | cons x xs=>cases ys with
    | nil=>simp at h
    | cons y ys=>simp only [dV,h]
theorem sV {α:Type} {n:Nm} {sz:Nat} {xs:List α} (h:xs ≠ []):dV n sz xs=vV n sz xs:=by cases xs with
  | nil=>exact absurd rfl h
  | cons x xs=>rfl
theorem tQ {α:Type} {sz:Nat} {enc:α->List D} {xs ys:List α} (h:ys.length=xs.length):xs=[]->gB sz enc ys=none:=λe=>by
  subst e
  cases ys with
  | nil=>rfl
  | cons y ys=>simp at h
section
variable {C:Cfg} {sl:Nat->V} {H:Hp} {Q:QH} {c:Code}
theorem wH_reH (i:Nat) {n:Nm} {b b':Option Box} (h:H[i]? = some (n,b)) (e:b=b') (o:wH C c Q sl (H.set i (n,b'))):wH C c Q sl H:=by
  subst e
  have hi:=(List.getElem?_eq_some_iff.1 h)
  rwa [<- hi.2,List.set_getElem_self]at o
theorem wH_re (k:Nat) {v v':V} (o:sl k=v) (e:v=v') (h:wH C c Q (upd sl k v') H):wH C c Q sl H:=by
  have:upd sl k v'=sl:=by
    funext j
    simp only [upd]
    cases hj:Nat.beq j k with
    | true=>rw [Nat.eq_of_beq_eq_true hj,o,e];rfl
    | false=>rfl
  rw [this]at h;exact h
theorem BF {α:Type} {enc:α->List D} {xs:List α} {sz:Nat} {n:Nm} (k i:Nat) (A:sl k=dV n sz xs) (h:H[i]? = some (n,gF sz enc xs)) (o:wH C c Q (upd sl k (vL enc xs)) H):wH C c Q sl H:=by
  cases xs with
  | nil=>exact wH_re k (v':=vL enc ([]:List α)) A rfl o
  | cons x xs=>exact JD k i A h o
end
section
variable {C:Cfg} {sl:Nat->V} {H:Hp} {q:Qm} {all rest:List Oper} {K:(Nat->V)->Hp->Prop}
variable {dst:Option Tmp} {d:Nat} {t ty:TypeId} {pos:String} {after:Array Edge} {g:Option (Nat×Bool)}
theorem MH (i:Nat) {n:Nm} {b b':Option Box} (h:H[i]? = some (n,b)) (e:b=b') (o:bv q C all K rest sl (H.set i (n,b'))):bv q C all K rest sl H:=by
  subst e
  have hi:=(List.getElem?_eq_some_iff.1 h)
  rwa [<- hi.2,List.set_getElem_self]at o
theorem jb {α:Type} {xs:List α} {x i:Operand} {k:IntKind} {n:Int} {nm:Nm} {size:Nat} (B:(bP C.P t).bind (szT C.P)=some size) (o:ev sl x=dV nm size xs) (hi:ev sl i = .d (.int k n)) (F:0<=n) (h1:n.toNat<xs.length)
    (A:aQ all sl ⟨dst,.indexAddr t x i,ty,pos,after,g⟩=some true) (h:bv q C all K rest (eQ sl dst (.ref nm (0+n.toNat) 0)) H):bv q C all K (⟨dst,.indexAddr t x i,ty,pos,after,g⟩::rest) sl H:=by
  cases xs with
  | nil=>simp at h1
  | cons y ys=>exact Bn B o hi F h1 A h
theorem xq {α:Type} {n:Nm} {sz:Nat} {xs:List α} {x:Operand} {e:TypeId} (B:C.P.underlying t=some (.slice e)) (o:ev sl x=dV n sz xs) (A:aQ all sl ⟨dst,.call ⟨.builtin .len,#[x],#[t]⟩,ty,pos,after,g⟩=some true)
    (h:bv q C all K rest (eQ sl dst (vI xs.length)) H):bv q C all K (⟨dst,.call ⟨.builtin .len,#[x],#[t]⟩,ty,pos,after,g⟩::rest) sl H:=by
  cases xs with
  | nil=>exact bK (enc:=λ_:α=>[]) (xs:=[]) B o A h
  | cons y ys=>exact h_lenw B o A h
theorem Ti {n:Nm} {sz k len:Nat} {x:Operand} {e:TypeId} (B:C.P.underlying t=some (.slice e)) (o:ev sl x = .vs n sz k len) (A:aQ all sl ⟨dst,.call ⟨.builtin .len,#[x],#[t]⟩,ty,pos,after,g⟩=some true)
    (h:bv q C all K rest (eQ sl dst (vI len)) H):bv q C all K (⟨dst,.call ⟨.builtin .len,#[x],#[t]⟩,ty,pos,after,g⟩::rest) sl H :=
  Cj (v:=vI len) (by rw [o];simp only [Eo,B]) A h
theorem Ph {f:Operand} {args:List Operand} {A:Array TypeId} {fn:FuncId} {caps o:List V} {r:V} {Sin:List Box} {Sout:List (Option Box)} (p:Nat) (is:List Nat) {l:List (Nm×Box)} (hp:q=none\/Nat.beq all.length (p+(rest.length+1))=true)
    (Y:∀S tk,AgR H S tk (⟨some d,.call ⟨.value f,args.toArray,A⟩,ty,pos,after,g⟩::rest)->okQ q all p (l.map (·.1)) true) (hc:FnM C.P fn o Sin r Sout)
    (hf:ev sl f = .fn fn caps) (hb:aI C.P fn=true) (hl:pF H is=some l) (hS:Sin.map (λb=>b.ren (l.map (·.1)))=l.map (·.2)) (I:Sin.all (λb=>b.ok is.length)=true)
    (L:∀n∈(args.map (ev sl)++caps).flatMap frz,n∈l.map (·.1)) (ha:∀S tk,AgR H S tk (⟨some d,.call ⟨.value f,args.toArray,A⟩,ty,pos,after,g⟩::rest)->ArgsOK S (args.map (ev sl)++caps) (renL (l.map (·.1)) o)) (X:okL is.length o=true) (hr:okV Sout.length r=true)
    (hlen:Sout.length=is.length) (hi:is.Nodup) (hO:okOut Sout.length Sout=true)
    (hw:aQ all sl ⟨some d,.call ⟨.value f,args.toArray,A⟩,ty,pos,after,g⟩=some true)
    (v:V) (hv:ren (l.map (·.1)) r=v) (Z:Hp) (hH:setH H (outs (l.map (·.1)) is (l.map (·.1)) Sout)=Z)
    (h:bv (uU q p (l.map (·.1)) true) C all K rest (upd sl d v) Z) :
    bv q C all K (⟨some d,.call ⟨.value f,args.toArray,A⟩,ty,pos,after,g⟩::rest) sl H:=by
  subst hv hH
  obtain ⟨B,J⟩:=pu hl
  have O:Sin.length=l.length:=by have:=congrArg List.length hS;simpa using this
  refine uQ p (l.map (·.1)) true hp Y (D9 hl) hw (λS tk K' ok N hk=>vz hf ?_)
  have M:=yO N hi hl
  refine .inl ⟨hb,⟨[],l.map (·.1),o,Sin,r,Sout,false⟩,?_,(λe=>by cases e),?_⟩
  · exact { does := hc
            args:=ha S tk N
            okA:=by simp only [List.length_map,B];exact X
            nodup:=M
            ins:=by
              refine yg (by simp [O]) (λj h1 h2=>⟨?_,?_⟩)
              · simp only [List.length_map,B]
                exact List.all_eq_true.1 I _ (List.getElem_mem h2)
              · simp only [List.length_map]at h1
                have e:=J j (by omega) h1
                have e2:l[j].2=Sin[j].ren (l.map (·.1)):=by
                  have:=congrArg (λx=>x[j]?) hS
                  simp only [List.getElem?_map,List.getElem?_eq_getElem h2,List.getElem?_eq_getElem h1,Option.map_some,so_]at this
                  exact this.symm
                simp only [List.getElem_map]
                show S l[j].1=_
                rw [N.get e,e2]
            len:=by show Sin.length<=Sout.length;omega
            okR:=hr,okO:=hO,mutN:=by show mutOut (List.drop Sin.length Sout)=true;rw [List.drop_of_length_le (by omega)];rfl
            roOK:=(λe=>by cases e),have_:=(λn L=>nomatch L),cov:=(λn h' => .inr (L n h')),dis:=(λn _ L=>nomatch L) }
  · have W:Sout.length-Sin.length=0:=by omega
    have e1:CallData.eff ⟨[],l.map (·.1),o,Sin,r,Sout,false⟩ S d tk=⟨((l.map (·.1)).zip Sin).map (λp=>(p.1,p.2.ren (l.map (·.1)))),fC (l.map (·.1)) (l.map (·.1)) Sout,ren (l.map (·.1)) r⟩:=by
      simp only [CallData.eff,cond_false,CallData.names,W,nZ,List.range_zero,List.map_nil,List.append_nil,iE,iG,List.nil_append]
    show K' (CallData.eff _ S d tk)
    rw [e1]
    refine hk _ _ ⟨λx R => ?_,λx R=>yx R⟩ (λh=>by cases h) ?_ h
    · obtain ⟨y,hy,rfl⟩:=List.mem_map.1 R
      exact (List.of_mem_zip hy).1
    · have e3:(l.map (·.1)).length=is.length:=by simp [B]
      have F:=Cw (ν:=l.map (·.1)) N hi M (bs:=Sout) (λj h1 h2=>by
        simp only [List.length_map]at h2
        exact⟨_,by simp only [List.getElem_map];exact J j h1 h2⟩)
      rw [List.take_of_length_le (by omega)]at F
      exact F.tail
theorem Jd {l:List (Nm×Box)} {i:Nat} {n:Nm} {b:Box}:∀{is:List Nat} {l:List (Nm×Box)},pF H is=some l->H[i]? = some (n,some b)->pF H (is++[i])=some (l++[(n,b)])
  | [],l,h,hi=>by
    simp only [pF,so_]at h;subst h
    simp only [List.nil_append,pF,hi]
  | j::is,l,h,hi=>by
    simp only [pF]at h
    split at h
    · rename_i A b' o h1 h2
      simp only [so_]at h;subst h
      simp only [List.cons_append,pF,h1,Jd (l:=l) h2 hi]
    · cases h
theorem GG (ρ:List Nm):∀(vs:List V) (i:Nat) (v:V),renL ρ (vs.set i v)=(renL ρ vs).set i (ren ρ v)
  | [],_,_=>rfl
  | _::_,0,_=>rfl
  | x::vs,i+1,v=>by simp only [List.set_cons_succ,renL,GG ρ vs i v]
theorem Kl {k:Nat}:∀{vs:List V} {i:Nat} {v:V},okL k (vs.set i .none)=true->okV k v=true->okL k (vs.set i v)=true
  | [],_,_,_,_=>rfl
  | x::vs,0,v,h,o=>by
    simp only [List.set_cons_zero,okL,Bool.and_eq_true]at h ⊢;exact⟨o,h.2⟩
  | x::vs,i+1,v,h,o=>by
    simp only [List.set_cons_succ,okL,Bool.and_eq_true]at h ⊢;exact⟨h.1,Kl h.2 o⟩
theorem tu {α:Type}:∀{l:List α} {i:Nat} {a:α},l[i]? = some a->l.set i a=l
  | x::l,0,a,h=>by simp at h;subst h;rfl
  | x::l,i+1,a,h=>by simp only [List.set_cons_succ];rw [tu (by simpa using h)]
  | [],_,_,h=>by simp at h
theorem II {α:Type} {a b:List α} {i:Nat} {x y:α} (h:a.set i x=b.set i x):a.set i y=b.set i y:=by
  have:=congrArg (λl=>l.set i y) h
  simpa using this
theorem MO (ν:List Nm):∀(is:List Nat) (A:List Nm) (bs:List (Option Box)) (i:Nat) (n:Nm) (o:Option Box),is.length=bs.length->is.length=A.length->Eng.outs ν (is++[i]) (A++[n]) (bs++[o])=Eng.outs ν is A bs++[(i,n,o.map (·.ren ν))]
  | [],[],[],i,n,o,_,_=>rfl
  | j::is,m::A,b::bs,i,n,o,h1,h2=>by simp only [List.cons_append,Eng.outs];rw [MO ν is A bs i n o (by simpa using h1) (by simpa using h2)]
  | [],_::_,_,_,_,_,_,h=>by simp at h
  | [],[],_::_,_,_,_,h,_=>by simp at h
  | _::_,[],_,_,_,_,_,h=>by simp at h
  | _::_,_::_,[],_,_,_,h,_=>by simp at h
theorem LX (ν A:List Nm):∀(is:List Nat) (o:List Nm) (bs:List Box),bs.all (λb=>b.ok 0)=true->Eng.outs ν is o (bs.map some)=Eng.outs A is o (bs.map some)
  | [],_,_,_=>rfl
  | _::_,[],_,_=>rfl
  | _::_,_::_,[],_=>rfl
  | i::is,n::o,b::bs,h=>by
    simp only [List.all_cons,Bool.and_eq_true]at h
    simp only [List.map_cons,Eng.outs,Option.map_some,yP h.1,LX ν A is o bs h.2]
theorem G5 {k:Nat} {os:List Box}:os.all (λb=>b.ok 0)=true->okOut k (os.map some)=true:=by
  induction os with
  | nil=>exact λ_=>rfl
  | cons b os o =>
    intro h
    simp only [List.all_cons,Bool.and_eq_true]at h
    simp only [List.map_cons,okOut,Bool.and_eq_true]
    exact⟨Box.ok_mono (Nat.zero_le _) h.1,o h.2⟩
theorem Ee {k:Nat}:∀{a b:List (Option Box)},okOut k a=true->okOut k b=true->okOut k (a++b)=true
  | [],_,_,h=>h
  | none::a,b,h1,h2=>by simp only [List.cons_append,okOut]at h1 ⊢;exact Ee h1 h2
  | some y::a,b,h1,h2=>by simp only [List.cons_append,okOut,Bool.and_eq_true]at h1 ⊢;exact⟨h1.1,Ee h1.2 h2⟩
theorem MG {vs:List V} {i:Nat} (h:((vs.set i .none).flatMap frz).all (λ_=>false)=true) {n:Nm} (F:n∈vs.flatMap frz):∃v,vs[i]? = some v/\n∈frz v:=by
  have A:(vs.set i .none).flatMap frz=[]:=by
    cases A:(vs.set i .none).flatMap frz with
    | nil=>rfl
    | cons a b=>rw [A]at h;simp at h
  obtain ⟨v,B,o⟩:=List.mem_flatMap.1 F
  obtain ⟨j,hj,rfl⟩:=List.getElem_of_mem B
  by_cases hij:i=j
  · subst hij;exact⟨vs[i],List.getElem?_eq_getElem hj,o⟩
  · exfalso
    have:vs[j]∈vs.set i .none:=by
      have:(vs.set i V.none)[j]'(by simpa using hj)=vs[j]:=by rw [List.getElem_set_ne hij]
      rw [<- this];exact List.getElem_mem _
    have:=vG A _ this
    rw [this]at o;cases o
theorem Nr {bs:List Box} (ρ:List Nm) (h:bs.all (λb=>b.ok 0)=true):bs.map (λb=>b.ren ρ)=bs:=by
  induction bs with
  | nil=>rfl
  | cons b bs o=>simp only [List.all_cons,Bool.and_eq_true]at h;simp only [List.map_cons,yP h.1,o h.2]
theorem Mc {a b:List Nm}:∀{vs:List V},okL a.length vs=true->renL (a++b) vs=renL a vs:=by
  intro vs h
  have key:∀n,okN a.length n=true->y8 (a++b) n=y8 a n:=by
    intro n F
    obtain ⟨i,hi,rfl⟩:=wD F
    rw [wC hi,wC (by simp;omega)]
    simp [List.getElem_append_left hi]
  have go:∀v,okV a.length v=true->ren (a++b) v=ren a v:=by
    intro v
    induction v using V.rec (motive_2:=λvs=>okL a.length vs=true->renL (a++b) vs=renL a vs)with
    | ref n i j=>intro h;simp only [ren];rw [key n h]
    | vs n sz k len=>intro h;simp only [ren];rw [key n h]
    | map n=>intro h;simp only [ren];rw [key n h]
    | fn f caps o=>intro h;simp only [ren];rw [o h]
    | agg cs o=>intro h;simp only [ren];rw [o h]
    | tup vs o=>intro h;simp only [ren];rw [o h]
    | nil=>intro h;rfl
    | cons v vs B A =>
      rename_i h
      simp only [okL,Bool.and_eq_true]at h
      simp only [renL,B h.1,A h.2]
    | _=>intro h;rfl
  induction vs with
  | nil=>rfl
  | cons v vs o =>
    simp only [okL,Bool.and_eq_true]at h
    simp only [renL,go v h.1,o h.2]
theorem kG {α:Type} {enc:α->List D} {sz:Nat} {xs:List α} {f:Operand} {args:List Operand} {ats:Array TypeId} {fn:FuncId} {caps A:List V} {r:V} {bs os:List Box} {o:Option Box} (p:Nat) (is:List Nat) (M B:Nat) {l:List (Nm×Box)} {n:Nm} {w:V}
    (N:q=none\/Nat.beq all.length (p+(rest.length+1))=true)
    (hfp:∀S tk,AgR H S tk (⟨some d,.call ⟨.value f,args.toArray,ats⟩,ty,pos,after,g⟩::rest)->okQ q all p (l.map (·.1)++[n]) true)
    (hc:FnM C.P fn A (bs++gI sz enc xs) r (os.map some++gT xs o))
    (hf:ev sl f = .fn fn caps) (hb:aI C.P fn=true) (hl:pF H is=some l) (hv:H[M]? = some (n,gB sz enc xs))
    (hS:l.map (·.2)=bs) (R:bs.all (λb=>b.ok 0)=true)
    (hw1:(args.map (ev sl)++caps)[B]? = some w) (O:w=gV n sz xs\/w=dV n sz xs\/w=vV n sz xs/\xs ≠ []) (Y:A[B]? = some (dV (ax is.length) sz xs))
    (hn:(((args.map (ev sl)++caps).set B .none).flatMap frz).all (λn=>false)=true)
    (ha:((args.map (ev sl)++caps).map co0).set B .none=(renL (l.map (·.1)) A).set B .none) (hok:okL is.length (A.set B .none)=true) (hr:okV 0 r=true)
    (X:os.length=is.length) (hi:(is++[M]).Nodup) (hO:os.all (λb=>b.ok 0)=true) (ho:∀b,o=some b->b.ok 0=true) (hon:xs=[]->o=none)
    (hw:aQ all sl ⟨some d,.call ⟨.value f,args.toArray,ats⟩,ty,pos,after,g⟩=some true)
    (H':Hp) (hH:(setH H (outs (l.map (·.1)) is (l.map (·.1)) (os.map some))).set M (n,o)=H')
    (h:bv (uU q p (l.map (·.1)++[n]) true) C all K rest (upd sl d r) H') :
    bv q C all K (⟨some d,.call ⟨.value f,args.toArray,ats⟩,ty,pos,after,g⟩::rest) sl H:=by
  have hll:=(pu hl).1
  have hbs:bs.length=l.length:=by rw [<- hS];simp
  have hivs:M∉is:=by
    rw [List.nodup_append]at hi
    exact λhm=>hi.2.2 M hm M (by simp) rfl
  have hisn:is.Nodup:=(List.nodup_append.1 hi).1
  have hset:∀{l':List (Nat×Nm×Option Box)} {H0:Hp},(∀p∈l',p.1≠M)->(setH H0 l')[M]? = H0[M]? := by
    intro l'
    induction l' with
    | nil=>intro H0 _;rfl
    | cons x l' ih =>
      intro H0 hx
      obtain ⟨i,m,b⟩:=x
      simp only [setH]
      rw [ih (λp N=>hx p (by simp [N]))]
      have:i≠M:=hx (i,m,b) (by simp)
      rw [List.getElem?_set_ne this]
  have houts:∀(ν:List Nm) (is:List Nat) (ns:List Nm) (os:List (Option Box)),∀p∈outs ν is ns os,p.1∈is:=by
    intro ν is
    induction is with
    | nil=>intro ns os p N;simp [outs]at N
    | cons i is ih =>
      intro ns os p N
      cases ns with
      | nil=>simp [outs]at N
      | cons m ns=>cases os with
        | nil=>simp [outs]at N
        | cons o os =>
          simp only [outs,List.mem_cons]at N
          rcases N with rfl|N
          · simp
          · exact List.mem_cons_of_mem _ (ih _ _ _ N)
  have hco:∀(S:Store),(w=gV n sz xs\/w=dV n sz xs\/w=vV n sz xs/\xs ≠ [])->(∀x l,xs=x::l->S n=some (.vec sz (xs.map enc)))->co S w=dV n sz xs:=by
    intro S O hS
    cases hxs:xs with
    | nil =>
      subst hxs
      rcases O with h2|h2|⟨h2,h3⟩
      · rw [h2];rfl
      · rw [h2];rfl
      · exact absurd rfl h3
    | cons x l =>
      have:=hS x l hxs
      have e:w = .vs n sz 0 (x::l).length:=by rcases O with h2 | h2 | ⟨h2,_⟩ <;> rw [h2,hxs] <;> rfl
      rw [e]
      simp only [co,co1,this,dV]
  have W:∀S:Store,co S w=dV n sz xs->(args.map (ev sl)++caps).map (co S)=((args.map (ev sl)++caps).map co0).set B (dV n sz xs):=by
    intro S hcw
    have h1:(args.map (ev sl)++caps)=((args.map (ev sl)++caps).set B .none).set B w:=by
      rw [List.set_set,tu hw1]
    have h2:(((args.map (ev sl)++caps).set B .none)).map (co S)=(((args.map (ev sl)++caps).set B .none)).map co0:=F8 (by
      cases hx:((args.map (ev sl)++caps).set B .none).flatMap frz with
      | nil=>rfl
      | cons a b=>rw [hx]at hn;simp at hn)
    have h3:(args.map (ev sl)++caps).map (co S)=((((args.map (ev sl)++caps).set B .none)).map (co S)).set B (co S w):=by
      rw [<- List.map_set,<- h1]
    rw [h3,h2,hcw,List.map_set,List.set_set]
  have h0:=ha
  cases hxs:xs with
  | nil =>
    have hobn:o=none:=hon hxs
    subst hobn
    have hc':FnM C.P fn A bs r (os.map some):=by rw [hxs]at hc;simpa [gI,gT]using hc
    have hq:okL is.length A=true:=by
      have:=Kl (v:=dV (ax is.length) sz xs) hok (by rw [hxs];rfl)
      rwa [tu Y]at this
    refine Ph p is N (λS tk Z=>PK (λm hm=>by simp [hm]) (hfp S tk Z)) hc' hf hb hl ?_ ?_ ?_ ?_ hq (vH (Nat.zero_le _) r hr) (by simp [X]) hisn (G5 hO) hw r (vK hr) H' ?_ ?_
    · rw [hS,Nr _ R]
    · exact List.all_eq_true.2 (λb hb'=>Box.ok_mono (Nat.zero_le _) (List.all_eq_true.1 R b hb'))
    · intro m hm
      obtain ⟨v,I,J⟩:=MG hn hm
      rw [hw1]at I
      simp only [so_]at I
      subst I
      exfalso
      rcases O with h2|h2|⟨_,h2⟩
      · rw [h2,hxs]at J;cases J
      · rw [h2,hxs]at J;cases J
      · exact h2 hxs
    · intro S tk Z
      refine ArgsOK.of_map ?_
      rw [W S (hco S O (λx l e=>by rw [hxs]at e;cases e)),II ha]
      have:(renL (l.map (·.1)) A)[B]? = some (dV n sz xs):=by
        obtain ⟨hlt,he⟩:=List.getElem?_eq_some_iff.1 Y
        rw [List.getElem?_eq_getElem (by rw [cZ];exact hlt),nA _ _ _ _ hlt,he,hxs];rfl
      rw [tu this]
    · rw [<- hH]
      symm
      apply tu
      rw [hset (λp N e=>hivs (e ▸ houts _ _ _ _ p N)),hv,hxs];rfl
    · cases q with
      | none=>exact h
      | some Γ =>
        intro S tk ok Z k L hk hL hO'
        refine h S tk ok Z k L hk (λp0 hp0' => ?_) (λe he m hm => ?_)
        · rcases hL p0 hp0' with h1 | ⟨e,h1,h2,h3,h4,h5⟩
          · exact .inl h1
          · refine .inr ?_
            rcases List.mem_append.1 h1 with h1|h1
            · exact⟨e,List.mem_append.2 (.inl h1),h2,h3,h4,h5⟩
            · rw [List.mem_singleton]at h1;subst h1
              exact⟨(p,l.map (·.1)++[n],true),by simp,h2,λx hx=>by simp only [List.mem_append];exact .inl (h3 x hx),λx hx=>by simp only [List.mem_append];exact .inl (h4 x hx),λe=>by cases e⟩
        · rcases List.mem_append.1 he with he | he
          · exact hO' e (List.mem_append.2 (.inl he)) m hm
          · rw [List.mem_singleton]at he;subst he
            simp only at hm
            rcases List.mem_append.1 hm with hm|hm
            · exact hO' (p,l.map (·.1),true) (by simp) m hm
            · rw [List.mem_singleton]at hm;subst hm
              rw [<- hH]at Z
              have:((setH H (outs (l.map (·.1)) is (l.map (·.1)) (os.map some))).set M (m,none))[M]? = some (m,none):=by
                have h1:=(List.getElem?_eq_some_iff.1 hv).1
                rw [List.getElem?_set_self (by rw [setH_at];exact h1)]
              exact (Z.at_ _ (List.mem_of_getElem? this)).1
  | cons x l' =>
    have hgB:gB sz enc xs=some (.vec sz (xs.map enc)):=by rw [hxs];rfl
    have hv':H[M]? = some (n,some (.vec sz (xs.map enc))):=by rw [hv,hgB]
    have hc':FnM C.P fn A (bs++[.vec sz (xs.map enc)]) r (os.map some++[o]):=by rw [hxs]at hc ⊢;exact hc
    have hp1:=Jd (l:=l) hl hv'
    have F:(l++[(n,Box.vec sz (xs.map enc))]).map (·.1)=l.map (·.1)++[n]:=by simp
    have hdv:dV (ax is.length) sz xs = .vs (ax is.length) sz 0 xs.length:=by rw [hxs];rfl
    have hq:okL (is++[M]).length A=true:=by
      have:=Kl (v:=dV (ax is.length) sz xs) (xD (Nat.le_add_right is.length 1) _ hok) (by rw [hdv];exact Oj (ls_ _))
      rw [tu Y]at this
      simpa using this
    refine Ph p (is++[M]) N (λS tk Z=>by rw [F];exact hfp S tk Z) hc' hf hb hp1 ?_ ?_ ?_ ?_ hq (vH (Nat.zero_le _) r hr) (by simp [X]) hi ?_ hw r (vK hr) H' ?_ ?_
    · rw [List.map_append,Nr _ R]
      simp only [List.map_cons,List.map_nil,List.map_append,hS,Box.ren]
    · rw [List.all_append]
      simp only [Bool.and_eq_true]
      exact⟨List.all_eq_true.2 (λb hb'=>Box.ok_mono (Nat.zero_le _) (List.all_eq_true.1 R b hb')),rfl⟩
    · intro m hm
      obtain ⟨v,I,J⟩:=MG hn hm
      rw [hw1]at I
      simp only [so_]at I
      subst I
      have e:w = .vs n sz 0 xs.length:=by rcases O with h2 | h2 | ⟨h2,_⟩ <;> rw [h2,hxs] <;> rfl
      rw [e]at J
      rw [F]
      have:m=n:=by simpa [frz,RP]using J
      rw [this];simp
    · intro S tk Z
      refine ArgsOK.of_map ?_
      rw [W S (hco S O (λ_ _ _=>Z.get hv')),II ha,F]
      have hpl:B<A.length:=(List.getElem?_eq_some_iff.1 Y).1
      have h1:A=(A.set B .none).set B (dV (ax is.length) sz xs):=by rw [List.set_set,tu Y]
      have h2:renL (l.map (·.1)++[n]) A=(renL (l.map (·.1)) (A.set B .none)).set B (dV n sz xs):=by
        conv=>lhs;rw [h1]
        rw [GG,Mc (by simp only [List.length_map,hll];exact hok),hdv]
        simp only [ren]
        rw [zf (n:=n) (by rw [List.getElem?_append_right (by simp [hll])];simp [hll])]
        rw [hxs];rfl
      rw [h2,GG,List.set_set]
    · refine Ee (G5 hO) ?_
      cases o with
      | none=>rfl
      | some b=>simp only [okOut,Bool.and_true];exact Box.ok_mono (Nat.zero_le _) (ho b rfl)
    · rw [<- hH,F,MO _ _ _ _ _ _ _ (by simp [X]) (by simp [hll]),TR,LX _ (l.map (·.1)) _ _ _ hO]
      simp only [setH]
      cases o with
      | none=>rfl
      | some b=>simp only [Option.map_some,yP (ho b rfl)]
    · rw [F];exact h
theorem FnM.of_wHv {P:Program} {f:FuncId} {fn:Func} {body:Code} (C:Cfg) (N:C.P=P) (hf:P.funcs[f]? = some fn) (hb:fn.body=some body) (I:C.n=fn.ntmps)
    {α:Type} {enc:α->List D} {sz:Nat} {xs:List α} {args:List V} {bs:List Box} {r:V} {Sout:List (Option Box)} (hl:args.length<=fn.ntmps) (B:si C body=true)
    (h:wH C body (pR C fn.results.toList (bs++gI sz enc xs).length r Sout) (OU args) (qW 0 bs++[(ax bs.length,gB sz enc xs)])):FnM P f args (bs++gI sz enc xs) r Sout:=by
  refine FnM.of_wpD' hf hb N I hl ?_
  have hag:Ag (qW 0 bs++[(ax bs.length,gB sz enc xs)]) (iY (bs++gI sz enc xs)) 1:=by
   refine⟨Nat.one_pos,?_,λp o => ?_⟩
   · rw [List.map_append,List.nodup_append]
     refine⟨Ik _ _,by simp,λa J b hb e => ?_⟩
     simp only [List.map_cons,List.map_nil,List.mem_singleton]at hb
     obtain ⟨p,o,rfl⟩:=List.mem_map.1 J
     obtain ⟨j,b',h1,h2⟩:=xM o
     rw [h1,hb]at e
     simp only [ax,Prod.mk.injEq,and_true]at e
     have:=(List.getElem?_eq_some_iff.1 h2).1
     omega
   · rcases List.mem_append.1 o with o | o
     · obtain ⟨j,b,rfl,hb⟩:=xM o
       refine⟨Nat.one_pos,λx A => ?_⟩
       simp only [so_]at A
       subst A
       rw [Dk,Nat.zero_add,List.getElem?_append_left (List.getElem?_eq_some_iff.1 hb).1];exact hb
     · simp only [List.mem_singleton]at o
       subst o
       refine⟨Nat.one_pos,λx A => ?_⟩
       rw [Dk,List.getElem?_append_right (Nat.le_refl _),Nat.sub_self]
       cases xs with
       | nil=>cases A
       | cons y ys=>exact A
  obtain ⟨F,M,L⟩:=h B _ 1 hag
  exact⟨F,M,mf body (λe σ h=>OQ h) L⟩
theorem u6 {α:Type} {enc:α->List D} {sz:Nat} {X:List ResultVar} {r:V} {e:Exit} {bs os:List Box} {xs:List α} {o:Option Box} (R:e = .normal\/e = .ret) (vs:List V) (h1:GV C sl H X vs) (h2:(vs.flatMap frz).all (λ_=>false)=true) (Z:Gf (vs.map co0)=r) (J:okV 0 r=true)
    (B:bs.length=os.length) (hj:H[os.length]? = some (ax os.length,o)) (hO:os.all (λb=>b.ok 0)=true) (ho:∀b,o=some b->b.ok 0=true) (hH:H.take os.length=qW 0 os) :
    pR C X (bs++gI sz enc xs).length r (os.map some++gT xs o) e sl H:=by
  have W:vs.flatMap frz=[]:=by
    cases M:vs.flatMap frz with
    | nil=>rfl
    | cons a b=>rw [M]at h2;simp at h2
  have hc:∀{vs:List V},vs.flatMap frz=[]->CoL H vs (vs.map co0):=by
    intro vs
    induction vs with
    | nil=>exact λ_ => .nil
    | cons v vs N=>exact λh => .cons (kZ (vG h v (by simp)) rfl) (N (by simp only [List.flatMap_cons,List.append_eq_nil_iff]at h;exact h.2))
  have A:∀i (h:i<os.length),H[i]? = some (ax i,some os[i]):=λi hi=>by
    have:=vo os 0 i hi
    rw [Nat.zero_add,<- hH,List.getElem?_take,if_pos hi]at this
    exact this
  have I:∀{ν:List Nm} {l:List Box} {j:Nat} {O:List Nat} {L:List Nm} {bs:List (Option Box)},(∀b∈l,b.ok 0=true)->(∀i (h:i<l.length),H[j+i]? = some (ax (j+i),some l[i]))->Cm H ν O L bs->Cm H ν (List.range' j l.length++O) ((List.range' j l.length).map ax++L) (l.map some++bs):=by
    intro ν l
    induction l with
    | nil=>exact λ_ _ h=>h
    | cons b l N =>
      intro j O L bs hb Y J
      simp only [List.length_cons,List.range'_succ,List.map_cons,List.cons_append]
      refine⟨?_,N (λx M=>hb x (by simp [M])) (λi hi => ?_) J⟩
      · have:=Y 0 (by simp)
        simp only [Option.map_some,yP (hb b (by simp))]
        exact this
      · have:=Y (i+1) (by simpa using hi)
        rw [show j+1+i=j+(i+1) by omega]
        exact this
  have F:∀b∈os,b.ok 0=true:=λb hb=>List.all_eq_true.1 hO b hb
  cases xs with
  | nil =>
    refine⟨R,vs,vs.map co0,List.range' 0 os.length++[],(List.range' 0 os.length).map ax++[],h1,hc W,by rw [Z,vK J],I F (λi hi=>by rw [Nat.zero_add];exact A i hi) trivial,by simp [List.nodup_range'],λi hi => ?_⟩
    have:i<os.length:=by simpa [gI,B]using hi
    simp [this]
  | cons x xs =>
    refine⟨R,vs,vs.map co0,List.range' 0 os.length++[os.length],(List.range' 0 os.length).map ax++[ax os.length],h1,hc W,by rw [Z,vK J],
      I F (λi hi=>by rw [Nat.zero_add];exact A i hi) ⟨?_,trivial⟩,?_,λi hi => ?_⟩
    · rw [hj]
      cases o with
      | none=>rfl
      | some b=>simp only [Option.map_some,yP (ho b rfl)]
    · rw [List.nodup_append]
      refine⟨List.nodup_range',by simp,λa ha b hb => ?_⟩
      simp only [List.mem_singleton]at hb
      simp only [List.mem_range'_1]at ha
      omega
    · have hi':i<os.length+1:=by simpa [gI,B]using hi
      by_cases hlt:i<os.length
      · rw [List.getElem?_append_left (by simpa using hlt)];simp [hlt]
      · have:i=os.length:=by omega
        subst this
        rw [List.getElem?_append_right (by simp)];simp
theorem jP {α:Type} {sz:Nat} {enc:α->List D} {xs:List α}:∀b,gB sz enc xs=some b->b.ok 0=true:=by
  intro b h
  cases xs with
  | nil=>cases h
  | cons x xs=>cases h;rfl
theorem wZ:∀b,(none:Option Box)=some b->b.ok 0=true:=λb h=>by cases h
end
end Go.Eng

/-
  THE ENGINE: rules for maps, arrays and new slices of zeros.
-/
namespace Go.Eng
set_option linter.unusedSectionVars false
variable [DM]
set_option linter.unusedVariables false
set_option linter.unusedSimpArgs false
def Bf {K T:Type} (eq:K->K->Bool) (k:K):List (K×T)->Option Nat
 | []=>none
 | e::es=>if eq k e.1=true then some 0 else (Bf eq k es).map (· + 1)
def mGet {K T:Type} (eq:K->K->Bool) (es:List (K×T)) (k:K):Option T:=match Bf eq k es with
 | some j=>(es[j]?).map (·.2)
 | none=>none
def zK {K T:Type} (eq:K->K->Bool) (es:List (K×T)) (k:K) (v:T):List (K×T):=match Bf eq k es with
 | some j=>es.set j (k,v)
 | none=>es++[(k,v)]
abbrev bM {K T:Type} (kD:K->D) (vD:T->D) (es:List (K×T)):Box := .map (es.map λe=>(kD e.1,vD e.2))
abbrev eqS (a b:ByteArray):Bool:=a==b
theorem PR {K T:Type} {eq:K->K->Bool} {k:K}:∀{es:List (K×T)} {j:Nat},Bf eq k es=some j->j<es.length
 | e::es,j,h=>by
  simp only [Bf]at h
  split at h
  ·simp only [so_]at h;subst h;simp
  ·simp only [Option.map_eq_some_iff]at h
   obtain ⟨i,hi,rfl⟩:=h
   have:=PR hi
   simpa using this
theorem BJ {K T:Type} {eq:K->K->Bool} {kD:K->D} {vD:T->D} {k:K} (o:∀a b,xE (kD a) (kD b)=some (eq a b)):∀(es:List (K×T)),uh (kD k) (es.map λe=>(kD e.1,vD e.2))=some (Bf eq k es)
 | []=>rfl
 | e::es=>by
  simp only [List.map_cons,uh,o,Bf]
  cases h:eq k e.1 with
  | true=>simp
  | false=>simp [BJ o es]
section
variable {C:Cfg} {sl:Nat->V} {H:Hp} {q:Qm} {all rest:List Oper} {K:(Nat->V)->Hp->Prop}
variable {dst:Option Tmp} {d:Nat} {t ty:TypeId} {pos:String} {after:Array Edge} {g:Option (Nat×Bool)}
theorem K4 (p:Nat) (F:q=none\/Nat.beq all.length (p+(rest.length+1))=true) (o:aQ all sl ⟨some d,.makeMap t none,ty,pos,after,g⟩=some true)
  (h:∀n:Nm,bv (uU q p [n] true) C all K rest (upd sl d (.map n)) (H++[(n,some (.map []))])):bv q C all K (⟨some d,.makeMap t none,ty,pos,after,g⟩::rest) sl H :=
 yI rfl p [] F (λ_ _ _=>CV) (λm hm=>by cases hm) o (λS tk J ok I B=>kX (A:=⟨[],[((d,tk),some (.map []))],.map (d,tk)⟩) (λc e=>by cases e) rfl
  (B _ _ _ (.inl rfl) ⟨by simp,by simp⟩ (I.new ok rfl _) (h (d,tk))))
theorem CZ {o T:Type} {eq:o->o->Bool} {kD:o->D} {vD:T->D} {es:List (Kt×T)} {k:o} {z:T} {x i:Operand} {kt et:TypeId} {ok:Bool} {n:Nm} (p j:Nat) (R:q=none\/Nat.beq all.length (p+(rest.length+1))=true)
  (hf:∀S tk,AgR H S tk (⟨dst,.lookup t x i ok,ty,pos,after,g⟩::rest)->okQ q all p [n] false) (L:∀a b,xE (kD a) (kD b)=some (eq a b)) (hm:DC C.P t=some (kt,et)) (B:wW C.P kt (kD k)=true) (Y:zeroV C.P et=some (.d (vD z)))
  (N:ev sl x = .map n) (hi:ev sl i = .d (kD k)) (I:H[j]? = some (n,some (bM kD vD es))) (v:V) (X:FH ok (.d (vD ((mGet eq es k).getD z))) (mGet eq es k).isSome=v)
  (O:aQ all sl ⟨dst,.lookup t x i ok,ty,pos,after,g⟩=some true) (h:bv (uU q p [n] false) C all K rest (eQ sl dst v) H):bv q C all K (⟨dst,.lookup t x i ok,ty,pos,after,g⟩::rest) sl H:=by
 subst X
 refine uQ p [n] false R hf (Bl I) O (λS tk Z M J W=>kX (A:=⟨[(n,bM kD vD es)],[],FH ok (.d (vD ((mGet eq es k).getD z))) (mGet eq es k).isSome⟩) (λc e=>by cases e) ?_ (W _ H ⟨by simp,by simp⟩ (λ_=>rfl) J.tail h))
 show yA C.P t S (ev sl x) (ev sl i) ok=_
 unfold yA
 rw [hm,hi,N]
 simp only [B,cond_true,J.get I,BJ L]
 unfold mGet
 cases hj:Bf eq k es with
 | none=>simp only [Y,Option.map_some,Option.getD_none,Option.isSome_none]
 | some j =>
  have F:=PR hj
  simp only [List.getElem?_map,List.getElem?_eq_getElem F,Option.map_some,Option.getD_some,Option.isSome_some]
theorem Hr {o T:Type} {eq:o->o->Bool} {kD:o->D} {vD:T->D} {es:List (Kt×T)} {k:o} {v:T} {m i x:Operand} {kt et:TypeId} {n:Nm} (p j:Nat) (R:q=none\/Nat.beq all.length (p+(rest.length+1))=true)
  (hf:∀S tk,AgR H S tk (⟨dst,.mapUpdate t m i x,ty,pos,after,g⟩::rest)->okQ q all p [n] true) (M:∀a b,xE (kD a) (kD b)=some (eq a b)) (hm:DC C.P t=some (kt,et)) (B:wW C.P kt (kD k)=true)
  (I:ev sl m = .map n) (hi:ev sl i = .d (kD k)) (L:datum (ev sl x)=some (vD v)) (F:H[j]? = some (n,some (bM kD vD es)))
  (O:aQ all sl ⟨dst,.mapUpdate t m i x,ty,pos,after,g⟩=some true) (h:bv (uU q p [n] true) C all K rest (eQ sl dst .none) (H.set j (n,some (bM kD vD (zK eq es k v))))):bv q C all K (⟨dst,.mapUpdate t m i x,ty,pos,after,g⟩::rest) sl H:=by
 refine uQ p [n] true R hf (Bl F) O (λS tk X N J W=>kX (A:=⟨[(n,bM kD vD es)],[(n,some (bM kD vD (zK eq es k v)))],.none⟩) (λc e=>by cases e) ?_ (W _ _ ⟨by simp,by simp⟩ (λe=>by cases e) (J.tail.set F (λx I=>I)) h))
 show ni C.P t S (ev sl m) (ev sl i) (ev sl x)=_
 rw [Ku L]
 unfold oH
 rw [hm,hi,I,L]
 simp only [B,cond_true,J.get F,BJ M]
 unfold zK
 cases hj:Bf eq k es with
 | none=>simp only [bM,List.map_append,List.map_cons,List.map_nil]
 | some j=>simp only [bM,List.map_set]
theorem Bv {α:Type} {enc:α->List D} {size:Nat} (hl:∀y,(enc y).length=size):∀(xs:List α) (i:Nat) (y:α),xs[i]? = some y->∃r,((xs.map enc).flatten).drop (i*size)=enc y++r
 | x::xs,0,y,h=>by
  simp only [List.getElem?_cons_zero,so_]at h;subst h
  exact⟨(xs.map enc).flatten,by simp⟩
 | x::xs,i+1,y,h=>by
  obtain ⟨r,o⟩:=Bv hl xs i y (by simpa using h)
  refine⟨r,?_⟩
  simp only [List.map_cons,List.flatten_cons]
  rw [Nat.add_mul,Nat.one_mul,Nat.add_comm,<- List.drop_drop,<- hl x,List.drop_left,hl x]
  exact o
 | [],_,_,h=>by simp at h
theorem Sy {α:Type} {enc:α->List D} {xs:List α} {x i:Operand} {k:IntKind} {n:Int} {y:α} {size e m:Nat} {agg:Bool} {ds:List D} (R:C.P.underlying t=some (.array m e)) (hs:szT C.P e=some size) (M:cz C.P e=agg) (N:ev sl x = .d (.agg ds)) (F:(xs.map enc).flatten=ds) (hm:xs.length=m)
  (hi:ev sl i = .d (.int k n)) (A:idx xs n=some y) (hl:∀y,(enc y).length=size) (hsz:agg=true\/size=1) (v:V) (W:rdD agg size (enc y)=some v)
  (O:aQ all sl ⟨dst,.index t x i,ty,pos,after,g⟩=some true) (h:bv q C all K rest (eQ sl dst v) H):bv q C all K (⟨dst,.index t x i,ty,pos,after,g⟩::rest) sl H :=
 aJ v O (by
  show Ak C.P t (ev sl x) (ev sl i)=_
  unfold idx at A
  split at A
  ·rename_i J
   have B:n.toNat<m:=by rw [<- hm];exact (List.getElem?_eq_some_iff.1 A).1
   obtain ⟨r,L⟩:=Bv hl xs n.toNat y A
   rw [N,hi]
   have hc:(decide (0<=n)&&Nat.blt n.toNat m)=true:=by simp [J,Nat.blt_eq,B]
   simp only [Ak,R,hs,hc,cond_true,M]
   rw [<- F,L]
   rw [<- W]
   have o:=hl y
   unfold rdD
   cases agg with
   | true =>
    have h1:Nat.ble size (enc y++r).length=true:=Nat.ble_eq_true_of_le (by rw [List.length_append,o];omega)
    have h2:Nat.ble size (enc y).length=true:=Nat.ble_eq_true_of_le (by omega)
    simp only [cond_true,h1,h2]
    rw [List.take_append_of_le_length (by omega)]
   | false =>
    simp only [cond_false]
    cases he:enc y with
    | nil=>rw [he]at o;rcases hsz with I | I;cases I;simp at o;omega
    | cons c cs=>rfl
  ·cases A) h
end
end Go.Eng

/-
  THE ENGINE: slices with room made ahead; functions that are handed two slices in their boxes.
-/
namespace Go.Eng
set_option linter.unusedSectionVars false
variable [DM]
set_option linter.unusedVariables false
set_option linter.unusedSimpArgs false
def kV {α:Type} (b:Bool) (n:Nm) (sz:Nat) (xs:List α):V:=match b with
  | true=>vV n sz xs
  | false=>gV n sz xs
def kB {α:Type} (b:Bool) (sz:Nat) (enc:α->List D) (xs:List α):Option Box:=match b with
  | true=>some (bV sz enc xs)
  | false=>gB sz enc xs
def kF {α:Type} (b:Bool) (sz:Nat) (enc:α->List D) (xs:List α):Option Box:=match b with
  | true=>some (bF sz enc xs)
  | false=>gF sz enc xs
def kO (b:Bool) (sz:Nat):List (Option Box):=match b with
  | true=>[some (.vec sz [])]
  | false=>[]
def zN (n:Int) (bytes:Nat):Option Unit:=if 0<n/\n*bytes<=2 ^ 47/\n<=2 ^ 47 then some ()else none
section
variable {C:Cfg} {Q:QH} {sl:Nat->V} {H:Hp} {c:Code}
theorem Lv {α:Type} {enc:α->List D} {xs:List α} {sz:Nat} {n:Nm} {b:Bool} (i:Nat) (h:H[i]? = some (n,kB b sz enc xs)) (o:wH C c Q sl (H.set i (n,kF b sz enc xs))):wH C c Q sl H:=by
  cases b with
  | true=>exact J8 i h o
  | false=>exact jN i h o
theorem EB {α:Type} {enc:α->List D} {xs:List α} {sz:Nat} {n:Nm} {b:Bool} (k i:Nat) (A:sl k=kV b n sz xs) (h:H[i]? = some (n,kF b sz enc xs)) (o:wH C c Q (upd sl k (vL enc xs)) H):wH C c Q sl H:=by
  cases b with
  | true=>exact JD k i A h o
  | false=>exact fQ k i A h o
end
section
variable {C:Cfg} {sl:Nat->V} {H:Hp} {q:Qm} {all rest:List Oper} {K:(Nat->V)->Hp->Prop}
variable {dst:Option Tmp} {d:Nat} {t ty:TypeId} {pos:String} {after:Array Edge} {g:Option (Nat×Bool)}
theorem NY {α:Type} {enc:α->List D} {xs ys zs:List α} {x y:Operand} {t' e e':TypeId} {sz bytes i:Nat} {n:Nm} {z:List V} {b:Bool} (p:Nat) (I:q=none\/Nat.beq all.length (p+(rest.length+1))=true) (hf:∀S tk,AgR H S tk (⟨some d,.call ⟨.builtin .append,#[x,y],#[t,t']⟩,ty,pos,after,g⟩::rest)->okQ q all p [n] true) (Y:bP C.P t=some e) (B:bP C.P t'=some e') (hs:szT C.P e=some sz) (Z:zeroCells C.P e=some z) (F:z.length=sz) (W:0<sz) (A:iy C.P e=bytes) (J:bytes<=100000)
    (o:∀y,(enc y).length=sz) (M:ev sl x=kV b n sz xs) (R:H[i]? = some (n,kB b sz enc xs)) (X:ev sl y=vL enc ys) (N:mJ xs ys=some zs)
    (O:aQ all sl ⟨some d,.call ⟨.builtin .append,#[x,y],#[t,t']⟩,ty,pos,after,g⟩=some true)
    (h:∀L:Nm,bv (uU q p [n,L] true) C all K rest (upd sl d (kV b L sz zs)) (H.set i (L,kB b sz enc zs))):bv q C all K (⟨some d,.call ⟨.builtin .append,#[x,y],#[t,t']⟩,ty,pos,after,g⟩::rest) sl H:=by
  cases b with
  | true=>exact h_appv p I hf Y B hs Z F W A J o M R X N O h
  | false=>exact lh p I hf Y B hs Z F W A J o M R X N O h
theorem DN {x:Operand} {e:TypeId} (B:C.P.underlying t=some (.slice e)) (o:ev sl x = .nil) (A:aQ all sl ⟨dst,.call ⟨.builtin .len,#[x],#[t]⟩,ty,pos,after,g⟩=some true)
    (h:bv q C all K rest (eQ sl dst (vI 0)) H):bv q C all K (⟨dst,.call ⟨.builtin .len,#[x],#[t]⟩,ty,pos,after,g⟩::rest) sl H :=
  Cj (v:=vI 0) (by rw [o];simp only [Eo,B]) A h
theorem Ew {x:Operand} {e:TypeId} (F:bP C.P t=some e) (o:ev sl x = .nil) (B:aQ all sl ⟨dst,.call ⟨.builtin .cap,#[x],#[t]⟩,ty,pos,after,g⟩=some true)
    (h:bv q C all K rest (eQ sl dst (vI 0)) H):bv q C all K (⟨dst,.call ⟨.builtin .cap,#[x],#[t]⟩,ty,pos,after,g⟩::rest) sl H :=
  mV B (λS tk J _ I=>zk (A:=⟨[],[],vI 0⟩) (by
    show (Sv C.P t (ev sl x)).bind iJ=_
    rw [o];simp only [Sv,F];rfl) (I _ rfl rfl rfl)) h
theorem Ob {α:Type} {enc:α->List D} {x y:Operand} {t' e:TypeId} {sz o:Nat} {z:List V} {k:IntKind} {n:Int} {u:Unit} (p:Nat) (I:q=none\/Nat.beq all.length (p+(rest.length+1))=true) (W:bP C.P t=some e) (hi:pG C.P t'=true) (hs:szT C.P e=some sz) (X:zeroCells C.P e=some z) (F:z.length=sz) (N:0<sz) (B:iy C.P e=o)
    (L:ev sl x = .nil) (O:ev sl y = .d (.int k n)) (J:zN n o=some u)
    (M:aQ all sl ⟨some d,.call ⟨.builtin .append,#[x,y],#[t,t']⟩,ty,pos,after,g⟩=some true)
    (h:∀nm:Nm,bv (uU q p [nm] true) C all K rest (upd sl d (.vs nm sz 0 n.toNat)) (H++[(nm,some (bV sz enc ([]:List α)))])):bv q C all K (⟨some d,.call ⟨.builtin .append,#[x,y],#[t,t']⟩,ty,pos,after,g⟩::rest) sl H:=by
  unfold zN at J
  split at J
  · rename_i hc
    refine yI rfl p [] I (λ_ _ _=>CV) (λm hm=>by cases hm) M (λS tk Z ok Y R=>zk (A:=⟨[],[((d,tk),some (bV sz enc ([]:List α)))],.vs (d,tk) sz 0 n.toNat⟩) ?_
      (R _ _ _ (.inl rfl) ⟨by simp,by simp⟩ (Y.new ok rfl _) (h (d,tk))))
    show (bif pG C.P t' then vE C.P t t' (ev sl x) (ev sl y) d tk else _)=_
    rw [hi,cond_true,L,O]
    simp only [vE,W,hi,cond_true,hs,X]
    rw [if_pos ⟨hc.1,N,F,by rw [B];exact hc.2.1,hc.2.2⟩]
    rfl
  · cases J
theorem NE {x hi:Operand} {e:TypeId} {n:Nm} {sz k len m:Nat} {A:IntKind} {b:Int} (I:C.P.underlying t=some (.slice e)) (hs:szT C.P e=some sz) (B:ev sl x = .vs n sz k len) (J:ev sl hi = .d (.int A b)) (hb:b=(m:Int)) (o:m<=len)
    (F:aQ all sl ⟨dst,.slice t x none (some hi) none,ty,pos,after,g⟩=some true) (h:bv q C all K rest (eQ sl dst (.vs n sz k m)) H):bv q C all K (⟨dst,.slice t x none (some hi) none,ty,pos,after,g⟩::rest) sl H :=
  aJ _ F (by
    show og C.P t (ev sl x) none (some (ev sl hi)) none=_
    rw [B,J,hb]
    have:sM len (some (.d (.int A (m:Int))))=some m:=by simp [sM]
    simp only [og,I,hs,this]
    rw [show sM 0 none=some 0 from rfl]
    simp only
    rw [if_pos ⟨Nat.zero_le _,o,trivial⟩]
    simp) h
theorem Pb {f:Operand} {args:List Operand} {I:Array TypeId} {fn:FuncId} {caps o:List V} {r:V} {Sin:List Box} {Sout:List (Option Box)} (is:List Nat) (m:Nat) {l:List (Nm×Box)} (hc:FnM C.P fn o Sin r Sout)
    (hf:ev sl f = .fn fn caps) (hb:aI C.P fn=true) (hl:pF H is=some l) (hS:Sin.map (λb=>b.ren (l.map (·.1)))=l.map (·.2)) (J:Sin.all (λb=>b.ok is.length)=true)
    (M:∀n∈(args.map (ev sl)++caps).flatMap frz,n∈l.map (·.1)) (ha:∀S tk,AgR H S tk (⟨some d,.call ⟨.value f,args.toArray,I⟩,ty,pos,after,g⟩::rest)->ArgsOK S (args.map (ev sl)++caps) (renL (l.map (·.1)) o)) (Z:okL is.length o=true) (hr:okV Sout.length r=true)
    (N:Sout.length=is.length+m) (hi:is.Nodup) (hO:okOut Sout.length Sout=true) (X:mutOut (Sout.drop is.length)=true)
    (hw:aQ all sl ⟨some d,.call ⟨.value f,args.toArray,I⟩,ty,pos,after,g⟩=some true)
    (h:∀ν:Nat->Nm,bv none C all K rest (upd sl d (ren (l.map (·.1)++(List.range m).map ν) r))
      (setH H (outs (l.map (·.1)++(List.range m).map ν) is (l.map (·.1)) Sout)++news (l.map (·.1)++(List.range m).map ν) ((List.range m).map ν) (Sout.drop is.length))) :
    bv none C all K (⟨some d,.call ⟨.value f,args.toArray,I⟩,ty,pos,after,g⟩::rest) sl H:=by
  obtain ⟨B,L⟩:=pu hl
  have F:Sin.length=l.length:=by have:=congrArg List.length hS;simpa using this
  refine NQ hw (λS tk K' ok W hk=>vz hf ?_)
  have h:=h (λj=>(d+100000*j,tk))
  have O:=yO W hi hl
  refine .inl ⟨hb,⟨[],l.map (·.1),o,Sin,r,Sout,false⟩,?_,(λe=>by cases e),?_⟩
  · exact { does := hc
            args:=ha S tk W
            okA:=by simp only [List.length_map,B];exact Z
            nodup:=O
            ins:=by
              refine yg (by simp [F]) (λj h1 h2=>⟨?_,?_⟩)
              · simp only [List.length_map,B]
                exact List.all_eq_true.1 J _ (List.getElem_mem h2)
              · simp only [List.length_map]at h1
                have e:=L j (by omega) h1
                have R:l[j].2=Sin[j].ren (l.map (·.1)):=by
                  have:=congrArg (λx=>x[j]?) hS
                  simp only [List.getElem?_map,List.getElem?_eq_getElem h2,List.getElem?_eq_getElem h1,Option.map_some,so_]at this
                  exact this.symm
                simp only [List.getElem_map]
                show S l[j].1=_
                rw [W.get e,R]
            len:=by rw [F,N,B];omega
            okR:=hr,okO:=hO,mutN:=by rw [F,B];exact X
            roOK:=(λe=>by cases e),have_:=(λn M=>nomatch M),cov:=(λn h' => .inr (M n h')),dis:=(λn _ M=>nomatch M) }
  · have Y:Sout.length-Sin.length=m:=by omega
    have e1:CallData.eff ⟨[],l.map (·.1),o,Sin,r,Sout,false⟩ S d tk=⟨((l.map (·.1)).zip Sin).map (λp=>(p.1,p.2.ren (l.map (·.1)))),fC (l.map (·.1)++nZ d tk m) (l.map (·.1)++nZ d tk m) Sout,ren (l.map (·.1)++nZ d tk m) r⟩:=by
      simp only [CallData.eff,cond_false,CallData.names,Y,iE,iG,List.nil_append]
    show K' (CallData.eff _ S d tk)
    rw [e1]
    refine hk _ _ ?_ h
    have R:(List.range m).map (λj=>(d+100000*j,tk))=nZ d tk m:=rfl
    rw [R]
    show AgR _ (gm S (fC _ (l.map (·.1)++nZ d tk m) Sout)) tk rest
    rw [Cc,Ad]
    have e3:(l.map (·.1)).length=is.length:=by simp [B]
    rw [e3]
    have A:=Cw (ν:=l.map (·.1)++nZ d tk m) W hi O (bs:=Sout) (λj h1 h2=>by
      simp only [List.length_map]at h2
      exact⟨_,by simp only [List.getElem_map];exact L j h1 h2⟩)
    rw [List.take_of_length_le (by omega)]at A
    have e4:nZ d tk m=(List.range' 0 m).map λj=>(d+100000*j,tk):=by rw [<- R,Jk]
    rw [e4]at A ⊢
    exact AgR.news ok rfl m 0 ⟨A.nd,A.pos⟩ (λp hp=>⟨.inl (A.at_ p hp).1,(A.at_ p hp).2⟩)
theorem E5 {S:Store}:∀(vs:List V),ArgsOK S vs vs
  | [] => .nil
  | x::vs => .cons (.inl rfl) (E5 vs)
theorem Ka {α:Type} {enc:α->List D} {sz:Nat} {b:Bool} {f:Operand} {args:List Operand} {F:Array TypeId} {fn:FuncId} {caps o:List V}
    (hc:FnM C.P fn o [] (kV b (ax 0) sz ([]:List α)) (kO b sz))
    (hf:ev sl f = .fn fn caps) (hb:aI C.P fn=true)
    (L:((args.map (ev sl)++caps).flatMap frz).all (λn=>false)=true) (M:args.map (ev sl)++caps=o) (B:okL 0 o=true)
    (J:aQ all sl ⟨some d,.call ⟨.value f,args.toArray,F⟩,ty,pos,after,g⟩=some true)
    (h:∀n:Nm,bv none C all K rest (upd sl d (kV b n sz ([]:List α))) (H++[(n,kB b sz enc ([]:List α))])) :
    bv none C all K (⟨some d,.call ⟨.value f,args.toArray,F⟩,ty,pos,after,g⟩::rest) sl H:=by
  have I:∀S tk,AgR H S tk (⟨some d,.call ⟨.value f,args.toArray,F⟩,ty,pos,after,g⟩::rest)->ArgsOK S (args.map (ev sl)++caps) (renL (([]:List (Nm×Box)).map (·.1)) o):=λS tk _=>by
    rw [M]
    have:renL (([]:List (Nm×Box)).map (·.1)) o=o:=Li B
    rw [this];exact E5 o
  have A:∀n∈(args.map (ev sl)++caps).flatMap frz,n∈([]:List (Nm×Box)).map (·.1):=λn A=>by
    cases hx:(args.map (ev sl)++caps).flatMap frz with
    | nil=>rw [hx]at A;cases A
    | cons a b=>rw [hx]at L;simp at L
  cases b with
  | false =>
    refine Pb (Sin:=[]) (r := .nil) (Sout:=[]) [] 0 hc hf hb rfl rfl rfl A I B rfl rfl List.nodup_nil rfl rfl J (λν => ?_)
    simp only [List.range_zero,List.map_nil,List.append_nil,news,outs,setH]
    exact KF (λn=>h n)
  | true =>
    refine Pb (Sin:=[]) (r:=vV (ax 0) sz ([]:List α)) (Sout:=[some (.vec sz [])]) [] 1 hc hf hb rfl rfl rfl A I B ?_ rfl List.nodup_nil rfl rfl J (λν => ?_)
    · exact Oj (Nat.zero_lt_one)
    · have N:ren ((([]:List (Nm×Box)).map (·.1))++(List.range 1).map ν) (vV (ax 0) sz ([]:List α))=vV (ν 0) sz ([]:List α):=by
        simp only [List.map_nil,List.nil_append,vV,ren]
        rw [zf (n:=ν 0) (by simp)]
      rw [N]
      exact h (ν 0)
theorem finK {α:Type} {sz t:Nat} {n:Nm} {e:Exit} {enc:α->List D} (h:e = .normal\/e = .ret) (j:Nat) (h1:sl t = .vs n sz 0 0) (h2:H[j]? = some (n,some (bV sz enc ([]:List α)))) :
    pR C [.tmp t] 0 (vV (ax 0) sz ([]:List α)) [some (.vec sz [])] e sl H :=
  ⟨h,[.vs n sz 0 0],[.vs n sz 0 0],[j],[n],⟨h1,trivial⟩,.cons (.inl rfl) .nil,by
    simp only [Gf,vV,ren]
    rw [zf (n:=n) (by simp)];rfl,⟨h2,trivial⟩,by simp,λi hi=>absurd hi (Nat.not_lt_zero i)⟩
theorem SS {t:Nat} {e:Exit} (h:e = .normal\/e = .ret) (h1:sl t = .nil):pR C [.tmp t] 0 .nil [] e sl H :=
  ⟨h,[.nil],[.nil],[],[],⟨h1,trivial⟩,.cons (.inl rfl) .nil,rfl,trivial,List.nodup_nil,λi hi=>absurd hi (Nat.not_lt_zero i)⟩
end
section
variable {C:Cfg} {sl:Nat->V} {H:Hp} {q:Qm} {all rest:List Oper} {K:(Nat->V)->Hp->Prop}
variable {d:Nat} {t ty:TypeId} {pos:String} {after:Array Edge} {g:Option (Nat×Bool)}
end
end Go.Eng

/-
  THE ENGINE: functions that are handed two slices in their boxes.
-/
namespace Go.Eng
set_option linter.unusedSectionVars false
variable [DM]
set_option linter.unusedVariables false
set_option linter.unusedSimpArgs false
def okO (os:List (Option Box)):Bool:=os.all λo=>match o with
  | some b=>b.ok 0
  | none=>true
theorem ArgsOK.set {S:Store} {x y B A:V} (o:A=B\/A=co S B):∀{a b:List V} {i:Nat},ArgsOK S (a.set i x) (b.set i y)->ArgsOK S (a.set i B) (b.set i A)
  | [],[],i,h=>by simpa using h
  | [],b::bs,i,h=>by cases i <;> (simp at h;cases h)
  | a::F,[],i,h=>by cases i <;> (simp at h;cases h)
  | a::F,b::bs,0,h=>by
    simp only [List.set_cons_zero]at h ⊢
    cases h with
    | cons _ t=>exact .cons o t
  | a::F,b::bs,i+1,h=>by
    simp only [List.set_cons_succ]at h ⊢
    cases h with
    | cons h1 t=>exact .cons h1 (ArgsOK.set o t)
section
variable {C:Cfg} {sl:Nat->V} {H:Hp} {q:Qm} {all rest:List Oper} {K:(Nat->V)->Hp->Prop}
variable {dst:Option Tmp} {d:Nat} {t ty:TypeId} {pos:String} {after:Array Edge} {g:Option (Nat×Bool)}
theorem pick_at {o A:List (Nat×V)} (is:List Nat) (h:pick o sl=o) (e:(is.filterMap λi=>o[i]?)=A):pick A sl=A:=by
  subst e
  unfold pick at h ⊢
  have B:∀p∈o,(p.1,sl p.1)=p:=by
    intro p B
    obtain ⟨i,hi,rfl⟩:=List.getElem_of_mem B
    have:=congrArg (λl=>l[i]?) h
    simpa [List.getElem?_map,List.getElem?_eq_getElem hi]using this
  conv=>rhs;rw [<- List.map_id (is.filterMap λi=>o[i]?)]
  refine List.map_congr_left (λp h1 => ?_)
  obtain ⟨i,_,hi⟩:=List.mem_filterMap.1 h1
  exact B p (List.mem_of_getElem? hi)
theorem yw {H0:Hp} (h:H.take H0.length=H0):pre H0 H:=aG h
theorem pre_at {H0 J:Hp} (R:pre H0 H) (h:pre J H0):pre J H:=by
  obtain ⟨is,Z,W⟩:=R
  obtain ⟨F,hm,hf⟩:=h
  obtain ⟨hl,O⟩:=FV W
  obtain ⟨N,M⟩:=FV hf
  have o:∀(a:Nat) (A:a<F.length),F[a]<is.length:=λa A=>by
    have:=(List.getElem?_eq_some_iff.1 (M a A (by omega))).1
    omega
  refine⟨F.map λj=>is.getD j 0,?_,?_⟩
  · refine List.pairwise_iff_getElem.2 (λa b A hb I e => ?_)
    simp only [List.length_map]at A hb
    have h1:=o a A
    have h2:=o b hb
    simp only [List.getElem_map,List.getD_eq_getElem?_getD,List.getElem?_eq_getElem h1,List.getElem?_eq_getElem h2,Option.getD_some]at e
    have B:=(List.pairwise_iff_getElem.1 hm) a b A hb I
    exact B ((List.getElem_inj Z).1 e)
  · refine List.ext_getElem (by simp [N]) (λi h1 h2 => ?_)
    simp only [List.length_map]at h1 h2
    have L:=o i h1
    simp only [List.getElem_map,List.getD_eq_getElem?_getD,List.getElem?_eq_getElem L,Option.getD_some]
    obtain ⟨Y,X⟩:=List.getElem?_eq_some_iff.1 (M i h1 h2)
    rw [O F[i] L Y,X]
theorem OV {H0:Hp} {is:List Nat} (o:∀(i:Nat) (h1:i<is.length) (h2:i<H0.length),H[is[i]]? = some H0[i]) (hl:is.length=H0.length) {ν:List Nm}:∀{F:List Nat} {A:List Nm} {bs:List (Option Box)},Cm H0 ν F A bs->Cm H ν (F.map λj=>is.getD j 0) A bs
  | [],[],[],_=>trivial
  | j::_,_::_,_::_,h=>by
    obtain ⟨J,I⟩:=List.getElem?_eq_some_iff.1 h.1
    have B:j<is.length:=by omega
    refine⟨?_,OV o hl h.2⟩
    simp only [List.getD_eq_getElem?_getD,List.getElem?_eq_getElem B,Option.getD_some]
    rw [o j B J,I]
  | [],_::_,_,h=>h.elim
  | [],[],_::_,h=>h.elim
  | _::_,[],_,h=>h.elim
  | _::_,_::_,[],h=>h.elim
theorem Kk {H0:Hp} {ν:List Nm}:∀{o:List Nat} {A:List Nm} {bs:List (Option Box)},Cm H0 ν o A bs->∀j∈o,j<H0.length
  | [],_,_,_,j,hj=>by cases hj
  | _::_,_::_,_::_,h,j,hj=>by
    rcases List.mem_cons.1 hj with rfl|hj
    · exact (List.getElem?_eq_some_iff.1 h.1).1
    · exact Kk h.2 j hj
  | _::_,[],_,h,_,_=>h.elim
  | _::_,_::_,[],h,_,_=>h.elim
theorem nV {H0:Hp} {k:Nat} {r:V} {Sout:List (Option Box)} {e:Exit} {sl':Nat->V} (O:pre H0 H) (h:pR C [] k r Sout e sl' H0):pR C [] k r Sout e sl H:=by
  obtain ⟨R,vs,J,A,ν,h1,h2,W,F,M,L⟩:=h
  obtain ⟨is,Y,hf⟩:=O
  obtain ⟨hl,N⟩:=FV hf
  cases vs with
  | cons v vs=>exact h1.elim
  | nil =>
    cases h2
    refine⟨R,[],[],A.map λj=>is.getD j 0,ν,trivial,.nil,W,OV N hl F,?_,L⟩
    refine List.pairwise_iff_getElem.2 (λa b o hb B e => ?_)
    simp only [List.length_map]at o hb
    have X:A[a]<is.length:=by have:=Kk F _ (List.getElem_mem o);omega
    have I:A[b]<is.length:=by have:=Kk F _ (List.getElem_mem hb);omega
    simp only [List.getElem_map,List.getD_eq_getElem?_getD,List.getElem?_eq_getElem X,List.getElem?_eq_getElem I,Option.getD_some]at e
    exact (List.pairwise_iff_getElem.1 M) a b o hb B ((List.getElem_inj Y).1 e)
def vR (S:Store):List Bool->List V->List V
  | b::bs,v::vs=>(bif b then co1 S v else v)::vR S bs vs
  | _,_=>[]
theorem zB (S:Store):∀(bs:List Bool) (vs:List V),bs.length=vs.length->(vR S bs vs).length=vs.length/\∀j (h1:j<(vR S bs vs).length) (h2:j<vs.length),(vR S bs vs)[j]=vs[j]\/(vR S bs vs)[j]=co1 S vs[j]
  | [],[],_=>⟨rfl,λj h1 h2=>absurd h2 (Nat.not_lt_zero j)⟩
  | [],_::_,h=>by simp at h
  | _::_,[],h=>by simp at h
  | b::bs,v::vs,h=>by
    obtain ⟨h1,h2⟩:=zB S bs vs (by simpa using h)
    refine⟨by simp [vR,h1],λj A o => ?_⟩
    cases j with
    | zero=>cases b <;> simp [vR]
    | succ j=>simpa [vR]using h2 j (by simpa [vR]using A) (by simpa using o)
theorem wH_coc1 {Q:QH} {c:Code} {s:Nat} {m:Nm} {cs:List V} (j:Nat) (bs:List Bool) (h:List V) (hj:H[j]? = some (m,some (.cells s cs))) (hb:bs.length=cs.length) (hc:∀S,vR S bs cs=h) (A:wH C c Q sl (H.set j (m,some (.cells s h)))):wH C c Q sl H:=by
  refine nP A (λS t o => ?_)
  have hm:=o.get hj
  obtain ⟨h1,h2⟩:=zB S bs cs hb
  rw [hc S]at h1 h2
  exact⟨supd S m (some (.cells s h)),Gst.coM ⟨sl,S,t⟩ m s cs h hm h1 h2,o.set hj (λx B=>B)⟩
theorem wH_coc3 {Q:QH} {c:Code} {α:Type} {enc:α->List D} {xs:List α} {sz s:Nat} {n m:Nm} {cs:List V} (i j:Nat) (bs:List Bool) (h:List V) (hi:H[i]? = some (n,gF sz enc xs)) (hj:H[j]? = some (m,some (.cells s cs))) (hb:bs.length=cs.length)
    (hc:∀S,co1 S (gV n sz xs)=vL enc xs->vR S bs cs=h) (A:wH C c Q sl (H.set j (m,some (.cells s h)))):wH C c Q sl H:=by
  refine nP A (λS t o => ?_)
  have hm:=o.get hj
  obtain ⟨h1,h2⟩:=zB S bs cs hb
  rw [hc S (co_gF o hi)]at h1 h2
  exact⟨supd S m (some (.cells s h)),Gst.coM ⟨sl,S,t⟩ m s cs h hm h1 h2,o.set hj (λx B=>B)⟩
end
end Go.Eng

/-
  THE ENGINE: a sort of the library's, by its contract off the shelf.
-/
namespace Go.Eng
set_option linter.unusedSectionVars false
variable [DM]
open Go.Sort
set_option linter.unusedVariables false
set_option linter.unusedSimpArgs false
theorem wo.alone {G:Gh} {w:World} {o:List Value} {a:V} (h:wo G w o [a]):∃x,o=[x]/\RepV G w x a:=by
 obtain ⟨hl,h⟩:=h
 match o,hl with
 | [x],_=>exact⟨x,rfl,h 0 (by simp) (by simp)⟩
theorem Gb {α:Type} (h:α->D):∀(xs:List α),(Box.vec 1 (xs.map λx=>[h x])).all=xs.map λx=>V.d (h x)
 | []=>rfl
 | x::xs=>by
  have:=Gb h xs
  simp only [Box.all,List.map_cons,List.map_nil,List.flatten_cons,List.cons_append,List.nil_append]at this ⊢
  rw [this]
theorem Ia {α:Type} [Inhabited α] {ev:α->Value} {w:World} {b o:Nat} {d:Array α} {arr:Array Value} {t:TypeId} {fr:Nat×Nat} (h:w.heap[b]? = some (.cells arr t fr)) :
  (putRow ev w b o d).heap[b]? = some (.cells (putCells ev o d arr) t fr):=by
 unfold putRow mapBlock
 simp only [Array.getElem?_modify,if_true,h,Option.map_some,onCells]
theorem yZ {α:Type} [Inhabited α] {ev:α->Value} {w:World} {b b' o:Nat} {d:Array α} (h:b'≠b):(putRow ev w b o d).heap[b']? = w.heap[b']? := by
 unfold putRow mapBlock
 simp only [Array.getElem?_modify,if_neg (Ne.symm h)]
theorem TC {α:Type} (ev:α->Value) (F:α->D) (h1:∀I w x v,RepD I w v (F x)->v=ev x) (h2:∀I w x,RepD I w (ev x) (F x)) (h3:∀x,(ev x).oneCell'=true) [Inhabited α]
  (A:List α->List α) (hs:∀l,(A l).length=l.length) {P:Program} {f:FuncId}
  (hC:∀(X off cap:Nat) (zs:List α) (w:World),Holds ev w X off zs.toArray->X<w.heap.size->zs.length<4611686018427387904 ->
   Calls P f #[.slice (some ⟨X,off,Option.none⟩) zs.length cap] w λe w'=>e = .returned (.tuple #[])/\∃n os,w'=grow (putRow ev (Sort.ahead w n) X off (A zs).toArray) os)
  (h0:∀(p:Option Addr) (cap:Nat) (w:World),Calls P f #[.slice p 0 cap] w λe w'=>e = .returned (.tuple #[])/\w'=w)
  {xs:List α} (hx:xs.length<4611686018427387904) :
  FnM P f [dV (ax 0) 1 xs] (([]:List Box)++gI 1 (λx=>[F x]) xs) (.tup []) (([]:List Box).map some++gT xs (gB 1 (λx=>[F x]) (A xs))):=by
 have unit:∀G w,RepV G w (.tuple #[]) (.tup []):=λG w => .tup [] [] rfl (λi h1=>absurd h1 (Nat.not_lt_zero i))
 intro G w vargs J hargs
 obtain ⟨v,rfl,hv⟩:=hargs.alone
 cases hxs:xs with
 | nil =>
  rw [hxs]at hv J
  have hv':RepD G.imm w v (.sl []):=hv.d_inv
  obtain ⟨p,cap,rfl⟩:∃p cap,v = .slice p 0 cap:=by
   cases hv' with
   | sl0 a cap=>exact⟨_,_,rfl⟩
   | sl b off cap sz _ us=>exact⟨_,_,rfl⟩
  refine (h0 p cap w).mono ?_
  rintro e w' ⟨rfl,rfl⟩
  exact⟨_,G,iY [],1,_,[],rfl,J,unit _ _,rfl,List.nodup_nil,λi hi=>absurd hi (Nat.not_lt_zero i),λi bx hb=>by simp [gT]at hb⟩
 | cons y ys =>
  have hB:gB 1 (λx=>[F x]) (A xs)=some (.vec 1 ((A xs).map λx=>[F x])):=by
   have:=hs xs
   cases hsx:A xs with
   | nil=>rw [hsx,hxs]at this;simp at this
   | cons a b=>rfl
  rw [<- hxs]
  have hI:(([]:List Box)++gI 1 (λx=>[F x]) xs)=[.vec 1 (xs.map λx=>[F x])]:=by rw [hxs];rfl
  have hT:(([]:List Box).map some++gT xs (gB 1 (λx=>[F x]) (A xs)))=[some (.vec 1 ((A xs).map λx=>[F x]))]:=by rw [hB,hxs];rfl
  rw [hI]at J ⊢
  rw [hT]
  have hdv:dV (ax 0) 1 xs = .vs (ax 0) 1 0 xs.length:=by rw [hxs];rfl
  rw [hdv]at hv
  have hS:iY [.vec 1 (xs.map λx=>[F x])] (ax 0)=some (.vec 1 (xs.map λx=>[F x])):=by rw [Dk];rfl
  obtain ⟨b,o,sz,hmu,hst,hE⟩:=J.box _ _ hS
  have N:Stands G w (.vec 1 (xs.map λx=>[F x])) b o sz:=hst
  have hsz:sz=1:=N.sz
  subst hsz
  have hpos:xs.length≠0:=by rw [hxs];simp
  generalize hk:xs.length=k at hv
  cases hv with
  | vs0=>exact absurd hk hpos
  | @vs _ b2 o2 _ _ _ cap hm hcap hb =>
   rw [hmu]at hm
   simp only [so_,Prod.mk.injEq]at hm
   obtain ⟨rfl,rfl,_⟩:=hm
   obtain ⟨⟨arr,elem,B⟩,O⟩:=N.free rfl
   have Y:=Gb F xs
   have R:(Box.vec 1 (xs.map λx=>[F x])).all.length=xs.length:=by rw [Y];simp
   have hroom:o+xs.length<=arr.size:=by have:=N.room;rw [R,bB B]at this;exact this
   have hcell:∀j (h:j<xs.length),arr[o+j]? = some (ev xs[j]):=λj h=>by
    obtain ⟨u,hu,_,hr⟩:=N.cell j (by rw [R];exact h)
    rw [cell_of_row B]at hu
    have e:(Box.vec 1 (xs.map λx=>[F x])).all[j]'(by rw [R];exact h)=V.d (F xs[j]):=by simp only [Y,List.getElem_map]
    rw [e]at hr
    rw [hu,h1 _ _ _ _ hr.d_inv]
   have hH:Holds ev w b o xs.toArray:=λj hj=>by
    have W:j<xs.length:=by simpa using hj
    refine⟨?_,?_⟩
    ·rw [cell_of_row B,hcell j W]
     simp [W]
    ·simp only [World.frozen?,B];simp
   have hadr:(⟨b,o+0*1,Option.none⟩:Addr)=⟨b,o,Option.none⟩:=by simp
   show Calls P f #[.slice (some ⟨b,o+0*1,Option.none⟩) k cap] w _
   rw [hadr,<- hk]
   refine (hC b o cap xs w hH (J.bound _ _ _ _ hmu) hx).mono ?_
   rintro e w' ⟨rfl,n,os,rfl⟩
   have harr':(Sort.ahead w n).heap[b]? = some (.cells arr elem (0,0)):=B
   have L:=Ia (ev:=ev) (o:=o) (d:=(A xs).toArray) harr'
   have Z:(putCells ev o (A xs).toArray arr).size=arr.size:=by simp [putCells]
   have hsl:(A xs).length=xs.length:=hs xs
   have M:=Gb F (A xs)
   obtain ⟨i1,e1⟩:=J.write (w':=putRow ev (Sort.ahead w n) b o (A xs).toArray) hS rfl hmu (λb' hb'=>yZ hb') (by simp [putRow,mapBlock,Sort.ahead]) (by rw [bB B,bB L,Z];exact Nat.le_refl _) (λe he=>by rw [lw B]at he;rw [lw L];exact he) O rfl rfl rfl (.vec 1 ((A xs).map λx=>[F x])) (λe=>by
    show Stands _ _ _ _ _ _
    refine { sz:=rfl,even:=λy hy=>by obtain ⟨z,_,rfl⟩:=List.mem_map.1 hy;rfl,room := ?_,cell:=λj hj => ?_,free:=λ_=>⟨⟨_,_,L⟩,O⟩,froz:=λe=>by cases e }
    ·rw [M,bB L,Z];simp [hsl];exact hroom
    ·have W:j<(A xs).length:=by rw [M]at hj;simpa using hj
     refine⟨ev (A xs)[j],?_,h3 _,?_⟩
     ·rw [cell_of_row L]
      have hlt:o+j<arr.size:=by omega
      simp only [putCells,Array.getElem?_mapIdx,Array.getElem?_eq_getElem hlt,Option.map_some,List.size_toArray]
      rw [if_pos ⟨by omega,by omega⟩,show o+j-o=j by omega]
      simp [W]
     ·have e:(Box.vec 1 ((A xs).map λx=>[F x])).all[j]'hj=V.d (F (A xs)[j]):=by simp only [M,List.getElem_map]
      rw [e];exact .d (h2 _ _ _))
   obtain ⟨i2,e2⟩:=i1.more (w':=grow (putRow ev (Sort.ahead w n) b o (A xs).toArray) os) (λb' hb'=>by
    show ((putRow ev (Sort.ahead w n) b o (A xs).toArray).heap++os)[b']? = _
    rw [Array.getElem?_append_left hb']) (by simp [grow]) rfl rfl rfl (λ_ _ h=>h) (λ_ _ h => .inl h) rfl (λ_ h=>h)
   refine⟨_,G,_,1,_,[ax 0],rfl,i2,unit _ _,rfl,by simp,λi hi => ?_,λi bx hb => ?_⟩
   ·have:i=0:=by simpa using hi
    subst this;rfl
   ·cases i with
    | zero =>
     simp only [List.getElem?_cons_zero,so_]at hb
     subst hb
     exact⟨ax 0,rfl,by simp [supd,Box.ren]⟩
    | succ i=>simp at hb
def LC (l:List Int):Option (List Int):=if l.length<4611686018427387904 then some (l.mergeSort λx y=>decide (x<=y))else none
theorem TS {P:Program} {f:FuncId}
  (B:∀(o off cap:Nat) (zs:List Int) (w:World),Holds (Value.int .i64) w o off zs.toArray->o<w.heap.size->zs.length<4611686018427387904 ->
   Calls P f #[.slice (some ⟨o,off,Option.none⟩) zs.length cap] w λe w'=>e = .returned (.tuple #[])/\∃n os,w'=grow (putRow (Value.int .i64) (Sort.ahead w n) o off (zs.mergeSort λx y=>decide (x<=y)).toArray) os)
  (F:∀(p:Option Addr) (cap:Nat) (w:World),Calls P f #[.slice p 0 cap] w λe w'=>e = .returned (.tuple #[])/\w'=w)
  {xs r:List Int} (A:LC xs=some r):FnM P f [dV (ax 0) 1 xs] (([]:List Box)++gI 1 eI xs) (.tup []) (([]:List Box).map some++gT xs (gB 1 eI r)):=by
 unfold LC at A
 split at A
 ·simp only [so_]at A
  subst A
  exact TC (Value.int .i64) (D.int .i64) (λI w x v h=>by cases h;rfl) (λI w x => .int _ _) (λ_=>rfl) _ (λl=>List.length_mergeSort l) B F ‹_›
 ·cases A
end Go.Eng

