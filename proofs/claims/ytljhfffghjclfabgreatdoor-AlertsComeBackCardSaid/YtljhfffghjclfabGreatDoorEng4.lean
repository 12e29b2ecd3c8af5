/-
  The engine: what the machine does to data, shown once for all programs (part 4).
-/
import Derived.Test.YtljhfffghjclfabGreatDoorEng3
import Derived.Sort.Row
import Derived.Sort.Grow
/-
  THE ENGINE: parts of a slice over a box; clear.
-/
namespace Go.Eng
set_option linter.unusedSectionVars false
variable [DM]
set_option linter.unusedVariables false
set_option linter.unusedSimpArgs false
theorem gB_cons {α:Type} {sz:Nat} {enc:α->List D} {xs:List α} (h:xs ≠ []):gB sz enc xs=some (bV sz enc xs):=by cases xs with
 | nil=>exact absurd rfl h
 | cons x xs=>rfl
section
variable {C:Cfg} {Q:QH} {sl:Nat->V} {H:Hp} {c:Code}
theorem PH {α:Type} {enc:α->List D} {xs:List α} {sz o len:Nat} {n:Nm} (k i:Nat) (J:sl k = .vs n sz o len) (h:H[i]? = some (n,some (bF sz enc xs))) (A:o+len<=xs.length) (F:wH C c Q (upd sl k (vL enc ((xs.drop o).take len))) H):wH C c Q sl H :=
 oH F (λS t B=>⟨S,by
  have:=Gst.co ⟨sl,S,t⟩ k
  have e:co S (sl k)=vL enc ((xs.drop o).take len):=by
   rw [J]
   have I:=B.get h
   have h2:Nat.ble (o+len) xs.length=true:=Nat.ble_eq_true_of_le A
   simp [co,co1,I,h2,List.map_drop,List.map_take]
  simp only [e]at this
  exact this,B⟩)
end
section
variable {C:Cfg} {sl:Nat->V} {H:Hp} {q:Qm} {all rest:List Oper} {K:(Nat->V)->Hp->Prop}
 {dst:Option Tmp} {t ty e:TypeId} {pos:String} {after:Array Edge} {g:Option (Nat×Bool)}
theorem h_clear {α:Type} {enc:α->List D} {xs:List α} {x:Operand} {n:Nm} {sz k len i:Nat} {z:List V} (p:Nat) (hp:q=none\/Nat.beq all.length (p+(rest.length+1))=true)
  (hf:∀S tk,AgR H S tk (⟨dst,.call ⟨.builtin .clear,#[x],#[t]⟩,ty,pos,after,g⟩::rest)->okQ q all p [n] true) (I:α)
  (he:elemT C.P t=some e) (hs:szT C.P e=some sz) (R:zeroCells C.P e=some z) (W:F5 z=some (enc I)) (ho:z.all iM=true) (J:z.length=sz) (o:0<sz)
  (F:ev sl x = .vs n sz k len) (O:k+len<=xs.length) (L:H[i]? = some (n,some (bV sz enc xs)))
  (Y:aL all sl ⟨dst,.call ⟨.builtin .clear,#[x],#[t]⟩,ty,pos,after,g⟩=some true)
  (h:aR (mV q p [n] true) C all K rest (dE sl dst (.tup [])) (H.set i (n,some (bV sz enc (xs.take k++List.replicate len I++xs.drop (k+len)))))) :
  aR q C all K (⟨dst,.call ⟨.builtin .clear,#[x],#[t]⟩,ty,pos,after,g⟩::rest) sl H:=by
 refine rz p [n] true hp hf (zi L) Y (λS tk Z ok M X => ?_)
 have N:S n=some (.vec sz (xs.map enc)):=M.get L
 have B:k+len<=(xs.map enc).length:=by simpa using O
 by_cases h0:len=0
 ·subst h0
  refine xu (A:=⟨[(n,.vec sz (xs.map enc))],[],.tup []⟩) ?_ (X _ (H.set i (n,some (bV sz enc (xs.take k++List.replicate 0 I++xs.drop (k+0))))) ⟨by simp,by simp⟩ (λe=>by cases e) ?_ h)
  ·show vP C.P t S (ev sl x)=_
   simp only [vP,he,F,hs,R,N,W]
   rw [if_pos ⟨trivial,trivial,J,ho,B,o⟩,if_pos trivial]
  ·have:=IL M L (b':=some (bV sz enc (xs.take k++List.replicate 0 I++xs.drop (k+0)))) (λx F=>by simp only [List.replicate_zero,List.append_nil,Nat.add_zero,List.take_append_drop]at F;rw [N];exact F)
   exact this.tail
 ·refine xu (A:=⟨[(n,.vec sz (xs.map enc))],[(n,some (bV sz enc (xs.take k++List.replicate len I++xs.drop (k+len))))],.tup []⟩) ?_ (X _ _ ⟨by simp,by simp⟩ (λe=>by cases e) (M.tail.set L (λx F=>F)) h)
  show vP C.P t S (ev sl x)=_
  simp only [vP,he,F,hs,R,N,W]
  rw [if_pos ⟨trivial,trivial,J,ho,B,o⟩,if_neg h0]
  simp [bV,List.map_take,List.map_drop]
def Dp {α:Type} (xs:List α) (h hi:Int):Option Unit:=if 0<=h/\0<=hi/\h.toNat<=hi.toNat/\hi.toNat<=xs.length then some ()else none
theorem yu {α:Type} {xs:List α} {o hi:Int} {u:Unit} (h:Dp xs o hi=some u):0<=o/\0<=hi/\o.toNat<=hi.toNat/\hi.toNat<=xs.length:=by
 unfold Dp at h;split at h
 ·assumption
 ·cases h
theorem A7 {α:Type} {xs:List α} {o hi:Int} {u:Unit} (h:Dp xs o hi=some u):o.toNat+(hi.toNat-o.toNat)<=xs.length:=by
 have:=yu h;omega
section part
variable {α:Type} {enc:α->List D} {xs:List α} {sz:Nat} {n:Nm} {x l hi:Operand} {k k':IntKind} {a b:Int} {u:Unit}
theorem Kv (I:C.P.underlying t=some (.slice e)) (hs:szT C.P e=some sz) {o hi:Option V} {l h:Int} (h1:pz 0 o=some l.toNat) (h2:pz xs.length hi=some h.toNat) (B:Dp xs l h=some u) :
  lg C.P t (vV n sz xs) o hi none=some (.vs n sz l.toNat (h.toNat-l.toNat)):=by
 obtain ⟨_,_,F,A⟩:=yu B
 simp only [vV,lg,I,hs,h1,h2]
 rw [if_pos ⟨F,A,trivial⟩,Nat.zero_add]
theorem KE (B:C.P.underlying t=some (.slice e)) (hs:szT C.P e=some sz) (A:ev sl x=vV n sz xs) (hl:ev sl l = .d (.int k a)) (o:Dp xs a xs.length=some u) (F:aL all sl ⟨dst,.slice t x (some l) none none,ty,pos,after,g⟩=some true)
  (h:aR q C all K rest (dE sl dst (.vs n sz a.toNat (((xs.length:Int)).toNat-a.toNat))) H):aR q C all K (⟨dst,.slice t x (some l) none none,ty,pos,after,g⟩::rest) sl H :=
 aI _ F (by
  show lg C.P t (ev sl x) (some (ev sl l)) none none=_
  rw [A,hl];exact Kv B hs (Ho (yu o).1) rfl o) h
theorem QD (B:C.P.underlying t=some (.slice e)) (hs:szT C.P e=some sz) (A:ev sl x=vV n sz xs) (F:ev sl hi = .d (.int k' b)) (o:Dp xs 0 b=some u) (I:aL all sl ⟨dst,.slice t x none (some hi) none,ty,pos,after,g⟩=some true)
  (h:aR q C all K rest (dE sl dst (.vs n sz 0 b.toNat)) H):aR q C all K (⟨dst,.slice t x none (some hi) none,ty,pos,after,g⟩::rest) sl H :=
 aI _ I (by
  show lg C.P t (ev sl x) none (some (ev sl hi)) none=_
  rw [A,F];exact Kv B hs rfl (Ho (yu o).2.1) o) h
end part
end
end Go.Eng

/-
  THE ENGINE: a slice that a function writes into: its box is handed in and handed back.
-/
namespace Go.Eng
set_option linter.unusedSectionVars false
variable [DM]
set_option linter.unusedVariables false
set_option linter.unusedSimpArgs false
def dV {α:Type} (n:Nm) (sz:Nat):List α->V
  | [] => .d (.sl [])
  | x::xs => .vs n sz 0 (x::xs).length
def gI {α:Type} (sz:Nat) (enc:α->List D):List α->List Box
  | []=>[]
  | x::xs=>[.vec sz ((x::xs).map enc)]
def gT {α:Type} (xs:List α) (o:Option Box):List (Option Box):=match xs with
  | []=>[]
  | _::_=>[o]
def neL {α:Type} (xs:List α):Option Unit:=match xs with
  | []=>none
  | _::_=>some ()
def ni {α β:Type} (xs:List α) (ys:List β):Option Unit:=if xs.length=ys.length then some ()else none
def inN (i:Int) (len:Nat):Option Unit:=if 0<=i/\i.toNat<len then some ()else none
abbrev cutL {α:Type} (xs:List α) (lo len:Nat):List α:=(xs.drop lo).take len
theorem neL_ne {α:Type} {xs:List α} {u:Unit} (h:neL xs=some u):xs ≠ []:=by
  cases xs with
  | nil=>cases h
  | cons x xs=>simp
theorem sV {α β:Type} {xs:List α} {ys:List β} {u:Unit} (h:ni xs ys=some u):xs.length=ys.length:=by
  unfold ni at h;split at h
  · assumption
  · cases h
theorem PZ {i:Int} {n:Nat} {u:Unit} (h:inN i n=some u):0<=i:=by
  unfold inN at h;split at h
  · rename_i h1;exact h1.1
  · cases h
theorem MJ {i:Int} {n:Nat} {u:Unit} (h:inN i n=some u):i.toNat<n:=by
  unfold inN at h;split at h
  · rename_i h1;exact h1.2
  · cases h
theorem Hf {α:Type} {xs:List α} {k len:Nat} {z:α} (h:k+len<=xs.length):xs.length=(xs.take k++List.replicate len z++xs.drop (k+len)).length:=by
  simp only [List.length_append,List.length_take,List.length_replicate,List.length_drop];omega
theorem fO {α:Type} {n:Nm} {sz:Nat} {xs ys:List α} (h:xs.length=ys.length):dV n sz xs=dV n sz ys:=by
  cases xs with
  | nil=>cases ys with
    | nil=>rfl
    | cons y ys=>simp at h
  | cons x xs=>cases ys with
    | nil=>simp at h
    | cons y ys=>simp only [dV,h]
theorem Bh {α:Type} {n:Nm} {sz:Nat} {xs:List α} (h:xs ≠ []):dV n sz xs=vV n sz xs:=by cases xs with
  | nil=>exact absurd rfl h
  | cons x xs=>rfl
theorem EG {α:Type} {sz:Nat} {enc:α->List D} {xs ys:List α} (h:ys.length=xs.length):xs=[]->gB sz enc ys=none:=λe=>by
  subst e
  cases ys with
  | nil=>rfl
  | cons y ys=>simp at h
section
variable {C:Cfg} {sl:Nat->V} {H:Hp} {Q:QH} {c:Code}
theorem QQ (i:Nat) {n:Nm} {b b':Option Box} (h:H[i]? = some (n,b)) (e:b=b') (o:wH C c Q sl (H.set i (n,b'))):wH C c Q sl H:=by
  subst e
  have hi:=(List.getElem?_eq_some_iff.1 h)
  rwa [<- hi.2,List.set_getElem_self]at o
theorem wH_re (k:Nat) {v v':V} (o:sl k=v) (e:v=v') (h:wH C c Q (upd sl k v') H):wH C c Q sl H:=by
  have:upd sl k v'=sl:=by
    funext j
    simp only [upd]
    cases hj:Nat.beq j k with
    | true=>rw [Nat.eq_of_beq_eq_true hj,o,e];rfl
    | false=>rfl
  rw [this]at h;exact h
theorem zz {α:Type} {enc:α->List D} {xs:List α} {sz:Nat} {n:Nm} (k i:Nat) (o:sl k=dV n sz xs) (h:H[i]? = some (n,gF sz enc xs)) (A:wH C c Q (upd sl k (vL enc xs)) H):wH C c Q sl H:=by
  cases xs with
  | nil=>exact wH_re k (v':=vL enc ([]:List α)) o rfl A
  | cons x xs=>exact G7 k i o h A
end
section
variable {C:Cfg} {sl:Nat->V} {H:Hp} {q:Qm} {all rest:List Oper} {K:(Nat->V)->Hp->Prop}
variable {dst:Option Tmp} {d:Nat} {t ty:TypeId} {pos:String} {after:Array Edge} {g:Option (Nat×Bool)}
theorem AV (i:Nat) {n:Nm} {b b':Option Box} (h:H[i]? = some (n,b)) (e:b=b') (o:aR q C all K rest sl (H.set i (n,b'))):aR q C all K rest sl H:=by
  subst e
  have hi:=(List.getElem?_eq_some_iff.1 h)
  rwa [<- hi.2,List.set_getElem_self]at o
theorem oo {α:Type} {xs:List α} {x i:Operand} {k:IntKind} {n:Int} {nm:Nm} {size:Nat} (hT:(elemT C.P t).bind (szT C.P)=some size) (o:ev sl x=dV nm size xs) (hi:ev sl i = .d (.int k n)) (B:0<=n) (h1:n.toNat<xs.length)
    (A:aL all sl ⟨dst,.indexAddr t x i,ty,pos,after,g⟩=some true) (h:aR q C all K rest (dE sl dst (.ref nm (0+n.toNat) 0)) H):aR q C all K (⟨dst,.indexAddr t x i,ty,pos,after,g⟩::rest) sl H:=by
  cases xs with
  | nil=>simp at h1
  | cons y ys=>exact Hq hT o hi B h1 A h
theorem I5 {α:Type} {n:Nm} {sz:Nat} {xs:List α} {x:Operand} {e:TypeId} (A:C.P.underlying t=some (.slice e)) (o:ev sl x=dV n sz xs) (B:aL all sl ⟨dst,.call ⟨.builtin .len,#[x],#[t]⟩,ty,pos,after,g⟩=some true)
    (h:aR q C all K rest (dE sl dst (vI xs.length)) H):aR q C all K (⟨dst,.call ⟨.builtin .len,#[x],#[t]⟩,ty,pos,after,g⟩::rest) sl H:=by
  cases xs with
  | nil=>exact bL (enc:=λ_:α=>[]) (xs:=[]) A o B h
  | cons y ys=>exact h_lenw A o B h
theorem h_lenp {n:Nm} {sz k len:Nat} {x:Operand} {e:TypeId} (A:C.P.underlying t=some (.slice e)) (o:ev sl x = .vs n sz k len) (B:aL all sl ⟨dst,.call ⟨.builtin .len,#[x],#[t]⟩,ty,pos,after,g⟩=some true)
    (h:aR q C all K rest (dE sl dst (vI len)) H):aR q C all K (⟨dst,.call ⟨.builtin .len,#[x],#[t]⟩,ty,pos,after,g⟩::rest) sl H :=
  Cc (v:=vI len) (by rw [o];simp only [Du,A]) B h
theorem yl {f:Operand} {args:List Operand} {A:Array TypeId} {fn:FuncId} {caps o:List V} {r:V} {Sin:List Box} {Sout:List (Option Box)} (p:Nat) (is:List Nat) {l:List (Nm×Box)} (hp:q=none\/Nat.beq all.length (p+(rest.length+1))=true)
    (O:∀S tk,AgR H S tk (⟨some d,.call ⟨.value f,args.toArray,A⟩,ty,pos,after,g⟩::rest)->okQ q all p (l.map (·.1)) true) (hc:FnM C.P fn o Sin r Sout)
    (hf:ev sl f = .fn fn caps) (hb:aH C.P fn=true) (hl:gK H is=some l) (hS:Sin.map (λb=>b.ren (l.map (·.1)))=l.map (·.2)) (F:Sin.all (λb=>b.ok is.length)=true)
    (L:∀n∈(args.map (ev sl)++caps).flatMap frz,n∈l.map (·.1)) (ha:∀S tk,AgR H S tk (⟨some d,.call ⟨.value f,args.toArray,A⟩,ty,pos,after,g⟩::rest)->ArgsOK S (args.map (ev sl)++caps) (renL (l.map (·.1)) o)) (Y:okL is.length o=true) (hr:okV Sout.length r=true)
    (hlen:Sout.length=is.length) (hi:is.Nodup) (hO:okOut Sout.length Sout=true)
    (hw:aL all sl ⟨some d,.call ⟨.value f,args.toArray,A⟩,ty,pos,after,g⟩=some true)
    (v:V) (hv:ren (l.map (·.1)) r=v) (Z:Hp) (hH:setH H (outs (l.map (·.1)) is (l.map (·.1)) Sout)=Z)
    (h:aR (mV q p (l.map (·.1)) true) C all K rest (upd sl d v) Z) :
    aR q C all K (⟨some d,.call ⟨.value f,args.toArray,A⟩,ty,pos,after,g⟩::rest) sl H:=by
  subst hv hH
  obtain ⟨B,J⟩:=kS hl
  have R:Sin.length=l.length:=by have:=congrArg List.length hS;simpa using this
  refine rz p (l.map (·.1)) true hp O (Bp hl) hw (λS tk K' ok N hk=>oD hf ?_)
  have M:=sF N hi hl
  refine .inl ⟨hb,⟨[],l.map (·.1),o,Sin,r,Sout,false⟩,?_,(λe=>by cases e),?_⟩
  · exact { does := hc
            args:=ha S tk N
            okA:=by simp only [List.length_map,B];exact Y
            nodup:=M
            ins:=by
              refine rY (by simp [R]) (λj h1 h2=>⟨?_,?_⟩)
              · simp only [List.length_map,B]
                exact List.all_eq_true.1 F _ (List.getElem_mem h2)
              · simp only [List.length_map]at h1
                have e:=J j (by omega) h1
                have e2:l[j].2=Sin[j].ren (l.map (·.1)):=by
                  have:=congrArg (λx=>x[j]?) hS
                  simp only [List.getElem?_map,List.getElem?_eq_getElem h2,List.getElem?_eq_getElem h1,Option.map_some,so_]at this
                  exact this.symm
                simp only [List.getElem_map]
                show S l[j].1=_
                rw [N.get e,e2]
            len:=by show Sin.length<=Sout.length;omega
            okR:=hr,okO:=hO,mutN:=by show mutOut (List.drop Sin.length Sout)=true;rw [List.drop_of_length_le (by omega)];rfl
            roOK:=(λe=>by cases e),have_:=(λn L=>nomatch L),cov:=(λn h' => .inr (L n h')),dis:=(λn _ L=>nomatch L) }
  · have W:Sout.length-Sin.length=0:=by omega
    have e1:CallData.eff ⟨[],l.map (·.1),o,Sin,r,Sout,false⟩ S d tk=⟨((l.map (·.1)).zip Sin).map (λp=>(p.1,p.2.ren (l.map (·.1)))),bT (l.map (·.1)) (l.map (·.1)) Sout,ren (l.map (·.1)) r⟩:=by
      simp only [CallData.eff,cond_false,CallData.names,W,ja,List.range_zero,List.map_nil,List.append_nil,dZ,d9,List.nil_append]
    show K' (CallData.eff _ S d tk)
    rw [e1]
    refine hk _ _ ⟨λx X => ?_,λx X=>vH X⟩ (λh=>by cases h) ?_ h
    · obtain ⟨y,hy,rfl⟩:=List.mem_map.1 X
      exact (List.of_mem_zip hy).1
    · have e3:(l.map (·.1)).length=is.length:=by simp [B]
      have I:=yj (ν:=l.map (·.1)) N hi M (bs:=Sout) (λj h1 h2=>by
        simp only [List.length_map]at h2
        exact⟨_,by simp only [List.getElem_map];exact J j h1 h2⟩)
      rw [List.take_of_length_le (by omega)]at I
      exact I.tail
theorem GM {l:List (Nm×Box)} {i:Nat} {n:Nm} {b:Box}:∀{is:List Nat} {l:List (Nm×Box)},gK H is=some l->H[i]? = some (n,some b)->gK H (is++[i])=some (l++[(n,b)])
  | [],l,h,hi=>by
    simp only [gK,so_]at h;subst h
    simp only [List.nil_append,gK,hi]
  | j::is,l,h,hi=>by
    simp only [gK]at h
    split at h
    · rename_i o b' l' h1 h2
      simp only [so_]at h;subst h
      simp only [List.cons_append,gK,h1,GM (l:=l) h2 hi]
    · cases h
theorem Fe (ρ:List Nm):∀(vs:List V) (i:Nat) (v:V),renL ρ (vs.set i v)=(renL ρ vs).set i (ren ρ v)
  | [],_,_=>rfl
  | _::_,0,_=>rfl
  | x::vs,i+1,v=>by simp only [List.set_cons_succ,renL,Fe ρ vs i v]
theorem Jk {k:Nat}:∀{vs:List V} {i:Nat} {v:V},okL k (vs.set i .none)=true->okV k v=true->okL k (vs.set i v)=true
  | [],_,_,_,_=>rfl
  | x::vs,0,v,h,o=>by
    simp only [List.set_cons_zero,okL,Bool.and_eq_true]at h ⊢;exact⟨o,h.2⟩
  | x::vs,i+1,v,h,o=>by
    simp only [List.set_cons_succ,okL,Bool.and_eq_true]at h ⊢;exact⟨h.1,Jk h.2 o⟩
theorem wh {α:Type}:∀{l:List α} {i:Nat} {a:α},l[i]? = some a->l.set i a=l
  | x::l,0,a,h=>by simp at h;subst h;rfl
  | x::l,i+1,a,h=>by simp only [List.set_cons_succ];rw [wh (by simpa using h)]
  | [],_,_,h=>by simp at h
theorem EK {α:Type} {a b:List α} {i:Nat} {x y:α} (h:a.set i x=b.set i x):a.set i y=b.set i y:=by
  have:=congrArg (λl=>l.set i y) h
  simpa using this
theorem Lt (ν:List Nm):∀(is:List Nat) (ns:List Nm) (bs:List (Option Box)) (i:Nat) (n:Nm) (o:Option Box),is.length=bs.length->is.length=ns.length->Eng.outs ν (is++[i]) (ns++[n]) (bs++[o])=Eng.outs ν is ns bs++[(i,n,o.map (·.ren ν))]
  | [],[],[],i,n,o,_,_=>rfl
  | j::is,m::ns,b::bs,i,n,o,h1,h2=>by simp only [List.cons_append,Eng.outs];rw [Lt ν is ns bs i n o (by simpa using h1) (by simpa using h2)]
  | [],_::_,_,_,_,_,_,h=>by simp at h
  | [],[],_::_,_,_,_,h,_=>by simp at h
  | _::_,[],_,_,_,_,_,h=>by simp at h
  | _::_,_::_,[],_,_,_,h,_=>by simp at h
theorem KO (ν o:List Nm):∀(is:List Nat) (ns:List Nm) (bs:List Box),bs.all (λb=>b.ok 0)=true->Eng.outs ν is ns (bs.map some)=Eng.outs o is ns (bs.map some)
  | [],_,_,_=>rfl
  | _::_,[],_,_=>rfl
  | _::_,_::_,[],_=>rfl
  | i::is,n::ns,b::bs,h=>by
    simp only [List.all_cons,Bool.and_eq_true]at h
    simp only [List.map_cons,Eng.outs,Option.map_some,yL h.1,KO ν o is ns bs h.2]
theorem FM {k:Nat} {os:List Box}:os.all (λb=>b.ok 0)=true->okOut k (os.map some)=true:=by
  induction os with
  | nil=>exact λ_=>rfl
  | cons b os o =>
    intro h
    simp only [List.all_cons,Bool.and_eq_true]at h
    simp only [List.map_cons,okOut,Bool.and_eq_true]
    exact⟨Box.ok_mono (Nat.zero_le _) h.1,o h.2⟩
theorem Ch {k:Nat}:∀{a b:List (Option Box)},okOut k a=true->okOut k b=true->okOut k (a++b)=true
  | [],_,_,h=>h
  | none::a,b,h1,h2=>by simp only [List.cons_append,okOut]at h1 ⊢;exact Ch h1 h2
  | some y::a,b,h1,h2=>by simp only [List.cons_append,okOut,Bool.and_eq_true]at h1 ⊢;exact⟨h1.1,Ch h1.2 h2⟩
theorem J9 {vs:List V} {i:Nat} (h:((vs.set i .none).flatMap frz).all (λ_=>false)=true) {n:Nm} (B:n∈vs.flatMap frz):∃v,vs[i]? = some v/\n∈frz v:=by
  have A:(vs.set i .none).flatMap frz=[]:=by
    cases A:(vs.set i .none).flatMap frz with
    | nil=>rfl
    | cons a b=>rw [A]at h;simp at h
  obtain ⟨v,F,o⟩:=List.mem_flatMap.1 B
  obtain ⟨j,hj,rfl⟩:=List.getElem_of_mem F
  by_cases hij:i=j
  · subst hij;exact⟨vs[i],List.getElem?_eq_getElem hj,o⟩
  · exfalso
    have:vs[j]∈vs.set i .none:=by
      have:(vs.set i V.none)[j]'(by simpa using hj)=vs[j]:=by rw [List.getElem_set_ne hij]
      rw [<- this];exact List.getElem_mem _
    have:=sJ A _ this
    rw [this]at o;cases o
theorem JR {bs:List Box} (ρ:List Nm) (h:bs.all (λb=>b.ok 0)=true):bs.map (λb=>b.ren ρ)=bs:=by
  induction bs with
  | nil=>rfl
  | cons b bs o=>simp only [List.all_cons,Bool.and_eq_true]at h;simp only [List.map_cons,yL h.1,o h.2]
theorem KG {a b:List Nm}:∀{vs:List V},okL a.length vs=true->renL (a++b) vs=renL a vs:=by
  intro vs h
  have key:∀n,okN a.length n=true->qF (a++b) n=qF a n:=by
    intro n F
    obtain ⟨i,hi,rfl⟩:=su F
    rw [sW hi,sW (by simp;omega)]
    simp [List.getElem_append_left hi]
  have go:∀v,okV a.length v=true->ren (a++b) v=ren a v:=by
    intro v
    induction v using V.rec (motive_2:=λvs=>okL a.length vs=true->renL (a++b) vs=renL a vs)with
    | ref n i j=>intro h;simp only [ren];rw [key n h]
    | vs n sz k len=>intro h;simp only [ren];rw [key n h]
    | map n=>intro h;simp only [ren];rw [key n h]
    | fn f caps o=>intro h;simp only [ren];rw [o h]
    | agg cs o=>intro h;simp only [ren];rw [o h]
    | tup vs o=>intro h;simp only [ren];rw [o h]
    | nil=>intro h;rfl
    | cons v vs B A =>
      rename_i h
      simp only [okL,Bool.and_eq_true]at h
      simp only [renL,B h.1,A h.2]
    | _=>intro h;rfl
  induction vs with
  | nil=>rfl
  | cons v vs o =>
    simp only [okL,Bool.and_eq_true]at h
    simp only [renL,go v h.1,o h.2]
theorem ug {α:Type} {enc:α->List D} {sz:Nat} {xs:List α} {f:Operand} {args:List Operand} {ats:Array TypeId} {fn:FuncId} {caps A:List V} {r:V} {bs os:List Box} {o:Option Box} (p:Nat) (is:List Nat) (J B:Nat) {l:List (Nm×Box)} {n:Nm} {w:V}
    (hp:q=none\/Nat.beq all.length (p+(rest.length+1))=true)
    (hfp:∀S tk,AgR H S tk (⟨some d,.call ⟨.value f,args.toArray,ats⟩,ty,pos,after,g⟩::rest)->okQ q all p (l.map (·.1)++[n]) true)
    (hc:FnM C.P fn A (bs++gI sz enc xs) r (os.map some++gT xs o))
    (hf:ev sl f = .fn fn caps) (hb:aH C.P fn=true) (hl:gK H is=some l) (hv:H[J]? = some (n,gB sz enc xs))
    (hS:l.map (·.2)=bs) (O:bs.all (λb=>b.ok 0)=true)
    (hw1:(args.map (ev sl)++caps)[B]? = some w) (I:w=gV n sz xs\/w=dV n sz xs\/w=vV n sz xs/\xs ≠ []) (X:A[B]? = some (dV (au is.length) sz xs))
    (hn:(((args.map (ev sl)++caps).set B .none).flatMap frz).all (λn=>false)=true)
    (ha:((args.map (ev sl)++caps).map co0).set B .none=(renL (l.map (·.1)) A).set B .none) (hok:okL is.length (A.set B .none)=true) (hr:okV 0 r=true)
    (R:os.length=is.length) (hi:(is++[J]).Nodup) (hO:os.all (λb=>b.ok 0)=true) (ho:∀b,o=some b->b.ok 0=true) (hon:xs=[]->o=none)
    (hw:aL all sl ⟨some d,.call ⟨.value f,args.toArray,ats⟩,ty,pos,after,g⟩=some true)
    (H':Hp) (hH:(setH H (outs (l.map (·.1)) is (l.map (·.1)) (os.map some))).set J (n,o)=H')
    (h:aR (mV q p (l.map (·.1)++[n]) true) C all K rest (upd sl d r) H') :
    aR q C all K (⟨some d,.call ⟨.value f,args.toArray,ats⟩,ty,pos,after,g⟩::rest) sl H:=by
  have Z:=(kS hl).1
  have hbs:bs.length=l.length:=by rw [<- hS];simp
  have hivs:J∉is:=by
    rw [List.nodup_append]at hi
    exact λhm=>hi.2.2 J hm J (by simp) rfl
  have hisn:is.Nodup:=(List.nodup_append.1 hi).1
  have hset:∀{l':List (Nat×Nm×Option Box)} {H0:Hp},(∀p∈l',p.1≠J)->(setH H0 l')[J]? = H0[J]? := by
    intro l'
    induction l' with
    | nil=>intro H0 _;rfl
    | cons x l' ih =>
      intro H0 hx
      obtain ⟨i,m,b⟩:=x
      simp only [setH]
      rw [ih (λp hp=>hx p (by simp [hp]))]
      have:i≠J:=hx (i,m,b) (by simp)
      rw [List.getElem?_set_ne this]
  have houts:∀(ν:List Nm) (is:List Nat) (ns:List Nm) (os:List (Option Box)),∀p∈outs ν is ns os,p.1∈is:=by
    intro ν is
    induction is with
    | nil=>intro ns os p hp;simp [outs]at hp
    | cons i is ih =>
      intro ns os p hp
      cases ns with
      | nil=>simp [outs]at hp
      | cons m ns=>cases os with
        | nil=>simp [outs]at hp
        | cons o os =>
          simp only [outs,List.mem_cons]at hp
          rcases hp with rfl|hp
          · simp
          · exact List.mem_cons_of_mem _ (ih _ _ _ hp)
  have hco:∀(S:Store),(w=gV n sz xs\/w=dV n sz xs\/w=vV n sz xs/\xs ≠ [])->(∀x l,xs=x::l->S n=some (.vec sz (xs.map enc)))->co S w=dV n sz xs:=by
    intro S I hS
    cases hxs:xs with
    | nil =>
      subst hxs
      rcases I with h2|h2|⟨h2,h3⟩
      · rw [h2];rfl
      · rw [h2];rfl
      · exact absurd rfl h3
    | cons x l =>
      have:=hS x l hxs
      have e:w = .vs n sz 0 (x::l).length:=by rcases I with h2 | h2 | ⟨h2,_⟩ <;> rw [h2,hxs] <;> rfl
      rw [e]
      simp only [co,co1,this,dV]
  have W:∀S:Store,co S w=dV n sz xs->(args.map (ev sl)++caps).map (co S)=((args.map (ev sl)++caps).map co0).set B (dV n sz xs):=by
    intro S hcw
    have h1:(args.map (ev sl)++caps)=((args.map (ev sl)++caps).set B .none).set B w:=by
      rw [List.set_set,wh hw1]
    have h2:(((args.map (ev sl)++caps).set B .none)).map (co S)=(((args.map (ev sl)++caps).set B .none)).map co0:=Gb (by
      cases hx:((args.map (ev sl)++caps).set B .none).flatMap frz with
      | nil=>rfl
      | cons a b=>rw [hx]at hn;simp at hn)
    have h3:(args.map (ev sl)++caps).map (co S)=((((args.map (ev sl)++caps).set B .none)).map (co S)).set B (co S w):=by
      rw [<- List.map_set,<- h1]
    rw [h3,h2,hcw,List.map_set,List.set_set]
  have h0:=ha
  cases hxs:xs with
  | nil =>
    have hobn:o=none:=hon hxs
    subst hobn
    have hc':FnM C.P fn A bs r (os.map some):=by rw [hxs]at hc;simpa [gI,gT]using hc
    have hq:okL is.length A=true:=by
      have:=Jk (v:=dV (au is.length) sz xs) hok (by rw [hxs];rfl)
      rwa [wh X]at this
    refine yl p is hp (λS tk Y=>DF (λm hm=>by simp [hm]) (hfp S tk Y)) hc' hf hb hl ?_ ?_ ?_ ?_ hq (rP (Nat.zero_le _) r hr) (by simp [R]) hisn (FM hO) hw r (sD hr) H' ?_ ?_
    · rw [hS,JR _ O]
    · exact List.all_eq_true.2 (λb hb'=>Box.ok_mono (Nat.zero_le _) (List.all_eq_true.1 O b hb'))
    · intro m hm
      obtain ⟨v,M,N⟩:=J9 hn hm
      rw [hw1]at M
      simp only [so_]at M
      subst M
      exfalso
      rcases I with h2|h2|⟨_,h2⟩
      · rw [h2,hxs]at N;cases N
      · rw [h2,hxs]at N;cases N
      · exact h2 hxs
    · intro S tk Y
      refine ArgsOK.of_map ?_
      rw [W S (hco S I (λx l e=>by rw [hxs]at e;cases e)),EK ha]
      have:(renL (l.map (·.1)) A)[B]? = some (dV n sz xs):=by
        obtain ⟨hlt,he⟩:=List.getElem?_eq_some_iff.1 X
        rw [List.getElem?_eq_getElem (by rw [bP];exact hlt),kN _ _ _ _ hlt,he,hxs];rfl
      rw [wh this]
    · rw [<- hH]
      symm
      apply wh
      rw [hset (λp hp e=>hivs (e ▸ houts _ _ _ _ p hp)),hv,hxs];rfl
    · cases q with
      | none=>exact h
      | some Γ =>
        intro S tk ok Y k L hk hL hO'
        refine h S tk ok Y k L hk (λp0 hp0' => ?_) (λe he m hm => ?_)
        · rcases hL p0 hp0' with h1 | ⟨e,h1,h2,h3,h4,h5⟩
          · exact .inl h1
          · refine .inr ?_
            rcases List.mem_append.1 h1 with h1|h1
            · exact⟨e,List.mem_append.2 (.inl h1),h2,h3,h4,h5⟩
            · rw [List.mem_singleton]at h1;subst h1
              exact⟨(p,l.map (·.1)++[n],true),by simp,h2,λx hx=>by simp only [List.mem_append];exact .inl (h3 x hx),λx hx=>by simp only [List.mem_append];exact .inl (h4 x hx),λe=>by cases e⟩
        · rcases List.mem_append.1 he with he | he
          · exact hO' e (List.mem_append.2 (.inl he)) m hm
          · rw [List.mem_singleton]at he;subst he
            simp only at hm
            rcases List.mem_append.1 hm with hm|hm
            · exact hO' (p,l.map (·.1),true) (by simp) m hm
            · rw [List.mem_singleton]at hm;subst hm
              rw [<- hH]at Y
              have:((setH H (outs (l.map (·.1)) is (l.map (·.1)) (os.map some))).set J (m,none))[J]? = some (m,none):=by
                have h1:=(List.getElem?_eq_some_iff.1 hv).1
                rw [List.getElem?_set_self (by rw [setH_at];exact h1)]
              exact (Y.at_ _ (List.mem_of_getElem? this)).1
  | cons x l' =>
    have hgB:gB sz enc xs=some (.vec sz (xs.map enc)):=by rw [hxs];rfl
    have hv':H[J]? = some (n,some (.vec sz (xs.map enc))):=by rw [hv,hgB]
    have hc':FnM C.P fn A (bs++[.vec sz (xs.map enc)]) r (os.map some++[o]):=by rw [hxs]at hc ⊢;exact hc
    have hp1:=GM (l:=l) hl hv'
    have F:(l++[(n,Box.vec sz (xs.map enc))]).map (·.1)=l.map (·.1)++[n]:=by simp
    have hdv:dV (au is.length) sz xs = .vs (au is.length) sz 0 xs.length:=by rw [hxs];rfl
    have hq:okL (is++[J]).length A=true:=by
      have:=Jk (v:=dV (au is.length) sz xs) (uZ (Nat.le_add_right is.length 1) _ hok) (by rw [hdv];exact lQ (ls_ _))
      rw [wh X]at this
      simpa using this
    refine yl p (is++[J]) hp (λS tk Y=>by rw [F];exact hfp S tk Y) hc' hf hb hp1 ?_ ?_ ?_ ?_ hq (rP (Nat.zero_le _) r hr) (by simp [R]) hi ?_ hw r (sD hr) H' ?_ ?_
    · rw [List.map_append,JR _ O]
      simp only [List.map_cons,List.map_nil,List.map_append,hS,Box.ren]
    · rw [List.all_append]
      simp only [Bool.and_eq_true]
      exact⟨List.all_eq_true.2 (λb hb'=>Box.ok_mono (Nat.zero_le _) (List.all_eq_true.1 O b hb')),rfl⟩
    · intro m hm
      obtain ⟨v,M,N⟩:=J9 hn hm
      rw [hw1]at M
      simp only [so_]at M
      subst M
      have e:w = .vs n sz 0 xs.length:=by rcases I with h2 | h2 | ⟨h2,_⟩ <;> rw [h2,hxs] <;> rfl
      rw [e]at N
      rw [F]
      have:m=n:=by simpa [frz,Ba]using N
      rw [this];simp
    · intro S tk Y
      refine ArgsOK.of_map ?_
      rw [W S (hco S I (λ_ _ _=>Y.get hv')),EK ha,F]
      have hpl:B<A.length:=(List.getElem?_eq_some_iff.1 X).1
      have h1:A=(A.set B .none).set B (dV (au is.length) sz xs):=by rw [List.set_set,wh X]
      have h2:renL (l.map (·.1)++[n]) A=(renL (l.map (·.1)) (A.set B .none)).set B (dV n sz xs):=by
        conv=>lhs;rw [h1]
        rw [Fe,KG (by simp only [List.length_map,Z];exact hok),hdv]
        simp only [ren]
        rw [qU (n:=n) (by rw [List.getElem?_append_right (by simp [Z])];simp [Z])]
        rw [hxs];rfl
      rw [h2,Fe,List.set_set]
    · refine Ch (FM hO) ?_
      cases o with
      | none=>rfl
      | some b=>simp only [okOut,Bool.and_true];exact Box.ok_mono (Nat.zero_le _) (ho b rfl)
    · rw [<- hH,F,Lt _ _ _ _ _ _ _ (by simp [R]) (by simp [Z]),Kq,KO _ (l.map (·.1)) _ _ _ hO]
      simp only [setH]
      cases o with
      | none=>rfl
      | some b=>simp only [Option.map_some,yL (ho b rfl)]
    · rw [F];exact h
theorem FnM.of_wHv {P:Program} {f:FuncId} {fn:Func} {body:Code} (C:Cfg) (I:C.P=P) (hf:P.funcs[f]? = some fn) (hb:fn.body=some body) (L:C.n=fn.ntmps)
    {α:Type} {enc:α->List D} {sz:Nat} {xs:List α} {args:List V} {bs:List Box} {r:V} {Sout:List (Option Box)} (hl:args.length<=fn.ntmps) (A:nL C body=true)
    (h:wH C body (vF C fn.results.toList (bs++gI sz enc xs).length r Sout) (CB args) (kM 0 bs++[(au bs.length,gB sz enc xs)])):FnM P f args (bs++gI sz enc xs) r Sout:=by
  refine FnM.of_wpD' hf hb I L hl ?_
  have B:Ag (kM 0 bs++[(au bs.length,gB sz enc xs)]) (cB (bs++gI sz enc xs)) 1:=by
   refine⟨Nat.one_pos,?_,λp hp => ?_⟩
   · rw [List.map_append,List.nodup_append]
     refine⟨FV _ _,by simp,λa M b hb e => ?_⟩
     simp only [List.map_cons,List.map_nil,List.mem_singleton]at hb
     obtain ⟨p,hp,rfl⟩:=List.mem_map.1 M
     obtain ⟨j,b',h1,h2⟩:=rD hp
     rw [h1,hb]at e
     simp only [au,Prod.mk.injEq,and_true]at e
     have:=(List.getElem?_eq_some_iff.1 h2).1
     omega
   · rcases List.mem_append.1 hp with hp | hp
     · obtain ⟨j,b,rfl,hb⟩:=rD hp
       refine⟨Nat.one_pos,λx o => ?_⟩
       simp only [so_]at o
       subst o
       rw [jM,Nat.zero_add,List.getElem?_append_left (List.getElem?_eq_some_iff.1 hb).1];exact hb
     · simp only [List.mem_singleton]at hp
       subst hp
       refine⟨Nat.one_pos,λx o => ?_⟩
       rw [jM,List.getElem?_append_right (Nat.le_refl _),Nat.sub_self]
       cases xs with
       | nil=>cases o
       | cons y ys=>exact o
  obtain ⟨N,F,J⟩:=h A _ 1 B
  exact⟨N,F,jy body (λe σ h=>Nk h) J⟩
theorem EE {α:Type} {enc:α->List D} {sz:Nat} {W:List ResultVar} {r:V} {e:Exit} {bs os:List Box} {xs:List α} {o:Option Box} (he:e = .normal\/e = .ret) (vs:List V) (h1:Dv C sl H W vs) (h2:(vs.flatMap frz).all (λ_=>false)=true) (O:yO (vs.map co0)=r) (J:okV 0 r=true)
    (B:bs.length=os.length) (hj:H[os.length]? = some (au os.length,o)) (Y:os.all (λb=>b.ok 0)=true) (ho:∀b,o=some b->b.ok 0=true) (hH:H.take os.length=kM 0 os) :
    vF C W (bs++gI sz enc xs).length r (os.map some++gT xs o) e sl H:=by
  have X:vs.flatMap frz=[]:=by
    cases L:vs.flatMap frz with
    | nil=>rfl
    | cons a b=>rw [L]at h2;simp at h2
  have hc:∀{vs:List V},vs.flatMap frz=[]->CoL H vs (vs.map co0):=by
    intro vs
    induction vs with
    | nil=>exact λ_ => .nil
    | cons v vs N=>exact λh => .cons (jl (sJ h v (by simp)) rfl) (N (by simp only [List.flatMap_cons,List.append_eq_nil_iff]at h;exact h.2))
  have A:∀i (h:i<os.length),H[i]? = some (au i,some os[i]):=λi hi=>by
    have:=pq os 0 i hi
    rw [Nat.zero_add,<- hH,List.getElem?_take,if_pos hi]at this
    exact this
  have F:∀{ν:List Nm} {l:List Box} {j:Nat} {M:List Nat} {ns:List Nm} {bs:List (Option Box)},(∀b∈l,b.ok 0=true)->(∀i (h:i<l.length),H[j+i]? = some (au (j+i),some l[i]))->zS H ν M ns bs->zS H ν (List.range' j l.length++M) ((List.range' j l.length).map au++ns) (l.map some++bs):=by
    intro ν l
    induction l with
    | nil=>exact λ_ _ h=>h
    | cons b l N =>
      intro j M ns bs hb R J
      simp only [List.length_cons,List.range'_succ,List.map_cons,List.cons_append]
      refine⟨?_,N (λx L=>hb x (by simp [L])) (λi hi => ?_) J⟩
      · have:=R 0 (by simp)
        simp only [Option.map_some,yL (hb b (by simp))]
        exact this
      · have:=R (i+1) (by simpa using hi)
        rw [show j+1+i=j+(i+1) by omega]
        exact this
  have I:∀b∈os,b.ok 0=true:=λb hb=>List.all_eq_true.1 Y b hb
  cases xs with
  | nil =>
    refine⟨he,vs,vs.map co0,List.range' 0 os.length++[],(List.range' 0 os.length).map au++[],h1,hc X,by rw [O,sD J],F I (λi hi=>by rw [Nat.zero_add];exact A i hi) trivial,by simp [List.nodup_range'],λi hi => ?_⟩
    have:i<os.length:=by simpa [gI,B]using hi
    simp [this]
  | cons x xs =>
    refine⟨he,vs,vs.map co0,List.range' 0 os.length++[os.length],(List.range' 0 os.length).map au++[au os.length],h1,hc X,by rw [O,sD J],
      F I (λi hi=>by rw [Nat.zero_add];exact A i hi) ⟨?_,trivial⟩,?_,λi hi => ?_⟩
    · rw [hj]
      cases o with
      | none=>rfl
      | some b=>simp only [Option.map_some,yL (ho b rfl)]
    · rw [List.nodup_append]
      refine⟨List.nodup_range',by simp,λa ha b hb => ?_⟩
      simp only [List.mem_singleton]at hb
      simp only [List.mem_range'_1]at ha
      omega
    · have Z:i<os.length+1:=by simpa [gI,B]using hi
      by_cases hlt:i<os.length
      · rw [List.getElem?_append_left (by simpa using hlt)];simp [hlt]
      · have:i=os.length:=by omega
        subst this
        rw [List.getElem?_append_right (by simp)];simp
theorem rF {α:Type} {sz:Nat} {enc:α->List D} {xs:List α}:∀b,gB sz enc xs=some b->b.ok 0=true:=by
  intro b h
  cases xs with
  | nil=>cases h
  | cons x xs=>cases h;rfl
theorem DN:∀b,(none:Option Box)=some b->b.ok 0=true:=λb h=>by cases h
end
end Go.Eng

/-
  THE ENGINE: rules for maps, arrays and new slices of zeros.
-/
namespace Go.Eng
set_option linter.unusedSectionVars false
variable [DM]
set_option linter.unusedVariables false
set_option linter.unusedSimpArgs false
def yQ {K T:Type} (eq:K->K->Bool) (k:K):List (K×T)->Option Nat
 | []=>none
 | e::es=>if eq k e.1=true then some 0 else (yQ eq k es).map (· + 1)
def zH {K T:Type} (eq:K->K->Bool) (es:List (K×T)) (k:K):Option T:=match yQ eq k es with
 | some j=>(es[j]?).map (·.2)
 | none=>none
def BO {K T:Type} (eq:K->K->Bool) (es:List (K×T)) (k:K) (v:T):List (K×T):=match yQ eq k es with
 | some j=>es.set j (k,v)
 | none=>es++[(k,v)]
abbrev bM {K T:Type} (kD:K->D) (vD:T->D) (es:List (K×T)):Box := .map (es.map λe=>(kD e.1,vD e.2))
abbrev eqS (a b:ByteArray):Bool:=a==b
theorem N7 {K T:Type} {eq:K->K->Bool} {k:K}:∀{es:List (K×T)} {j:Nat},yQ eq k es=some j->j<es.length
 | e::es,j,h=>by
  simp only [yQ]at h
  split at h
  ·simp only [so_]at h;subst h;simp
  ·simp only [Option.map_eq_some_iff]at h
   obtain ⟨i,hi,rfl⟩:=h
   have:=N7 hi
   simpa using this
theorem zu {K T:Type} {eq:K->K->Bool} {kD:K->D} {vD:T->D} {k:K} (he:∀a b,uY (kD a) (kD b)=some (eq a b)):∀(es:List (K×T)),qb (kD k) (es.map λe=>(kD e.1,vD e.2))=some (yQ eq k es)
 | []=>rfl
 | e::es=>by
  simp only [List.map_cons,qb,he,yQ]
  cases h:eq k e.1 with
  | true=>simp
  | false=>simp [zu he es]
section
variable {C:Cfg} {sl:Nat->V} {H:Hp} {q:Qm} {all rest:List Oper} {K:(Nat->V)->Hp->Prop}
variable {dst:Option Tmp} {d:Nat} {t ty:TypeId} {pos:String} {after:Array Edge} {g:Option (Nat×Bool)}
theorem h_mkmap (p:Nat) (hp:q=none\/Nat.beq all.length (p+(rest.length+1))=true) (F:aL all sl ⟨some d,.makeMap t none,ty,pos,after,g⟩=some true)
  (h:∀n:Nm,aR (mV q p [n] true) C all K rest (upd sl d (.map n)) (H++[(n,some (.map []))])):aR q C all K (⟨some d,.makeMap t none,ty,pos,after,g⟩::rest) sl H :=
 tQ rfl p [] hp (λ_ _ _=>Ay) (λm hm=>by cases hm) F (λS tk I ok o B=>jK (A:=⟨[],[((d,tk),some (.map []))],.map (d,tk)⟩) (λc e=>by cases e) rfl
  (B _ _ _ (.inl rfl) ⟨by simp,by simp⟩ (o.new ok rfl _) (h (d,tk))))
theorem Rh {o T:Type} {eq:o->o->Bool} {kD:o->D} {vD:T->D} {es:List (o×T)} {k:o} {z:T} {x i:Operand} {kt et:TypeId} {ok:Bool} {n:Nm} (p j:Nat) (hp:q=none\/Nat.beq all.length (p+(rest.length+1))=true)
  (hf:∀S tk,AgR H S tk (⟨dst,.lookup t x i ok,ty,pos,after,g⟩::rest)->okQ q all p [n] false) (he:∀a b,uY (kD a) (kD b)=some (eq a b)) (hm:EL C.P t=some (kt,et)) (F:tO C.P kt (kD k)=true) (M:zeroV C.P et=some (.d (vD z)))
  (L:ev sl x = .map n) (hi:ev sl i = .d (kD k)) (J:H[j]? = some (n,some (bM kD vD es))) (v:V) (N:DC ok (.d (vD ((zH eq es k).getD z))) (zH eq es k).isSome=v)
  (O:aL all sl ⟨dst,.lookup t x i ok,ty,pos,after,g⟩=some true) (h:aR (mV q p [n] false) C all K rest (dE sl dst v) H):aR q C all K (⟨dst,.lookup t x i ok,ty,pos,after,g⟩::rest) sl H:=by
 subst N
 refine rz p [n] false hp hf (zi J) O (λS tk X R I W=>jK (A:=⟨[(n,bM kD vD es)],[],DC ok (.d (vD ((zH eq es k).getD z))) (zH eq es k).isSome⟩) (λc e=>by cases e) ?_ (W _ H ⟨by simp,by simp⟩ (λ_=>rfl) I.tail h))
 show vk C.P t S (ev sl x) (ev sl i) ok=_
 unfold vk
 rw [hm,hi,L]
 simp only [F,cond_true,I.get J,zu he]
 unfold zH
 cases hj:yQ eq k es with
 | none=>simp only [M,Option.map_some,Option.getD_none,Option.isSome_none]
 | some j =>
  have B:=N7 hj
  simp only [List.getElem?_map,List.getElem?_eq_getElem B,Option.map_some,Option.getD_some,Option.isSome_some]
theorem Rl {o T:Type} {eq:o->o->Bool} {kD:o->D} {vD:T->D} {es:List (o×T)} {k:o} {v:T} {m i x:Operand} {kt et:TypeId} {n:Nm} (p j:Nat) (hp:q=none\/Nat.beq all.length (p+(rest.length+1))=true)
  (hf:∀S tk,AgR H S tk (⟨dst,.mapUpdate t m i x,ty,pos,after,g⟩::rest)->okQ q all p [n] true) (he:∀a b,uY (kD a) (kD b)=some (eq a b)) (hm:EL C.P t=some (kt,et)) (B:tO C.P kt (kD k)=true)
  (F:ev sl m = .map n) (hi:ev sl i = .d (kD k)) (L:datum (ev sl x)=some (vD v)) (I:H[j]? = some (n,some (bM kD vD es)))
  (M:aL all sl ⟨dst,.mapUpdate t m i x,ty,pos,after,g⟩=some true) (h:aR (mV q p [n] true) C all K rest (dE sl dst .none) (H.set j (n,some (bM kD vD (BO eq es k v))))):aR q C all K (⟨dst,.mapUpdate t m i x,ty,pos,after,g⟩::rest) sl H:=by
 refine rz p [n] true hp hf (zi I) M (λS tk R N J O=>jK (A:=⟨[(n,bM kD vD es)],[(n,some (bM kD vD (BO eq es k v)))],.none⟩) (λc e=>by cases e) ?_ (O _ _ ⟨by simp,by simp⟩ (λe=>by cases e) (J.tail.set I (λx F=>F)) h))
 show kC C.P t S (ev sl m) (ev sl i) (ev sl x)=_
 rw [Jz L]
 unfold lY
 rw [hm,hi,F,L]
 simp only [B,cond_true,J.get I,zu he]
 unfold BO
 cases hj:yQ eq k es with
 | none=>simp only [bM,List.map_append,List.map_cons,List.map_nil]
 | some j=>simp only [bM,List.map_set]
end
end Go.Eng

/-
  THE ENGINE: slices with room made ahead; functions that are handed two slices in their boxes.
-/
namespace Go.Eng
set_option linter.unusedSectionVars false
variable [DM]
set_option linter.unusedVariables false
set_option linter.unusedSimpArgs false
def kV {α:Type} (b:Bool) (n:Nm) (sz:Nat) (xs:List α):V:=match b with
  | true=>vV n sz xs
  | false=>gV n sz xs
def kB {α:Type} (b:Bool) (sz:Nat) (enc:α->List D) (xs:List α):Option Box:=match b with
  | true=>some (bV sz enc xs)
  | false=>gB sz enc xs
def kF {α:Type} (b:Bool) (sz:Nat) (enc:α->List D) (xs:List α):Option Box:=match b with
  | true=>some (bF sz enc xs)
  | false=>gF sz enc xs
def kO (b:Bool) (sz:Nat):List (Option Box):=match b with
  | true=>[some (.vec sz [])]
  | false=>[]
def zN (n:Int) (bytes:Nat):Option Unit:=if 0<n/\n*bytes<=2 ^ 47/\n<=2 ^ 47 then some ()else none
section
variable {C:Cfg} {Q:QH} {sl:Nat->V} {H:Hp} {c:Code}
theorem Qy {α:Type} {enc:α->List D} {xs:List α} {sz:Nat} {n:Nm} {b:Bool} (i:Nat) (h:H[i]? = some (n,kB b sz enc xs)) (o:wH C c Q sl (H.set i (n,kF b sz enc xs))):wH C c Q sl H:=by
  cases b with
  | true=>exact Jr i h o
  | false=>exact ig i h o
theorem Mo {α:Type} {enc:α->List D} {xs:List α} {sz:Nat} {n:Nm} {b:Bool} (k i:Nat) (o:sl k=kV b n sz xs) (h:H[i]? = some (n,kF b sz enc xs)) (A:wH C c Q (upd sl k (vL enc xs)) H):wH C c Q sl H:=by
  cases b with
  | true=>exact G7 k i o h A
  | false=>exact fT k i o h A
end
section
variable {C:Cfg} {sl:Nat->V} {H:Hp} {q:Qm} {all rest:List Oper} {K:(Nat->V)->Hp->Prop}
variable {dst:Option Tmp} {d:Nat} {t ty:TypeId} {pos:String} {after:Array Edge} {g:Option (Nat×Bool)}
theorem h_appk {α:Type} {enc:α->List D} {xs ys zs:List α} {x y:Operand} {t' e e':TypeId} {sz bytes i:Nat} {n:Nm} {z:List V} {b:Bool} (p:Nat) (A:q=none\/Nat.beq all.length (p+(rest.length+1))=true) (hf:∀S tk,AgR H S tk (⟨some d,.call ⟨.builtin .append,#[x,y],#[t,t']⟩,ty,pos,after,g⟩::rest)->okQ q all p [n] true) (he:elemT C.P t=some e) (F:elemT C.P t'=some e') (hs:szT C.P e=some sz) (N:zeroCells C.P e=some z) (J:z.length=sz) (hp:0<sz) (B:bytesT C.P e=bytes) (I:bytes<=100000)
    (o:∀y,(enc y).length=sz) (M:ev sl x=kV b n sz xs) (X:H[i]? = some (n,kB b sz enc xs)) (R:ev sl y=vL enc ys) (W:jE xs ys=some zs)
    (O:aL all sl ⟨some d,.call ⟨.builtin .append,#[x,y],#[t,t']⟩,ty,pos,after,g⟩=some true)
    (h:∀L:Nm,aR (mV q p [n,L] true) C all K rest (upd sl d (kV b L sz zs)) (H.set i (L,kB b sz enc zs))):aR q C all K (⟨some d,.call ⟨.builtin .append,#[x,y],#[t,t']⟩,ty,pos,after,g⟩::rest) sl H:=by
  cases b with
  | true=>exact h_appv p A hf he F hs N J hp B I o M X R W O h
  | false=>exact kY p A hf he F hs N J hp B I o M X R W O h
theorem Qk {x:Operand} {e:TypeId} (A:C.P.underlying t=some (.slice e)) (o:ev sl x = .nil) (B:aL all sl ⟨dst,.call ⟨.builtin .len,#[x],#[t]⟩,ty,pos,after,g⟩=some true)
    (h:aR q C all K rest (dE sl dst (vI 0)) H):aR q C all K (⟨dst,.call ⟨.builtin .len,#[x],#[t]⟩,ty,pos,after,g⟩::rest) sl H :=
  Cc (v:=vI 0) (by rw [o];simp only [Du,A]) B h
theorem Qb {x:Operand} {e:TypeId} (he:elemT C.P t=some e) (o:ev sl x = .nil) (F:aL all sl ⟨dst,.call ⟨.builtin .cap,#[x],#[t]⟩,ty,pos,after,g⟩=some true)
    (h:aR q C all K rest (dE sl dst (vI 0)) H):aR q C all K (⟨dst,.call ⟨.builtin .cap,#[x],#[t]⟩,ty,pos,after,g⟩::rest) sl H :=
  mM F (λS tk I _ B=>xu (A:=⟨[],[],vI 0⟩) (by
    show (Q8 C.P t (ev sl x)).bind fq=_
    rw [o];simp only [Q8,he];rfl) (B _ rfl rfl rfl)) h
theorem h_appz {α:Type} {enc:α->List D} {x y:Operand} {t' e:TypeId} {sz by_:Nat} {z:List V} {k:IntKind} {n:Int} {u:Unit} (p:Nat) (o:q=none\/Nat.beq all.length (p+(rest.length+1))=true) (he:elemT C.P t=some e) (hi:nT C.P t'=true) (hs:szT C.P e=some sz) (M:zeroCells C.P e=some z) (I:z.length=sz) (hp:0<sz) (B:bytesT C.P e=by_)
    (J:ev sl x = .nil) (O:ev sl y = .d (.int k n)) (F:zN n by_=some u)
    (N:aL all sl ⟨some d,.call ⟨.builtin .append,#[x,y],#[t,t']⟩,ty,pos,after,g⟩=some true)
    (h:∀nm:Nm,aR (mV q p [nm] true) C all K rest (upd sl d (.vs nm sz 0 n.toNat)) (H++[(nm,some (bV sz enc ([]:List α)))])):aR q C all K (⟨some d,.call ⟨.builtin .append,#[x,y],#[t,t']⟩,ty,pos,after,g⟩::rest) sl H:=by
  unfold zN at F
  split at F
  · rename_i hc
    refine tQ rfl p [] o (λ_ _ _=>Ay) (λm hm=>by cases hm) N (λS tk W ok L R=>xu (A:=⟨[],[((d,tk),some (bV sz enc ([]:List α)))],.vs (d,tk) sz 0 n.toNat⟩) ?_
      (R _ _ _ (.inl rfl) ⟨by simp,by simp⟩ (L.new ok rfl _) (h (d,tk))))
    show (bif nT C.P t' then rT C.P t t' (ev sl x) (ev sl y) d tk else _)=_
    rw [hi,cond_true,J,O]
    simp only [rT,he,hi,cond_true,hs,M]
    rw [if_pos ⟨hc.1,hp,I,by rw [B];exact hc.2.1,hc.2.2⟩]
    rfl
  · cases F
theorem h_cutm {x hi:Operand} {e:TypeId} {n:Nm} {sz k len m:Nat} {A:IntKind} {b:Int} (F:C.P.underlying t=some (.slice e)) (hs:szT C.P e=some sz) (B:ev sl x = .vs n sz k len) (I:ev sl hi = .d (.int A b)) (hb:b=(m:Int)) (o:m<=len)
    (J:aL all sl ⟨dst,.slice t x none (some hi) none,ty,pos,after,g⟩=some true) (h:aR q C all K rest (dE sl dst (.vs n sz k m)) H):aR q C all K (⟨dst,.slice t x none (some hi) none,ty,pos,after,g⟩::rest) sl H :=
  aI _ J (by
    show lg C.P t (ev sl x) none (some (ev sl hi)) none=_
    rw [B,I,hb]
    have:pz len (some (.d (.int A (m:Int))))=some m:=by simp [pz]
    simp only [lg,F,hs,this]
    rw [show pz 0 none=some 0 from rfl]
    simp only
    rw [if_pos ⟨Nat.zero_le _,o,trivial⟩]
    simp) h
theorem M8 {f:Operand} {args:List Operand} {I:Array TypeId} {fn:FuncId} {caps o:List V} {r:V} {Sin:List Box} {Sout:List (Option Box)} (is:List Nat) (m:Nat) {l:List (Nm×Box)} (hc:FnM C.P fn o Sin r Sout)
    (hf:ev sl f = .fn fn caps) (hb:aH C.P fn=true) (hl:gK H is=some l) (Z:Sin.map (λb=>b.ren (l.map (·.1)))=l.map (·.2)) (J:Sin.all (λb=>b.ok is.length)=true)
    (N:∀n∈(args.map (ev sl)++caps).flatMap frz,n∈l.map (·.1)) (ha:∀S tk,AgR H S tk (⟨some d,.call ⟨.value f,args.toArray,I⟩,ty,pos,after,g⟩::rest)->ArgsOK S (args.map (ev sl)++caps) (renL (l.map (·.1)) o)) (Y:okL is.length o=true) (hr:okV Sout.length r=true)
    (L:Sout.length=is.length+m) (hi:is.Nodup) (hO:okOut Sout.length Sout=true) (X:mutOut (Sout.drop is.length)=true)
    (hw:aL all sl ⟨some d,.call ⟨.value f,args.toArray,I⟩,ty,pos,after,g⟩=some true)
    (h:∀ν:Nat->Nm,aR none C all K rest (upd sl d (ren (l.map (·.1)++(List.range m).map ν) r))
      (setH H (outs (l.map (·.1)++(List.range m).map ν) is (l.map (·.1)) Sout)++news (l.map (·.1)++(List.range m).map ν) ((List.range m).map ν) (Sout.drop is.length))) :
    aR none C all K (⟨some d,.call ⟨.value f,args.toArray,I⟩,ty,pos,after,g⟩::rest) sl H:=by
  obtain ⟨B,M⟩:=kS hl
  have F:Sin.length=l.length:=by have:=congrArg List.length Z;simpa using this
  refine JI hw (λS tk K' ok R hk=>oD hf ?_)
  have h:=h (λj=>(d+100000*j,tk))
  have O:=sF R hi hl
  refine .inl ⟨hb,⟨[],l.map (·.1),o,Sin,r,Sout,false⟩,?_,(λe=>by cases e),?_⟩
  · exact { does := hc
            args:=ha S tk R
            okA:=by simp only [List.length_map,B];exact Y
            nodup:=O
            ins:=by
              refine rY (by simp [F]) (λj h1 h2=>⟨?_,?_⟩)
              · simp only [List.length_map,B]
                exact List.all_eq_true.1 J _ (List.getElem_mem h2)
              · simp only [List.length_map]at h1
                have e:=M j (by omega) h1
                have e2:l[j].2=Sin[j].ren (l.map (·.1)):=by
                  have:=congrArg (λx=>x[j]?) Z
                  simp only [List.getElem?_map,List.getElem?_eq_getElem h2,List.getElem?_eq_getElem h1,Option.map_some,so_]at this
                  exact this.symm
                simp only [List.getElem_map]
                show S l[j].1=_
                rw [R.get e,e2]
            len:=by rw [F,L,B];omega
            okR:=hr,okO:=hO,mutN:=by rw [F,B];exact X
            roOK:=(λe=>by cases e),have_:=(λn N=>nomatch N),cov:=(λn h' => .inr (N n h')),dis:=(λn _ N=>nomatch N) }
  · have W:Sout.length-Sin.length=m:=by omega
    have e1:CallData.eff ⟨[],l.map (·.1),o,Sin,r,Sout,false⟩ S d tk=⟨((l.map (·.1)).zip Sin).map (λp=>(p.1,p.2.ren (l.map (·.1)))),bT (l.map (·.1)++ja d tk m) (l.map (·.1)++ja d tk m) Sout,ren (l.map (·.1)++ja d tk m) r⟩:=by
      simp only [CallData.eff,cond_false,CallData.names,W,dZ,d9,List.nil_append]
    show K' (CallData.eff _ S d tk)
    rw [e1]
    refine hk _ _ ?_ h
    have e2:(List.range m).map (λj=>(d+100000*j,tk))=ja d tk m:=rfl
    rw [e2]
    show AgR _ (dn S (bT _ (l.map (·.1)++ja d tk m) Sout)) tk rest
    rw [wJ,tN]
    have e3:(l.map (·.1)).length=is.length:=by simp [B]
    rw [e3]
    have A:=yj (ν:=l.map (·.1)++ja d tk m) R hi O (bs:=Sout) (λj h1 h2=>by
      simp only [List.length_map]at h2
      exact⟨_,by simp only [List.getElem_map];exact M j h1 h2⟩)
    rw [List.take_of_length_le (by omega)]at A
    have e4:ja d tk m=(List.range' 0 m).map λj=>(d+100000*j,tk):=by rw [<- e2,BP]
    rw [e4]at A ⊢
    exact AgR.news ok rfl m 0 ⟨A.nd,A.pos⟩ (λp hp=>⟨.inl (A.at_ p hp).1,(A.at_ p hp).2⟩)
theorem Cz {S:Store}:∀(vs:List V),ArgsOK S vs vs
  | [] => .nil
  | x::vs => .cons (.inl rfl) (Cz vs)
theorem h_callk {α:Type} {enc:α->List D} {sz:Nat} {b:Bool} {f:Operand} {args:List Operand} {B:Array TypeId} {fn:FuncId} {caps o:List V}
    (hc:FnM C.P fn o [] (kV b (au 0) sz ([]:List α)) (kO b sz))
    (hf:ev sl f = .fn fn caps) (hb:aH C.P fn=true)
    (L:((args.map (ev sl)++caps).flatMap frz).all (λn=>false)=true) (M:args.map (ev sl)++caps=o) (F:okL 0 o=true)
    (J:aL all sl ⟨some d,.call ⟨.value f,args.toArray,B⟩,ty,pos,after,g⟩=some true)
    (h:∀n:Nm,aR none C all K rest (upd sl d (kV b n sz ([]:List α))) (H++[(n,kB b sz enc ([]:List α))])) :
    aR none C all K (⟨some d,.call ⟨.value f,args.toArray,B⟩,ty,pos,after,g⟩::rest) sl H:=by
  have I:∀S tk,AgR H S tk (⟨some d,.call ⟨.value f,args.toArray,B⟩,ty,pos,after,g⟩::rest)->ArgsOK S (args.map (ev sl)++caps) (renL (([]:List (Nm×Box)).map (·.1)) o):=λS tk _=>by
    rw [M]
    have:renL (([]:List (Nm×Box)).map (·.1)) o=o:=IW F
    rw [this];exact Cz o
  have A:∀n∈(args.map (ev sl)++caps).flatMap frz,n∈([]:List (Nm×Box)).map (·.1):=λn A=>by
    cases hx:(args.map (ev sl)++caps).flatMap frz with
    | nil=>rw [hx]at A;cases A
    | cons a b=>rw [hx]at L;simp at L
  cases b with
  | false =>
    refine M8 (Sin:=[]) (r := .nil) (Sout:=[]) [] 0 hc hf hb rfl rfl rfl A I F rfl rfl List.nodup_nil rfl rfl J (λν => ?_)
    simp only [List.range_zero,List.map_nil,List.append_nil,news,outs,setH]
    exact pX (λn=>h n)
  | true =>
    refine M8 (Sin:=[]) (r:=vV (au 0) sz ([]:List α)) (Sout:=[some (.vec sz [])]) [] 1 hc hf hb rfl rfl rfl A I F ?_ rfl List.nodup_nil rfl rfl J (λν => ?_)
    · exact lQ (Nat.zero_lt_one)
    · have e1:ren ((([]:List (Nm×Box)).map (·.1))++(List.range 1).map ν) (vV (au 0) sz ([]:List α))=vV (ν 0) sz ([]:List α):=by
        simp only [List.map_nil,List.nil_append,vV,ren]
        rw [qU (n:=ν 0) (by simp)]
      rw [e1]
      exact h (ν 0)
theorem finK {α:Type} {sz t:Nat} {n:Nm} {e:Exit} {enc:α->List D} (he:e = .normal\/e = .ret) (j:Nat) (h1:sl t = .vs n sz 0 0) (h2:H[j]? = some (n,some (bV sz enc ([]:List α)))) :
    vF C [.tmp t] 0 (vV (au 0) sz ([]:List α)) [some (.vec sz [])] e sl H :=
  ⟨he,[.vs n sz 0 0],[.vs n sz 0 0],[j],[n],⟨h1,trivial⟩,.cons (.inl rfl) .nil,by
    simp only [yO,vV,ren]
    rw [qU (n:=n) (by simp)];rfl,⟨h2,trivial⟩,by simp,λi hi=>absurd hi (Nat.not_lt_zero i)⟩
theorem finK0 {t:Nat} {e:Exit} (he:e = .normal\/e = .ret) (h1:sl t = .nil):vF C [.tmp t] 0 .nil [] e sl H :=
  ⟨he,[.nil],[.nil],[],[],⟨h1,trivial⟩,.cons (.inl rfl) .nil,rfl,trivial,List.nodup_nil,λi hi=>absurd hi (Nat.not_lt_zero i)⟩
end
section
variable {C:Cfg} {sl:Nat->V} {H:Hp} {q:Qm} {all rest:List Oper} {K:(Nat->V)->Hp->Prop}
variable {d:Nat} {t ty:TypeId} {pos:String} {after:Array Edge} {g:Option (Nat×Bool)}
end
end Go.Eng

/-
  THE ENGINE: functions that are handed two slices in their boxes.
-/
namespace Go.Eng
set_option linter.unusedSectionVars false
variable [DM]
set_option linter.unusedVariables false
set_option linter.unusedSimpArgs false
def exA {α:Type} (xs:List α) (k:Nat):Nm:=match xs with
  | []=>(7000000+k,0)
  | _::_=>au k
def exB {α:Type} (xs:List α) (k:Nat):Nm:=match xs with
  | []=>au k
  | _::_=>au (k+1)
def okO (os:List (Option Box)):Bool:=os.all λo=>match o with
  | some b=>b.ok 0
  | none=>true
theorem ArgsOK.set {S:Store} {x y x' A:V} (o:A=x'\/A=co S x'):∀{a b:List V} {i:Nat},ArgsOK S (a.set i x) (b.set i y)->ArgsOK S (a.set i x') (b.set i A)
  | [],[],i,h=>by simpa using h
  | [],b::bs,i,h=>by cases i <;> (simp at h;cases h)
  | a::B,[],i,h=>by cases i <;> (simp at h;cases h)
  | a::B,b::bs,0,h=>by
    simp only [List.set_cons_zero]at h ⊢
    cases h with
    | cons _ t=>exact .cons o t
  | a::B,b::bs,i+1,h=>by
    simp only [List.set_cons_succ]at h ⊢
    cases h with
    | cons h1 t=>exact .cons h1 (ArgsOK.set o t)
section
variable {C:Cfg} {sl:Nat->V} {H:Hp} {q:Qm} {all rest:List Oper} {K:(Nat->V)->Hp->Prop}
variable {dst:Option Tmp} {d:Nat} {t ty:TypeId} {pos:String} {after:Array Edge} {g:Option (Nat×Bool)}
theorem Ng {p:Nat} {T T':List Nm} {sl':Nat->V} {F:Hp} (hT:∀m∈T,m∈T') (R:∀m∈T',m∈T\/m∈F.map (·.1)) (h:aR (mV q p T' true) C all K rest sl' F):aR (mV q p T true) C all K rest sl' F:=by
  cases q with
  | none=>exact h
  | some Γ =>
    intro S tk ok I k L X O B
    refine h S tk ok I k L X (λN A => ?_) (λe he m hm => ?_)
    · rcases O N A with h1 | ⟨e,h1,h2,J,M,W⟩
      · exact .inl h1
      · refine .inr ?_
        rcases List.mem_append.1 h1 with h1|h1
        · exact⟨e,List.mem_append.2 (.inl h1),h2,J,M,W⟩
        · rw [List.mem_singleton]at h1;subst h1
          exact⟨(p,T',true),by simp,h2,λx o=>hT _ (J x o),λx o=>hT _ (M x o),λe=>by cases e⟩
    · rcases List.mem_append.1 he with he | he
      · exact B e (List.mem_append.2 (.inl he)) m hm
      · rw [List.mem_singleton]at he;subst he
        simp only at hm
        rcases R m hm with hm|hm
        · exact B (p,T,true) (by simp) m hm
        · obtain ⟨x,o,rfl⟩:=List.mem_map.1 hm
          exact (I.at_ x o).1
theorem pick_at {o A:List (Nat×V)} (is:List Nat) (h:pick o sl=o) (e:(is.filterMap λi=>o[i]?)=A):pick A sl=A:=by
  subst e
  unfold pick at h ⊢
  have hp:∀p∈o,(p.1,sl p.1)=p:=by
    intro p hp
    obtain ⟨i,hi,rfl⟩:=List.getElem_of_mem hp
    have:=congrArg (λl=>l[i]?) h
    simpa [List.getElem?_map,List.getElem?_eq_getElem hi]using this
  conv=>rhs;rw [<- List.map_id (is.filterMap λi=>o[i]?)]
  refine List.map_congr_left (λp h1 => ?_)
  obtain ⟨i,_,hi⟩:=List.mem_filterMap.1 h1
  exact hp p (List.mem_of_getElem? hi)
theorem ul {H0:Hp} (h:H.take H0.length=H0):pre H0 H:=aJ h
theorem pre_at {H0 H1:Hp} (W:pre H0 H) (h:pre H1 H0):pre H1 H:=by
  obtain ⟨is,O,he⟩:=W
  obtain ⟨F,hm,hf⟩:=h
  obtain ⟨hl,M⟩:=vZ he
  obtain ⟨R,J⟩:=vZ hf
  have o:∀(a:Nat) (A:a<F.length),F[a]<is.length:=λa A=>by
    have:=(List.getElem?_eq_some_iff.1 (J a A (by omega))).1
    omega
  refine⟨F.map λj=>is.getD j 0,?_,?_⟩
  · refine List.pairwise_iff_getElem.2 (λa b A hb I e => ?_)
    simp only [List.length_map]at A hb
    have h1:=o a A
    have h2:=o b hb
    simp only [List.getElem_map,List.getD_eq_getElem?_getD,List.getElem?_eq_getElem h1,List.getElem?_eq_getElem h2,Option.getD_some]at e
    have B:=(List.pairwise_iff_getElem.1 hm) a b A hb I
    exact B ((List.getElem_inj O).1 e)
  · refine List.ext_getElem (by simp [R]) (λi h1 h2 => ?_)
    simp only [List.length_map]at h1 h2
    have L:=o i h1
    simp only [List.getElem_map,List.getD_eq_getElem?_getD,List.getElem?_eq_getElem L,Option.getD_some]
    obtain ⟨N,e1⟩:=List.getElem?_eq_some_iff.1 (J i h1 h2)
    rw [M F[i] L N,e1]
theorem Na {H0:Hp} {is:List Nat} (A:∀(i:Nat) (h1:i<is.length) (h2:i<H0.length),H[is[i]]? = some H0[i]) (hl:is.length=H0.length) {ν:List Nm}:∀{o:List Nat} {ns:List Nm} {bs:List (Option Box)},zS H0 ν o ns bs->zS H ν (o.map λj=>is.getD j 0) ns bs
  | [],[],[],_=>trivial
  | j::_,_::_,_::_,h=>by
    obtain ⟨F,e1⟩:=List.getElem?_eq_some_iff.1 h.1
    have B:j<is.length:=by omega
    refine⟨?_,Na A hl h.2⟩
    simp only [List.getD_eq_getElem?_getD,List.getElem?_eq_getElem B,Option.getD_some]
    rw [A j B F,e1]
  | [],_::_,_,h=>h.elim
  | [],[],_::_,h=>h.elim
  | _::_,[],_,h=>h.elim
  | _::_,_::_,[],h=>h.elim
theorem Jw {H0:Hp} {ν:List Nm}:∀{o:List Nat} {ns:List Nm} {bs:List (Option Box)},zS H0 ν o ns bs->∀j∈o,j<H0.length
  | [],_,_,_,j,hj=>by cases hj
  | _::_,_::_,_::_,h,j,hj=>by
    rcases List.mem_cons.1 hj with rfl|hj
    · exact (List.getElem?_eq_some_iff.1 h.1).1
    · exact Jw h.2 j hj
  | _::_,[],_,h,_,_=>h.elim
  | _::_,_::_,[],h,_,_=>h.elim
theorem DK {H0:Hp} {k:Nat} {r:V} {Sout:List (Option Box)} {e:Exit} {sl':Nat->V} (X:pre H0 H) (h:vF C [] k r Sout e sl' H0):vF C [] k r Sout e sl H:=by
  obtain ⟨he,vs,I,o,ν,h1,h2,L,F,R,J⟩:=h
  obtain ⟨is,O,hf⟩:=X
  obtain ⟨hl,M⟩:=vZ hf
  cases vs with
  | cons v vs=>exact h1.elim
  | nil =>
    cases h2
    refine⟨he,[],[],o.map λj=>is.getD j 0,ν,trivial,.nil,L,Na M hl F,?_,J⟩
    refine List.pairwise_iff_getElem.2 (λa b B hb A e => ?_)
    simp only [List.length_map]at B hb
    have N:o[a]<is.length:=by have:=Jw F _ (List.getElem_mem B);omega
    have W:o[b]<is.length:=by have:=Jw F _ (List.getElem_mem hb);omega
    simp only [List.getElem_map,List.getD_eq_getElem?_getD,List.getElem?_eq_getElem N,List.getElem?_eq_getElem W,Option.getD_some]at e
    exact (List.pairwise_iff_getElem.1 R) a b B hb A ((List.getElem_inj O).1 e)
def sQ (S:Store):List Bool->List V->List V
  | b::bs,v::vs=>(bif b then co1 S v else v)::sQ S bs vs
  | _,_=>[]
theorem xx (S:Store):∀(bs:List Bool) (vs:List V),bs.length=vs.length->(sQ S bs vs).length=vs.length/\∀j (h1:j<(sQ S bs vs).length) (h2:j<vs.length),(sQ S bs vs)[j]=vs[j]\/(sQ S bs vs)[j]=co1 S vs[j]
  | [],[],_=>⟨rfl,λj h1 h2=>absurd h2 (Nat.not_lt_zero j)⟩
  | [],_::_,h=>by simp at h
  | _::_,[],h=>by simp at h
  | b::bs,v::vs,h=>by
    obtain ⟨h1,h2⟩:=xx S bs vs (by simpa using h)
    refine⟨by simp [sQ,h1],λj A o => ?_⟩
    cases j with
    | zero=>cases b <;> simp [sQ]
    | succ j=>simpa [sQ]using h2 j (by simpa [sQ]using A) (by simpa using o)
theorem wH_coc1 {Q:QH} {c:Code} {s:Nat} {m:Nm} {cs:List V} (j:Nat) (bs:List Bool) (h:List V) (hj:H[j]? = some (m,some (.cells s cs))) (hb:bs.length=cs.length) (hc:∀S,sQ S bs cs=h) (B:wH C c Q sl (H.set j (m,some (.cells s h)))):wH C c Q sl H:=by
  refine oH B (λS t o => ?_)
  have hm:=o.get hj
  obtain ⟨h1,h2⟩:=xx S bs cs hb
  rw [hc S]at h1 h2
  exact⟨supd S m (some (.cells s h)),Gst.coM ⟨sl,S,t⟩ m s cs h hm h1 h2,o.set hj (λx A=>A)⟩
theorem wH_coc3 {Q:QH} {c:Code} {α:Type} {enc:α->List D} {xs:List α} {sz s:Nat} {n m:Nm} {cs:List V} (i j:Nat) (bs:List Bool) (h:List V) (hi:H[i]? = some (n,gF sz enc xs)) (hj:H[j]? = some (m,some (.cells s cs))) (hb:bs.length=cs.length)
    (hc:∀S,co1 S (gV n sz xs)=vL enc xs->sQ S bs cs=h) (B:wH C c Q sl (H.set j (m,some (.cells s h)))):wH C c Q sl H:=by
  refine oH B (λS t o => ?_)
  have hm:=o.get hj
  obtain ⟨h1,h2⟩:=xx S bs cs hb
  rw [hc S (co_gF o hi)]at h1 h2
  exact⟨supd S m (some (.cells s h)),Gst.coM ⟨sl,S,t⟩ m s cs h hm h1 h2,o.set hj (λx A=>A)⟩
end
end Go.Eng

/-
  THE ENGINE: a sort of the library's, by its contract off the shelf.
-/
namespace Go.Eng
set_option linter.unusedSectionVars false
variable [DM]
open Go.Sort
set_option linter.unusedVariables false
set_option linter.unusedSimpArgs false
theorem pG.alone {G:Gh} {w:World} {o:List Value} {a:V} (h:pG G w o [a]):∃x,o=[x]/\RepV G w x a:=by
 obtain ⟨hl,h⟩:=h
 match o,hl with
 | [x],_=>exact⟨x,rfl,h 0 (by simp) (by simp)⟩
theorem Gj {α:Type} (h:α->D):∀(xs:List α),(Box.vec 1 (xs.map λx=>[h x])).all=xs.map λx=>V.d (h x)
 | []=>rfl
 | x::xs=>by
  have:=Gj h xs
  simp only [Box.all,List.map_cons,List.map_nil,List.flatten_cons,List.cons_append,List.nil_append]at this ⊢
  rw [this]
theorem Mf {α:Type} [Inhabited α] {ev:α->Value} {w:World} {b o:Nat} {d:Array α} {arr:Array Value} {t:TypeId} {A:Nat×Nat} (h:w.heap[b]? = some (.cells arr t A)) :
  (putRow ev w b o d).heap[b]? = some (.cells (putCells ev o d arr) t A):=by
 unfold putRow mapBlock
 simp only [Array.getElem?_modify,if_true,h,Option.map_some,onCells]
theorem I8 {α:Type} [Inhabited α] {ev:α->Value} {w:World} {b b' o:Nat} {d:Array α} (h:b'≠b):(putRow ev w b o d).heap[b']? = w.heap[b']? := by
 unfold putRow mapBlock
 simp only [Array.getElem?_modify,if_neg (Ne.symm h)]
theorem QA {α:Type} (ev:α->Value) (F:α->D) (h1:∀I w x v,RepD I w v (F x)->v=ev x) (h2:∀I w x,RepD I w (ev x) (F x)) (h3:∀x,(ev x).oneCell'=true) [Inhabited α]
  (A:List α->List α) (hs:∀l,(A l).length=l.length) {P:Program} {f:FuncId}
  (hC:∀(X off cap:Nat) (zs:List α) (w:World),Holds ev w X off zs.toArray->X<w.heap.size->zs.length<4611686018427387904 ->
   Calls P f #[.slice (some ⟨X,off,Option.none⟩) zs.length cap] w λe w'=>e = .returned (.tuple #[])/\∃n os,w'=grow (putRow ev (Sort.ahead w n) X off (A zs).toArray) os)
  (h0:∀(p:Option Addr) (cap:Nat) (w:World),Calls P f #[.slice p 0 cap] w λe w'=>e = .returned (.tuple #[])/\w'=w)
  {xs:List α} (hx:xs.length<4611686018427387904) :
  FnM P f [dV (au 0) 1 xs] (([]:List Box)++gI 1 (λx=>[F x]) xs) (.tup []) (([]:List Box).map some++gT xs (gB 1 (λx=>[F x]) (A xs))):=by
 have unit:∀G w,RepV G w (.tuple #[]) (.tup []):=λG w => .tup [] [] rfl (λi h1=>absurd h1 (Nat.not_lt_zero i))
 intro G w vargs J hargs
 obtain ⟨v,rfl,hv⟩:=hargs.alone
 cases hxs:xs with
 | nil =>
  rw [hxs]at hv J
  have hv':RepD G.imm w v (.sl []):=hv.d_inv
  obtain ⟨p,cap,rfl⟩:∃p cap,v = .slice p 0 cap:=by
   cases hv' with
   | sl0 a cap=>exact⟨_,_,rfl⟩
   | sl b off cap sz _ us=>exact⟨_,_,rfl⟩
  refine (h0 p cap w).mono ?_
  rintro e w' ⟨rfl,rfl⟩
  exact⟨_,G,cB [],1,_,[],rfl,J,unit _ _,rfl,List.nodup_nil,λi hi=>absurd hi (Nat.not_lt_zero i),λi bx hb=>by simp [gT]at hb⟩
 | cons y ys =>
  have hB:gB 1 (λx=>[F x]) (A xs)=some (.vec 1 ((A xs).map λx=>[F x])):=by
   have:=hs xs
   cases hsx:A xs with
   | nil=>rw [hsx,hxs]at this;simp at this
   | cons a b=>rfl
  rw [<- hxs]
  have hI:(([]:List Box)++gI 1 (λx=>[F x]) xs)=[.vec 1 (xs.map λx=>[F x])]:=by rw [hxs];rfl
  have hT:(([]:List Box).map some++gT xs (gB 1 (λx=>[F x]) (A xs)))=[some (.vec 1 ((A xs).map λx=>[F x]))]:=by rw [hB,hxs];rfl
  rw [hI]at J ⊢
  rw [hT]
  have hdv:dV (au 0) 1 xs = .vs (au 0) 1 0 xs.length:=by rw [hxs];rfl
  rw [hdv]at hv
  have hS:cB [.vec 1 (xs.map λx=>[F x])] (au 0)=some (.vec 1 (xs.map λx=>[F x])):=by rw [jM];rfl
  obtain ⟨b,o,sz,hmu,hst,hE⟩:=J.box _ _ hS
  have N:Stands G w (.vec 1 (xs.map λx=>[F x])) b o sz:=hst
  have hsz:sz=1:=N.sz
  subst hsz
  have hpos:xs.length≠0:=by rw [hxs];simp
  generalize hk:xs.length=k at hv
  cases hv with
  | vs0=>exact absurd hk hpos
  | @vs _ b2 o2 _ _ _ cap hm hcap hb =>
   rw [hmu]at hm
   simp only [so_,Prod.mk.injEq]at hm
   obtain ⟨rfl,rfl,_⟩:=hm
   obtain ⟨⟨arr,elem,B⟩,O⟩:=N.free rfl
   have Z:=Gj F xs
   have R:(Box.vec 1 (xs.map λx=>[F x])).all.length=xs.length:=by rw [Z];simp
   have hroom:o+xs.length<=arr.size:=by have:=N.room;rw [R,aV B]at this;exact this
   have hcell:∀j (h:j<xs.length),arr[o+j]? = some (ev xs[j]):=λj h=>by
    obtain ⟨u,hu,_,hr⟩:=N.cell j (by rw [R];exact h)
    rw [cell_of_row B]at hu
    have e:(Box.vec 1 (xs.map λx=>[F x])).all[j]'(by rw [R];exact h)=V.d (F xs[j]):=by simp only [Z,List.getElem_map]
    rw [e]at hr
    rw [hu,h1 _ _ _ _ hr.d_inv]
   have hH:Holds ev w b o xs.toArray:=λj hj=>by
    have W:j<xs.length:=by simpa using hj
    refine⟨?_,?_⟩
    ·rw [cell_of_row B,hcell j W]
     simp [W]
    ·simp only [World.frozen?,B];simp
   have hadr:(⟨b,o+0*1,Option.none⟩:Addr)=⟨b,o,Option.none⟩:=by simp
   show Calls P f #[.slice (some ⟨b,o+0*1,Option.none⟩) k cap] w _
   rw [hadr,<- hk]
   refine (hC b o cap xs w hH (J.bound _ _ _ _ hmu) hx).mono ?_
   rintro e w' ⟨rfl,n,os,rfl⟩
   have harr':(Sort.ahead w n).heap[b]? = some (.cells arr elem (0,0)):=B
   have L:=Mf (ev:=ev) (o:=o) (d:=(A xs).toArray) harr'
   have Y:(putCells ev o (A xs).toArray arr).size=arr.size:=by simp [putCells]
   have hsl:(A xs).length=xs.length:=hs xs
   have M:=Gj F (A xs)
   obtain ⟨i1,e1⟩:=J.write (w':=putRow ev (Sort.ahead w n) b o (A xs).toArray) hS rfl hmu (λb' hb'=>I8 hb') (by simp [putRow,mapBlock,Sort.ahead]) (by rw [aV B,aV L,Y];exact Nat.le_refl _) (λe he=>by rw [fw B]at he;rw [fw L];exact he) O rfl rfl rfl (.vec 1 ((A xs).map λx=>[F x])) (λe=>by
    show Stands _ _ _ _ _ _
    refine { sz:=rfl,even:=λy hy=>by obtain ⟨z,_,rfl⟩:=List.mem_map.1 hy;rfl,room := ?_,cell:=λj hj => ?_,free:=λ_=>⟨⟨_,_,L⟩,O⟩,froz:=λe=>by cases e }
    ·rw [M,aV L,Y];simp [hsl];exact hroom
    ·have W:j<(A xs).length:=by rw [M]at hj;simpa using hj
     refine⟨ev (A xs)[j],?_,h3 _,?_⟩
     ·rw [cell_of_row L]
      have hlt:o+j<arr.size:=by omega
      simp only [putCells,Array.getElem?_mapIdx,Array.getElem?_eq_getElem hlt,Option.map_some,List.size_toArray]
      rw [if_pos ⟨by omega,by omega⟩,show o+j-o=j by omega]
      simp [W]
     ·have e:(Box.vec 1 ((A xs).map λx=>[F x])).all[j]'hj=V.d (F (A xs)[j]):=by simp only [M,List.getElem_map]
      rw [e];exact .d (h2 _ _ _))
   obtain ⟨i2,e2⟩:=i1.more (w':=grow (putRow ev (Sort.ahead w n) b o (A xs).toArray) os) (λb' hb'=>by
    show ((putRow ev (Sort.ahead w n) b o (A xs).toArray).heap++os)[b']? = _
    rw [Array.getElem?_append_left hb']) (by simp [grow]) rfl rfl rfl (λ_ _ h=>h) (λ_ _ h => .inl h) rfl (λ_ h=>h)
   refine⟨_,G,_,1,_,[au 0],rfl,i2,unit _ _,rfl,by simp,λi hi => ?_,λi bx hb => ?_⟩
   ·have:i=0:=by simpa using hi
    subst this;rfl
   ·cases i with
    | zero =>
     simp only [List.getElem?_cons_zero,so_]at hb
     subst hb
     exact⟨au 0,rfl,by simp [supd,Box.ren]⟩
    | succ i=>simp at hb
def Ob (l:List Int):Option (List Int):=if l.length<4611686018427387904 then some (l.mergeSort λx y=>decide (x<=y))else none
theorem Qu {P:Program} {f:FuncId}
  (F:∀(o off cap:Nat) (zs:List Int) (w:World),Holds (Value.int .i64) w o off zs.toArray->o<w.heap.size->zs.length<4611686018427387904 ->
   Calls P f #[.slice (some ⟨o,off,Option.none⟩) zs.length cap] w λe w'=>e = .returned (.tuple #[])/\∃n os,w'=grow (putRow (Value.int .i64) (Sort.ahead w n) o off (zs.mergeSort λx y=>decide (x<=y)).toArray) os)
  (B:∀(p:Option Addr) (cap:Nat) (w:World),Calls P f #[.slice p 0 cap] w λe w'=>e = .returned (.tuple #[])/\w'=w)
  {xs r:List Int} (A:Ob xs=some r):FnM P f [dV (au 0) 1 xs] (([]:List Box)++gI 1 eI xs) (.tup []) (([]:List Box).map some++gT xs (gB 1 eI r)):=by
 unfold Ob at A
 split at A
 ·simp only [so_]at A
  subst A
  exact QA (Value.int .i64) (D.int .i64) (λI w x v h=>by cases h;rfl) (λI w x => .int _ _) (λ_=>rfl) _ (λl=>List.length_mergeSort l) F B ‹_›
 ·cases A
end Go.Eng

