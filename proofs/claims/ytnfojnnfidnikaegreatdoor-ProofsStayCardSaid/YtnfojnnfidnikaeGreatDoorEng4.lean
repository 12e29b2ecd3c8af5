/-
  The engine: what the machine does to data, shown once for all programs (part 4).
-/
import Derived.Test.YtnfojnnfidnikaeGreatDoorEng3
import Derived.Sort.Row
import Derived.Sort.Grow
/-
  THE ENGINE: parts of a slice over a box; clear.
-/
namespace Go.Eng
set_option linter.unusedSectionVars false
variable [DM]
set_option linter.unusedVariables false
set_option linter.unusedSimpArgs false
theorem Pe {α:Type} {n:Nm} {sz:Nat} {xs:List α} (h:xs ≠ []):gV n sz xs=vV n sz xs:=by cases xs with
 | nil=>exact absurd rfl h
 | cons x xs=>rfl
theorem F8 {α:Type} {sz:Nat} {enc:α->List D} {xs:List α} (h:xs ≠ []):gB sz enc xs=some (bV sz enc xs):=by cases xs with
 | nil=>exact absurd rfl h
 | cons x xs=>rfl
section
variable {C:Cfg} {Q:QH} {sl:Nat->V} {H:Hp} {c:Code}
theorem UC {α:Type} {enc:α->List D} {xs:List α} {sz lo len:Nat} {n:Nm} (k i:Nat) (B:sl k = .vs n sz lo len) (h:H[i]? = some (n,some (bF sz enc xs))) (f:lo+len<=xs.length) (o:wH C c Q (upd sl k (vL enc ((xs.drop lo).take len))) H):wH C c Q sl H :=
 wM o (λS t j=>⟨S,by
  have:=Gst.co ⟨sl,S,t⟩ k
  have e:co S (sl k)=vL enc ((xs.drop lo).take len):=by
   rw [B]
   have A:=j.get h
   have h2:Nat.ble (lo+len) xs.length=true:=Nat.ble_eq_true_of_le f
   simp [co,co1,A,h2,List.map_drop,List.map_take]
  simp only [e]at this
  exact this,j⟩)
end
section
variable {C:Cfg} {sl:Nat->V} {H:Hp} {q:Qm} {all rest:List Oper} {K:(Nat->V)->Hp->Prop}
 {dst:Option Tmp} {t ty e:TypeId} {pos:String} {after:Array Edge} {g:Option (Nat×Bool)}
theorem Qd {α:Type} {enc:α->List D} {xs:List α} {x:Operand} {n:Nm} {sz k len i:Nat} {z:List V} (p:Nat) (Y:q=none\/Nat.beq all.length (p+(rest.length+1))=true)
  (W:∀S tk,AgR H S tk (⟨dst,.call ⟨.builtin .clear,#[x],#[t]⟩,ty,pos,after,g⟩::rest)->okQ q all p [n] true) (F:α)
  (he:bG C.P t=some e) (hs:szT C.P e=some sz) (N:zeroCells C.P e=some z) (O:EG z=some (enc F)) (ho:z.all lq=true) (B:z.length=sz) (f:0<sz)
  (o:ev sl x = .vs n sz k len) (J:k+len<=xs.length) (I:H[i]? = some (n,some (bV sz enc xs)))
  (T:aQ all sl ⟨dst,.call ⟨.builtin .clear,#[x],#[t]⟩,ty,pos,after,g⟩=some true)
  (h:aZ (pK q p [n] true) C all K rest (dI sl dst (.tup [])) (H.set i (n,some (bV sz enc (xs.take k++List.replicate len F++xs.drop (k+len)))))) :
  aZ q C all K (⟨dst,.call ⟨.builtin .clear,#[x],#[t]⟩,ty,pos,after,g⟩::rest) sl H:=by
 refine og p [n] true Y W (wL I) T (λS tk Z ok L R => ?_)
 have M:S n=some (.vec sz (xs.map enc)):=L.get I
 have j:k+len<=(xs.map enc).length:=by simpa using J
 by_cases h0:len=0
 ·subst h0
  refine zk (A:=⟨[(n,.vec sz (xs.map enc))],[],.tup []⟩) ?_ (R _ (H.set i (n,some (bV sz enc (xs.take k++List.replicate 0 F++xs.drop (k+0))))) ⟨by simp,by simp⟩ (λe=>by cases e) ?_ h)
  ·show zy C.P t S (ev sl x)=_
   simp only [zy,he,o,hs,N,M,O]
   rw [if_pos ⟨trivial,trivial,B,ho,j,f⟩,if_pos trivial]
  ·have:=KT L I (b':=some (bV sz enc (xs.take k++List.replicate 0 F++xs.drop (k+0)))) (λx o=>by simp only [List.replicate_zero,List.append_nil,Nat.add_zero,List.take_append_drop]at o;rw [M];exact o)
   exact this.tail
 ·refine zk (A:=⟨[(n,.vec sz (xs.map enc))],[(n,some (bV sz enc (xs.take k++List.replicate len F++xs.drop (k+len))))],.tup []⟩) ?_ (R _ _ ⟨by simp,by simp⟩ (λe=>by cases e) (L.tail.set I (λx o=>o)) h)
  show zy C.P t S (ev sl x)=_
  simp only [zy,he,o,hs,N,M,O]
  rw [if_pos ⟨trivial,trivial,B,ho,j,f⟩,if_neg h0]
  simp [bV,List.map_take,List.map_drop]
def xU {α:Type} (xs:List α) (lo hi:Int):Option Unit:=if 0<=lo/\0<=hi/\lo.toNat<=hi.toNat/\hi.toNat<=xs.length then some ()else none
theorem vJ {α:Type} {xs:List α} {lo hi:Int} {u:Unit} (h:xU xs lo hi=some u):0<=lo/\0<=hi/\lo.toNat<=hi.toNat/\hi.toNat<=xs.length:=by
 unfold xU at h;split at h
 ·assumption
 ·cases h
theorem tL {α:Type} {xs:List α} {lo hi:Int} {u:Unit} (h:xU xs lo hi=some u):lo.toNat+(hi.toNat-lo.toNat)<=xs.length:=by
 have:=vJ h;omega
section part
variable {α:Type} {enc:α->List D} {xs:List α} {sz:Nat} {n:Nm} {x l hi:Operand} {k k':IntKind} {a b:Int} {u:Unit}
theorem NK (o:C.P.underlying t=some (.slice e)) (hs:szT C.P e=some sz) {lo hi:Option V} {l h:Int} (h1:rE 0 lo=some l.toNat) (h2:rE xs.length hi=some h.toNat) (A:xU xs l h=some u) :
  mE C.P t (vV n sz xs) lo hi none=some (.vs n sz l.toNat (h.toNat-l.toNat)):=by
 obtain ⟨_,_,f,j⟩:=vJ A
 simp only [vV,mE,o,hs,h1,h2]
 rw [if_pos ⟨f,j,trivial⟩,Nat.zero_add]
theorem Dy (o:C.P.underlying t=some (.slice e)) (hs:szT C.P e=some sz) (j:ev sl x=vV n sz xs) (hl:ev sl l = .d (.int k a)) (f:xU xs a xs.length=some u) (A:aQ all sl ⟨dst,.slice t x (some l) none none,ty,pos,after,g⟩=some true)
  (h:aZ q C all K rest (dI sl dst (.vs n sz a.toNat (((xs.length:Int)).toNat-a.toNat))) H):aZ q C all K (⟨dst,.slice t x (some l) none none,ty,pos,after,g⟩::rest) sl H :=
 aL _ A (by
  show mE C.P t (ev sl x) (some (ev sl l)) none none=_
  rw [j,hl];exact NK o hs (Jw (vJ f).1) rfl f) h
theorem Mt (o:C.P.underlying t=some (.slice e)) (hs:szT C.P e=some sz) (j:ev sl x=vV n sz xs) (A:ev sl hi = .d (.int k' b)) (f:xU xs 0 b=some u) (B:aQ all sl ⟨dst,.slice t x none (some hi) none,ty,pos,after,g⟩=some true)
  (h:aZ q C all K rest (dI sl dst (.vs n sz 0 b.toNat)) H):aZ q C all K (⟨dst,.slice t x none (some hi) none,ty,pos,after,g⟩::rest) sl H :=
 aL _ B (by
  show mE C.P t (ev sl x) none (some (ev sl hi)) none=_
  rw [j,A];exact NK o hs rfl (Jw (vJ f).2.1) f) h
end part
end
end Go.Eng

/-
  THE ENGINE: a slice that a function writes into: its box is handed in and handed back.
-/
namespace Go.Eng
set_option linter.unusedSectionVars false
variable [DM]
set_option linter.unusedVariables false
set_option linter.unusedSimpArgs false
def dV {α:Type} (n:Nm) (sz:Nat):List α->V
  | [] => .d (.sl [])
  | x::xs => .vs n sz 0 (x::xs).length
def gI {α:Type} (sz:Nat) (enc:α->List D):List α->List Box
  | []=>[]
  | x::xs=>[.vec sz ((x::xs).map enc)]
def gT {α:Type} (xs:List α) (o:Option Box):List (Option Box):=match xs with
  | []=>[]
  | _::_=>[o]
def neL {α:Type} (xs:List α):Option Unit:=match xs with
  | []=>none
  | _::_=>some ()
def fA {α β:Type} (xs:List α) (ys:List β):Option Unit:=if xs.length=ys.length then some ()else none
def inN (i:Int) (len:Nat):Option Unit:=if 0<=i/\i.toNat<len then some ()else none
abbrev FZ {α:Type} (xs:List α) (lo len:Nat):List α:=(xs.drop lo).take len
theorem UB {α:Type} {xs:List α} {u:Unit} (h:neL xs=some u):xs ≠ []:=by
  cases xs with
  | nil=>cases h
  | cons x xs=>simp
theorem iY {α β:Type} {xs:List α} {ys:List β} {u:Unit} (h:fA xs ys=some u):xs.length=ys.length:=by
  unfold fA at h;split at h
  · assumption
  · cases h
theorem Al {i:Int} {n:Nat} {u:Unit} (h:inN i n=some u):0<=i:=by
  unfold inN at h;split at h
  · rename_i h1;exact h1.1
  · cases h
theorem vZ {i:Int} {n:Nat} {u:Unit} (h:inN i n=some u):i.toNat<n:=by
  unfold inN at h;split at h
  · rename_i h1;exact h1.2
  · cases h
theorem Bl {α:Type} {xs:List α} {k len:Nat} {z:α} (h:k+len<=xs.length):xs.length=(xs.take k++List.replicate len z++xs.drop (k+len)).length:=by
  simp only [List.length_append,List.length_take,List.length_replicate,List.length_drop];omega
theorem bC {α:Type} {n:Nm} {sz:Nat} {xs ys:List α} (h:xs.length=ys.length):dV n sz xs=dV n sz ys:=by
  cases xs with
  | nil=>cases ys with
    | nil=>rfl
    | cons y ys=>simp at h
  | cons x xs=>cases ys with
    | nil=>simp at h
    | cons y ys=>simp only [dV,h]
theorem DI {α:Type} {n:Nm} {sz:Nat} {xs:List α} (h:xs ≠ []):dV n sz xs=vV n sz xs:=by cases xs with
  | nil=>exact absurd rfl h
  | cons x xs=>rfl
theorem q8 {α:Type} {sz:Nat} {enc:α->List D} {xs ys:List α} (h:ys.length=xs.length):xs=[]->gB sz enc ys=none:=λe=>by
  subst e
  cases ys with
  | nil=>rfl
  | cons y ys=>simp at h
section
variable {C:Cfg} {sl:Nat->V} {H:Hp} {Q:QH} {c:Code}
theorem Tx (i:Nat) {n:Nm} {b b':Option Box} (h:H[i]? = some (n,b)) (e:b=b') (f:wH C c Q sl (H.set i (n,b'))):wH C c Q sl H:=by
  subst e
  have hi:=(List.getElem?_eq_some_iff.1 h)
  rwa [<- hi.2,List.set_getElem_self]at f
theorem Qb (k:Nat) {v v':V} (f:sl k=v) (e:v=v') (h:wH C c Q (upd sl k v') H):wH C c Q sl H:=by
  have:upd sl k v'=sl:=by
    funext j
    simp only [upd]
    cases hj:Nat.beq j k with
    | true=>rw [Nat.eq_of_beq_eq_true hj,f,e];rfl
    | false=>rfl
  rw [this]at h;exact h
theorem Cy {α:Type} {enc:α->List D} {xs:List α} {sz:Nat} {n:Nm} (k i:Nat) (j:sl k=dV n sz xs) (h:H[i]? = some (n,gF sz enc xs)) (f:wH C c Q (upd sl k (vL enc xs)) H):wH C c Q sl H:=by
  cases xs with
  | nil=>exact Qb k (v':=vL enc ([]:List α)) j rfl f
  | cons x xs=>exact Fa k i j h f
end
section
variable {C:Cfg} {sl:Nat->V} {H:Hp} {q:Qm} {all rest:List Oper} {K:(Nat->V)->Hp->Prop}
variable {dst:Option Tmp} {d:Nat} {t ty:TypeId} {pos:String} {after:Array Edge} {g:Option (Nat×Bool)}
theorem Nk (i:Nat) {n:Nm} {b b':Option Box} (h:H[i]? = some (n,b)) (e:b=b') (f:aZ q C all K rest sl (H.set i (n,b'))):aZ q C all K rest sl H:=by
  subst e
  have hi:=(List.getElem?_eq_some_iff.1 h)
  rwa [<- hi.2,List.set_getElem_self]at f
theorem je {α:Type} {xs:List α} {x i:Operand} {k:IntKind} {n:Int} {nm:Nm} {size:Nat} (A:(bG C.P t).bind (szT C.P)=some size) (f:ev sl x=dV nm size xs) (hi:ev sl i = .d (.int k n)) (o:0<=n) (h1:n.toNat<xs.length)
    (j:aQ all sl ⟨dst,.indexAddr t x i,ty,pos,after,g⟩=some true) (h:aZ q C all K rest (dI sl dst (.ref nm (0+n.toNat) 0)) H):aZ q C all K (⟨dst,.indexAddr t x i,ty,pos,after,g⟩::rest) sl H:=by
  cases xs with
  | nil=>simp at h1
  | cons y ys=>exact zK A f hi o h1 j h
theorem xR {α:Type} {n:Nm} {sz:Nat} {xs:List α} {x:Operand} {e:TypeId} (o:C.P.underlying t=some (.slice e)) (f:ev sl x=dV n sz xs) (j:aQ all sl ⟨dst,.call ⟨.builtin .len,#[x],#[t]⟩,ty,pos,after,g⟩=some true)
    (h:aZ q C all K rest (dI sl dst (vI xs.length)) H):aZ q C all K (⟨dst,.call ⟨.builtin .len,#[x],#[t]⟩,ty,pos,after,g⟩::rest) sl H:=by
  cases xs with
  | nil=>exact bA (enc:=λ_:α=>[]) (xs:=[]) o f j h
  | cons y ys=>exact RB o f j h
theorem Ti {n:Nm} {sz k len:Nat} {x:Operand} {e:TypeId} (o:C.P.underlying t=some (.slice e)) (f:ev sl x = .vs n sz k len) (j:aQ all sl ⟨dst,.call ⟨.builtin .len,#[x],#[t]⟩,ty,pos,after,g⟩=some true)
    (h:aZ q C all K rest (dI sl dst (vI len)) H):aZ q C all K (⟨dst,.call ⟨.builtin .len,#[x],#[t]⟩,ty,pos,after,g⟩::rest) sl H :=
  Ei (v:=vI len) (by rw [f];simp only [FW,o]) j h
theorem Gu {f:Operand} {args:List Operand} {A:Array TypeId} {fn:FuncId} {caps o:List V} {r:V} {Sin:List Box} {Sout:List (Option Box)} (p:Nat) (B:List Nat) {l:List (Nm×Box)} (hp:q=none\/Nat.beq all.length (p+(rest.length+1))=true)
    (Z:∀S tk,AgR H S tk (⟨some d,.call ⟨.value f,args.toArray,A⟩,ty,pos,after,g⟩::rest)->okQ q all p (l.map (·.1)) true) (hc:FnM C.P fn o Sin r Sout)
    (hf:ev sl f = .fn fn caps) (hb:aJ C.P fn=true) (hl:oP H B=some l) (hS:Sin.map (λb=>b.ren (l.map (·.1)))=l.map (·.2)) (J:Sin.all (λb=>b.ok B.length)=true)
    (M:∀n∈(args.map (ev sl)++caps).flatMap frz,n∈l.map (·.1)) (ha:∀S tk,AgR H S tk (⟨some d,.call ⟨.value f,args.toArray,A⟩,ty,pos,after,g⟩::rest)->ArgsOK S (args.map (ev sl)++caps) (renL (l.map (·.1)) o)) (Y:okL B.length o=true) (hr:okV Sout.length r=true)
    (hlen:Sout.length=B.length) (hi:B.Nodup) (hO:okOut Sout.length Sout=true)
    (hw:aQ all sl ⟨some d,.call ⟨.value f,args.toArray,A⟩,ty,pos,after,g⟩=some true)
    (v:V) (hv:ren (l.map (·.1)) r=v) (H':Hp) (hH:setH H (outs (l.map (·.1)) B (l.map (·.1)) Sout)=H')
    (h:aZ (pK q p (l.map (·.1)) true) C all K rest (upd sl d v) H') :
    aZ q C all K (⟨some d,.call ⟨.value f,args.toArray,A⟩,ty,pos,after,g⟩::rest) sl H:=by
  subst hv hH
  obtain ⟨F,L⟩:=mX hl
  have W:Sin.length=l.length:=by have:=congrArg List.length hS;simpa using this
  refine og p (l.map (·.1)) true hp Z (Es hl) hw (λS tk K' ok O hk=>wX hf ?_)
  have I:=yQ O hi hl
  refine .inl ⟨hb,⟨[],l.map (·.1),o,Sin,r,Sout,false⟩,?_,(λe=>by cases e),?_⟩
  · exact { does := hc
            args:=ha S tk O
            okA:=by simp only [List.length_map,F];exact Y
            nodup:=I
            ins:=by
              refine yf (by simp [W]) (λj h1 h2=>⟨?_,?_⟩)
              · simp only [List.length_map,F]
                exact List.all_eq_true.1 J _ (List.getElem_mem h2)
              · simp only [List.length_map]at h1
                have e:=L j (by omega) h1
                have e2:l[j].2=Sin[j].ren (l.map (·.1)):=by
                  have:=congrArg (λx=>x[j]?) hS
                  simp only [List.getElem?_map,List.getElem?_eq_getElem h2,List.getElem?_eq_getElem h1,Option.map_some,so_]at this
                  exact this.symm
                simp only [List.getElem_map]
                show S l[j].1=_
                rw [O.get e,e2]
            len:=by show Sin.length<=Sout.length;omega
            okR:=hr,okO:=hO,mutN:=by show mutOut (List.drop Sin.length Sout)=true;rw [List.drop_of_length_le (by omega)];rfl
            roOK:=(λe=>by cases e),have_:=(λn M=>nomatch M),cov:=(λn h' => .inr (M n h')),dis:=(λn _ M=>nomatch M) }
  · have T:Sout.length-Sin.length=0:=by omega
    have e1:CallData.eff ⟨[],l.map (·.1),o,Sin,r,Sout,false⟩ S d tk=⟨((l.map (·.1)).zip Sin).map (λp=>(p.1,p.2.ren (l.map (·.1)))),eF (l.map (·.1)) (l.map (·.1)) Sout,ren (l.map (·.1)) r⟩:=by
      simp only [CallData.eff,cond_false,CallData.names,T,ou,List.range_zero,List.map_nil,List.append_nil,ic,ig,List.nil_append]
    show K' (CallData.eff _ S d tk)
    rw [e1]
    refine hk _ _ ⟨λx R => ?_,λx R=>zg R⟩ (λh=>by cases h) ?_ h
    · obtain ⟨y,hy,rfl⟩:=List.mem_map.1 R
      exact (List.of_mem_zip hy).1
    · have e3:(l.map (·.1)).length=B.length:=by simp [F]
      have N:=C8 (ν:=l.map (·.1)) O hi I (bs:=Sout) (λj h1 h2=>by
        simp only [List.length_map]at h2
        exact⟨_,by simp only [List.getElem_map];exact L j h1 h2⟩)
      rw [List.take_of_length_le (by omega)]at N
      exact N.tail
theorem EF {l:List (Nm×Box)} {i:Nat} {n:Nm} {b:Box}:∀{f:List Nat} {l:List (Nm×Box)},oP H f=some l->H[i]? = some (n,some b)->oP H (f++[i])=some (l++[(n,b)])
  | [],l,h,hi=>by
    simp only [oP,so_]at h;subst h
    simp only [List.nil_append,oP,hi]
  | j::f,l,h,hi=>by
    simp only [oP]at h
    split at h
    · rename_i o b' A h1 h2
      simp only [so_]at h;subst h
      simp only [List.cons_append,oP,h1,EF (l:=l) h2 hi]
    · cases h
theorem wD (ρ:List Nm):∀(vs:List V) (i:Nat) (v:V),renL ρ (vs.set i v)=(renL ρ vs).set i (ren ρ v)
  | [],_,_=>rfl
  | _::_,0,_=>rfl
  | x::vs,i+1,v=>by simp only [List.set_cons_succ,renL,wD ρ vs i v]
theorem DY {k:Nat}:∀{vs:List V} {i:Nat} {v:V},okL k (vs.set i .none)=true->okV k v=true->okL k (vs.set i v)=true
  | [],_,_,_,_=>rfl
  | x::vs,0,v,h,f=>by
    simp only [List.set_cons_zero,okL,Bool.and_eq_true]at h ⊢;exact⟨f,h.2⟩
  | x::vs,i+1,v,h,f=>by
    simp only [List.set_cons_succ,okL,Bool.and_eq_true]at h ⊢;exact⟨h.1,DY h.2 f⟩
theorem ol {α:Type}:∀{l:List α} {i:Nat} {a:α},l[i]? = some a->l.set i a=l
  | x::l,0,a,h=>by simp at h;subst h;rfl
  | x::l,i+1,a,h=>by simp only [List.set_cons_succ];rw [ol (by simpa using h)]
  | [],_,_,h=>by simp at h
theorem Ci {α:Type} {a b:List α} {i:Nat} {x y:α} (h:a.set i x=b.set i x):a.set i y=b.set i y:=by
  have:=congrArg (λl=>l.set i y) h
  simpa using this
theorem Hq (ν:List Nm):∀(f:List Nat) (ns:List Nm) (bs:List (Option Box)) (i:Nat) (n:Nm) (o:Option Box),f.length=bs.length->f.length=ns.length->Eng.outs ν (f++[i]) (ns++[n]) (bs++[o])=Eng.outs ν f ns bs++[(i,n,o.map (·.ren ν))]
  | [],[],[],i,n,o,_,_=>rfl
  | j::f,m::ns,b::bs,i,n,o,h1,h2=>by simp only [List.cons_append,Eng.outs];rw [Hq ν f ns bs i n o (by simpa using h1) (by simpa using h2)]
  | [],_::_,_,_,_,_,_,h=>by simp at h
  | [],[],_::_,_,_,_,h,_=>by simp at h
  | _::_,[],_,_,_,_,_,h=>by simp at h
  | _::_,_::_,[],_,_,_,h,_=>by simp at h
theorem Mi (ν j:List Nm):∀(f:List Nat) (ns:List Nm) (bs:List Box),bs.all (λb=>b.ok 0)=true->Eng.outs ν f ns (bs.map some)=Eng.outs j f ns (bs.map some)
  | [],_,_,_=>rfl
  | _::_,[],_,_=>rfl
  | _::_,_::_,[],_=>rfl
  | i::f,n::ns,b::bs,h=>by
    simp only [List.all_cons,Bool.and_eq_true]at h
    simp only [List.map_cons,Eng.outs,Option.map_some,vG h.1,Mi ν j f ns bs h.2]
theorem Il {k:Nat} {os:List Box}:os.all (λb=>b.ok 0)=true->okOut k (os.map some)=true:=by
  induction os with
  | nil=>exact λ_=>rfl
  | cons b os f =>
    intro h
    simp only [List.all_cons,Bool.and_eq_true]at h
    simp only [List.map_cons,okOut,Bool.and_eq_true]
    exact⟨Box.ok_mono (Nat.zero_le _) h.1,f h.2⟩
theorem BD {k:Nat}:∀{a b:List (Option Box)},okOut k a=true->okOut k b=true->okOut k (a++b)=true
  | [],_,_,h=>h
  | none::a,b,h1,h2=>by simp only [List.cons_append,okOut]at h1 ⊢;exact BD h1 h2
  | some y::a,b,h1,h2=>by simp only [List.cons_append,okOut,Bool.and_eq_true]at h1 ⊢;exact⟨h1.1,BD h1.2 h2⟩
theorem Dh {vs:List V} {i:Nat} (h:((vs.set i .none).flatMap frz).all (λ_=>false)=true) {n:Nm} (B:n∈vs.flatMap frz):∃v,vs[i]? = some v/\n∈frz v:=by
  have o:(vs.set i .none).flatMap frz=[]:=by
    cases o:(vs.set i .none).flatMap frz with
    | nil=>rfl
    | cons a b=>rw [o]at h;simp at h
  obtain ⟨v,A,f⟩:=List.mem_flatMap.1 B
  obtain ⟨j,hj,rfl⟩:=List.getElem_of_mem A
  by_cases hij:i=j
  · subst hij;exact⟨vs[i],List.getElem?_eq_getElem hj,f⟩
  · exfalso
    have:vs[j]∈vs.set i .none:=by
      have:(vs.set i V.none)[j]'(by simpa using hj)=vs[j]:=by rw [List.getElem_set_ne hij]
      rw [<- this];exact List.getElem_mem _
    have:=vO o _ this
    rw [this]at f;cases f
theorem Ni {bs:List Box} (ρ:List Nm) (h:bs.all (λb=>b.ok 0)=true):bs.map (λb=>b.ren ρ)=bs:=by
  induction bs with
  | nil=>rfl
  | cons b bs f=>simp only [List.all_cons,Bool.and_eq_true]at h;simp only [List.map_cons,vG h.1,f h.2]
theorem xI {a b:List Nm}:∀{vs:List V},okL a.length vs=true->renL (a++b) vs=renL a vs:=by
  intro vs h
  have key:∀n,okN a.length n=true->AP (a++b) n=AP a n:=by
    intro n F
    obtain ⟨i,hi,rfl⟩:=wW F
    rw [wZ hi,wZ (by simp;omega)]
    simp [List.getElem_append_left hi]
  have go:∀v,okV a.length v=true->ren (a++b) v=ren a v:=by
    intro v
    induction v using V.rec (motive_2:=λvs=>okL a.length vs=true->renL (a++b) vs=renL a vs)with
    | ref n i j=>intro h;simp only [ren];rw [key n h]
    | vs n sz k len=>intro h;simp only [ren];rw [key n h]
    | map n=>intro h;simp only [ren];rw [key n h]
    | fn f caps o=>intro h;simp only [ren];rw [o h]
    | agg cs o=>intro h;simp only [ren];rw [o h]
    | tup vs o=>intro h;simp only [ren];rw [o h]
    | nil=>intro h;rfl
    | cons v vs B A =>
      rename_i h
      simp only [okL,Bool.and_eq_true]at h
      simp only [renL,B h.1,A h.2]
    | _=>intro h;rfl
  induction vs with
  | nil=>rfl
  | cons v vs o =>
    simp only [okL,Bool.and_eq_true]at h
    simp only [renL,go v h.1,o h.2]
theorem jO {α:Type} {enc:α->List D} {sz:Nat} {xs:List α} {f:Operand} {args:List Operand} {ats:Array TypeId} {fn:FuncId} {caps j:List V} {r:V} {bs os:List Box} {o:Option Box} (p:Nat) (A:List Nat) (M B:Nat) {l:List (Nm×Box)} {n:Nm} {w:V}
    (O:q=none\/Nat.beq all.length (p+(rest.length+1))=true)
    (hfp:∀S tk,AgR H S tk (⟨some d,.call ⟨.value f,args.toArray,ats⟩,ty,pos,after,g⟩::rest)->okQ q all p (l.map (·.1)++[n]) true)
    (hc:FnM C.P fn j (bs++gI sz enc xs) r (os.map some++gT xs o))
    (hf:ev sl f = .fn fn caps) (hb:aJ C.P fn=true) (hl:oP H A=some l) (hv:H[M]? = some (n,gB sz enc xs))
    (hS:l.map (·.2)=bs) (T:bs.all (λb=>b.ok 0)=true)
    (hw1:(args.map (ev sl)++caps)[B]? = some w) (J:w=gV n sz xs\/w=dV n sz xs\/w=vV n sz xs/\xs ≠ []) (Y:j[B]? = some (dV (aA A.length) sz xs))
    (hn:(((args.map (ev sl)++caps).set B .none).flatMap frz).all (λn=>false)=true)
    (ha:((args.map (ev sl)++caps).map co0).set B .none=(renL (l.map (·.1)) j).set B .none) (hok:okL A.length (j.set B .none)=true) (hr:okV 0 r=true)
    (W:os.length=A.length) (hi:(A++[M]).Nodup) (hO:os.all (λb=>b.ok 0)=true) (ho:∀b,o=some b->b.ok 0=true) (hon:xs=[]->o=none)
    (hw:aQ all sl ⟨some d,.call ⟨.value f,args.toArray,ats⟩,ty,pos,after,g⟩=some true)
    (H':Hp) (hH:(setH H (outs (l.map (·.1)) A (l.map (·.1)) (os.map some))).set M (n,o)=H')
    (h:aZ (pK q p (l.map (·.1)++[n]) true) C all K rest (upd sl d r) H') :
    aZ q C all K (⟨some d,.call ⟨.value f,args.toArray,ats⟩,ty,pos,after,g⟩::rest) sl H:=by
  have hll:=(mX hl).1
  have hbs:bs.length=l.length:=by rw [<- hS];simp
  have hivs:M∉A:=by
    rw [List.nodup_append]at hi
    exact λI=>hi.2.2 M I M (by simp) rfl
  have hisn:A.Nodup:=(List.nodup_append.1 hi).1
  have hset:∀{l':List (Nat×Nm×Option Box)} {H0:Hp},(∀p∈l',p.1≠M)->(setH H0 l')[M]? = H0[M]? := by
    intro l'
    induction l' with
    | nil=>intro H0 _;rfl
    | cons x l' ih =>
      intro H0 hx
      obtain ⟨i,m,b⟩:=x
      simp only [setH]
      rw [ih (λp O=>hx p (by simp [O]))]
      have:i≠M:=hx (i,m,b) (by simp)
      rw [List.getElem?_set_ne this]
  have houts:∀(ν:List Nm) (A:List Nat) (ns:List Nm) (os:List (Option Box)),∀p∈outs ν A ns os,p.1∈A:=by
    intro ν A
    induction A with
    | nil=>intro ns os p O;simp [outs]at O
    | cons i A ih =>
      intro ns os p O
      cases ns with
      | nil=>simp [outs]at O
      | cons m ns=>cases os with
        | nil=>simp [outs]at O
        | cons o os =>
          simp only [outs,List.mem_cons]at O
          rcases O with rfl|O
          · simp
          · exact List.mem_cons_of_mem _ (ih _ _ _ O)
  have hco:∀(S:Store),(w=gV n sz xs\/w=dV n sz xs\/w=vV n sz xs/\xs ≠ [])->(∀x l,xs=x::l->S n=some (.vec sz (xs.map enc)))->co S w=dV n sz xs:=by
    intro S J hS
    cases hxs:xs with
    | nil =>
      subst hxs
      rcases J with h2|h2|⟨h2,h3⟩
      · rw [h2];rfl
      · rw [h2];rfl
      · exact absurd rfl h3
    | cons x l =>
      have:=hS x l hxs
      have e:w = .vs n sz 0 (x::l).length:=by rcases J with h2 | h2 | ⟨h2,_⟩ <;> rw [h2,hxs] <;> rfl
      rw [e]
      simp only [co,co1,this,dV]
  have Z:∀S:Store,co S w=dV n sz xs->(args.map (ev sl)++caps).map (co S)=((args.map (ev sl)++caps).map co0).set B (dV n sz xs):=by
    intro S hcw
    have h1:(args.map (ev sl)++caps)=((args.map (ev sl)++caps).set B .none).set B w:=by
      rw [List.set_set,ol hw1]
    have h2:(((args.map (ev sl)++caps).set B .none)).map (co S)=(((args.map (ev sl)++caps).set B .none)).map co0:=Cu (by
      cases hx:((args.map (ev sl)++caps).set B .none).flatMap frz with
      | nil=>rfl
      | cons a b=>rw [hx]at hn;simp at hn)
    have h3:(args.map (ev sl)++caps).map (co S)=((((args.map (ev sl)++caps).set B .none)).map (co S)).set B (co S w):=by
      rw [<- List.map_set,<- h1]
    rw [h3,h2,hcw,List.map_set,List.set_set]
  have h0:=ha
  cases hxs:xs with
  | nil =>
    have hobn:o=none:=hon hxs
    subst hobn
    have hc':FnM C.P fn j bs r (os.map some):=by rw [hxs]at hc;simpa [gI,gT]using hc
    have hq:okL A.length j=true:=by
      have:=DY (v:=dV (aA A.length) sz xs) hok (by rw [hxs];rfl)
      rwa [ol Y]at this
    refine Gu p A O (λS tk ag=>Lc (λm I=>by simp [I]) (hfp S tk ag)) hc' hf hb hl ?_ ?_ ?_ ?_ hq (xc (Nat.zero_le _) r hr) (by simp [W]) hisn (Il hO) hw r (wC hr) H' ?_ ?_
    · rw [hS,Ni _ T]
    · exact List.all_eq_true.2 (λb hb'=>Box.ok_mono (Nat.zero_le _) (List.all_eq_true.1 T b hb'))
    · intro m I
      obtain ⟨v,R,N⟩:=Dh hn I
      rw [hw1]at R
      simp only [so_]at R
      subst R
      exfalso
      rcases J with h2|h2|⟨_,h2⟩
      · rw [h2,hxs]at N;cases N
      · rw [h2,hxs]at N;cases N
      · exact h2 hxs
    · intro S tk ag
      refine ArgsOK.of_map ?_
      rw [Z S (hco S J (λx l e=>by rw [hxs]at e;cases e)),Ci ha]
      have:(renL (l.map (·.1)) j)[B]? = some (dV n sz xs):=by
        obtain ⟨hlt,he⟩:=List.getElem?_eq_some_iff.1 Y
        rw [List.getElem?_eq_getElem (by rw [cz];exact hlt),nJ _ _ _ _ hlt,he,hxs];rfl
      rw [ol this]
    · rw [<- hH]
      symm
      apply ol
      rw [hset (λp O e=>hivs (e ▸ houts _ _ _ _ p O)),hv,hxs];rfl
    · cases q with
      | none=>exact h
      | some Γ =>
        intro S tk ok ag k L hk hL hO'
        refine h S tk ok ag k L hk (λp0 hp0' => ?_) (λe he m I => ?_)
        · rcases hL p0 hp0' with h1 | ⟨e,h1,h2,h3,h4,h5⟩
          · exact .inl h1
          · refine .inr ?_
            rcases List.mem_append.1 h1 with h1|h1
            · exact⟨e,List.mem_append.2 (.inl h1),h2,h3,h4,h5⟩
            · rw [List.mem_singleton]at h1;subst h1
              exact⟨(p,l.map (·.1)++[n],true),by simp,h2,λx hx=>by simp only [List.mem_append];exact .inl (h3 x hx),λx hx=>by simp only [List.mem_append];exact .inl (h4 x hx),λe=>by cases e⟩
        · rcases List.mem_append.1 he with he | he
          · exact hO' e (List.mem_append.2 (.inl he)) m I
          · rw [List.mem_singleton]at he;subst he
            simp only at I
            rcases List.mem_append.1 I with I|I
            · exact hO' (p,l.map (·.1),true) (by simp) m I
            · rw [List.mem_singleton]at I;subst I
              rw [<- hH]at ag
              have:((setH H (outs (l.map (·.1)) A (l.map (·.1)) (os.map some))).set M (m,none))[M]? = some (m,none):=by
                have h1:=(List.getElem?_eq_some_iff.1 hv).1
                rw [List.getElem?_set_self (by rw [Qk];exact h1)]
              exact (ag.at_ _ (List.mem_of_getElem? this)).1
  | cons x l' =>
    have hgB:gB sz enc xs=some (.vec sz (xs.map enc)):=by rw [hxs];rfl
    have hv':H[M]? = some (n,some (.vec sz (xs.map enc))):=by rw [hv,hgB]
    have hc':FnM C.P fn j (bs++[.vec sz (xs.map enc)]) r (os.map some++[o]):=by rw [hxs]at hc ⊢;exact hc
    have hp1:=EF (l:=l) hl hv'
    have F:(l++[(n,Box.vec sz (xs.map enc))]).map (·.1)=l.map (·.1)++[n]:=by simp
    have hdv:dV (aA A.length) sz xs = .vs (aA A.length) sz 0 xs.length:=by rw [hxs];rfl
    have hq:okL (A++[M]).length j=true:=by
      have:=DY (v:=dV (aA A.length) sz xs) (wI (Nat.le_add_right A.length 1) _ hok) (by rw [hdv];exact Ih (ls_ _))
      rw [ol Y]at this
      simpa using this
    refine Gu p (A++[M]) O (λS tk ag=>by rw [F];exact hfp S tk ag) hc' hf hb hp1 ?_ ?_ ?_ ?_ hq (xc (Nat.zero_le _) r hr) (by simp [W]) hi ?_ hw r (wC hr) H' ?_ ?_
    · rw [List.map_append,Ni _ T]
      simp only [List.map_cons,List.map_nil,List.map_append,hS,Box.ren]
    · rw [List.all_append]
      simp only [Bool.and_eq_true]
      exact⟨List.all_eq_true.2 (λb hb'=>Box.ok_mono (Nat.zero_le _) (List.all_eq_true.1 T b hb')),rfl⟩
    · intro m I
      obtain ⟨v,R,N⟩:=Dh hn I
      rw [hw1]at R
      simp only [so_]at R
      subst R
      have e:w = .vs n sz 0 xs.length:=by rcases J with h2 | h2 | ⟨h2,_⟩ <;> rw [h2,hxs] <;> rfl
      rw [e]at N
      rw [F]
      have:m=n:=by simpa [frz,QK]using N
      rw [this];simp
    · intro S tk ag
      refine ArgsOK.of_map ?_
      rw [Z S (hco S J (λ_ _ _=>ag.get hv')),Ci ha,F]
      have hpl:B<j.length:=(List.getElem?_eq_some_iff.1 Y).1
      have h1:j=(j.set B .none).set B (dV (aA A.length) sz xs):=by rw [List.set_set,ol Y]
      have h2:renL (l.map (·.1)++[n]) j=(renL (l.map (·.1)) (j.set B .none)).set B (dV n sz xs):=by
        conv=>lhs;rw [h1]
        rw [wD,xI (by simp only [List.length_map,hll];exact hok),hdv]
        simp only [ren]
        rw [tJ (n:=n) (by rw [List.getElem?_append_right (by simp [hll])];simp [hll])]
        rw [hxs];rfl
      rw [h2,wD,List.set_set]
    · refine BD (Il hO) ?_
      cases o with
      | none=>rfl
      | some b=>simp only [okOut,Bool.and_true];exact Box.ok_mono (Nat.zero_le _) (ho b rfl)
    · rw [<- hH,F,Hq _ _ _ _ _ _ _ (by simp [W]) (by simp [hll]),NL,Mi _ (l.map (·.1)) _ _ _ hO]
      simp only [setH]
      cases o with
      | none=>rfl
      | some b=>simp only [Option.map_some,vG (ho b rfl)]
    · rw [F];exact h
theorem FnM.of_wHv {P:Program} {f:FuncId} {fn:Func} {body:Code} (C:Cfg) (M:C.P=P) (N:P.funcs[f]? = some fn) (hb:fn.body=some body) (J:C.n=fn.ntmps)
    {α:Type} {enc:α->List D} {sz:Nat} {xs:List α} {args:List V} {bs:List Box} {r:V} {Sout:List (Option Box)} (hl:args.length<=fn.ntmps) (B:tq C body=true)
    (h:wH C body (qL C fn.results.toList (bs++gI sz enc xs).length r Sout) (Pv args) (rq 0 bs++[(aA bs.length,gB sz enc xs)])):FnM P f args (bs++gI sz enc xs) r Sout:=by
  refine FnM.of_wpD' N hb M J hl ?_
  have hag:Ag (rq 0 bs++[(aA bs.length,gB sz enc xs)]) (kX (bs++gI sz enc xs)) 1:=by
   refine⟨Nat.one_pos,?_,λp o => ?_⟩
   · rw [List.map_append,List.nodup_append]
     refine⟨II _ _,by simp,λa I b hb e => ?_⟩
     simp only [List.map_cons,List.map_nil,List.mem_singleton]at hb
     obtain ⟨p,o,rfl⟩:=List.mem_map.1 I
     obtain ⟨j,b',h1,h2⟩:=yE o
     rw [h1,hb]at e
     simp only [aA,Prod.mk.injEq,and_true]at e
     have:=(List.getElem?_eq_some_iff.1 h2).1
     omega
   · rcases List.mem_append.1 o with o | o
     · obtain ⟨j,b,rfl,hb⟩:=yE o
       refine⟨Nat.one_pos,λx A => ?_⟩
       simp only [so_]at A
       subst A
       rw [F5,Nat.zero_add,List.getElem?_append_left (List.getElem?_eq_some_iff.1 hb).1];exact hb
     · simp only [List.mem_singleton]at o
       subst o
       refine⟨Nat.one_pos,λx A => ?_⟩
       rw [F5,List.getElem?_append_right (Nat.le_refl _),Nat.sub_self]
       cases xs with
       | nil=>cases A
       | cons y ys=>exact A
  obtain ⟨L,O,F⟩:=h B _ 1 hag
  exact⟨L,O,mW body (λe σ h=>PW h) F⟩
theorem oq {α:Type} {enc:α->List D} {sz:Nat} {N:List ResultVar} {r:V} {e:Exit} {bs os:List Box} {xs:List α} {o:Option Box} (he:e = .normal\/e = .ret) (vs:List V) (h1:Hr C sl H N vs) (h2:(vs.flatMap frz).all (λ_=>false)=true) (R:Jg (vs.map co0)=r) (I:okV 0 r=true)
    (F:bs.length=os.length) (hj:H[os.length]? = some (aA os.length,o)) (W:os.all (λb=>b.ok 0)=true) (ho:∀b,o=some b->b.ok 0=true) (hH:H.take os.length=rq 0 os) :
    qL C N (bs++gI sz enc xs).length r (os.map some++gT xs o) e sl H:=by
  have O:vs.flatMap frz=[]:=by
    cases J:vs.flatMap frz with
    | nil=>rfl
    | cons a b=>rw [J]at h2;simp at h2
  have hc:∀{vs:List V},vs.flatMap frz=[]->CoL H vs (vs.map co0):=by
    intro vs
    induction vs with
    | nil=>exact λ_ => .nil
    | cons v vs L=>exact λh => .cons (oh (vO h v (by simp)) rfl) (L (by simp only [List.flatMap_cons,List.append_eq_nil_iff]at h;exact h.2))
  have f:∀i (h:i<os.length),H[i]? = some (aA i,some os[i]):=λi hi=>by
    have:=tu os 0 i hi
    rw [Nat.zero_add,<- hH,List.getElem?_take,if_pos hi]at this
    exact this
  have B:∀{ν:List Nm} {l:List Box} {j:Nat} {M:List Nat} {ns:List Nm} {bs:List (Option Box)},(∀b∈l,b.ok 0=true)->(∀i (h:i<l.length),H[j+i]? = some (aA (j+i),some l[i]))->A9 H ν M ns bs->A9 H ν (List.range' j l.length++M) ((List.range' j l.length).map aA++ns) (l.map some++bs):=by
    intro ν l
    induction l with
    | nil=>exact λ_ _ h=>h
    | cons b l L =>
      intro j M ns bs hb T I
      simp only [List.length_cons,List.range'_succ,List.map_cons,List.cons_append]
      refine⟨?_,L (λx J=>hb x (by simp [J])) (λi hi => ?_) I⟩
      · have:=T 0 (by simp)
        simp only [Option.map_some,vG (hb b (by simp))]
        exact this
      · have:=T (i+1) (by simpa using hi)
        rw [show j+1+i=j+(i+1) by omega]
        exact this
  have A:∀b∈os,b.ok 0=true:=λb hb=>List.all_eq_true.1 W b hb
  cases xs with
  | nil =>
    refine⟨he,vs,vs.map co0,List.range' 0 os.length++[],(List.range' 0 os.length).map aA++[],h1,hc O,by rw [R,wC I],B A (λi hi=>by rw [Nat.zero_add];exact f i hi) trivial,by simp [List.nodup_range'],λi hi => ?_⟩
    have:i<os.length:=by simpa [gI,F]using hi
    simp [this]
  | cons x xs =>
    refine⟨he,vs,vs.map co0,List.range' 0 os.length++[os.length],(List.range' 0 os.length).map aA++[aA os.length],h1,hc O,by rw [R,wC I],
      B A (λi hi=>by rw [Nat.zero_add];exact f i hi) ⟨?_,trivial⟩,?_,λi hi => ?_⟩
    · rw [hj]
      cases o with
      | none=>rfl
      | some b=>simp only [Option.map_some,vG (ho b rfl)]
    · rw [List.nodup_append]
      refine⟨List.nodup_range',by simp,λa Y b hb => ?_⟩
      simp only [List.mem_singleton]at hb
      simp only [List.mem_range'_1]at Y
      omega
    · have Z:i<os.length+1:=by simpa [gI,F]using hi
      by_cases hlt:i<os.length
      · rw [List.getElem?_append_left (by simpa using hlt)];simp [hlt]
      · have:i=os.length:=by omega
        subst this
        rw [List.getElem?_append_right (by simp)];simp
theorem jo {α:Type} {sz:Nat} {enc:α->List D} {xs:List α}:∀b,gB sz enc xs=some b->b.ok 0=true:=by
  intro b h
  cases xs with
  | nil=>cases h
  | cons x xs=>cases h;rfl
theorem Ga:∀b,(none:Option Box)=some b->b.ok 0=true:=λb h=>by cases h
end
end Go.Eng

/-
  THE ENGINE: rules for maps, arrays and new slices of zeros.
-/
namespace Go.Eng
set_option linter.unusedSectionVars false
variable [DM]
set_option linter.unusedVariables false
set_option linter.unusedSimpArgs false
def wG {K T:Type} (eq:K->K->Bool) (k:K):List (K×T)->Option Nat
 | []=>none
 | e::es=>if eq k e.1=true then some 0 else (wG eq k es).map (· + 1)
def Oo {K T:Type} (eq:K->K->Bool) (es:List (K×T)) (k:K):Option T:=match wG eq k es with
 | some j=>(es[j]?).map (·.2)
 | none=>none
def RJ {K T:Type} (eq:K->K->Bool) (es:List (K×T)) (k:K) (v:T):List (K×T):=match wG eq k es with
 | some j=>es.set j (k,v)
 | none=>es++[(k,v)]
abbrev bM {K T:Type} (kD:K->D) (vD:T->D) (es:List (K×T)):Box := .map (es.map λe=>(kD e.1,vD e.2))
abbrev eqS (a b:ByteArray):Bool:=a==b
abbrev eqI (a b:Int):Bool:=a==b
theorem Li {K T:Type} {eq:K->K->Bool} {k:K}:∀{es:List (K×T)} {j:Nat},wG eq k es=some j->j<es.length
 | e::es,j,h=>by
  simp only [wG]at h
  split at h
  ·simp only [so_]at h;subst h;simp
  ·simp only [Option.map_eq_some_iff]at h
   obtain ⟨i,hi,rfl⟩:=h
   have:=Li hi
   simpa using this
theorem yS {K T:Type} {eq:K->K->Bool} {kD:K->D} {vD:T->D} {k:K} (he:∀a b,u7 (kD a) (kD b)=some (eq a b)):∀(es:List (K×T)),uB (kD k) (es.map λe=>(kD e.1,vD e.2))=some (wG eq k es)
 | []=>rfl
 | e::es=>by
  simp only [List.map_cons,uB,he,wG]
  cases h:eq k e.1 with
  | true=>simp
  | false=>simp [yS he es]
section
variable {C:Cfg} {sl:Nat->V} {H:Hp} {q:Qm} {all rest:List Oper} {K:(Nat->V)->Hp->Prop}
variable {dst:Option Tmp} {d:Nat} {t ty:TypeId} {pos:String} {after:Array Edge} {g:Option (Nat×Bool)}
theorem PX (p:Nat) (B:q=none\/Nat.beq all.length (p+(rest.length+1))=true) (j:aQ all sl ⟨some d,.makeMap t none,ty,pos,after,g⟩=some true)
  (h:∀n:Nm,aZ (pK q p [n] true) C all K rest (upd sl d (.map n)) (H++[(n,some (.map []))])):aZ q C all K (⟨some d,.makeMap t none,ty,pos,after,g⟩::rest) sl H :=
 vo rfl p [] B (λ_ _ _=>yN) (λm o=>by cases o) j (λS tk I ok f F=>jb (A:=⟨[],[((d,tk),some (.map []))],.map (d,tk)⟩) (λc e=>by cases e) rfl
  (F _ _ _ (.inl rfl) ⟨by simp,by simp⟩ (f.new ok rfl _) (h (d,tk))))
theorem Tw {Kt T:Type} {eq:Kt->Kt->Bool} {kD:Kt->D} {vD:T->D} {es:List (Kt×T)} {k:Kt} {z:T} {x i:Operand} {kt et:TypeId} {ok:Bool} {n:Nm} (p j:Nat) (O:q=none\/Nat.beq all.length (p+(rest.length+1))=true)
  (W:∀S tk,AgR H S tk (⟨dst,.lookup t x i ok,ty,pos,after,g⟩::rest)->okQ q all p [n] false) (he:∀a b,u7 (kD a) (kD b)=some (eq a b)) (L:Cn C.P t=some (kt,et)) (o:uZ C.P kt (kD k)=true) (M:zeroV C.P et=some (.d (vD z)))
  (I:ev sl x = .map n) (hi:ev sl i = .d (kD k)) (F:H[j]? = some (n,some (bM kD vD es))) (v:V) (N:Dm ok (.d (vD ((Oo eq es k).getD z))) (Oo eq es k).isSome=v)
  (J:aQ all sl ⟨dst,.lookup t x i ok,ty,pos,after,g⟩=some true) (h:aZ (pK q p [n] false) C all K rest (dI sl dst v) H):aZ q C all K (⟨dst,.lookup t x i ok,ty,pos,after,g⟩::rest) sl H:=by
 subst N
 refine og p [n] false O W (wL F) J (λS tk Z R B Y=>jb (A:=⟨[(n,bM kD vD es)],[],Dm ok (.d (vD ((Oo eq es k).getD z))) (Oo eq es k).isSome⟩) (λc e=>by cases e) ?_ (Y _ H ⟨by simp,by simp⟩ (λ_=>rfl) B.tail h))
 show vw C.P t S (ev sl x) (ev sl i) ok=_
 unfold vw
 rw [L,hi,I]
 simp only [o,cond_true,B.get F,yS he]
 unfold Oo
 cases hj:wG eq k es with
 | none=>simp only [M,Option.map_some,Option.getD_none,Option.isSome_none]
 | some j =>
  have f:=Li hj
  simp only [List.getElem?_map,List.getElem?_eq_getElem f,Option.map_some,Option.getD_some,Option.isSome_some]
theorem R3 {Kt T:Type} {eq:Kt->Kt->Bool} {kD:Kt->D} {vD:T->D} {es:List (Kt×T)} {k:Kt} {v:T} {m i x:Operand} {kt et:TypeId} {n:Nm} (p j:Nat) (M:q=none\/Nat.beq all.length (p+(rest.length+1))=true)
  (O:∀S tk,AgR H S tk (⟨dst,.mapUpdate t m i x,ty,pos,after,g⟩::rest)->okQ q all p [n] true) (he:∀a b,u7 (kD a) (kD b)=some (eq a b)) (L:Cn C.P t=some (kt,et)) (B:uZ C.P kt (kD k)=true)
  (f:ev sl m = .map n) (hi:ev sl i = .d (kD k)) (I:datum (ev sl x)=some (vD v)) (o:H[j]? = some (n,some (bM kD vD es)))
  (J:aQ all sl ⟨dst,.mapUpdate t m i x,ty,pos,after,g⟩=some true) (h:aZ (pK q p [n] true) C all K rest (dI sl dst .none) (H.set j (n,some (bM kD vD (RJ eq es k v))))):aZ q C all K (⟨dst,.mapUpdate t m i x,ty,pos,after,g⟩::rest) sl H:=by
 refine og p [n] true M O (wL o) J (λS tk W N F R=>jb (A:=⟨[(n,bM kD vD es)],[(n,some (bM kD vD (RJ eq es k v)))],.none⟩) (λc e=>by cases e) ?_ (R _ _ ⟨by simp,by simp⟩ (λe=>by cases e) (F.tail.set o (λx f=>f)) h))
 show kP C.P t S (ev sl m) (ev sl i) (ev sl x)=_
 rw [Ky I]
 unfold oM
 rw [L,hi,f,I]
 simp only [B,cond_true,F.get o,yS he]
 unfold RJ
 cases hj:wG eq k es with
 | none=>simp only [bM,List.map_append,List.map_cons,List.map_nil]
 | some j=>simp only [bM,List.map_set]
theorem Cc {α:Type} {enc:α->List D} {size:Nat} (hl:∀y,(enc y).length=size):∀(xs:List α) (i:Nat) (y:α),xs[i]? = some y->∃r,((xs.map enc).flatten).drop (i*size)=enc y++r
 | x::xs,0,y,h=>by
  simp only [List.getElem?_cons_zero,so_]at h;subst h
  exact⟨(xs.map enc).flatten,by simp⟩
 | x::xs,i+1,y,h=>by
  obtain ⟨r,f⟩:=Cc hl xs i y (by simpa using h)
  refine⟨r,?_⟩
  simp only [List.map_cons,List.flatten_cons]
  rw [Nat.add_mul,Nat.one_mul,Nat.add_comm,<- List.drop_drop,<- hl x,List.drop_left,hl x]
  exact f
 | [],_,_,h=>by simp at h
theorem Si {α:Type} {enc:α->List D} {xs:List α} {x i:Operand} {k:IntKind} {n:Int} {y:α} {size e m:Nat} {agg:Bool} {ds:List D} (M:C.P.underlying t=some (.array m e)) (hs:szT C.P e=some size) (L:bU C.P e=agg) (F:ev sl x = .d (.agg ds)) (A:(xs.map enc).flatten=ds) (J:xs.length=m)
  (hi:ev sl i = .d (.int k n)) (j:idx xs n=some y) (hl:∀y,(enc y).length=size) (hsz:agg=true\/size=1) (v:V) (N:rdD agg size (enc y)=some v)
  (I:aQ all sl ⟨dst,.index t x i,ty,pos,after,g⟩=some true) (h:aZ q C all K rest (dI sl dst v) H):aZ q C all K (⟨dst,.index t x i,ty,pos,after,g⟩::rest) sl H :=
 aL v I (by
  show Ao C.P t (ev sl x) (ev sl i)=_
  unfold idx at j
  split at j
  ·rename_i O
   have o:n.toNat<m:=by rw [<- J];exact (List.getElem?_eq_some_iff.1 j).1
   obtain ⟨r,R⟩:=Cc hl xs n.toNat y j
   rw [F,hi]
   have hc:(decide (0<=n)&&Nat.blt n.toNat m)=true:=by simp [O,Nat.blt_eq,o]
   simp only [Ao,M,hs,hc,cond_true,L]
   rw [<- A,R]
   rw [<- N]
   have f:=hl y
   unfold rdD
   cases agg with
   | true =>
    have h1:Nat.ble size (enc y++r).length=true:=Nat.ble_eq_true_of_le (by rw [List.length_append,f];omega)
    have h2:Nat.ble size (enc y).length=true:=Nat.ble_eq_true_of_le (by omega)
    simp only [cond_true,h1,h2]
    rw [List.take_append_of_le_length (by omega)]
   | false =>
    simp only [cond_false]
    cases he:enc y with
    | nil=>rw [he]at f;rcases hsz with B | B;cases B;simp at f;omega
    | cons c cs=>rfl
  ·cases j) h
def mkN (n:Int) (bytes:Nat):Option Nat:=if 0<=n/\n*bytes<=281474976710656/\n<=281474976710656 then some n.toNat else none
theorem Q7 {α:Type} {enc:α->List D} {x y:Operand} {k k':IntKind} {n:Int} {m e sz j:Nat} {z:List V} (p:Nat) (R:q=none\/Nat.beq all.length (p+(rest.length+1))=true) (o:α)
  (he:bG C.P t=some e) (hs:szT C.P e=some sz) (N:zeroCells C.P e=some z) (hb:fI C.P e=j) (O:EG z=some (enc o)) (F:z.length=sz) (f:0<sz) (ho:z.all lq=true)
  (I:ev sl x = .d (.int k n)) (T:ev sl y = .d (.int k' n)) (B:mkN n j=some m)
  (L:aQ all sl ⟨some d,.makeSlice t x y,ty,pos,after,g⟩=some true)
  (h:∀nm:Nm,aZ (pK q p [nm] true) C all K rest (upd sl d (vV nm sz (List.replicate m o))) (H++[(nm,some (bV sz enc (List.replicate m o)))])):aZ q C all K (⟨some d,.makeSlice t x y,ty,pos,after,g⟩::rest) sl H:=by
 unfold mkN at B
 split at B
 ·rename_i hc
  simp only [so_]at B;subst B
  refine vo rfl p [] R (λ_ _ _=>yN) (λm M=>by cases M) L (λS tk Y ok J W=>jb (A:=⟨[],[((d,tk),some (bV sz enc (List.replicate n.toNat o)))],vV (d,tk) sz (List.replicate n.toNat o)⟩) (λc e=>by cases e) ?_
   (W _ _ _ (.inl rfl) ⟨by simp,by simp⟩ (J.new ok rfl _) (h (d,tk))))
  show qP C.P t (ev sl x) (ev sl y) d tk=_
  unfold qP
  rw [he,I,T]
  simp only [hs,N,hb]
  by_cases hn0:n=0
  ·rw [if_pos ⟨hn0,Int.le_refl _,hc.2.1,hc.2.2,F,f⟩]
   subst hn0
   simp [bV,vV]
  ·rw [if_neg (λh=>hn0 h.1),if_pos ⟨hc.1,trivial,hc.2.1,hc.2.2,F,f,ho⟩,O]
   simp [bV,vV]
 ·cases B
end
end Go.Eng

/-
  THE ENGINE: slices with room made ahead; functions that are handed two slices in their boxes.
-/
namespace Go.Eng
set_option linter.unusedSectionVars false
variable [DM]
set_option linter.unusedVariables false
set_option linter.unusedSimpArgs false
def kV {α:Type} (b:Bool) (n:Nm) (sz:Nat) (xs:List α):V:=match b with
  | true=>vV n sz xs
  | false=>gV n sz xs
def kB {α:Type} (b:Bool) (sz:Nat) (enc:α->List D) (xs:List α):Option Box:=match b with
  | true=>some (bV sz enc xs)
  | false=>gB sz enc xs
def kF {α:Type} (b:Bool) (sz:Nat) (enc:α->List D) (xs:List α):Option Box:=match b with
  | true=>some (bF sz enc xs)
  | false=>gF sz enc xs
def kO (b:Bool) (sz:Nat):List (Option Box):=match b with
  | true=>[some (.vec sz [])]
  | false=>[]
def zN (n:Int) (bytes:Nat):Option Unit:=if 0<n/\n*bytes<=2 ^ 47/\n<=2 ^ 47 then some ()else none
section
variable {C:Cfg} {Q:QH} {sl:Nat->V} {H:Hp} {c:Code}
theorem S9 {α:Type} {enc:α->List D} {xs:List α} {sz:Nat} {n:Nm} {b:Bool} (i:Nat) (h:H[i]? = some (n,kB b sz enc xs)) (f:wH C c Q sl (H.set i (n,kF b sz enc xs))):wH C c Q sl H:=by
  cases b with
  | true=>exact F4 i h f
  | false=>exact iA i h f
theorem NN {α:Type} {enc:α->List D} {xs:List α} {sz:Nat} {n:Nm} {b:Bool} (k i:Nat) (j:sl k=kV b n sz xs) (h:H[i]? = some (n,kF b sz enc xs)) (f:wH C c Q (upd sl k (vL enc xs)) H):wH C c Q sl H:=by
  cases b with
  | true=>exact Fa k i j h f
  | false=>exact cO k i j h f
end
section
variable {C:Cfg} {sl:Nat->V} {H:Hp} {q:Qm} {all rest:List Oper} {K:(Nat->V)->Hp->Prop}
variable {dst:Option Tmp} {d:Nat} {t ty:TypeId} {pos:String} {after:Array Edge} {g:Option (Nat×Bool)}
theorem TP {α:Type} {enc:α->List D} {xs ys zs:List α} {x y:Operand} {t' e e':TypeId} {sz bytes i:Nat} {n:Nm} {z:List V} {b:Bool} (p:Nat) (B:q=none\/Nat.beq all.length (p+(rest.length+1))=true) (O:∀S tk,AgR H S tk (⟨some d,.call ⟨.builtin .append,#[x,y],#[t,t']⟩,ty,pos,after,g⟩::rest)->okQ q all p [n] true) (he:bG C.P t=some e) (o:bG C.P t'=some e') (hs:szT C.P e=some sz) (M:zeroCells C.P e=some z) (j:z.length=sz) (T:0<sz) (F:fI C.P e=bytes) (A:bytes<=100000)
    (f:∀y,(enc y).length=sz) (J:ev sl x=kV b n sz xs) (R:H[i]? = some (n,kB b sz enc xs)) (W:ev sl y=vL enc ys) (N:kr xs ys=some zs)
    (L:aQ all sl ⟨some d,.call ⟨.builtin .append,#[x,y],#[t,t']⟩,ty,pos,after,g⟩=some true)
    (h:∀I:Nm,aZ (pK q p [n,I] true) C all K rest (upd sl d (kV b I sz zs)) (H.set i (I,kB b sz enc zs))):aZ q C all K (⟨some d,.call ⟨.builtin .append,#[x,y],#[t,t']⟩,ty,pos,after,g⟩::rest) sl H:=by
  cases b with
  | true=>exact h_appv p B O he o hs M j T F A f J R W N L h
  | false=>exact jJ p B O he o hs M j T F A f J R W N L h
theorem KZ {x:Operand} {e:TypeId} (j:C.P.underlying t=some (.slice e)) (f:ev sl x = .nil) (o:aQ all sl ⟨dst,.call ⟨.builtin .len,#[x],#[t]⟩,ty,pos,after,g⟩=some true)
    (h:aZ q C all K rest (dI sl dst (vI 0)) H):aZ q C all K (⟨dst,.call ⟨.builtin .len,#[x],#[t]⟩,ty,pos,after,g⟩::rest) sl H :=
  Ei (v:=vI 0) (by rw [f];simp only [FW,j]) o h
theorem LU {x:Operand} {e:TypeId} (he:bG C.P t=some e) (f:ev sl x = .nil) (j:aQ all sl ⟨dst,.call ⟨.builtin .cap,#[x],#[t]⟩,ty,pos,after,g⟩=some true)
    (h:aZ q C all K rest (dI sl dst (vI 0)) H):aZ q C all K (⟨dst,.call ⟨.builtin .cap,#[x],#[t]⟩,ty,pos,after,g⟩::rest) sl H :=
  om j (λS tk B _ o=>zk (A:=⟨[],[],vI 0⟩) (by
    show (Tu C.P t (ev sl x)).bind gJ=_
    rw [f];simp only [Tu,he];rfl) (o _ rfl rfl rfl)) h
theorem Um {α:Type} {enc:α->List D} {x y:Operand} {t' e:TypeId} {sz f:Nat} {z:List V} {k:IntKind} {n:Int} {u:Unit} (p:Nat) (o:q=none\/Nat.beq all.length (p+(rest.length+1))=true) (he:bG C.P t=some e) (hi:p8 C.P t'=true) (hs:szT C.P e=some sz) (N:zeroCells C.P e=some z) (j:z.length=sz) (O:0<sz) (B:fI C.P e=f)
    (I:ev sl x = .nil) (R:ev sl y = .d (.int k n)) (F:zN n f=some u)
    (L:aQ all sl ⟨some d,.call ⟨.builtin .append,#[x,y],#[t,t']⟩,ty,pos,after,g⟩=some true)
    (h:∀nm:Nm,aZ (pK q p [nm] true) C all K rest (upd sl d (.vs nm sz 0 n.toNat)) (H++[(nm,some (bV sz enc ([]:List α)))])):aZ q C all K (⟨some d,.call ⟨.builtin .append,#[x,y],#[t,t']⟩,ty,pos,after,g⟩::rest) sl H:=by
  unfold zN at F
  split at F
  · rename_i hc
    refine vo rfl p [] o (λ_ _ _=>yN) (λm M=>by cases M) L (λS tk W ok J T=>zk (A:=⟨[],[((d,tk),some (bV sz enc ([]:List α)))],.vs (d,tk) sz 0 n.toNat⟩) ?_
      (T _ _ _ (.inl rfl) ⟨by simp,by simp⟩ (J.new ok rfl _) (h (d,tk))))
    show (bif p8 C.P t' then xg C.P t t' (ev sl x) (ev sl y) d tk else _)=_
    rw [hi,cond_true,I,R]
    simp only [xg,he,hi,cond_true,hs,N]
    rw [if_pos ⟨hc.1,O,j,by rw [B];exact hc.2.1,hc.2.2⟩]
    rfl
  · cases F
theorem SF {x hi:Operand} {e:TypeId} {n:Nm} {sz k len m:Nat} {j:IntKind} {b:Int} (B:C.P.underlying t=some (.slice e)) (hs:szT C.P e=some sz) (o:ev sl x = .vs n sz k len) (F:ev sl hi = .d (.int j b)) (hb:b=(m:Int)) (f:m<=len)
    (A:aQ all sl ⟨dst,.slice t x none (some hi) none,ty,pos,after,g⟩=some true) (h:aZ q C all K rest (dI sl dst (.vs n sz k m)) H):aZ q C all K (⟨dst,.slice t x none (some hi) none,ty,pos,after,g⟩::rest) sl H :=
  aL _ A (by
    show mE C.P t (ev sl x) none (some (ev sl hi)) none=_
    rw [o,F,hb]
    have:rE len (some (.d (.int j (m:Int))))=some m:=by simp [rE]
    simp only [mE,B,hs,this]
    rw [show rE 0 none=some 0 from rfl]
    simp only
    rw [if_pos ⟨Nat.zero_le _,f,trivial⟩]
    simp) h
theorem Qs {f:Operand} {args:List Operand} {J:Array TypeId} {fn:FuncId} {caps o:List V} {r:V} {Sin:List Box} {Sout:List (Option Box)} (F:List Nat) (m:Nat) {l:List (Nm×Box)} (hc:FnM C.P fn o Sin r Sout)
    (hf:ev sl f = .fn fn caps) (hb:aJ C.P fn=true) (hl:oP H F=some l) (hS:Sin.map (λb=>b.ren (l.map (·.1)))=l.map (·.2)) (N:Sin.all (λb=>b.ok F.length)=true)
    (R:∀n∈(args.map (ev sl)++caps).flatMap frz,n∈l.map (·.1)) (ha:∀S tk,AgR H S tk (⟨some d,.call ⟨.value f,args.toArray,J⟩,ty,pos,after,g⟩::rest)->ArgsOK S (args.map (ev sl)++caps) (renL (l.map (·.1)) o)) (Z:okL F.length o=true) (hr:okV Sout.length r=true)
    (L:Sout.length=F.length+m) (hi:F.Nodup) (hO:okOut Sout.length Sout=true) (hmu:mutOut (Sout.drop F.length)=true)
    (hw:aQ all sl ⟨some d,.call ⟨.value f,args.toArray,J⟩,ty,pos,after,g⟩=some true)
    (h:∀ν:Nat->Nm,aZ none C all K rest (upd sl d (ren (l.map (·.1)++(List.range m).map ν) r))
      (setH H (outs (l.map (·.1)++(List.range m).map ν) F (l.map (·.1)) Sout)++news (l.map (·.1)++(List.range m).map ν) ((List.range m).map ν) (Sout.drop F.length))) :
    aZ none C all K (⟨some d,.call ⟨.value f,args.toArray,J⟩,ty,pos,after,g⟩::rest) sl H:=by
  obtain ⟨B,O⟩:=mX hl
  have I:Sin.length=l.length:=by have:=congrArg List.length hS;simpa using this
  refine Oj hw (λS tk K' ok T hk=>wX hf ?_)
  have h:=h (λj=>(d+100000*j,tk))
  have M:=yQ T hi hl
  refine .inl ⟨hb,⟨[],l.map (·.1),o,Sin,r,Sout,false⟩,?_,(λe=>by cases e),?_⟩
  · exact { does := hc
            args:=ha S tk T
            okA:=by simp only [List.length_map,B];exact Z
            nodup:=M
            ins:=by
              refine yf (by simp [I]) (λj h1 h2=>⟨?_,?_⟩)
              · simp only [List.length_map,B]
                exact List.all_eq_true.1 N _ (List.getElem_mem h2)
              · simp only [List.length_map]at h1
                have e:=O j (by omega) h1
                have W:l[j].2=Sin[j].ren (l.map (·.1)):=by
                  have:=congrArg (λx=>x[j]?) hS
                  simp only [List.getElem?_map,List.getElem?_eq_getElem h2,List.getElem?_eq_getElem h1,Option.map_some,so_]at this
                  exact this.symm
                simp only [List.getElem_map]
                show S l[j].1=_
                rw [T.get e,W]
            len:=by rw [I,L,B];omega
            okR:=hr,okO:=hO,mutN:=by rw [I,B];exact hmu
            roOK:=(λe=>by cases e),have_:=(λn R=>nomatch R),cov:=(λn h' => .inr (R n h')),dis:=(λn _ R=>nomatch R) }
  · have Y:Sout.length-Sin.length=m:=by omega
    have e1:CallData.eff ⟨[],l.map (·.1),o,Sin,r,Sout,false⟩ S d tk=⟨((l.map (·.1)).zip Sin).map (λp=>(p.1,p.2.ren (l.map (·.1)))),eF (l.map (·.1)++ou d tk m) (l.map (·.1)++ou d tk m) Sout,ren (l.map (·.1)++ou d tk m) r⟩:=by
      simp only [CallData.eff,cond_false,CallData.names,Y,ic,ig,List.nil_append]
    show K' (CallData.eff _ S d tk)
    rw [e1]
    refine hk _ _ ?_ h
    have W:(List.range m).map (λj=>(d+100000*j,tk))=ou d tk m:=rfl
    rw [W]
    show AgR _ (fu S (eF _ (l.map (·.1)++ou d tk m) Sout)) tk rest
    rw [Cs,AJ]
    have e3:(l.map (·.1)).length=F.length:=by simp [B]
    rw [e3]
    have A:=C8 (ν:=l.map (·.1)++ou d tk m) T hi M (bs:=Sout) (λj h1 h2=>by
      simp only [List.length_map]at h2
      exact⟨_,by simp only [List.getElem_map];exact O j h1 h2⟩)
    rw [List.take_of_length_le (by omega)]at A
    have e4:ou d tk m=(List.range' 0 m).map λj=>(d+100000*j,tk):=by rw [<- W,Ju]
    rw [e4]at A ⊢
    exact AgR.news ok rfl m 0 ⟨A.nd,A.pos⟩ (λp hp=>⟨.inl (A.at_ p hp).1,(A.at_ p hp).2⟩)
theorem Fj {S:Store}:∀(vs:List V),ArgsOK S vs vs
  | [] => .nil
  | x::vs => .cons (.inl rfl) (Fj vs)
theorem P7 {α:Type} {enc:α->List D} {sz:Nat} {b:Bool} {f:Operand} {args:List Operand} {B:Array TypeId} {fn:FuncId} {caps j:List V}
    (hc:FnM C.P fn j [] (kV b (aA 0) sz ([]:List α)) (kO b sz))
    (J:ev sl f = .fn fn caps) (hb:aJ C.P fn=true)
    (L:((args.map (ev sl)++caps).flatMap frz).all (λn=>false)=true) (M:args.map (ev sl)++caps=j) (A:okL 0 j=true)
    (I:aQ all sl ⟨some d,.call ⟨.value f,args.toArray,B⟩,ty,pos,after,g⟩=some true)
    (h:∀n:Nm,aZ none C all K rest (upd sl d (kV b n sz ([]:List α))) (H++[(n,kB b sz enc ([]:List α))])) :
    aZ none C all K (⟨some d,.call ⟨.value f,args.toArray,B⟩,ty,pos,after,g⟩::rest) sl H:=by
  have F:∀S tk,AgR H S tk (⟨some d,.call ⟨.value f,args.toArray,B⟩,ty,pos,after,g⟩::rest)->ArgsOK S (args.map (ev sl)++caps) (renL (([]:List (Nm×Box)).map (·.1)) j):=λS tk _=>by
    rw [M]
    have:renL (([]:List (Nm×Box)).map (·.1)) j=j:=KM A
    rw [this];exact Fj j
  have o:∀n∈(args.map (ev sl)++caps).flatMap frz,n∈([]:List (Nm×Box)).map (·.1):=λn o=>by
    cases hx:(args.map (ev sl)++caps).flatMap frz with
    | nil=>rw [hx]at o;cases o
    | cons a b=>rw [hx]at L;simp at L
  cases b with
  | false =>
    refine Qs (Sin:=[]) (r := .nil) (Sout:=[]) [] 0 hc J hb rfl rfl rfl o F A rfl rfl List.nodup_nil rfl rfl I (λν => ?_)
    simp only [List.range_zero,List.map_nil,List.append_nil,news,outs,setH]
    exact KV (λn=>h n)
  | true =>
    refine Qs (Sin:=[]) (r:=vV (aA 0) sz ([]:List α)) (Sout:=[some (.vec sz [])]) [] 1 hc J hb rfl rfl rfl o F A ?_ rfl List.nodup_nil rfl rfl I (λν => ?_)
    · exact Ih (Nat.zero_lt_one)
    · have N:ren ((([]:List (Nm×Box)).map (·.1))++(List.range 1).map ν) (vV (aA 0) sz ([]:List α))=vV (ν 0) sz ([]:List α):=by
        simp only [List.map_nil,List.nil_append,vV,ren]
        rw [tJ (n:=ν 0) (by simp)]
      rw [N]
      exact h (ν 0)
theorem finK {α:Type} {sz t:Nat} {n:Nm} {e:Exit} {enc:α->List D} (he:e = .normal\/e = .ret) (j:Nat) (h1:sl t = .vs n sz 0 0) (h2:H[j]? = some (n,some (bV sz enc ([]:List α)))) :
    qL C [.tmp t] 0 (vV (aA 0) sz ([]:List α)) [some (.vec sz [])] e sl H :=
  ⟨he,[.vs n sz 0 0],[.vs n sz 0 0],[j],[n],⟨h1,trivial⟩,.cons (.inl rfl) .nil,by
    simp only [Jg,vV,ren]
    rw [tJ (n:=n) (by simp)];rfl,⟨h2,trivial⟩,by simp,λi hi=>absurd hi (Nat.not_lt_zero i)⟩
theorem finK0 {t:Nat} {e:Exit} (he:e = .normal\/e = .ret) (h1:sl t = .nil):qL C [.tmp t] 0 .nil [] e sl H :=
  ⟨he,[.nil],[.nil],[],[],⟨h1,trivial⟩,.cons (.inl rfl) .nil,rfl,trivial,List.nodup_nil,λi hi=>absurd hi (Nat.not_lt_zero i)⟩
end
section
variable {C:Cfg} {sl:Nat->V} {H:Hp} {q:Qm} {all rest:List Oper} {K:(Nat->V)->Hp->Prop}
variable {d:Nat} {t ty:TypeId} {pos:String} {after:Array Edge} {g:Option (Nat×Bool)}
end
end Go.Eng

/-
  THE ENGINE: functions that are handed two slices in their boxes.
-/
namespace Go.Eng
set_option linter.unusedSectionVars false
variable [DM]
set_option linter.unusedVariables false
set_option linter.unusedSimpArgs false
def okO (os:List (Option Box)):Bool:=os.all λo=>match o with
  | some b=>b.ok 0
  | none=>true
theorem ArgsOK.set {S:Store} {x y x' y':V} (f:y'=x'\/y'=co S x'):∀{a b:List V} {i:Nat},ArgsOK S (a.set i x) (b.set i y)->ArgsOK S (a.set i x') (b.set i y')
  | [],[],i,h=>by simpa using h
  | [],b::bs,i,h=>by cases i <;> (simp at h;cases h)
  | a::j,[],i,h=>by cases i <;> (simp at h;cases h)
  | a::j,b::bs,0,h=>by
    simp only [List.set_cons_zero]at h ⊢
    cases h with
    | cons _ t=>exact .cons f t
  | a::j,b::bs,i+1,h=>by
    simp only [List.set_cons_succ]at h ⊢
    cases h with
    | cons h1 t=>exact .cons h1 (ArgsOK.set f t)
section
variable {C:Cfg} {sl:Nat->V} {H:Hp} {q:Qm} {all rest:List Oper} {K:(Nat->V)->Hp->Prop}
variable {dst:Option Tmp} {d:Nat} {t ty:TypeId} {pos:String} {after:Array Edge} {g:Option (Nat×Bool)}
theorem Ac {H0:Hp} (h:H.take H0.length=H0):pre H0 H:=aG h
theorem PT {H0:Hp} {f:List Nat} (B:∀(i:Nat) (h1:i<f.length) (h2:i<H0.length),H[f[i]]? = some H0[i]) (hl:f.length=H0.length) {ν:List Nm}:∀{A:List Nat} {ns:List Nm} {bs:List (Option Box)},A9 H0 ν A ns bs->A9 H ν (A.map λj=>f.getD j 0) ns bs
  | [],[],[],_=>trivial
  | j::_,_::_,_::_,h=>by
    obtain ⟨I,F⟩:=List.getElem?_eq_some_iff.1 h.1
    have o:j<f.length:=by omega
    refine⟨?_,PT B hl h.2⟩
    simp only [List.getD_eq_getElem?_getD,List.getElem?_eq_getElem o,Option.getD_some]
    rw [B j o I,F]
  | [],_::_,_,h=>h.elim
  | [],[],_::_,h=>h.elim
  | _::_,[],_,h=>h.elim
  | _::_,_::_,[],h=>h.elim
theorem K4 {H0:Hp} {ν:List Nm}:∀{f:List Nat} {ns:List Nm} {bs:List (Option Box)},A9 H0 ν f ns bs->∀j∈f,j<H0.length
  | [],_,_,_,j,hj=>by cases hj
  | _::_,_::_,_::_,h,j,hj=>by
    rcases List.mem_cons.1 hj with rfl|hj
    · exact (List.getElem?_eq_some_iff.1 h.1).1
    · exact K4 h.2 j hj
  | _::_,[],_,h,_,_=>h.elim
  | _::_,_::_,[],h,_,_=>h.elim
theorem qG {H0:Hp} {k:Nat} {r:V} {Sout:List (Option Box)} {e:Exit} {sl':Nat->V} (J:pre H0 H) (h:qL C [] k r Sout e sl' H0):qL C [] k r Sout e sl H:=by
  obtain ⟨he,vs,N,A,ν,h1,h2,L,B,M,O⟩:=h
  obtain ⟨f,Y,R⟩:=J
  obtain ⟨hl,T⟩:=Bp R
  cases vs with
  | cons v vs=>exact h1.elim
  | nil =>
    cases h2
    refine⟨he,[],[],A.map λj=>f.getD j 0,ν,trivial,.nil,L,PT T hl B,?_,O⟩
    refine List.pairwise_iff_getElem.2 (λa b o hb F e => ?_)
    simp only [List.length_map]at o hb
    have I:A[a]<f.length:=by have:=K4 B _ (List.getElem_mem o);omega
    have W:A[b]<f.length:=by have:=K4 B _ (List.getElem_mem hb);omega
    simp only [List.getElem_map,List.getD_eq_getElem?_getD,List.getElem?_eq_getElem I,List.getElem?_eq_getElem W,Option.getD_some]at e
    exact (List.pairwise_iff_getElem.1 M) a b o hb F ((List.getElem_inj Y).1 e)
end
end Go.Eng

/-
  THE ENGINE: a sort of the library's, by its contract off the shelf.
-/
namespace Go.Eng
set_option linter.unusedSectionVars false
variable [DM]
open Go.Sort
set_option linter.unusedVariables false
set_option linter.unusedSimpArgs false
theorem xq.alone {G:Gh} {w:World} {f:List Value} {a:V} (h:xq G w f [a]):∃x,f=[x]/\RepV G w x a:=by
 obtain ⟨hl,h⟩:=h
 match f,hl with
 | [x],_=>exact⟨x,rfl,h 0 (by simp) (by simp)⟩
theorem G6 {α:Type} (f:α->D):∀(xs:List α),(Box.vec 1 (xs.map λx=>[f x])).all=xs.map λx=>V.d (f x)
 | []=>rfl
 | x::xs=>by
  have:=G6 f xs
  simp only [Box.all,List.map_cons,List.map_nil,List.flatten_cons,List.cons_append,List.nil_append]at this ⊢
  rw [this]
theorem Ob {α:Type} [Inhabited α] {ev:α->Value} {w:World} {b o:Nat} {d:Array α} {arr:Array Value} {t:TypeId} {f:Nat×Nat} (h:w.heap[b]? = some (.cells arr t f)) :
  (putRow ev w b o d).heap[b]? = some (.cells (putCells ev o d arr) t f):=by
 unfold putRow mapBlock
 simp only [Array.getElem?_modify,if_true,h,Option.map_some,onCells]
theorem Kr {α:Type} [Inhabited α] {ev:α->Value} {w:World} {b b' o:Nat} {d:Array α} (h:b'≠b):(putRow ev w b o d).heap[b']? = w.heap[b']? := by
 unfold putRow mapBlock
 simp only [Array.getElem?_modify,if_neg (Ne.symm h)]
theorem Sb {α:Type} (ev:α->Value) (F:α->D) (h1:∀I w x v,RepD I w v (F x)->v=ev x) (h2:∀I w x,RepD I w (ev x) (F x)) (h3:∀x,(ev x).oneCell'=true) [Inhabited α]
  (A:List α->List α) (hs:∀l,(A l).length=l.length) {P:Program} {f:FuncId}
  (hC:∀(T off cap:Nat) (zs:List α) (w:World),Holds ev w T off zs.toArray->T<w.heap.size->zs.length<4611686018427387904 ->
   Calls P f #[.slice (some ⟨T,off,Option.none⟩) zs.length cap] w λe w'=>e = .returned (.tuple #[])/\∃n os,w'=grow (putRow ev (Sort.ahead w n) T off (A zs).toArray) os)
  (h0:∀(p:Option Addr) (cap:Nat) (w:World),Calls P f #[.slice p 0 cap] w λe w'=>e = .returned (.tuple #[])/\w'=w)
  {xs:List α} (hx:xs.length<4611686018427387904) :
  FnM P f [dV (aA 0) 1 xs] (([]:List Box)++gI 1 (λx=>[F x]) xs) (.tup []) (([]:List Box).map some++gT xs (gB 1 (λx=>[F x]) (A xs))):=by
 have unit:∀G w,RepV G w (.tuple #[]) (.tup []):=λG w => .tup [] [] rfl (λi h1=>absurd h1 (Nat.not_lt_zero i))
 intro G w vargs J hargs
 obtain ⟨v,rfl,hv⟩:=hargs.alone
 cases hxs:xs with
 | nil =>
  rw [hxs]at hv J
  have hv':RepD G.imm w v (.sl []):=hv.d_inv
  obtain ⟨p,cap,rfl⟩:∃p cap,v = .slice p 0 cap:=by
   cases hv' with
   | sl0 a cap=>exact⟨_,_,rfl⟩
   | sl b off cap sz _ us=>exact⟨_,_,rfl⟩
  refine (h0 p cap w).mono ?_
  rintro e w' ⟨rfl,rfl⟩
  exact⟨_,G,kX [],1,_,[],rfl,J,unit _ _,rfl,List.nodup_nil,λi hi=>absurd hi (Nat.not_lt_zero i),λi bx hb=>by simp [gT]at hb⟩
 | cons y ys =>
  have hB:gB 1 (λx=>[F x]) (A xs)=some (.vec 1 ((A xs).map λx=>[F x])):=by
   have:=hs xs
   cases hsx:A xs with
   | nil=>rw [hsx,hxs]at this;simp at this
   | cons a b=>rfl
  rw [<- hxs]
  have hI:(([]:List Box)++gI 1 (λx=>[F x]) xs)=[.vec 1 (xs.map λx=>[F x])]:=by rw [hxs];rfl
  have hT:(([]:List Box).map some++gT xs (gB 1 (λx=>[F x]) (A xs)))=[some (.vec 1 ((A xs).map λx=>[F x]))]:=by rw [hB,hxs];rfl
  rw [hI]at J ⊢
  rw [hT]
  have hdv:dV (aA 0) 1 xs = .vs (aA 0) 1 0 xs.length:=by rw [hxs];rfl
  rw [hdv]at hv
  have hS:kX [.vec 1 (xs.map λx=>[F x])] (aA 0)=some (.vec 1 (xs.map λx=>[F x])):=by rw [F5];rfl
  obtain ⟨b,o,sz,hmu,hst,hE⟩:=J.box _ _ hS
  have O:Stands G w (.vec 1 (xs.map λx=>[F x])) b o sz:=hst
  have hsz:sz=1:=O.sz
  subst hsz
  have hpos:xs.length≠0:=by rw [hxs];simp
  generalize hk:xs.length=k at hv
  cases hv with
  | vs0=>exact absurd hk hpos
  | @vs _ b2 o2 _ _ _ cap hm hcap hb =>
   rw [hmu]at hm
   simp only [so_,Prod.mk.injEq]at hm
   obtain ⟨rfl,rfl,_⟩:=hm
   obtain ⟨⟨arr,elem,B⟩,N⟩:=O.free rfl
   have Z:=G6 F xs
   have R:(Box.vec 1 (xs.map λx=>[F x])).all.length=xs.length:=by rw [Z];simp
   have hroom:o+xs.length<=arr.size:=by have:=O.room;rw [R,bR B]at this;exact this
   have hcell:∀j (h:j<xs.length),arr[o+j]? = some (ev xs[j]):=λj h=>by
    obtain ⟨u,hu,_,hr⟩:=O.cell j (by rw [R];exact h)
    rw [cell_of_row B]at hu
    have e:(Box.vec 1 (xs.map λx=>[F x])).all[j]'(by rw [R];exact h)=V.d (F xs[j]):=by simp only [Z,List.getElem_map]
    rw [e]at hr
    rw [hu,h1 _ _ _ _ hr.d_inv]
   have hH:Holds ev w b o xs.toArray:=λj hj=>by
    have W:j<xs.length:=by simpa using hj
    refine⟨?_,?_⟩
    ·rw [cell_of_row B,hcell j W]
     simp [W]
    ·simp only [World.frozen?,B];simp
   have hadr:(⟨b,o+0*1,Option.none⟩:Addr)=⟨b,o,Option.none⟩:=by simp
   show Calls P f #[.slice (some ⟨b,o+0*1,Option.none⟩) k cap] w _
   rw [hadr,<- hk]
   refine (hC b o cap xs w hH (J.bound _ _ _ _ hmu) hx).mono ?_
   rintro e w' ⟨rfl,n,os,rfl⟩
   have harr':(Sort.ahead w n).heap[b]? = some (.cells arr elem (0,0)):=B
   have L:=Ob (ev:=ev) (o:=o) (d:=(A xs).toArray) harr'
   have Y:(putCells ev o (A xs).toArray arr).size=arr.size:=by simp [putCells]
   have hsl:(A xs).length=xs.length:=hs xs
   have M:=G6 F (A xs)
   obtain ⟨i1,e1⟩:=J.write (w':=putRow ev (Sort.ahead w n) b o (A xs).toArray) hS rfl hmu (λb' hb'=>Kr hb') (by simp [putRow,mapBlock,Sort.ahead]) (by rw [bR B,bR L,Y];exact Nat.le_refl _) (λe he=>by rw [qU B]at he;rw [qU L];exact he) N rfl rfl rfl (.vec 1 ((A xs).map λx=>[F x])) (λe=>by
    show Stands _ _ _ _ _ _
    refine { sz:=rfl,even:=λy hy=>by obtain ⟨z,_,rfl⟩:=List.mem_map.1 hy;rfl,room := ?_,cell:=λj hj => ?_,free:=λ_=>⟨⟨_,_,L⟩,N⟩,froz:=λe=>by cases e }
    ·rw [M,bR L,Y];simp [hsl];exact hroom
    ·have W:j<(A xs).length:=by rw [M]at hj;simpa using hj
     refine⟨ev (A xs)[j],?_,h3 _,?_⟩
     ·rw [cell_of_row L]
      have hlt:o+j<arr.size:=by omega
      simp only [putCells,Array.getElem?_mapIdx,Array.getElem?_eq_getElem hlt,Option.map_some,List.size_toArray]
      rw [if_pos ⟨by omega,by omega⟩,show o+j-o=j by omega]
      simp [W]
     ·have e:(Box.vec 1 ((A xs).map λx=>[F x])).all[j]'hj=V.d (F (A xs)[j]):=by simp only [M,List.getElem_map]
      rw [e];exact .d (h2 _ _ _))
   obtain ⟨i2,e2⟩:=i1.more (w':=grow (putRow ev (Sort.ahead w n) b o (A xs).toArray) os) (λb' hb'=>by
    show ((putRow ev (Sort.ahead w n) b o (A xs).toArray).heap++os)[b']? = _
    rw [Array.getElem?_append_left hb']) (by simp [grow]) rfl rfl rfl (λ_ _ h=>h) (λ_ _ h => .inl h) rfl (λ_ h=>h)
   refine⟨_,G,_,1,_,[aA 0],rfl,i2,unit _ _,rfl,by simp,λi hi => ?_,λi bx hb => ?_⟩
   ·have:i=0:=by simpa using hi
    subst this;rfl
   ·cases i with
    | zero =>
     simp only [List.getElem?_cons_zero,so_]at hb
     subst hb
     exact⟨aA 0,rfl,by simp [supd,Box.ren]⟩
    | succ i=>simp at hb
def Kg (l:List Int):Option (List Int):=if l.length<4611686018427387904 then some (l.mergeSort λx y=>decide (x<=y))else none
theorem Ut {P:Program} {f:FuncId}
  (B:∀(j off cap:Nat) (zs:List Int) (w:World),Holds (Value.int .i64) w j off zs.toArray->j<w.heap.size->zs.length<4611686018427387904 ->
   Calls P f #[.slice (some ⟨j,off,Option.none⟩) zs.length cap] w λe w'=>e = .returned (.tuple #[])/\∃n os,w'=grow (putRow (Value.int .i64) (Sort.ahead w n) j off (zs.mergeSort λx y=>decide (x<=y)).toArray) os)
  (A:∀(p:Option Addr) (cap:Nat) (w:World),Calls P f #[.slice p 0 cap] w λe w'=>e = .returned (.tuple #[])/\w'=w)
  {xs r:List Int} (o:Kg xs=some r):FnM P f [dV (aA 0) 1 xs] (([]:List Box)++gI 1 eI xs) (.tup []) (([]:List Box).map some++gT xs (gB 1 eI r)):=by
 unfold Kg at o
 split at o
 ·simp only [so_]at o
  subst o
  exact Sb (Value.int .i64) (D.int .i64) (λI w x v h=>by cases h;rfl) (λI w x => .int _ _) (λ_=>rfl) _ (λl=>List.length_mergeSort l) B A ‹_›
 ·cases o
end Go.Eng

