/-
  The engine: what the machine does to data, shown once for all programs (part 5).
-/
import Derived.Test.YtdenjndllgahgaaGreatDoorEng4
import Derived.Lib.LaidTab
import Derived.Lib.ItoaNum
import Derived.Deep.Draws
import Derived.Below
import Derived.Lib.IndexMore
import Derived.Lib.TrimByte
import Derived.Lib.Join
import Derived.Lib.Repeat
import Derived.Lib.TrailingZeros
import Derived.Lib.SlTrimSet
/-
  THE ENGINE: a slice that is cut in its own box and grows again; boxes of slices that may be empty; maps whose keys are structs.
-/
namespace Go.Eng
set_option linter.unusedSectionVars false
variable [DM]
set_option linter.unusedVariables false
set_option linter.unusedSimpArgs false
def leL {α β:Type} (xs:List α) (ys:List β):Option Unit:=if xs.length<=ys.length then some ()else none
theorem leL_le {α β:Type} {xs:List α} {ys:List β} {u:Unit} (h:leL xs ys=some u):xs.length<=ys.length:=by
 unfold leL at h;split at h
 ·assumption
 ·cases h
theorem vV_take {α:Type} {n:Nm} {sz len:Nat} {xs:List α} (h:0+len<=xs.length):V.vs n sz 0 len=vV n sz (xs.take len):=by
 unfold vV
 rw [List.length_take,Nat.min_eq_left (by omega)]
theorem Ca {α:Type} {b:Bool} {n:Nm} {sz:Nat} {xs:List α} (h:xs ≠ []):kV b n sz xs=gV n sz xs:=by
 cases b with
 | true=>exact (BC h).symm
 | false=>rfl
theorem kB_gB {α:Type} {b:Bool} {sz:Nat} {enc:α->List D} {xs:List α} (h:xs ≠ []):kB b sz enc xs=gB sz enc xs:=by
 cases b with
 | true=>exact (BP h).symm
 | false=>rfl
section
variable {C:Cfg} {Q:QH} {sl:Nat->V} {H:Hp} {c:Code}
theorem wH_shr {α:Type} {enc:α->List D} {xs:List α} {sz:Nat} {n:Nm} (i m:Nat) (h:H[i]? = some (n,some (bV sz enc xs))) (hw:wH C c Q sl (H.set i (n,some (bV sz enc (xs.take m))))):wH C c Q sl H :=
 qh hw (λS t ag=>⟨supd S n (some (.vec sz ((xs.map enc).take m))),Gst.shr ⟨sl,S,t⟩ n sz m (xs.map enc) (ag.get h),by
  have:(xs.map enc).take m=(xs.take m).map enc:=by rw [List.map_take]
  rw [this]
  exact ag.set h (λx hx=>hx)⟩)
end
section
variable {C:Cfg} {sl:Nat->V} {H:Hp} {q:Qm} {all rest:List Oper} {K:(Nat->V)->Hp->Prop}
variable {dst:Option Tmp} {d:Nat} {t ty:TypeId} {pos:String} {after:Array Edge} {g:Option (Nat×Bool)}
theorem h_lenk {α:Type} {b:Bool} {n:Nm} {sz:Nat} {xs:List α} {x:Operand} {e:TypeId} (hu:C.P.underlying t=some (.slice e)) (hx:ev sl x=kV b n sz xs) (hw:aF all sl ⟨dst,.call ⟨.builtin .len,#[x],#[t]⟩,ty,pos,after,g⟩=some true)
  (h:aP q C all K rest (bI sl dst (vI xs.length)) H):aP q C all K (⟨dst,.call ⟨.builtin .len,#[x],#[t]⟩,ty,pos,after,g⟩::rest) sl H:=by
 cases b with
 | true=>exact AB hu hx hw h
 | false=>exact uW hu hx hw h
theorem inR_ne {α:Type} {i:Int} {xs:List α} {u:Unit} (h:inR i xs=some u):xs ≠ []:=λe=>by
 have:=nT h
 rw [e]at this;simp at this
theorem Ai {α:Type} {i:Nat} {a:α} {xs:List α} (h:xs ≠ []):xs.set i a ≠ []:=λe=>h (List.eq_nil_of_length_eq_zero (by have:=congrArg List.length e;simpa using this))
theorem zA {a b:List Nm} {x:Box} (h:x.ok a.length=true):x.ren (a++b)=x.ren a:=by
 cases x with
 | cells sz cs=>simp only [Box.ok]at h;simp only [Box.ren,rX h]
 | _=>rfl
theorem Cj {a b:List Nm} {bs:List Box} (h:bs.all (λx=>x.ok a.length)=true):bs.map (λx=>x.ren (a++b))=bs.map (λx=>x.ren a) :=
 List.map_congr_left (λx hx=>zA (List.all_eq_true.1 h x hx))
theorem zK {a b:List Nm}:∀(is:List Nat) (ns:List Nm) (bs:List Box),bs.all (λx=>x.ok a.length)=true->Eng.outs (a++b) is ns (bs.map some)=Eng.outs a is ns (bs.map some)
 | [],_,_,_=>rfl
 | _::_,[],_,_=>rfl
 | _::_,_::_,[],_=>rfl
 | i::is,n::ns,b::bs,h=>by
  simp only [List.all_cons,Bool.and_eq_true]at h
  simp only [List.map_cons,Eng.outs,Option.map_some,zA h.1,zK is ns bs h.2]
theorem sw {k k':Nat} (hk:k<=k') {os:List Box}:os.all (λb=>b.ok k)=true->okOut k' (os.map some)=true:=by
 induction os with
 | nil=>exact λ_=>rfl
 | cons b os ih =>
  intro h
  simp only [List.all_cons,Bool.and_eq_true]at h
  simp only [List.map_cons,okOut,Bool.and_eq_true]
  exact⟨Box.ok_mono hk h.1,ih h.2⟩
noncomputable def zU {α:Type} (c:Bool) (x y:α):Option Unit:=open Classical in if c=true\/x=y then some ()else none
theorem Ei {α:Type} {c:Bool} {x y:α} {u:Unit} (h:zU c x y=some u):c=true\/x=y:=by
 unfold zU at h;split at h
 ·assumption
 ·cases h
theorem Eb {α β:Type} {b:Bool} {xs:List α} {x y:β} {P:Prop} (h1:b=false) (h2:xs=[]) (hk:(b || !xs.isEmpty)=true\/x=y) (f:x=y->P):P:=by
 rcases hk with h|h
 ·rw [h1,h2]at h;cases h
 ·exact f h
theorem zg {α:Type} {enc:α->List D} {sz:Nat} {xs:List α} {f:Operand} {args:List Operand} {ats:Array TypeId} {fn:FuncId} {caps args0:List V} {r:V} {bs os:List Box} {o:Option Box} (p:Nat) (is:List Nat) (iv po:Nat) {l:List (Nm×Box)} {n:Nm}
  (hp:q=none\/Nat.beq all.length (p+(rest.length+1))=true)
  (hfp:∀S tk,AgR H S tk (⟨some d,.call ⟨.value f,args.toArray,ats⟩,ty,pos,after,g⟩::rest)->okQ q all p (l.map (·.1)++[n]) true)
  (hc:FnM C.P fn args0 (bs++[bV sz enc xs]) r (os.map some++[o]))
  (hf:ev sl f = .fn fn caps) (hb:aD C.P fn=true) (hl:iR H is=some l) (hv:H[iv]? = some (n,some (bV sz enc xs)))
  (hS:bs.map (λb=>b.ren (l.map (·.1)))=l.map (·.2)) (hSok:bs.all (λb=>b.ok is.length)=true)
  (hw1:(args.map (ev sl)++caps)[po]? = some (vV n sz xs)) (hp0:args0[po]? = some (vV (au is.length) sz xs))
  (hn:(((args.map (ev sl)++caps).set po .none).flatMap frz).all (λn=>false)=true)
  (ha:((args.map (ev sl)++caps).map co0).set po .none=(renL (l.map (·.1)) args0).set po .none) (hok:okL is.length (args0.set po .none)=true) (hr:okV (is.length+1) r=true)
  (hlen:os.length=is.length) (hi:(is++[iv]).Nodup) (hO:os.all (λb=>b.ok is.length)=true) (ho:∀b,o=some b->b.ok 0=true)
  (hw:aF all sl ⟨some d,.call ⟨.value f,args.toArray,ats⟩,ty,pos,after,g⟩=some true)
  (v:V) (hvr:ren (l.map (·.1)++[n]) r=v)
  (H':Hp) (hH:(setH H (outs (l.map (·.1)) is (l.map (·.1)) (os.map some))).set iv (n,o)=H')
  (h:aP (lT q p (l.map (·.1)++[n]) true) C all K rest (upd sl d v) H') :
  aP q C all K (⟨some d,.call ⟨.value f,args.toArray,ats⟩,ty,pos,after,g⟩::rest) sl H:=by
 have hll:=(iM hl).1
 have hbs:bs.length=l.length:=by have:=congrArg List.length hS;simpa using this
 have hln:(l.map (·.1)).length=is.length:=by rw [List.length_map,hll]
 have hSok':bs.all (λb=>b.ok (l.map (·.1)).length)=true:=by rw [hln];exact hSok
 have hO':os.all (λb=>b.ok (l.map (·.1)).length)=true:=by rw [hln];exact hO
 have hp1:=wR (l:=l) hl hv
 have hmap:(l++[(n,bV sz enc xs)]).map (·.1)=l.map (·.1)++[n]:=by simp
 have hq:okL (is++[iv]).length args0=true:=by
  have:=x8 (v:=vV (au is.length) sz xs) (lX (Nat.le_add_right is.length 1) _ hok) (AZ (ls_ _))
  rw [mU hp0]at this
  simpa using this
 refine BH p (is++[iv]) hp (λS tk ag=>by rw [hmap];exact hfp S tk ag) hc hf hb hp1 ?_ ?_ ?_ ?_ hq ?_ (by simp [hlen]) hi ?_ hw v (by rw [hmap];exact hvr) H' ?_ ?_
 ·rw [List.map_append,hmap,Cj hSok',hS]
  simp only [List.map_cons,List.map_nil,List.map_append,Box.ren]
 ·rw [List.all_append]
  simp only [Bool.and_eq_true]
  exact⟨List.all_eq_true.2 (λb hb'=>Box.ok_mono (by simp) (List.all_eq_true.1 hSok b hb')),rfl⟩
 ·intro m hm
  obtain ⟨v',hv1,hv2⟩:=zm hn hm
  rw [hw1]at hv1
  simp only [so_]at hv1
  subst hv1
  rw [hmap]
  have:m=n:=by simpa [frz,Eg,vV]using hv2
  rw [this];simp
 ·intro S tk ag
  refine ArgsOK.of_map ?_
  have hcw:co S (vV n sz xs)=vV n sz xs:=by
   have hS':S n=some (.vec sz (xs.map enc)):=ag.get hv
   simp only [vV,co,co1,hS']
  have hargs:(args.map (ev sl)++caps).map (co S)=((args.map (ev sl)++caps).map co0).set po (vV n sz xs):=by
   have h1:(args.map (ev sl)++caps)=((args.map (ev sl)++caps).set po .none).set po (vV n sz xs):=by
    rw [List.set_set,mU hw1]
   have h2:(((args.map (ev sl)++caps).set po .none)).map (co S)=(((args.map (ev sl)++caps).set po .none)).map co0:=uK (by
    cases hx:((args.map (ev sl)++caps).set po .none).flatMap frz with
    | nil=>rfl
    | cons a b=>rw [hx]at hn;simp at hn)
   have h3:(args.map (ev sl)++caps).map (co S)=((((args.map (ev sl)++caps).set po .none)).map (co S)).set po (co S (vV n sz xs)):=by
    rw [<- List.map_set,<- h1]
   rw [h3,h2,hcw,List.map_set,List.set_set]
  rw [hargs,AR ha,hmap]
  have h1:args0=(args0.set po .none).set po (vV (au is.length) sz xs):=by rw [List.set_set,mU hp0]
  have h2:renL (l.map (·.1)++[n]) args0=(renL (l.map (·.1)) (args0.set po .none)).set po (vV n sz xs):=by
   conv=>lhs;rw [h1]
   rw [oq,rX (by simp only [List.length_map,hll];exact hok)]
   simp only [vV,ren]
   rw [tX (n:=n) (by rw [List.getElem?_append_right (by simp [hll])];simp [hll])]
  rw [h2,oq,List.set_set]
 ·have e:(os.map some++[o]).length=is.length+1:=by simp [hlen]
  rw [e];exact hr
 ·refine rD (sw (by simp [hlen]) hO) ?_
  cases o with
  | none=>rfl
  | some b=>simp only [okOut,Bool.and_true];exact Box.ok_mono (Nat.zero_le _) (ho b rfl)
 ·rw [<- hH,hmap,zw _ _ _ _ _ _ _ (by simp [hlen]) (by simp [hll]),DZ,zK _ _ _ hO']
  simp only [setH]
  cases o with
  | none=>rfl
  | some b=>simp only [Option.map_some,tK (ho b rfl)]
 ·rw [hmap];exact h
theorem bV_ok {α:Type} {sz:Nat} {enc:α->List D} {xs:List α}:∀b,some (bV sz enc xs)=some b->b.ok 0=true:=λb h=>by cases h;rfl
theorem CO {α:Type} {enc:α->List D} {sz:Nat} {xs ys:List α} {b:Bool} {f:Operand} {args:List Operand} {ats:Array TypeId} {fn:FuncId} {caps args0 args1:List V} {bs bs0 bs1:List Box} (is:List Nat) (iv po:Nat) {l:List (Nm×Box)} {n:Nm}
  (hc:FnM C.P fn args0 (bs++[bV sz enc xs]) (vV (au is.length) sz ys) (bs1.map some++[some (bV sz enc ys)]))
  (hc0:FnM C.P fn args1 bs .nil (bs0.map some))
  (hle:ys.length<=xs.length) (hsame:b=false->xs=[]->bs1=bs0)
  (hf:ev sl f = .fn fn caps) (hb:aD C.P fn=true) (hl:iR H is=some l) (hv:H[iv]? = some (n,kB b sz enc xs))
  (hS:bs.map (λb=>b.ren (l.map (·.1)))=l.map (·.2)) (hSok:bs.all (λb=>b.ok is.length)=true) (hOok:bs1.all (λb=>b.ok is.length)=true)
  (hw1:(args.map (ev sl)++caps)[po]? = some (kV b n sz xs)) (hp0:args0[po]? = some (vV (au is.length) sz xs)) (hp1:args1=args0.set po .nil)
  (hn:(((args.map (ev sl)++caps).set po .none).flatMap frz).all (λn=>false)=true)
  (ha:((args.map (ev sl)++caps).map co0).set po .none=(renL (l.map (·.1)) args0).set po .none) (hok:okL is.length (args0.set po .none)=true)
  (hlen:bs.length=is.length) (hlen1:bs1.length=is.length) (hi:(is++[iv]).Nodup)
  (hw:aF all sl ⟨some d,.call ⟨.value f,args.toArray,ats⟩,ty,pos,after,g⟩=some true)
  (H':Hp) (hH:(setH H (outs (l.map (·.1)) is (l.map (·.1)) (bs1.map some))).set iv (n,kB (b || !xs.isEmpty) sz enc ys)=H')
  (h:aP none C all K rest (upd sl d (kV (b || !xs.isEmpty) n sz ys)) H') :
  aP none C all K (⟨some d,.call ⟨.value f,args.toArray,ats⟩,ty,pos,after,g⟩::rest) sl H:=by
 have hll:=(iM hl).1
 by_cases hbx:b=false/\xs=[]
 ·obtain ⟨rfl,rfl⟩:=hbx
  have hys:ys=[]:=List.eq_nil_of_length_eq_zero (by simpa using hle)
  subst hys
  have hbb:=hsame rfl rfl
  subst hbb
  have hwn:(args.map (ev sl)++caps)[po]? = some .nil:=hw1
  have hivs:iv∉is:=by
   rw [List.nodup_append]at hi
   exact λhm=>hi.2.2 iv hm iv (by simp) rfl
  have hset:∀{l':List (Nat×Nm×Option Box)} {H0:Hp},(∀p∈l',p.1≠iv)->(setH H0 l')[iv]? = H0[iv]? := by
   intro l'
   induction l' with
   | nil=>intro H0 _;rfl
   | cons x l' ih =>
    intro H0 hx
    obtain ⟨i,m,b⟩:=x
    simp only [setH]
    rw [ih (λp hp=>hx p (by simp [hp]))]
    have:i≠iv:=hx (i,m,b) (by simp)
    rw [List.getElem?_set_ne this]
  have houts:∀(ν:List Nm) (is:List Nat) (ns:List Nm) (os:List (Option Box)),∀p∈outs ν is ns os,p.1∈is:=by
   intro ν is
   induction is with
   | nil=>intro ns os p hp;simp [outs]at hp
   | cons i is ih =>
    intro ns os p hp
    cases ns with
    | nil=>simp [outs]at hp
    | cons m ns=>cases os with
     | nil=>simp [outs]at hp
     | cons o os =>
      simp only [outs,List.mem_cons]at hp
      rcases hp with rfl|hp
      ·simp
      ·exact List.mem_cons_of_mem _ (ih _ _ _ hp)
  have hq:okL is.length args1=true:=by rw [hp1];exact x8 hok rfl
  have hpl:po<args0.length:=(List.getElem?_eq_some_iff.1 hp0).1
  refine BH 0 is (.inl rfl) (λ_ _ _=>trivial) hc0 hf hb hl ?_ ?_ ?_ ?_ hq rfl (by simp [hlen1]) (List.nodup_append.1 hi).1 (sw (by simp [hlen1]) hOok) hw .nil rfl H' ?_ h
  ·exact hS
  ·exact hSok
  ·intro m hm
   obtain ⟨v',hv1,hv2⟩:=zm hn hm
   rw [hwn]at hv1
   simp only [so_]at hv1
   subst hv1
   cases hv2
  ·intro S tk ag
   have h1:(args.map (ev sl)++caps)=((args.map (ev sl)++caps).set po .none).set po .nil:=by rw [List.set_set,mU hwn]
   have h2:((args.map (ev sl)++caps).set po .none).map (co S)=((args.map (ev sl)++caps).set po .none).map co0:=uK (by
    cases hx:((args.map (ev sl)++caps).set po .none).flatMap frz with
    | nil=>rfl
    | cons a b=>rw [hx]at hn;simp at hn)
   have hbase:ArgsOK S ((args.map (ev sl)++caps).set po .none) ((renL (l.map (·.1)) args1).set po .none):=by
    refine ArgsOK.of_map ?_
    rw [h2,List.map_set,hp1,oq,List.set_set]
    exact ha
   have:=ArgsOK.set (x' := .nil) (y' := .nil) (.inl rfl) hbase
   have e:(renL (l.map (·.1)) args1).set po .nil=renL (l.map (·.1)) args1:=by
    rw [hp1,oq,List.set_set];rfl
   rw [mU hwn,e]at this
   exact this
  ·rw [<- hH]
   symm
   apply mU
   rw [hset (λp hp e=>hivs (e ▸ houts _ _ _ _ p hp)),hv];rfl
 ·have e1:kB b sz enc xs=some (bV sz enc xs):=by
   cases b with
   | true=>rfl
   | false=>exact BP (λe=>hbx ⟨rfl,e⟩)
  have e2:kV b n sz xs=vV n sz xs:=by
   cases b with
   | true=>rfl
   | false=>exact BC (λe=>hbx ⟨rfl,e⟩)
  have e3:(b || !xs.isEmpty)=true:=by
   cases b with
   | true=>rfl
   | false=>cases xs with
    | nil=>exact absurd ⟨rfl,rfl⟩ hbx
    | cons x xs=>rfl
  rw [e3]at hH h
  rw [e1]at hv
  rw [e2]at hw1
  refine zg (v:=vV n sz ys) 0 is iv po (.inl rfl) (λ_ _ _=>trivial) hc hf hb hl hv hS hSok hw1 hp0 hn ha hok (AZ (ls_ _)) (by simp [hlen1]) hi hOok bV_ok hw ?_ H' hH h
  simp only [vV,ren]
  rw [tX (n:=n) (by rw [List.getElem?_append_right (by simp [hll])];simp [hll])]
end
end Go.Eng

/-
  THE ENGINE: rules for arrays of bytes in a box, and for bytes to a string and back.
-/
namespace Go.Eng
set_option linter.unusedSectionVars false
variable [DM]
open Go
set_option linter.unusedVariables false
set_option linter.unusedSimpArgs false
def yR {α:Type} (xs:List α) (n:Nat):Option Unit:=if xs.length=n then some ()else none
theorem Bq {α:Type} {xs:List α} {n:Nat} {u:Unit} (h:yR xs n=some u):xs.length=n:=by
 unfold yR at h;split at h
 ·assumption
 ·cases h
section
variable {C:Cfg} {sl:Nat->V} {H:Hp} {q:Qm} {all rest:List Oper} {K:(Nat->V)->Hp->Prop}
variable {dst:Option Tmp} {d:Nat} {t ty:TypeId} {pos:String} {after:Array Edge} {g:Option (Nat×Bool)}
theorem y9 {e:TypeId} {cs:List V} {m:Nat} (xs:List Int) (p:Nat) (hp:q=none\/Nat.beq all.length (p+(rest.length+1))=true) (hz:zeroCells C.P e=some cs) (ha:tC cs=some (xs.map λn=>D.int .u8 n)) (ho:cs.all eF=true) (hm:o5 C.P e=some m)
  (hw:aF all sl ⟨some d,.alloc e,ty,pos,after,g⟩=some true)
  (h:∀n:Nm,aP (lT q p [n] true) C all K rest (upd sl d (.ref n 0 0)) (H++[(n,some (bV 1 (eK .u8) xs))])):aP q C all K (⟨some d,.alloc e,ty,pos,after,g⟩::rest) sl H :=
 qM rfl p [] hp (λ_ _ _=>tH) (λm hm=>by cases hm) hw (λS tk K' ok ag hk=>eD (A:=⟨[],[((d,tk),some (bV 1 (eK .u8) xs))],.ref (d,tk) 0 0⟩) (λc e=>by cases e) (by
  show (bif (o5 C.P e).isSome then lN C.P e d tk else oz C.P e d tk)=_
  rw [hm]
  simp only [Option.isSome_some,cond_true,lN,hz,ha,ho,bV,List.map_map]
  rfl) (hk _ _ _ (.inl rfl) ⟨by simp,by simp⟩ (ag.new ok rfl _) (h (d,tk))))
theorem ze {xs:List Int} {x i:Operand} {k:IntKind} {n:Int} {m:Nat} {nm:Nm} (p j:Nat) (hp:q=none\/Nat.beq all.length (p+(rest.length+1))=true)
  (hf:∀S tk,AgR H S tk (⟨dst,.indexAddr t x i,ty,pos,after,g⟩::rest)->okQ q all p [nm] false) (hm:o5 C.P t=some m) (hx:ev sl x = .ref nm 0 0) (hi:ev sl i = .d (.int k n)) (hH:H[j]? = some (nm,some (bV 1 (eK .u8) xs))) (h0:0<=n) (h1:n.toNat<m)
  (hw:aF all sl ⟨dst,.indexAddr t x i,ty,pos,after,g⟩=some true) (h:aP (lT q p [nm] false) C all K rest (bI sl dst (.ref nm n.toNat 0)) H):aP q C all K (⟨dst,.indexAddr t x i,ty,pos,after,g⟩::rest) sl H:=by
 refine jH p [nm] false hp hf (pz hH) hw (λS tk K' ok' ag hk=>eD (A:=⟨[(nm,bV 1 (eK .u8) xs)],[],.ref nm n.toNat 0⟩) (λc e=>by cases e) ?_ (hk _ H ⟨by simp,by simp⟩ (λ_=>rfl) ag.tail h))
 show orE (dR C.P t (ev sl x) (ev sl i)) (lM C.P t S (ev sl x) (ev sl i))=_
 obtain ⟨e,hu,_,_⟩:=oK hm
 have he:bD C.P t=none:=by unfold bD;rw [hu]
 have h1':dR C.P t (ev sl x) (ev sl i)=none:=by
  unfold dR
  rw [he,hi];rfl
 rw [h1',hx,hi]
 show lM C.P t S (.ref nm 0 0) (.d (.int k n))=_
 have hc:(decide (0<=n)&&Nat.blt n.toNat m)=true:=by simp [h0,Nat.blt_eq,h1]
 simp only [lM,hm,ag.get hH,hc,cond_true]
theorem Dt {xs:List Int} {m:Nat} {nm:Nm} {S:Store} {lo hi:Option V} {a b:Int} {u u':Unit} (hm:o5 C.P t=some m) (hS:S nm=some (bV 1 (eK .u8) xs)) (hl:yR xs m=some u') (h1:kD 0 lo=some a.toNat) (h2:kD m hi=some b.toNat) (hr:nH xs a b=some u) :
  orE ((gX C.P t (.ref nm 0 0) lo hi none).bind bX) (fP C.P t S (.ref nm 0 0) lo hi none)=some ⟨[(nm,bV 1 (eK .u8) xs)],[],.vs nm 1 a.toNat (b.toNat-a.toNat)⟩:=by
 obtain ⟨e,hu,_,_⟩:=oK hm
 have hl':=Bq hl
 obtain ⟨_,_,r3,r4⟩:=kL hr
 have h0:gX C.P t (.ref nm 0 0) lo hi none=none:=by simp only [gX,hu]
 rw [h0]
 show fP C.P t S (.ref nm 0 0) lo hi none=_
 simp only [fP,hm,hS,h1,h2]
 rw [if_pos ⟨r3,by omega,by simp [hl']⟩]
section
variable {xs:List Int} {m:Nat} {nm:Nm} {x l hi:Operand} {k k':IntKind} {a b:Int} {u u':Unit}
theorem yH (p j:Nat) (hp:q=none\/Nat.beq all.length (p+(rest.length+1))=true) (hf:∀S tk,AgR H S tk (⟨dst,.slice t x (some l) none none,ty,pos,after,g⟩::rest)->okQ q all p [nm] false) (hm:o5 C.P t=some m) (hx:ev sl x = .ref nm 0 0) (hl:ev sl l = .d (.int k a)) (hH:H[j]? = some (nm,some (bV 1 (eK .u8) xs))) (hn:yR xs m=some u') (hr:nH xs a xs.length=some u)
  (hw:aF all sl ⟨dst,.slice t x (some l) none none,ty,pos,after,g⟩=some true) (h:aP (lT q p [nm] false) C all K rest (bI sl dst (.vs nm 1 a.toNat (((xs.length:Int)).toNat-a.toNat))) H):aP q C all K (⟨dst,.slice t x (some l) none none,ty,pos,after,g⟩::rest) sl H :=
 jH p [nm] false hp hf (pz hH) hw (λS tk K' ok' ag hk=>eD (A:=⟨[(nm,bV 1 (eK .u8) xs)],[],.vs nm 1 a.toNat (((xs.length:Int)).toNat-a.toNat)⟩) (λc e=>by cases e) (by
  show orE ((gX C.P t (ev sl x) (some (ev sl l)) none none).bind bX) (fP C.P t S (ev sl x) (some (ev sl l)) none none)=_
  rw [hx,hl];exact Dt hm (ag.get hH) hn (w9 (kL hr).1) (by show some m=_;rw [<- Bq hn];rfl) hr) (hk _ H ⟨by simp,by simp⟩ (λ_=>rfl) ag.tail h))
end
theorem zF {P:Program} {e:TypeId} (h:P.underlying e=some (.int .u8)):nu P e=true:=by unfold nu;rw [h]
theorem Ab {P:Program} {s t e:TypeId} {x:V} (hs:P.underlying s=some (.slice e)) (ht:P.underlying t=some .string) (hx:∀s,x ≠ .d (.str s)):nD P s t x=none:=by
 unfold nD
 rw [hs,ht]
 split
 ·rename_i h;cases h
 ·exact absurd rfl (hx _)
 ·rfl
theorem h_convp {xs:List Int} {x:Operand} {s e:TypeId} {nm:Nm} {a ln:Nat} (p j:Nat) (hp:q=none\/Nat.beq all.length (p+(rest.length+1))=true)
  (hf:∀S tk,AgR H S tk (⟨dst,.convert s t x,ty,pos,after,g⟩::rest)->okQ q all p [nm] false) (hs:C.P.underlying s=some (.slice e)) (ht:C.P.underlying t=some .string) (he:C.P.underlying e=some (.int .u8))
  (hx:ev sl x = .vs nm 1 a ln) (hH:H[j]? = some (nm,some (bV 1 (eK .u8) xs))) (hle:a+ln<=xs.length)
  (hw:aF all sl ⟨dst,.convert s t x,ty,pos,after,g⟩=some true) (h:aP (lT q p [nm] false) C all K rest (bI sl dst (vS (strOfNums (xB xs a ln)))) H):aP q C all K (⟨dst,.convert s t x,ty,pos,after,g⟩::rest) sl H:=by
 refine jH p [nm] false hp hf (pz hH) hw (λS tk K' ok' ag hk=>eD (A:=⟨[(nm,bV 1 (eK .u8) xs)],[],vS (strOfNums (xB xs a ln))⟩) (λc e=>by cases e) ?_ (hk _ H ⟨by simp,by simp⟩ (λ_=>rfl) ag.tail h))
 show orE ((nD C.P s t (ev sl x)).bind bX) (jY C.P s t S (ev sl x))=_
 rw [hx,Ab hs ht (λ_ e=>by cases e)]
 show jY C.P s t S (.vs nm 1 a ln)=_
 have hg:S nm=some (.vec 1 (xs.map (eK .u8))):=ag.get hH
 simp only [jY,hs,ht,zF he,cond_true,hg]
 rw [if_pos ⟨trivial,by simpa using hle⟩]
 have:((xs.map (eK .u8)).drop a).take ln=(xB xs a ln).map eU8:=by
  unfold xB
  rw [<- List.map_drop,<- List.map_take];rfl
 rw [this,AL]
 rfl
theorem h_convs {b:ByteArray} {x:Operand} {s e:TypeId} (hs:C.P.underlying s=some .string) (ht:C.P.underlying t=some (.slice e)) (he:C.P.underlying e=some (.int .u8)) (hx:ev sl x=vS b)
  (hw:aF all sl ⟨dst,.convert s t x,ty,pos,after,g⟩=some true) (h:aP q C all K rest (bI sl dst (vL (eK .u8) (bE b))) H):aP q C all K (⟨dst,.convert s t x,ty,pos,after,g⟩::rest) sl H :=
 iB hw (λS tk K' _ hk=>eD (A:=⟨[],[],vL (eK .u8) (bE b)⟩) (λc e=>by cases e) (by
  show orE ((nD C.P s t (ev sl x)).bind bX) (jY C.P s t S (ev sl x))=_
  have:nD C.P s t (vS b)=none:=by unfold nD;rw [hs,ht]
  rw [hx,this]
  show jY C.P s t S (vS b)=_
  simp only [jY,hs,ht,zF he,cond_true];rfl) (hk _ rfl rfl rfl)) h
end
end Go.Eng

/-
  THE ENGINE: strconv.Itoa, by its contract off the shelf; the table that it reads is known.
-/
namespace Go.Eng
set_option linter.unusedSectionVars false
variable [DM]
open Go.Sort
set_option linter.unusedVariables false
set_option linter.unusedSimpArgs false
theorem zZ {P:Program} {G:Gh} {w:World} {name:String} {k:IntKind} {zs:List Int} (hl:∀w0,vO w0->Lib.TabIs P w0 name k zs) (hz:zs ≠ []) (h:Kn G w):Lib.TabIs P w name k zs:=by
 obtain ⟨w0,h1,h2⟩:=h
 have ht:=hl w0 h1
 unfold Lib.TabIs World.var? at ht ⊢
 cases hg:P.globalNamed name with
 | none=>rw [hg]at ht;simp at ht
 | some g =>
  rw [hg]at ht
  simp only [ob_]at ht ⊢
  have hlt:g<w0.heap.size:=by
   rcases Nat.lt_or_ge g w0.heap.size with h|h
   ·exact h
   ·rw [Array.getElem?_eq_none h]at ht;cases ht
  have hc:∀o,w.cell? ⟨g,o,Option.none⟩=w0.cell? ⟨g,o,Option.none⟩:=λo=>(h2 g o hlt).2
  cases hb:w0.heap[g]? with
  | none=>rw [hb]at ht;cases ht
  | some ob =>
   rw [hb]at ht
   cases ob with
   | cells cs t fr =>
    simp only [so_]at ht
    have e0:∀o,w0.cell? ⟨g,o,Option.none⟩=cs[o]? := λo=>by simp [World.cell?,hb]
    cases hw:w.heap[g]? with
    | none =>
     exfalso
     have:=hc 0
     rw [e0]at this
     simp only [World.cell?,hw]at this
     rw [ht]at this
     cases zs with
     | nil=>exact hz rfl
     | cons z zs=>simp at this
    | some ob' =>
     cases ob' with
     | cells cs' t' fr' =>
      have e1:∀o,w.cell? ⟨g,o,Option.none⟩=cs'[o]? := λo=>by simp [World.cell?,hw]
      have:cs'=cs:=Array.ext_getElem? (λo=>by rw [<- e1,<- e0,hc])
      rw [this,ht]
     | _ =>
      exfalso
      have:=hc 0
      rw [e0]at this
      simp only [World.cell?,hw]at this
      rw [ht]at this
      cases zs with
      | nil=>exact hz rfl
      | cons z zs=>simp at this
   | _=>cases ht
def Bp (n:Int):Option ByteArray:=if -9223372036854775808<=n/\n<=9223372036854775807 then some ⟨(Lib.itoa n).toArray⟩else none
theorem itoa_ok {P:Program} {f:FuncId}
  (hC : ∀ (n : Int), -9223372036854775808 ≤ n → n ≤ 9223372036854775807 → ∀ w : World, Lib.TabIs P w "internal/strconv.uint64pow10" .u64 Lib.pow10Tab →
   Calls P f #[.int .i64 n] w λe w'=>e = .returned (.string ⟨(Lib.itoa n).toArray⟩)/\∃k os,w'=grow (w.drewN k) os)
  (hl : ∀ w0, vO w0 → Lib.TabIs P w0 "internal/strconv.uint64pow10" .u64 Lib.pow10Tab) {n : Int} {r : ByteArray} (hF : Bp n = some r) : FnM P f [.d (.int .i64 n)] [] (.d (.str r)) [] := by
 unfold Bp at hF
 split at hF
 ·rename_i hn
  simp only [so_]at hF
  subst hF
  intro G w vargs hinv hargs
  obtain ⟨v,rfl,hv⟩:=hargs.alone
  have hv':RepD G.imm w v (.int .i64 n):=hv.d_inv
  cases hv' with
  | int =>
   refine (hC n hn.1 hn.2 w (zZ hl (by decide) hinv.kn)).mono ?_
   rintro e w' ⟨rfl,k,os,rfl⟩
   obtain ⟨i2,e2⟩:=hinv.more (w':=grow (w.drewN k) os) (G':=G) (U':=λ_=>False) (λb' hb'=>by
    show (w.heap++os)[b']? = _
    rw [Array.getElem?_append_left hb']) (by simp [grow,World.drewN]) rfl rfl rfl (λ_ _ h=>h) (λ_ _ h => .inl h) rfl (λ_ h=>h) (λ_=>Nat.le_add_right w.drawn k)
   exact⟨_,G,_,1,_,[],rfl,i2,.d (.str _),rfl,List.nodup_nil,λi hi=>absurd hi (Nat.not_lt_zero i),λi bx hb=>by simp at hb⟩
 ·cases hF
end Go.Eng

/-
  THE ENGINE: functions over literals, by their contracts off the shelf.
-/
namespace Go.Eng
set_option linter.unusedSectionVars false
variable [DM]
open Go.RowKit (Below)
set_option linter.unusedVariables false
set_option linter.unusedSimpArgs false
def isLit:D->Bool
 | .int _ _ | .bool _ | .str _=>true
 | _=>false
def lv:D->Value
 | .int k n => .int k n
 | .bool b => .bool b
 | .str s => .string s
 | _=>undef
theorem lit_inv {I:Nat->Nat->Prop} {w:World} {v:Value} {d:D} (h:RepD I w v d) (hl:isLit d=true):v=lv d:=by
 cases h with
 | int k n=>rfl
 | bool b=>rfl
 | str s=>rfl
 | agg=>cases hl
 | sl0=>cases hl
 | sl=>cases hl
 | ptr=>cases hl
 | nilp=>cases hl
theorem y7 {G:Gh} {w:World}:∀{vs:List Value} {ds:List D},lH G w vs (ds.map V.d)->ds.all isLit=true->vs=ds.map lv
 | [],[],_,_=>rfl
 | [],d::ds,h,_=>by have:=h.1;simp at this
 | v::vs,[],h,_=>by have:=h.1;simp at this
 | v::vs,d::ds,h,hl=>by
  simp only [List.all_cons,Bool.and_eq_true]at hl
  obtain ⟨hlen,h⟩:=h
  have h0:RepV G w v (.d d):=h 0 (by simp) (by simp)
  have e:=lit_inv h0.d_inv hl.1
  have:lH G w vs (ds.map V.d):=⟨by simpa using hlen,λi h1 h2=>by
   have:=h (i+1) (by simpa using h1) (by simpa using h2)
   simpa using this⟩
  rw [e,y7 this hl.2];rfl
theorem vJ {P:Program} {f:FuncId} (ds:List D) (v:Value) (r:V) (ha:ds.all isLit=true) (hr:∀G w,RepV G w v (ren [] r))
  (hC:∀(G:Gh) (w:World),Kn G w->Calls P f (ds.map lv).toArray w λe w'=>e = .returned v/\Below w.heap.size w w'/\(dmK=true->w.drawn<=w'.drawn)):FnM P f (ds.map V.d) [] r []:=by
 intro G w vargs hinv hargs
 rw [y7 hargs ha]
 refine (hC G w hinv.kn).mono ?_
 rintro e w' ⟨rfl,hb,hd⟩
 obtain ⟨i2,e2⟩:=hinv.more (w':=w') (G':=G) (U':=λ_=>False) (λb' hb'=>hb.block b' hb') hb.size hb.os hb.tape hb.output (λ_ _ h=>h) (λ_ _ h => .inl h) rfl (λ_ h=>h) hd
 exact⟨_,G,_,1,_,[],rfl,i2,hr _ _,rfl,List.nodup_nil,λi hi=>absurd hi (Nat.not_lt_zero i),λi bx hb=>by simp at hb⟩
end Go.Eng

/-
  THE ENGINE: strings.Join, strings.Repeat, bits.TrailingZeros, by their contracts off the shelf.
-/
namespace Go.Eng
set_option linter.unusedSectionVars false
variable [DM]
open Go
open Go.RowKit (Below)
set_option linter.unusedVariables false
set_option linter.unusedSimpArgs false
theorem Am {P:Program} {w:World} {name:String} {k:IntKind} {zs:List Int} {g:Nat} (h:Lib.TabIs P w name k zs) (hg:P.globalNamed name=some g) {j:Nat} {z:Int} (hz:zs[j]? = some z):w.cell? ⟨g,j,none⟩=some (.int k z):=by
 unfold Lib.TabIs World.var? at h
 rw [hg]at h
 simp only [ob_]at h
 cases hb:w.heap[g]? with
 | none=>rw [hb]at h;cases h
 | some ob =>
  rw [hb]at h
  cases ob with
  | cells cs t fr =>
   simp only [so_]at h
   subst h
   simp [World.cell?,hb,hz]
  | _=>cases h
def dbTab:List Int:=Lib.deBruijn64tab.map (λ(n:Nat)=>(n:Int))
def tzF (x:Int):Option Int:=if 0<=x/\x<18446744073709551616 then some (Lib.ctz 64 x.toNat:Nat)else none
theorem tz_ok {P : Program} {f : FuncId} {g : Nat} (hg : P.globalNamed "math/bits.deBruijn64tab" = some g)
  (hC:∀(x:Nat),x<18446744073709551616->∀w:World,(x≠0->∀j,j<Lib.deBruijn64tab.length->w.cell? ⟨g,j,none⟩=some (.int .u8 (Lib.deBruijn64tab.getD j 0))) ->
   Calls P f #[.int .u64 x] w λe w'=>e = .returned (.int .i64 (Lib.ctz 64 x))/\w'=w)
  (hl : ∀ w0, vO w0 → Lib.TabIs P w0 "math/bits.deBruijn64tab" .u8 dbTab) {x r : Int} (hF : tzF x = some r) : FnM P f [.d (.int .u64 x)] [] (.d (.int .i64 r)) [] := by
 unfold tzF at hF
 split at hF
 ·rename_i hx
  simp only [so_]at hF
  subst hF
  refine vJ [.int .u64 x] _ _ rfl (λG w => .d (.int _ _)) (λG w hk => ?_)
  have ht:=zZ hl (by decide) hk
  have h1:=hC x.toNat (by omega) w (λ_ j hj=>Am ht hg (by unfold dbTab;rw [List.getElem?_map,List.getElem?_eq_getElem hj];simp [List.getD,List.getElem?_eq_getElem hj]))
  have e:(#[.int .u64 (x.toNat:Int)]:Array Value)=([D.int .u64 x].map lv).toArray:=by
   simp [lv,Int.toNat_of_nonneg hx.1]
  rw [<- e]
  exact h1.mono (λe w' hw=>⟨hw.1,by rw [hw.2];exact⟨Below.refl _ _,λ_=>Nat.le_refl _⟩⟩)
 ·cases hF
def tT (s:ByteArray) (c:Int):Option ByteArray:=if 0<=c/\c<=9223372036854775807/\s.size*c.toNat<=140737488355328 then some ⟨(Lib.repeatL s.data.toList c.toNat).toArray⟩else none
theorem C8 (hdm:dmK=false) {P:Program} {f:FuncId}
  (hC:∀(s:ByteArray) (c:Nat) (w:World),c<=9223372036854775807->s.size*c<=140737488355328 ->
   Calls P f #[.string s,.int .i64 c] w λe w'=>e = .returned (.string ⟨(Lib.repeatL s.data.toList c).toArray⟩)/\Below w.heap.size w w')
  {s r:ByteArray} {c:Int} (hF:tT s c=some r):FnM P f [.d (.str s),.d (.int .i64 c)] [] (.d (.str r)) []:=by
 unfold tT at hF
 split at hF
 ·rename_i hx
  simp only [so_]at hF
  subst hF
  refine vJ [.str s,.int .i64 c] _ _ rfl (λG w => .d (.str _)) (λG w hk => ?_)
  have h1:=hC s c.toNat w (by omega) hx.2.2
  have e:(#[.string s,.int .i64 (c.toNat:Int)]:Array Value)=([D.str s,D.int .i64 c].map lv).toArray:=by
   simp [lv,Int.toNat_of_nonneg hx.1]
  rw [<- e]
  exact h1.mono (λe w' hw=>⟨hw.1,hw.2,λh=>by rw [hdm]at h;cases h⟩)
 ·cases hF
def yl (s t:ByteArray):Option ByteArray:=if s.size<=9223372036854775807/\t.size<4294967281/\t.data.toList.all (λb=>decide (b.toNat<128))=true then some ⟨(Lib.trimS s.data.toList t.data.toList).toArray⟩else none
theorem Db (hdm:dmK=false) {P:Program} {f:FuncId}
  (hC:∀(s t:ByteArray) (w:World),s.size<=9223372036854775807->t.size<4294967281->(∀(j:Nat) b,t.data.toList[j]? = some b->b.toNat<128) ->
   Calls P f #[.string s,.string t] w λe w'=>e = .returned (.string ⟨(Lib.trimS s.data.toList t.data.toList).toArray⟩)/\Below w.heap.size w w')
  {s t r:ByteArray} (hF:yl s t=some r):FnM P f [.d (.str s),.d (.str t)] [] (.d (.str r)) []:=by
 unfold yl at hF
 split at hF
 ·rename_i hx
  simp only [so_]at hF
  subst hF
  exact vJ [.str s,.str t] _ _ rfl (λG w => .d (.str _)) (λG w hk=>(hC s t w hx.1 hx.2.1 (λj b hb=>of_decide_eq_true (List.all_eq_true.1 hx.2.2 b (List.mem_of_getElem? hb)))).mono (λe w' hw=>⟨hw.1,hw.2,λh=>by rw [hdm]at h;cases h⟩))
 ·cases hF
def BJ (xs:List ByteArray) (sep:ByteArray):Option ByteArray :=
 if xs.length<=140737488355328/\(Lib.join (xs.map (·.data.toList)) sep.data.toList).length<=140737488355328 then some ⟨(Lib.join (xs.map (·.data.toList)) sep.data.toList).toArray⟩else none
theorem join_ok (hdm:dmK=false) {P:Program} {f:FuncId}
  (h0:∀(a:Option Addr) (c:Nat) (sep:ByteArray) (w:World),Calls P f #[.slice a 0 c,.string sep] w λe w'=>e = .returned (.string ⟨#[]⟩)/\w'=w)
  (hC:∀(bk o c:Nat) (xs:List ByteArray) (sep:ByteArray) (w:World),(∀(j:Nat) x,xs[j]? = some x->w.cell? ⟨bk,o+j,none⟩=some (.string x))->bk<w.heap.size->xs.length<=140737488355328->xs.length<=c ->
   (Lib.join (xs.map (·.data.toList)) sep.data.toList).length<=140737488355328 ->
   Calls P f #[.slice (some ⟨bk,o,none⟩) xs.length c,.string sep] w λe w'=>e = .returned (.string ⟨(Lib.join (xs.map (·.data.toList)) sep.data.toList).toArray⟩)/\Below w.heap.size w w')
  {xs:List ByteArray} {sep r:ByteArray} (hF:BJ xs sep=some r):FnM P f [vL eS xs,vS sep] [] (vS r) []:=by
 unfold BJ at hF
 split at hF
 ·rename_i hx
  simp only [so_]at hF
  subst hF
  intro G w vargs hinv hargs
  have hfin:∀w',Below w.heap.size w w'->∃v G' S' tk' U' ν,Ending.returned (.string ⟨(Lib.join (xs.map (·.data.toList)) sep.data.toList).toArray⟩) = .returned v/\Inv ⟨G,w,vG G []⟩ G' w' S' tk' U'/\RepV G' w' v (ren ν (vS ⟨(Lib.join (xs.map (·.data.toList)) sep.data.toList).toArray⟩)) /\
    ν.length=([]:List (Option Box)).length/\ν.Nodup/\(∀i,i<([]:List Box).length->ν[i]? = some (au i))/\∀(i:Nat) (bx:Box),([]:List (Option Box))[i]? = some (some bx)->∃n,ν[i]? = some n/\S' n=some (bx.ren ν):=by
   intro w' hb
   obtain ⟨i2,e2⟩:=hinv.more (w':=w') (G':=G) (U':=λ_=>False) (λb' hb'=>hb.block b' hb') hb.size hb.os hb.tape hb.output (λ_ _ h=>h) (λ_ _ h => .inl h) rfl (λ_ h=>h) (λh=>by rw [hdm]at h;cases h)
   exact⟨_,G,_,1,_,[],rfl,i2,.d (.str _),rfl,List.nodup_nil,λi hi=>absurd hi (Nat.not_lt_zero i),λi bx hb=>by simp at hb⟩
  obtain ⟨hl,ha⟩:=hargs
  obtain ⟨v0,v1,rfl⟩:∃v0 v1,vargs=[v0,v1]:=by
   match vargs,hl with
   | [v0,v1],_=>exact⟨v0,v1,rfl⟩
  have r0:RepV G w v0 (vL eS xs):=ha 0 (by simp) (by simp)
  have r1:RepV G w v1 (vS sep):=ha 1 (by simp) (by simp)
  rw [r1.d_inv.str_inv]
  have r0':=r0.d_inv
  generalize hys:xs.map eS=ys at r0'
  cases r0' with
  | sl0 a cap =>
   have hn:xs=[]:=by simpa using hys
   subst hn
   refine (h0 a cap sep w).mono ?_
   rintro e w' ⟨rfl,rfl⟩
   exact hfin _ (Below.refl _ _)
  | sl b off cap sz _ us hcap hsz hI hc ho hr =>
   have hlen:ys.length=xs.length:=by rw [<- hys];simp
   have hcell:∀(j:Nat) x,xs[j]? = some x->w.cell? ⟨b,off+j,none⟩=some (.string x):=by
    intro j x hj
    obtain ⟨hj1,hj2⟩:=List.getElem?_eq_some_iff.1 hj
    have hj':j<ys.length:=by omega
    have hy:ys[j]=[D.str x]:=by
     subst hys
     rw [List.getElem_map,hj2];rfl
    have hz:sz=1:=by rw [<- hsz j hj',hy];rfl
    subst hz
    have h2:=hc j 0 hj' (by omega)
    have h3:=hr j 0 hj' (by rw [hy];exact Nat.zero_lt_one)
    have h4:us j 0 = .string x:=by
     have:ys[j][0]'(by rw [hy];exact Nat.zero_lt_one)=D.str x:=by simp [hy]
     rw [this]at h3
     exact h3.str_inv
    rw [h4]at h2
    simpa using h2
   rw [hlen]
   cases xs with
   | nil =>
    refine (h0 (some ⟨b,off,none⟩) cap sep w).mono ?_
    rintro e w' ⟨rfl,rfl⟩
    exact hfin _ (Below.refl _ _)
   | cons x xs =>
    have hb:b<w.heap.size:=by
     rcases Nat.lt_or_ge b w.heap.size with h|h
     ·exact h
     ·have h1:=hcell 0 x rfl
      have e:w.heap[b]? = none:=Array.getElem?_eq_none h
      simp only [World.cell?,e]at h1
      cases h1
    refine (hC b off cap (x::xs) sep w hcell hb hx.1 (by omega) hx.2).mono ?_
    rintro e w' ⟨rfl,hbw⟩
    exact hfin _ hbw
 ·cases hF
end Go.Eng

