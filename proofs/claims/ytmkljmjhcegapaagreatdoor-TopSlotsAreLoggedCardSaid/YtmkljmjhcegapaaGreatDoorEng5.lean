/-
  The engine: what the machine does to data, shown once for all programs (part 5).
-/
import Derived.Test.YtmkljmjhcegapaaGreatDoorEng4
import Derived.Lib.LaidTab
import Derived.Lib.ItoaNum
import Derived.Deep.Draws
import Derived.Below
import Derived.Lib.IndexMore
import Derived.Lib.TrimByte
import Derived.Lib.Join
import Derived.Lib.Repeat
import Derived.Lib.TrailingZeros
import Derived.Lib.SlTrimSet
import Derived.Shelf.SlSortCmp.InsertionK
import Derived.Sort.AssemblyPlain
/-
  THE ENGINE: a slice that is cut in its own box and grows again; boxes of slices that may be empty; maps whose keys are structs.
-/
namespace Go.Eng
set_option linter.unusedSectionVars false
variable [DM]
set_option linter.unusedVariables false
set_option linter.unusedSimpArgs false
def leL {α β:Type} (xs:List α) (ys:List β):Option Unit:=if xs.length<=ys.length then some ()else none
theorem leL_le {α β:Type} {xs:List α} {ys:List β} {u:Unit} (h:leL xs ys=some u):xs.length<=ys.length:=by
 unfold leL at h;split at h
 ·assumption
 ·cases h
theorem vV_take {α:Type} {n:Nm} {sz len:Nat} {xs:List α} (h:0+len<=xs.length):V.vs n sz 0 len=vV n sz (xs.take len):=by
 unfold vV
 rw [List.length_take,Nat.min_eq_left (by omega)]
theorem Dl {α:Type} {b:Bool} {n:Nm} {sz:Nat} {xs:List α} (h:xs ≠ []):kV b n sz xs=gV n sz xs:=by
 cases b with
 | true=>exact (NK h).symm
 | false=>rfl
theorem kB_gB {α:Type} {b:Bool} {sz:Nat} {enc:α->List D} {xs:List α} (h:xs ≠ []):kB b sz enc xs=gB sz enc xs:=by
 cases b with
 | true=>exact (Eh h).symm
 | false=>rfl
theorem om {α:Type} (enc:α->List D) (o:Option α):jr (.d (dP enc o))=true:=by cases o <;> rfl
theorem dw {v:V} {vs:List V} (h:jr v=true) (t:vs.all jr=true):(v::vs).all jr=true:=by rw [List.all_cons,h,t];rfl
theorem Qd {size k:Nat} {v:V} {ds:List D} {xs:List (List D)} {rest:List (Nat×V)} (h1:pO (bB v)=some ds) (h2:(Nat.beq k k&&Nat.beq ds.length size)=true) (h3:(bB v).all jr=true) (h4:mK size (k+1) rest=some xs):mK size k ((k,v)::rest)=some (ds::xs):=by
 simp only [mK,h1,h4]
 rw [h2,h3];rfl
theorem Bi {size o:Nat} {cs new cs':List V} {x:V} (h1:bB x=new) (h2:new.all jr=true) (h3:(Nat.beq new.length size&&Nat.ble (o+size) cs.length)=true) (h4:splice cs new o=cs'):stC size cs o x=some cs':=by
 unfold stC
 rw [h1,h2,h3,h4];rfl
theorem stD_one {size o:Nat} {cs nd cs':List D} {new:List V} {x:V} (h1:bB x=new) (h0:pO new=some nd) (h2:new.all jr=true) (h3:(Nat.beq nd.length size&&Nat.ble (o+size) cs.length)=true) (h4:splice cs nd o=cs'):stD size cs o x=some cs':=by
 unfold stD
 rw [h1,h0]
 simp only []
 rw [h2,h3,h4];rfl
section
variable {C:Cfg} {Q:QH} {sl:Nat->V} {H:Hp} {c:Code}
theorem wH_shr {α:Type} {enc:α->List D} {xs:List α} {sz:Nat} {n:Nm} (i m:Nat) (h:H[i]? = some (n,some (bV sz enc xs))) (hw:wH C c Q sl (H.set i (n,some (bV sz enc (xs.take m))))):wH C c Q sl H :=
 rX hw (λS t ag=>⟨supd S n (some (.vec sz ((xs.map enc).take m))),Gst.shr ⟨sl,S,t⟩ n sz m (xs.map enc) (ag.get h),by
  have:(xs.map enc).take m=(xs.take m).map enc:=by rw [List.map_take]
  rw [this]
  exact ag.set h (λx hx=>hx)⟩)
end
section
variable {C:Cfg} {sl:Nat->V} {H:Hp} {q:Qm} {all rest:List Oper} {K:(Nat->V)->Hp->Prop}
variable {dst:Option Tmp} {d:Nat} {t ty:TypeId} {pos:String} {after:Array Edge} {g:Option (Nat×Bool)}
theorem h_lenk {α:Type} {b:Bool} {n:Nm} {sz:Nat} {xs:List α} {x:Operand} {e:TypeId} (hu:C.P.underlying t=some (.slice e)) (hx:ev sl x=kV b n sz xs) (hw:aR all sl ⟨dst,.call ⟨.builtin .len,#[x],#[t]⟩,ty,pos,after,g⟩=some true)
  (h:bn q C all K rest (eF sl dst (vI xs.length)) H):bn q C all K (⟨dst,.call ⟨.builtin .len,#[x],#[t]⟩,ty,pos,after,g⟩::rest) sl H:=by
 cases b with
 | true=>exact JF hu hx hw h
 | false=>exact Ar hu hx hw h
theorem KV {a b:List Nm} {x:Box} (h:x.ok a.length=true):x.ren (a++b)=x.ren a:=by
 cases x with
 | cells sz cs=>simp only [Box.ok]at h;simp only [Box.ren,xP h]
 | _=>rfl
theorem Ph {a b:List Nm} {bs:List Box} (h:bs.all (λx=>x.ok a.length)=true):bs.map (λx=>x.ren (a++b))=bs.map (λx=>x.ren a) :=
 List.map_congr_left (λx hx=>KV (List.all_eq_true.1 h x hx))
theorem Lg {a b:List Nm}:∀(is:List Nat) (ns:List Nm) (bs:List Box),bs.all (λx=>x.ok a.length)=true->Eng.outs (a++b) is ns (bs.map some)=Eng.outs a is ns (bs.map some)
 | [],_,_,_=>rfl
 | _::_,[],_,_=>rfl
 | _::_,_::_,[],_=>rfl
 | i::is,n::ns,b::bs,h=>by
  simp only [List.all_cons,Bool.and_eq_true]at h
  simp only [List.map_cons,Eng.outs,Option.map_some,KV h.1,Lg is ns bs h.2]
theorem CY {k k':Nat} (hk:k<=k') {os:List Box}:os.all (λb=>b.ok k)=true->okOut k' (os.map some)=true:=by
 induction os with
 | nil=>exact λ_=>rfl
 | cons b os ih =>
  intro h
  simp only [List.all_cons,Bool.and_eq_true]at h
  simp only [List.map_cons,okOut,Bool.and_eq_true]
  exact⟨Box.ok_mono hk h.1,ih h.2⟩
theorem LC {α:Type} {enc:α->List D} {sz:Nat} {xs:List α} {f:Operand} {args:List Operand} {ats:Array TypeId} {fn:FuncId} {caps args0:List V} {r:V} {bs os:List Box} {o:Option Box} (p:Nat) (is:List Nat) (iv po:Nat) {l:List (Nm×Box)} {n:Nm}
  (hp:q=none\/Nat.beq all.length (p+(rest.length+1))=true)
  (hfp:∀S tk,AgR H S tk (⟨some d,.call ⟨.value f,args.toArray,ats⟩,ty,pos,after,g⟩::rest)->okQ q all p (l.map (·.1)++[n]) true)
  (hc:FnM C.P fn args0 (bs++[bV sz enc xs]) r (os.map some++[o]))
  (hf:ev sl f = .fn fn caps) (hb:aL C.P fn=true) (hl:nL H is=some l) (hv:H[iv]? = some (n,some (bV sz enc xs)))
  (hS:bs.map (λb=>b.ren (l.map (·.1)))=l.map (·.2)) (hSok:bs.all (λb=>b.ok is.length)=true)
  (hw1:(args.map (ev sl)++caps)[po]? = some (vV n sz xs)) (hp0:args0[po]? = some (vV (aG is.length) sz xs))
  (hn:(((args.map (ev sl)++caps).set po .none).flatMap frz).all (λn=>false)=true)
  (ha:((args.map (ev sl)++caps).map co0).set po .none=(renL (l.map (·.1)) args0).set po .none) (hok:okL is.length (args0.set po .none)=true) (hr:okV (is.length+1) r=true)
  (hlen:os.length=is.length) (hi:(is++[iv]).Nodup) (hO:os.all (λb=>b.ok is.length)=true) (ho:∀b,o=some b->b.ok 0=true)
  (hw:aR all sl ⟨some d,.call ⟨.value f,args.toArray,ats⟩,ty,pos,after,g⟩=some true)
  (v:V) (hvr:ren (l.map (·.1)++[n]) r=v)
  (H':Hp) (hH:(setH H (outs (l.map (·.1)) is (l.map (·.1)) (os.map some))).set iv (n,o)=H')
  (h:bn (pX q p (l.map (·.1)++[n]) true) C all K rest (upd sl d v) H') :
  bn q C all K (⟨some d,.call ⟨.value f,args.toArray,ats⟩,ty,pos,after,g⟩::rest) sl H:=by
 have hll:=(lZ hl).1
 have hbs:bs.length=l.length:=by have:=congrArg List.length hS;simpa using this
 have hln:(l.map (·.1)).length=is.length:=by rw [List.length_map,hll]
 have hSok':bs.all (λb=>b.ok (l.map (·.1)).length)=true:=by rw [hln];exact hSok
 have hO':os.all (λb=>b.ok (l.map (·.1)).length)=true:=by rw [hln];exact hO
 have hp1:=BI (l:=l) hl hv
 have hmap:(l++[(n,bV sz enc xs)]).map (·.1)=l.map (·.1)++[n]:=by simp
 have hq:okL (is++[iv]).length args0=true:=by
  have:=AQ (v:=vV (aG is.length) sz xs) (sM (Nat.le_add_right is.length 1) _ hok) (EO (ls_ _))
  rw [nG hp0]at this
  simpa using this
 refine Ef p (is++[iv]) hp (λS tk ag=>by rw [hmap];exact hfp S tk ag) hc hf hb hp1 ?_ ?_ ?_ ?_ hq ?_ (by simp [hlen]) hi ?_ hw v (by rw [hmap];exact hvr) H' ?_ ?_
 ·rw [List.map_append,hmap,Ph hSok',hS]
  simp only [List.map_cons,List.map_nil,List.map_append,Box.ren]
 ·rw [List.all_append]
  simp only [Bool.and_eq_true]
  exact⟨List.all_eq_true.2 (λb hb'=>Box.ok_mono (by simp) (List.all_eq_true.1 hSok b hb')),rfl⟩
 ·intro m hm
  obtain ⟨v',hv1,hv2⟩:=Bz hn hm
  rw [hw1]at hv1
  simp only [so_]at hv1
  subst hv1
  rw [hmap]
  have:m=n:=by simpa [frz,OW,vV]using hv2
  rw [this];simp
 ·intro S tk ag
  refine ArgsOK.of_map ?_
  have hcw:co S (vV n sz xs)=vV n sz xs:=by
   have hS':S n=some (.vec sz (xs.map enc)):=ag.get hv
   simp only [vV,co,co1,hS']
  have hargs:(args.map (ev sl)++caps).map (co S)=((args.map (ev sl)++caps).map co0).set po (vV n sz xs):=by
   have h1:(args.map (ev sl)++caps)=((args.map (ev sl)++caps).set po .none).set po (vV n sz xs):=by
    rw [List.set_set,nG hw1]
   have h2:(((args.map (ev sl)++caps).set po .none)).map (co S)=(((args.map (ev sl)++caps).set po .none)).map co0:=zM (by
    cases hx:((args.map (ev sl)++caps).set po .none).flatMap frz with
    | nil=>rfl
    | cons a b=>rw [hx]at hn;simp at hn)
   have h3:(args.map (ev sl)++caps).map (co S)=((((args.map (ev sl)++caps).set po .none)).map (co S)).set po (co S (vV n sz xs)):=by
    rw [<- List.map_set,<- h1]
   rw [h3,h2,hcw,List.map_set,List.set_set]
  rw [hargs,Ae ha,hmap]
  have h1:args0=(args0.set po .none).set po (vV (aG is.length) sz xs):=by rw [List.set_set,nG hp0]
  have h2:renL (l.map (·.1)++[n]) args0=(renL (l.map (·.1)) (args0.set po .none)).set po (vV n sz xs):=by
   conv=>lhs;rw [h1]
   rw [tu,xP (by simp only [List.length_map,hll];exact hok)]
   simp only [vV,ren]
   rw [wF (n:=n) (by rw [List.getElem?_append_right (by simp [hll])];simp [hll])]
  rw [h2,tu,List.set_set]
 ·have e:(os.map some++[o]).length=is.length+1:=by simp [hlen]
  rw [e];exact hr
 ·refine yQ (CY (by simp [hlen]) hO) ?_
  cases o with
  | none=>rfl
  | some b=>simp only [okOut,Bool.and_true];exact Box.ok_mono (Nat.zero_le _) (ho b rfl)
 ·rw [<- hH,hmap,FR _ _ _ _ _ _ _ (by simp [hlen]) (by simp [hll]),Kk,Lg _ _ _ hO']
  simp only [setH]
  cases o with
  | none=>rfl
  | some b=>simp only [Option.map_some,ww (ho b rfl)]
 ·rw [hmap];exact h
theorem bV_ok {α:Type} {sz:Nat} {enc:α->List D} {xs:List α}:∀b,some (bV sz enc xs)=some b->b.ok 0=true:=λb h=>by cases h;rfl
theorem Pv {α:Type} {enc:α->List D} {sz:Nat} {xs ys:List α} {b:Bool} {f:Operand} {args:List Operand} {ats:Array TypeId} {fn:FuncId} {caps args0 args1:List V} {bs bs0 bs1:List Box} (is:List Nat) (iv po:Nat) {l:List (Nm×Box)} {n:Nm}
  (hc:FnM C.P fn args0 (bs++[bV sz enc xs]) (vV (aG is.length) sz ys) (bs1.map some++[some (bV sz enc ys)]))
  (hc0:FnM C.P fn args1 bs .nil (bs0.map some))
  (hle:ys.length<=xs.length) (hsame:b=false->xs=[]->bs1=bs0)
  (hf:ev sl f = .fn fn caps) (hb:aL C.P fn=true) (hl:nL H is=some l) (hv:H[iv]? = some (n,kB b sz enc xs))
  (hS:bs.map (λb=>b.ren (l.map (·.1)))=l.map (·.2)) (hSok:bs.all (λb=>b.ok is.length)=true) (hOok:bs1.all (λb=>b.ok is.length)=true)
  (hw1:(args.map (ev sl)++caps)[po]? = some (kV b n sz xs)) (hp0:args0[po]? = some (vV (aG is.length) sz xs)) (hp1:args1=args0.set po .nil)
  (hn:(((args.map (ev sl)++caps).set po .none).flatMap frz).all (λn=>false)=true)
  (ha:((args.map (ev sl)++caps).map co0).set po .none=(renL (l.map (·.1)) args0).set po .none) (hok:okL is.length (args0.set po .none)=true)
  (hlen:bs.length=is.length) (hlen1:bs1.length=is.length) (hi:(is++[iv]).Nodup)
  (hw:aR all sl ⟨some d,.call ⟨.value f,args.toArray,ats⟩,ty,pos,after,g⟩=some true)
  (H':Hp) (hH:(setH H (outs (l.map (·.1)) is (l.map (·.1)) (bs1.map some))).set iv (n,kB (b || !xs.isEmpty) sz enc ys)=H')
  (h:bn none C all K rest (upd sl d (kV (b || !xs.isEmpty) n sz ys)) H') :
  bn none C all K (⟨some d,.call ⟨.value f,args.toArray,ats⟩,ty,pos,after,g⟩::rest) sl H:=by
 have hll:=(lZ hl).1
 by_cases hbx:b=false/\xs=[]
 ·obtain ⟨rfl,rfl⟩:=hbx
  have hys:ys=[]:=List.eq_nil_of_length_eq_zero (by simpa using hle)
  subst hys
  have hbb:=hsame rfl rfl
  subst hbb
  have hwn:(args.map (ev sl)++caps)[po]? = some .nil:=hw1
  have hivs:iv∉is:=by
   rw [List.nodup_append]at hi
   exact λhm=>hi.2.2 iv hm iv (by simp) rfl
  have hset:∀{l':List (Nat×Nm×Option Box)} {H0:Hp},(∀p∈l',p.1≠iv)->(setH H0 l')[iv]? = H0[iv]? := by
   intro l'
   induction l' with
   | nil=>intro H0 _;rfl
   | cons x l' ih =>
    intro H0 hx
    obtain ⟨i,m,b⟩:=x
    simp only [setH]
    rw [ih (λp hp=>hx p (by simp [hp]))]
    have:i≠iv:=hx (i,m,b) (by simp)
    rw [List.getElem?_set_ne this]
  have houts:∀(ν:List Nm) (is:List Nat) (ns:List Nm) (os:List (Option Box)),∀p∈outs ν is ns os,p.1∈is:=by
   intro ν is
   induction is with
   | nil=>intro ns os p hp;simp [outs]at hp
   | cons i is ih =>
    intro ns os p hp
    cases ns with
    | nil=>simp [outs]at hp
    | cons m ns=>cases os with
     | nil=>simp [outs]at hp
     | cons o os =>
      simp only [outs,List.mem_cons]at hp
      rcases hp with rfl|hp
      ·simp
      ·exact List.mem_cons_of_mem _ (ih _ _ _ hp)
  have hq:okL is.length args1=true:=by rw [hp1];exact AQ hok rfl
  have hpl:po<args0.length:=(List.getElem?_eq_some_iff.1 hp0).1
  refine Ef 0 is (.inl rfl) (λ_ _ _=>trivial) hc0 hf hb hl ?_ ?_ ?_ ?_ hq rfl (by simp [hlen1]) (List.nodup_append.1 hi).1 (CY (by simp [hlen1]) hOok) hw .nil rfl H' ?_ h
  ·exact hS
  ·exact hSok
  ·intro m hm
   obtain ⟨v',hv1,hv2⟩:=Bz hn hm
   rw [hwn]at hv1
   simp only [so_]at hv1
   subst hv1
   cases hv2
  ·intro S tk ag
   have h1:(args.map (ev sl)++caps)=((args.map (ev sl)++caps).set po .none).set po .nil:=by rw [List.set_set,nG hwn]
   have h2:((args.map (ev sl)++caps).set po .none).map (co S)=((args.map (ev sl)++caps).set po .none).map co0:=zM (by
    cases hx:((args.map (ev sl)++caps).set po .none).flatMap frz with
    | nil=>rfl
    | cons a b=>rw [hx]at hn;simp at hn)
   have hbase:ArgsOK S ((args.map (ev sl)++caps).set po .none) ((renL (l.map (·.1)) args1).set po .none):=by
    refine ArgsOK.of_map ?_
    rw [h2,List.map_set,hp1,tu,List.set_set]
    exact ha
   have:=ArgsOK.set (x' := .nil) (y' := .nil) (.inl rfl) hbase
   have e:(renL (l.map (·.1)) args1).set po .nil=renL (l.map (·.1)) args1:=by
    rw [hp1,tu,List.set_set];rfl
   rw [nG hwn,e]at this
   exact this
  ·rw [<- hH]
   symm
   apply nG
   rw [hset (λp hp e=>hivs (e ▸ houts _ _ _ _ p hp)),hv];rfl
 ·have e1:kB b sz enc xs=some (bV sz enc xs):=by
   cases b with
   | true=>rfl
   | false=>exact Eh (λe=>hbx ⟨rfl,e⟩)
  have e2:kV b n sz xs=vV n sz xs:=by
   cases b with
   | true=>rfl
   | false=>exact NK (λe=>hbx ⟨rfl,e⟩)
  have e3:(b || !xs.isEmpty)=true:=by
   cases b with
   | true=>rfl
   | false=>cases xs with
    | nil=>exact absurd ⟨rfl,rfl⟩ hbx
    | cons x xs=>rfl
  rw [e3]at hH h
  rw [e1]at hv
  rw [e2]at hw1
  refine LC (v:=vV n sz ys) 0 is iv po (.inl rfl) (λ_ _ _=>trivial) hc hf hb hl hv hS hSok hw1 hp0 hn ha hok (EO (ls_ _)) (by simp [hlen1]) hi hOok bV_ok hw ?_ H' hH h
  simp only [vV,ren]
  rw [wF (n:=n) (by rw [List.getElem?_append_right (by simp [hll])];simp [hll])]
end
end Go.Eng

/-
  THE ENGINE: rules for arrays of bytes in a box, and for bytes to a string and back.
-/
namespace Go.Eng
set_option linter.unusedSectionVars false
variable [DM]
open Go
set_option linter.unusedVariables false
set_option linter.unusedSimpArgs false
def KZ {α:Type} (xs:List α) (n:Nat):Option Unit:=if xs.length=n then some ()else none
theorem Np {α:Type} {xs:List α} {n:Nat} {u:Unit} (h:KZ xs n=some u):xs.length=n:=by
 unfold KZ at h;split at h
 ·assumption
 ·cases h
section
variable {C:Cfg} {sl:Nat->V} {H:Hp} {q:Qm} {all rest:List Oper} {K:(Nat->V)->Hp->Prop}
variable {dst:Option Tmp} {d:Nat} {t ty:TypeId} {pos:String} {after:Array Edge} {g:Option (Nat×Bool)}
theorem K8 {e:TypeId} {cs:List V} {m:Nat} (xs:List Int) (p:Nat) (hp:q=none\/Nat.beq all.length (p+(rest.length+1))=true) (hz:zeroCells C.P e=some cs) (ha:DK cs=some (xs.map λn=>D.int .u8 n)) (ho:cs.all jr=true) (hm:zm C.P e=some m)
  (hw:aR all sl ⟨some d,.alloc e,ty,pos,after,g⟩=some true)
  (h:∀n:Nm,bn (pX q p [n] true) C all K rest (upd sl d (.ref n 0 0)) (H++[(n,some (bV 1 (eK .u8) xs))])):bn q C all K (⟨some d,.alloc e,ty,pos,after,g⟩::rest) sl H :=
 uh rfl p [] hp (λ_ _ _=>y5) (λm hm=>by cases hm) hw (λS tk K' ok ag hk=>j4 (A:=⟨[],[((d,tk),some (bV 1 (eK .u8) xs))],.ref (d,tk) 0 0⟩) (λc e=>by cases e) (by
  show (bif (zm C.P e).isSome then ug C.P e d tk else bif C.vm.contains d then xg C.P e d tk else xQ C.P e d tk)=_
  rw [hm]
  simp only [Option.isSome_some,cond_true,ug,hz,ha,ho,bV,List.map_map]
  rfl) (hk _ _ _ (.inl rfl) ⟨by simp,by simp⟩ (ag.new ok rfl _) (h (d,tk))))
theorem JU {xs:List Int} {x i:Operand} {k:IntKind} {n:Int} {m:Nat} {nm:Nm} (p j:Nat) (hp:q=none\/Nat.beq all.length (p+(rest.length+1))=true)
  (hf:∀S tk,AgR H S tk (⟨dst,.indexAddr t x i,ty,pos,after,g⟩::rest)->okQ q all p [nm] false) (hm:zm C.P t=some m) (hx:ev sl x = .ref nm 0 0) (hi:ev sl i = .d (.int k n)) (hH:H[j]? = some (nm,some (bV 1 (eK .u8) xs))) (h0:0<=n) (h1:n.toNat<m)
  (hw:aR all sl ⟨dst,.indexAddr t x i,ty,pos,after,g⟩=some true) (h:bn (pX q p [nm] false) C all K rest (eF sl dst (.ref nm n.toNat 0)) H):bn q C all K (⟨dst,.indexAddr t x i,ty,pos,after,g⟩::rest) sl H:=by
 refine qi p [nm] false hp hf (yG hH) hw (λS tk K' ok' ag hk=>j4 (A:=⟨[(nm,bV 1 (eK .u8) xs)],[],.ref nm n.toNat 0⟩) (λc e=>by cases e) ?_ (hk _ H ⟨by simp,by simp⟩ (λ_=>rfl) ag.tail h))
 show orE (jC C.P t (ev sl x) (ev sl i)) (tX C.P t S (ev sl x) (ev sl i))=_
 obtain ⟨e,hu,_,_⟩:=y7 hm
 have he:bP C.P t=none:=by unfold bP;rw [hu]
 have h1':jC C.P t (ev sl x) (ev sl i)=none:=by
  unfold jC
  rw [he,hi];rfl
 rw [h1',hx,hi]
 show tX C.P t S (.ref nm 0 0) (.d (.int k n))=_
 have hc:(decide (0<=n)&&Nat.blt n.toNat m)=true:=by simp [h0,Nat.blt_eq,h1]
 simp only [tX,hm,ag.get hH,hc,cond_true]
theorem Rl {xs:List Int} {m:Nat} {nm:Nm} {S:Store} {lo hi:Option V} {a b:Int} {u u':Unit} (hm:zm C.P t=some m) (hS:S nm=some (bV 1 (eK .u8) xs)) (hl:KZ xs m=some u') (h1:rz 0 lo=some a.toNat) (h2:rz m hi=some b.toNat) (hr:oh xs a b=some u) :
  orE ((o9 C.P t (.ref nm 0 0) lo hi none).bind gD) (l7 C.P t S (.ref nm 0 0) lo hi none)=some ⟨[(nm,bV 1 (eK .u8) xs)],[],.vs nm 1 a.toNat (b.toNat-a.toNat)⟩:=by
 obtain ⟨e,hu,_,_⟩:=y7 hm
 have hl':=Np hl
 obtain ⟨_,_,r3,r4⟩:=rW hr
 have h0:o9 C.P t (.ref nm 0 0) lo hi none=none:=by simp only [o9,hu]
 rw [h0]
 show l7 C.P t S (.ref nm 0 0) lo hi none=_
 simp only [l7,hm,hS,h1,h2]
 rw [if_pos ⟨r3,by omega,by simp [hl']⟩]
section
variable {xs:List Int} {m:Nat} {nm:Nm} {x l hi:Operand} {k k':IntKind} {a b:Int} {u u':Unit}
theorem KD (p j:Nat) (hp:q=none\/Nat.beq all.length (p+(rest.length+1))=true) (hf:∀S tk,AgR H S tk (⟨dst,.slice t x (some l) none none,ty,pos,after,g⟩::rest)->okQ q all p [nm] false) (hm:zm C.P t=some m) (hx:ev sl x = .ref nm 0 0) (hl:ev sl l = .d (.int k a)) (hH:H[j]? = some (nm,some (bV 1 (eK .u8) xs))) (hn:KZ xs m=some u') (hr:oh xs a xs.length=some u)
  (hw:aR all sl ⟨dst,.slice t x (some l) none none,ty,pos,after,g⟩=some true) (h:bn (pX q p [nm] false) C all K rest (eF sl dst (.vs nm 1 a.toNat (((xs.length:Int)).toNat-a.toNat))) H):bn q C all K (⟨dst,.slice t x (some l) none none,ty,pos,after,g⟩::rest) sl H :=
 qi p [nm] false hp hf (yG hH) hw (λS tk K' ok' ag hk=>j4 (A:=⟨[(nm,bV 1 (eK .u8) xs)],[],.vs nm 1 a.toNat (((xs.length:Int)).toNat-a.toNat)⟩) (λc e=>by cases e) (by
  show orE ((o9 C.P t (ev sl x) (some (ev sl l)) none none).bind gD) (l7 C.P t S (ev sl x) (some (ev sl l)) none none)=_
  rw [hx,hl];exact Rl hm (ag.get hH) hn (Qt (rW hr).1) (by show some m=_;rw [<- Np hn];rfl) hr) (hk _ H ⟨by simp,by simp⟩ (λ_=>rfl) ag.tail h))
end
theorem QO {P:Program} {e:TypeId} (h:P.underlying e=some (.int .u8)):xA P e=true:=by unfold xA;rw [h]
theorem M7 {P:Program} {s t e:TypeId} {x:V} (hs:P.underlying s=some (.slice e)) (ht:P.underlying t=some .string) (hx:∀s,x ≠ .d (.str s)):Bf P s t x=none:=by
 unfold Bf
 rw [hs,ht]
 split
 ·rename_i h;cases h
 ·exact absurd rfl (hx _)
 ·rename_i h h2;cases h
 ·rfl
theorem h_convp {xs:List Int} {x:Operand} {s e:TypeId} {nm:Nm} {a ln:Nat} (p j:Nat) (hp:q=none\/Nat.beq all.length (p+(rest.length+1))=true)
  (hf:∀S tk,AgR H S tk (⟨dst,.convert s t x,ty,pos,after,g⟩::rest)->okQ q all p [nm] false) (hs:C.P.underlying s=some (.slice e)) (ht:C.P.underlying t=some .string) (he:C.P.underlying e=some (.int .u8))
  (hx:ev sl x = .vs nm 1 a ln) (hH:H[j]? = some (nm,some (bV 1 (eK .u8) xs))) (hle:a+ln<=xs.length)
  (hw:aR all sl ⟨dst,.convert s t x,ty,pos,after,g⟩=some true) (h:bn (pX q p [nm] false) C all K rest (eF sl dst (vS (strOfNums (DI xs a ln)))) H):bn q C all K (⟨dst,.convert s t x,ty,pos,after,g⟩::rest) sl H:=by
 refine qi p [nm] false hp hf (yG hH) hw (λS tk K' ok' ag hk=>j4 (A:=⟨[(nm,bV 1 (eK .u8) xs)],[],vS (strOfNums (DI xs a ln))⟩) (λc e=>by cases e) ?_ (hk _ H ⟨by simp,by simp⟩ (λ_=>rfl) ag.tail h))
 show orE ((Bf C.P s t (ev sl x)).bind gD) (wD C.P s t S (ev sl x))=_
 rw [hx,M7 hs ht (λ_ e=>by cases e)]
 show wD C.P s t S (.vs nm 1 a ln)=_
 have hg:S nm=some (.vec 1 (xs.map (eK .u8))):=ag.get hH
 simp only [wD,hs,ht,QO he,cond_true,hg]
 rw [if_pos ⟨trivial,by simpa using hle⟩]
 have:((xs.map (eK .u8)).drop a).take ln=(DI xs a ln).map eU8:=by
  unfold DI
  rw [<- List.map_drop,<- List.map_take];rfl
 rw [this,MJ]
 rfl
end
end Go.Eng

/-
  THE ENGINE: strconv.Itoa, by its contract off the shelf; the table that it reads is known.
-/
namespace Go.Eng
set_option linter.unusedSectionVars false
variable [DM]
open Go.Sort
set_option linter.unusedVariables false
set_option linter.unusedSimpArgs false
theorem JV {P:Program} {G:Gh} {w:World} {name:String} {k:IntKind} {zs:List Int} (hl:∀w0,EM w0->Lib.TabIs P w0 name k zs) (hz:zs ≠ []) (h:Kn G w):Lib.TabIs P w name k zs:=by
 obtain ⟨w0,h1,h2⟩:=h
 have ht:=hl w0 h1
 unfold Lib.TabIs World.var? at ht ⊢
 cases hg:P.globalNamed name with
 | none=>rw [hg]at ht;simp at ht
 | some g =>
  rw [hg]at ht
  simp only [ob_]at ht ⊢
  have hlt:g<w0.heap.size:=by
   rcases Nat.lt_or_ge g w0.heap.size with h|h
   ·exact h
   ·rw [Array.getElem?_eq_none h]at ht;cases ht
  have hc:∀o,w.cell? ⟨g,o,Option.none⟩=w0.cell? ⟨g,o,Option.none⟩:=λo=>(h2 g o hlt).2
  cases hb:w0.heap[g]? with
  | none=>rw [hb]at ht;cases ht
  | some ob =>
   rw [hb]at ht
   cases ob with
   | cells cs t fr =>
    simp only [so_]at ht
    have e0:∀o,w0.cell? ⟨g,o,Option.none⟩=cs[o]? := λo=>by simp [World.cell?,hb]
    cases hw:w.heap[g]? with
    | none =>
     exfalso
     have:=hc 0
     rw [e0]at this
     simp only [World.cell?,hw]at this
     rw [ht]at this
     cases zs with
     | nil=>exact hz rfl
     | cons z zs=>simp at this
    | some ob' =>
     cases ob' with
     | cells cs' t' fr' =>
      have e1:∀o,w.cell? ⟨g,o,Option.none⟩=cs'[o]? := λo=>by simp [World.cell?,hw]
      have:cs'=cs:=Array.ext_getElem? (λo=>by rw [<- e1,<- e0,hc])
      rw [this,ht]
     | _ =>
      exfalso
      have:=hc 0
      rw [e0]at this
      simp only [World.cell?,hw]at this
      rw [ht]at this
      cases zs with
      | nil=>exact hz rfl
      | cons z zs=>simp at this
   | _=>cases ht
def Ny (n:Int):Option ByteArray:=if -9223372036854775808<=n/\n<=9223372036854775807 then some ⟨(Lib.itoa n).toArray⟩else none
theorem itoa_ok {P:Program} {f:FuncId}
  (hC : ∀ (n : Int), -9223372036854775808 ≤ n → n ≤ 9223372036854775807 → ∀ w : World, Lib.TabIs P w "internal/strconv.uint64pow10" .u64 Lib.pow10Tab →
   Calls P f #[.int .i64 n] w λe w'=>e = .returned (.string ⟨(Lib.itoa n).toArray⟩)/\∃k os,w'=grow (w.drewN k) os)
  (hl : ∀ w0, EM w0 → Lib.TabIs P w0 "internal/strconv.uint64pow10" .u64 Lib.pow10Tab) {n : Int} {r : ByteArray} (hF : Ny n = some r) : FnM P f [.d (.int .i64 n)] [] (.d (.str r)) [] := by
 unfold Ny at hF
 split at hF
 ·rename_i hn
  simp only [so_]at hF
  subst hF
  intro G w vargs hinv hargs
  obtain ⟨v,rfl,hv⟩:=hargs.alone
  have hv':RepD G.imm w v (.int .i64 n):=hv.d_inv
  cases hv' with
  | int =>
   refine (hC n hn.1 hn.2 w (JV hl (by decide) hinv.kn)).mono ?_
   rintro e w' ⟨rfl,k,os,rfl⟩
   obtain ⟨i2,e2⟩:=hinv.more (w':=grow (w.drewN k) os) (G':=G) (U':=λ_=>False) (λb' hb'=>by
    show (w.heap++os)[b']? = _
    rw [Array.getElem?_append_left hb']) (by simp [grow,World.drewN]) rfl rfl rfl (λ_ _ h=>h) (λ_ _ h => .inl h) rfl (λ_ h=>h) (λ_=>Nat.le_add_right w.drawn k)
   exact⟨_,G,_,1,_,[],rfl,i2,.d (.str _),rfl,List.nodup_nil,λi hi=>absurd hi (Nat.not_lt_zero i),λi bx hb=>by simp at hb⟩
 ·cases hF
end Go.Eng

/-
  THE ENGINE: functions over literals, by their contracts off the shelf.
-/
namespace Go.Eng
set_option linter.unusedSectionVars false
variable [DM]
open Go.RowKit (Below)
set_option linter.unusedVariables false
set_option linter.unusedSimpArgs false
def isLit:D->Bool
 | .int _ _ | .bool _ | .str _=>true
 | _=>false
def lv:D->Value
 | .int k n => .int k n
 | .bool b => .bool b
 | .str s => .string s
 | _=>undef
theorem lit_inv {I:Nat->Nat->Prop} {w:World} {v:Value} {d:D} (h:RepD I w v d) (hl:isLit d=true):v=lv d:=by
 cases h with
 | int k n=>rfl
 | bool b=>rfl
 | str s=>rfl
 | agg=>cases hl
 | sl0=>cases hl
 | sl=>cases hl
 | ptr=>cases hl
 | nilp=>cases hl
theorem KE {G:Gh} {w:World}:∀{vs:List Value} {ds:List D},tL G w vs (ds.map V.d)->ds.all isLit=true->vs=ds.map lv
 | [],[],_,_=>rfl
 | [],d::ds,h,_=>by have:=h.1;simp at this
 | v::vs,[],h,_=>by have:=h.1;simp at this
 | v::vs,d::ds,h,hl=>by
  simp only [List.all_cons,Bool.and_eq_true]at hl
  obtain ⟨hlen,h⟩:=h
  have h0:RepV G w v (.d d):=h 0 (by simp) (by simp)
  have e:=lit_inv h0.d_inv hl.1
  have:tL G w vs (ds.map V.d):=⟨by simpa using hlen,λi h1 h2=>by
   have:=h (i+1) (by simpa using h1) (by simpa using h2)
   simpa using this⟩
  rw [e,KE this hl.2];rfl
theorem Fg {P:Program} {f:FuncId} (ds:List D) (v:Value) (r:V) (ha:ds.all isLit=true) (hr:∀G w,RepV G w v (ren [] r))
  (hC:∀(G:Gh) (w:World),Kn G w->Calls P f (ds.map lv).toArray w λe w'=>e = .returned v/\Below w.heap.size w w'/\(dmK=true->w.drawn<=w'.drawn)):FnM P f (ds.map V.d) [] r []:=by
 intro G w vargs hinv hargs
 rw [KE hargs ha]
 refine (hC G w hinv.kn).mono ?_
 rintro e w' ⟨rfl,hb,hd⟩
 obtain ⟨i2,e2⟩:=hinv.more (w':=w') (G':=G) (U':=λ_=>False) (λb' hb'=>hb.block b' hb') hb.size hb.os hb.tape hb.output (λ_ _ h=>h) (λ_ _ h => .inl h) rfl (λ_ h=>h) hd
 exact⟨_,G,_,1,_,[],rfl,i2,hr _ _,rfl,List.nodup_nil,λi hi=>absurd hi (Nat.not_lt_zero i),λi bx hb=>by simp at hb⟩
end Go.Eng

/-
  THE ENGINE: strings.Join, strings.Repeat, bits.TrailingZeros, by their contracts off the shelf.
-/
namespace Go.Eng
set_option linter.unusedSectionVars false
variable [DM]
open Go
open Go.RowKit (Below)
set_option linter.unusedVariables false
set_option linter.unusedSimpArgs false
theorem M9 {P:Program} {w:World} {name:String} {k:IntKind} {zs:List Int} {g:Nat} (h:Lib.TabIs P w name k zs) (hg:P.globalNamed name=some g) {j:Nat} {z:Int} (hz:zs[j]? = some z):w.cell? ⟨g,j,none⟩=some (.int k z):=by
 unfold Lib.TabIs World.var? at h
 rw [hg]at h
 simp only [ob_]at h
 cases hb:w.heap[g]? with
 | none=>rw [hb]at h;cases h
 | some ob =>
  rw [hb]at h
  cases ob with
  | cells cs t fr =>
   simp only [so_]at h
   subst h
   simp [World.cell?,hb,hz]
  | _=>cases h
def dbTab:List Int:=Lib.deBruijn64tab.map (λ(n:Nat)=>(n:Int))
def tzF (x:Int):Option Int:=if 0<=x/\x<18446744073709551616 then some (Lib.ctz 64 x.toNat:Nat)else none
theorem tz_ok {P : Program} {f : FuncId} {g : Nat} (hg : P.globalNamed "math/bits.deBruijn64tab" = some g)
  (hC:∀(x:Nat),x<18446744073709551616->∀w:World,(x≠0->∀j,j<Lib.deBruijn64tab.length->w.cell? ⟨g,j,none⟩=some (.int .u8 (Lib.deBruijn64tab.getD j 0))) ->
   Calls P f #[.int .u64 x] w λe w'=>e = .returned (.int .i64 (Lib.ctz 64 x))/\w'=w)
  (hl : ∀ w0, EM w0 → Lib.TabIs P w0 "math/bits.deBruijn64tab" .u8 dbTab) {x r : Int} (hF : tzF x = some r) : FnM P f [.d (.int .u64 x)] [] (.d (.int .i64 r)) [] := by
 unfold tzF at hF
 split at hF
 ·rename_i hx
  simp only [so_]at hF
  subst hF
  refine Fg [.int .u64 x] _ _ rfl (λG w => .d (.int _ _)) (λG w hk => ?_)
  have ht:=JV hl (by decide) hk
  have h1:=hC x.toNat (by omega) w (λ_ j hj=>M9 ht hg (by unfold dbTab;rw [List.getElem?_map,List.getElem?_eq_getElem hj];simp [List.getD,List.getElem?_eq_getElem hj]))
  have e:(#[.int .u64 (x.toNat:Int)]:Array Value)=([D.int .u64 x].map lv).toArray:=by
   simp [lv,Int.toNat_of_nonneg hx.1]
  rw [<- e]
  exact h1.mono (λe w' hw=>⟨hw.1,by rw [hw.2];exact⟨Below.refl _ _,λ_=>Nat.le_refl _⟩⟩)
 ·cases hF
def D7 (s:ByteArray) (c:Int):Option ByteArray:=if 0<=c/\c<=9223372036854775807/\s.size*c.toNat<=140737488355328 then some ⟨(Lib.repeatL s.data.toList c.toNat).toArray⟩else none
theorem Pw (hdm:dmK=false) {P:Program} {f:FuncId}
  (hC:∀(s:ByteArray) (c:Nat) (w:World),c<=9223372036854775807->s.size*c<=140737488355328 ->
   Calls P f #[.string s,.int .i64 c] w λe w'=>e = .returned (.string ⟨(Lib.repeatL s.data.toList c).toArray⟩)/\Below w.heap.size w w')
  {s r:ByteArray} {c:Int} (hF:D7 s c=some r):FnM P f [.d (.str s),.d (.int .i64 c)] [] (.d (.str r)) []:=by
 unfold D7 at hF
 split at hF
 ·rename_i hx
  simp only [so_]at hF
  subst hF
  refine Fg [.str s,.int .i64 c] _ _ rfl (λG w => .d (.str _)) (λG w hk => ?_)
  have h1:=hC s c.toNat w (by omega) hx.2.2
  have e:(#[.string s,.int .i64 (c.toNat:Int)]:Array Value)=([D.str s,D.int .i64 c].map lv).toArray:=by
   simp [lv,Int.toNat_of_nonneg hx.1]
  rw [<- e]
  exact h1.mono (λe w' hw=>⟨hw.1,hw.2,λh=>by rw [hdm]at h;cases h⟩)
 ·cases hF
def IK (s t:ByteArray):Option ByteArray:=if s.size<=9223372036854775807/\t.size<4294967281/\t.data.toList.all (λb=>decide (b.toNat<128))=true then some ⟨(Lib.trimS s.data.toList t.data.toList).toArray⟩else none
theorem Qx (hdm:dmK=false) {P:Program} {f:FuncId}
  (hC:∀(s t:ByteArray) (w:World),s.size<=9223372036854775807->t.size<4294967281->(∀(j:Nat) b,t.data.toList[j]? = some b->b.toNat<128) ->
   Calls P f #[.string s,.string t] w λe w'=>e = .returned (.string ⟨(Lib.trimS s.data.toList t.data.toList).toArray⟩)/\Below w.heap.size w w')
  {s t r:ByteArray} (hF:IK s t=some r):FnM P f [.d (.str s),.d (.str t)] [] (.d (.str r)) []:=by
 unfold IK at hF
 split at hF
 ·rename_i hx
  simp only [so_]at hF
  subst hF
  exact Fg [.str s,.str t] _ _ rfl (λG w => .d (.str _)) (λG w hk=>(hC s t w hx.1 hx.2.1 (λj b hb=>of_decide_eq_true (List.all_eq_true.1 hx.2.2 b (List.mem_of_getElem? hb)))).mono (λe w' hw=>⟨hw.1,hw.2,λh=>by rw [hdm]at h;cases h⟩))
 ·cases hF
end Go.Eng

/-
  THE ENGINE: results of which the first is a new slice and the others are data.
-/
namespace Go.Eng
set_option linter.unusedSectionVars false
variable [DM]
set_option linter.unusedVariables false
section
variable {C:Cfg} {sl:Nat->V} {H:Hp} {q:Qm} {all rest:List Oper} {K:(Nat->V)->Hp->Prop}
variable {dst:Option Tmp} {d:Nat} {t ty:TypeId} {pos:String} {after:Array Edge} {g:Option (Nat×Bool)}
end
end Go.Eng

/-
  THE ENGINE: a sort by a comparison of the program's, by its contract off the shelf.
-/
namespace Go.Eng
set_option linter.unusedSectionVars false
variable [dM:DM]
open Go.Sort Go.Proofs
set_option linter.unusedVariables false
set_option linter.unusedSimpArgs false
theorem P5 {E:Env} {G:Gh} {w W:World} {S:Store} {tk:Nat} {U:Nat->Prop} (h:Inv E G w S tk U) {b:Nat} (hno:∀o,¬G.imm b o)
  (hh:∀b',b'≠b->b'<w.heap.size->W.heap[b']? = w.heap[b']?) (hs:w.heap.size<=W.heap.size) :
  Inv ⟨⟨G.imm,λ_=>none⟩,W,DR ⟨G.imm,λ_=>none⟩ []⟩ ⟨G.imm,λ_=>none⟩ W (iA []) 1 (λ_=>False)/\∀b' o',G.imm b' o'->W.cell? ⟨b',o',none⟩=w.cell? ⟨b',o',none⟩:=by
 have hc:∀b' o',G.imm b' o'->W.cell? ⟨b',o',none⟩=w.cell? ⟨b',o',none⟩:=λb' o' hb=>Am (hh b' (λe=>by subst e;exact hno _ hb) (h.immB _ _ hb)) o'
 have hno':∀(n:Nm) (bx:Box),iA [] n=some bx->False:=λn bx hx=>by
  unfold iA at hx
  split at hx
  ·simp at hx
  ·cases hx
 have k1:Kn G w:=h.kn.ext h.ext.imm h.ext.cell
 have k2:Kn ⟨G.imm,λ_=>none⟩ W:=k1.ext (λ_ _ h=>h) hc
 refine⟨⟨Ext.refl _ _,λ_ _ h => .inl h,λ_ _ _=>rfl,Nat.le_refl _,rfl,rfl,rfl,λn bx hx=>(hno' n bx hx).elim,λn m bx _ _ _ _ _ _ hx=>(hno' n bx hx).elim,λn x hx => ?_,λn b o sz hx => ?_,λb' o' hb=>Nat.lt_of_lt_of_le (h.immB _ _ hb) hs,k2,λ_=>Nat.le_refl _⟩,hc⟩
 ·cases hx
 ·cases hx
theorem Inv.toT {E:Env} {G:Gh} {w:World} {S:Store} {tk:Nat} {U:Nat->Prop} (h:Inv E G w S tk U) (hd:E.w.drawn<=w.drawn) : @Inv dmT E G w S tk U :=
 @Inv.mk dmT E G w S tk U h.ext h.newI h.frame h.size h.os h.tape h.output h.box h.one h.tick h.bound h.immB h.kn (λ_=>hd)
theorem QA {α:Type} {E:α->List D} {P:Program} {g:FuncId} {F:α->α->Option Int} (hg:∀a b r,F a b=some r -> @FnM dmT P g [.d (.agg (E a)),.d (.agg (E b))] [] (vI r) [])
  {β:Type} [Inhabited β] (at_:β->α) (enc:β->List Value) {k:Nat} (cf:β->β->Int) (hcf:∀i j,F (at_ i) (at_ j)=some (cf i j))
  {Ev:Env} {G:Gh} {w:World} {S:Store} {tk:Nat} {U:Nat->Prop} (h:Inv Ev G w S tk U) {b o n:Nat} (hno:∀o',¬G.imm b o') (hblk:b<w.heap.size)
  (hl:∀i,(enc i).length=(E (at_ i)).length) (hr:∀i j (h1:j<(enc i).length) (h2:j<(E (at_ i)).length),RepD G.imm w (enc i)[j] (E (at_ i))[j]) :
  CmpLays P g #[] enc k cf b o n w:=by
 intro m os dk _ x y
 have hW:∀b',b'≠b->b'<w.heap.size->(sortWorldK enc k w b o m dk os).heap[b']? = w.heap[b']? := λb' h1 h2=>by
  show ((putRow id (Sort.ahead w m) b o (flatK enc k dk)).heap++os)[b']? = _
  have hsz:(putRow id (Sort.ahead w m) b o (flatK enc k dk)).heap.size=w.heap.size:=by simp [putRow,mapBlock,Sort.ahead]
  rw [Array.getElem?_append_left (by rw [hsz];exact h2),wN h1];rfl
 have hWs:w.heap.size<=(sortWorldK enc k w b o m dk os).heap.size:=by
  show w.heap.size<=((putRow id (Sort.ahead w m) b o (flatK enc k dk)).heap++os).size
  simp [putRow,mapBlock,Sort.ahead]
 generalize hWe:sortWorldK enc k w b o m dk os=W at hW hWs ⊢
 obtain ⟨i0,hc⟩:=P5 (W:=W) h hno hW hWs
 have i1:=i0.toT (Nat.le_refl _)
 have rep:∀i,RepV ⟨G.imm,λ_=>none⟩ W (.agg (enc i).toArray) (.d (.agg (E (at_ i)))):=λi => .d (.agg _ _ (hl i) (λj h1 h2=>(hr i j h1 h2).ext (λ_ _ h=>h) hc))
 have hargs:tL ⟨G.imm,λ_=>none⟩ W [.agg (enc x).toArray,.agg (enc y).toArray] [.d (.agg (E (at_ x))),.d (.agg (E (at_ y)))]:=by
  refine⟨rfl,λi h1 h2 => ?_⟩
  match i with
  | 0=>exact rep x
  | 1=>exact rep y
  | i+2=>exact absurd h1 (by simp)
 refine (hg _ _ _ (hcf x y) _ W [.agg (enc x).toArray,.agg (enc y).toArray] i1 hargs).mono ?_
 rintro e w' ⟨v,G',S',tk',U',ν,rfl,i2,rv,_,_,_,_⟩
 have hv:v = .int .i64 (cf x y):=by
  have:RepV G' w' v (.d (.int .i64 (cf x y))):=rv
  exact this.int_inv
 refine⟨by rw [hv],w'.drawn-W.drawn,w'.heap.extract W.heap.size,?_⟩
 have hM:∀k',¬DR ⟨G.imm,λ_=>none⟩ [] k':=λk' ⟨i,bx,_,_,hx,_⟩=>by simp at hx
 have hheap:w'.heap=W.heap++w'.heap.extract W.heap.size:=by
  have hsz:=(@Inv.size dmT _ _ _ _ _ _ i2)
  have hfr:=λk' hk=>(@Inv.frame dmT _ _ _ _ _ _ i2) k' hk (hM k')
  refine Array.ext_getElem? (λj => ?_)
  by_cases hj:j<W.heap.size
  ·rw [Array.getElem?_append_left hj];exact hfr j hj
  ·rw [Array.getElem?_append_right (by omega),Array.getElem?_extract]
   split
   ·rw [show W.heap.size+(j-W.heap.size)=j by omega]
   ·rename_i hx
    simp only [Nat.not_lt]at hx
    have:w'.heap.size<=j:=by have h1:W.heap.size<=w'.heap.size:=hsz;omega
    simp [this]
 have hd:W.drawn+(w'.drawn-W.drawn)=w'.drawn:=by have:W.drawn<=w'.drawn:=(@Inv.dr dmT _ _ _ _ _ _ i2) rfl;omega
 have e1:w'.tape=W.tape:=(@Inv.tape dmT _ _ _ _ _ _ i2)
 have e2:w'.os=W.os:=(@Inv.os dmT _ _ _ _ _ _ i2)
 have e3:w'.output=W.output:=(@Inv.output dmT _ _ _ _ _ _ i2)
 unfold grow World.drewN
 show w' = { heap:=W.heap++w'.heap.extract W.heap.size,tape:=W.tape,drawn:=W.drawn+(w'.drawn-W.drawn),os:=W.os,output:=W.output }
 rw [hd,<- hheap,<- e1,<- e2,<- e3]
section
variable {α:Type}
def qB (F:α->α->Option Int) (x:α) (l:List α) (i j:Fin (l.length+1)):Int:=(F ((x::l).get i) ((x::l).get j)).getD 0
def ym {n:Nat} (lt:Fin (n+1)->Fin (n+1)->Bool):List (Fin (n+1)):=(pdq lt (Array.ofFn λi=>i) 0 (n+1) (Lib.bitLen (n+1)) true true).toList
open Classical in
noncomputable def yB (F:α->α->Option Int):List α->Option (List α)
 | []=>some []
 | x::l=>if l.length+1<4611686018427387904/\(∀i j:Fin (l.length+1),(F ((x::l).get i) ((x::l).get j)).isSome=true)/\SWO (ltOf (qB F x l))then
   some ((ym (ltOf (qB F x l))).map (x::l).get)else none
theorem OH {F:α->α->Option Int} {x:α} {l r:List α} (h:yB F (x::l)=some r) :
  (l.length+1<4611686018427387904/\(∀i j:Fin (l.length+1),(F ((x::l).get i) ((x::l).get j)).isSome=true)/\SWO (ltOf (qB F x l)))/\(ym (ltOf (qB F x l))).map (x::l).get=r:=by
 by_cases hc:l.length+1<4611686018427387904/\(∀i j:Fin (l.length+1),(F ((x::l).get i) ((x::l).get j)).isSome=true)/\SWO (ltOf (qB F x l))
 ·have e:yB F (x::l)=some ((ym (ltOf (qB F x l))).map (x::l).get):=if_pos hc
  rw [e]at h
  exact⟨hc,Option.some.inj h⟩
 ·have e:yB F (x::l)=none:=if_neg hc
  rw [e]at h
  cases h
theorem extract_all {β:Type} (d:Array β) {m:Nat} (h:d.size=m):d.extract 0 m=d:=by subst h;exact Array.extract_size
theorem Gs {n:Nat} {lt:Fin (n+1)->Fin (n+1)->Bool} (hO:SWO lt) :
  (ym lt).Perm (List.finRange (n+1))/\(ym lt).Pairwise (λa b=>lt b a=false)/\(ym lt).length=n+1/\(pdq lt (Array.ofFn λi=>i) 0 (n+1) (Lib.bitLen (n+1)) true true).size=n+1:=by
 have hs:(Array.ofFn λi:Fin (n+1)=>i).size=n+1:=by simp
 obtain ⟨⟨h1,_,h2⟩,h3⟩:=pdq_sorts lt hO (Array.ofFn λi=>i) 0 (n+1) (Lib.bitLen (n+1)) true true (Nat.zero_le _) (by rw [hs];exact Nat.le_refl _) (Or.inl rfl)
 have hsz:(pdq lt (Array.ofFn λi=>i) 0 (n+1) (Lib.bitLen (n+1)) true true).size=n+1:=h1.trans hs
 refine⟨?_,?_,?_,hsz⟩
 ·unfold ym
  generalize pdq lt (Array.ofFn λi=>i) 0 (n+1) (Lib.bitLen (n+1)) true true=d' at *
  have e1:d'.extract 0 (n+1)=d':=extract_all d' hsz
  have e2:(Array.ofFn λi:Fin (n+1)=>i).extract 0 (n+1)=Array.ofFn λi:Fin (n+1)=>i:=extract_all _ hs
  rw [e1,e2]at h2
  refine h2.trans (List.Perm.of_eq ?_)
  rw [Array.toList_ofFn];rfl
 ·unfold ym
  generalize pdq lt (Array.ofFn λi=>i) 0 (n+1) (Lib.bitLen (n+1)) true true=d' at *
  refine List.pairwise_iff_getElem.2 (λi j hi hj hij => ?_)
  have:=h3 i j (Nat.zero_le _) hij (by rw [<- hsz];simpa using hj)
  have a1:i<d'.size:=by simpa using hi
  have a2:j<d'.size:=by simpa using hj
  simpa [getElem!_pos d' i a1,getElem!_pos d' j a2]using this
 ·unfold ym;simpa using hsz
theorem Fu {F:α->α->Option Int} (c:α->α->Int) {xs:List α} (hl:xs.length<4611686018427387904) (hF:∀a∈xs,∀b∈xs,F a b=some (c a b))
  (hi:∀a∈xs,¬c a a<0) (ht:∀a∈xs,∀b∈xs,∀d∈xs,c a b<0->c b d<0->c a d<0) (hn:∀a∈xs,∀b∈xs,∀d∈xs,¬c a b<0->¬c b d<0->¬c a d<0) :
  ∃r,yB F xs=some r/\r.Perm xs/\r.Pairwise (λa b=>¬c b a<0):=by
 cases xs with
 | nil=>exact⟨[],rfl,.refl _,.nil⟩
 | cons x l =>
  have hm:∀i:Fin (l.length+1),(x::l).get i∈x::l:=λi=>List.get_mem (x::l) i
  have hc:∀i j,qB F x l i j=c ((x::l).get i) ((x::l).get j):=λi j=>by unfold qB;rw [hF _ (hm i) _ (hm j)];rfl
  have hO:SWO (ltOf (qB F x l)):=by
   constructor
   ·intro i;unfold ltOf;rw [hc];exact decide_eq_false (hi _ (hm i))
   ·intro i j k h1 h2
    unfold ltOf at *;rw [hc]at *
    exact decide_eq_true (ht _ (hm i) _ (hm j) _ (hm k) (of_decide_eq_true h1) (of_decide_eq_true h2))
   ·intro i j k h1 h2
    unfold ltOf at *;rw [hc]at *
    exact decide_eq_false (hn _ (hm i) _ (hm j) _ (hm k) (of_decide_eq_false h1) (of_decide_eq_false h2))
  obtain ⟨p1,p2,p3,_⟩:=Gs hO
  refine⟨(ym (ltOf (qB F x l))).map (x::l).get,?_,?_,?_⟩
  ·exact if_pos ⟨hl,λi j=>by rw [hF _ (hm i) _ (hm j)];rfl,hO⟩
  ·refine (p1.map _).trans (List.Perm.of_eq ?_)
   exact List.ext_getElem (by simp) (λi h1 h2=>by simp)
  ·rw [List.pairwise_map]
   exact p2.imp (λ{i j} h=>by unfold ltOf at h;rw [hc]at h;exact of_decide_eq_false h)
end
theorem Gi {α:Type} (E:α->List D) (k:Nat) (hE:∀x,(E x).length=k) (xs:List α):(Box.vec k (xs.map E)).all.length=xs.length*k:=by
 induction xs with
 | nil=>simp [Box.all]
 | cons x xs ih =>
  simp only [Box.all,List.map_cons,List.flatten_cons,List.length_append,List.length_map,List.length_cons,hE]at ih ⊢
  rw [ih,Nat.add_mul];omega
theorem Io {α:Type} {E:α->List D} {k:Nat} (hE:∀x,(E x).length=k) {P:Program} {f g:FuncId} {F:α->α->Option Int}
  (hg:∀a b r,F a b=some r -> @FnM dmT P g [.d (.agg (E a)),.d (.agg (E b))] [] (vI r) []) (hb:aL P g=true)
  (hC:∀(β:Type) [Inhabited β] (enc:β->List Value) (hk:∀x,(enc x).length=k) (h1:∀x,∀v∈enc x,v.oneCell'=true) (cf:β->β->Int) (hO:SWO (ltOf cf)) (g:Nat) (cb:Array Value) (blk off cap:Nat) (d:Array β) (w:World)
   (eg:∀args w,(callFunc g args).run P w = .ok (.enter g args) w) (hcmp:CmpLays P g cb enc k cf blk off d.size w) (hH:HoldsK enc k w blk off d) (hblk:blk<w.heap.size) (hsz:d.size<4611686018427387904),
   Calls P f #[.slice (some ⟨blk,off,none⟩) d.size cap,.func (.func g) #[] cb] w λe w'=>e = .returned (.tuple #[])/\∃n os,w'=sortWorldK enc k w blk off n (pdq (ltOf cf) d 0 d.size (Lib.bitLen d.size) true true) os)
  (h0:∀(p:Option Addr) (cap:Nat) (fv:Value) (w:World),Calls P f #[.slice p 0 cap,fv] w λe w'=>e = .returned (.tuple #[])/\w'=w)
  {xs r:List α} (hF:yB F xs=some r) :
  FnM P f [dV (aG 0) k xs,.fn g []] (([]:List Box)++gI k E xs) (.tup []) (([]:List Box).map some++gT xs (gB k E r)):=by
 have unit:∀G w,RepV G w (.tuple #[]) (.tup []):=λG w => .tup [] [] rfl (λi h1=>absurd h1 (Nat.not_lt_zero i))
 intro G w vargs hinv hargs
 obtain ⟨v,v2,rfl,hv,hf⟩:=hargs.two
 obtain rfl:v2 = .func (.func g) #[] #[]:=by
  cases hf with
  | fn _ arr _ hl _ =>
   obtain rfl:arr=[]:=List.eq_nil_of_length_eq_zero hl
   rfl
 cases xs with
 | nil =>
  have hv':RepD G.imm w v (.sl []):=hv.d_inv
  obtain ⟨p,cap,rfl⟩:∃p cap,v = .slice p 0 cap:=by
   cases hv' with
   | sl0 a cap=>exact⟨_,_,rfl⟩
   | sl b off cap sz xs us=>exact⟨_,_,rfl⟩
  refine (h0 p cap _ w).mono ?_
  rintro e w' ⟨rfl,rfl⟩
  exact⟨_,G,iA [],1,_,[],rfl,hinv,unit _ _,rfl,List.nodup_nil,λi hi=>absurd hi (Nat.not_lt_zero i),λi bx hb=>by simp [gT]at hb⟩
 | cons x l =>
  obtain ⟨⟨hlen,hsome,hO⟩,hF⟩:=OH hF
  ·skip
   obtain ⟨p1,p2,p3,p4⟩:=Gs hO
   have hrl:r.length=l.length+1:=by rw [<- hF,List.length_map,p3]
   have hB:gB k E r=some (.vec k (r.map E)):=by
    cases r with
    | nil=>simp at hrl
    | cons a b=>rfl
   have hI:(([]:List Box)++gI k E (x::l))=[.vec k ((x::l).map E)]:=rfl
   have hT:(([]:List Box).map some++gT (x::l) (gB k E r))=[some (.vec k (r.map E))]:=by rw [hB];rfl
   rw [hI]at hinv ⊢
   rw [hT]
   have hS:iA [.vec k ((x::l).map E)] (aG 0)=some (.vec k ((x::l).map E)):=by rw [AX];rfl
   obtain ⟨b,o,sz,hmu,hst,hEv⟩:=hinv.box _ _ hS
   have hst':Stands G w (.vec k ((x::l).map E)) b o sz:=hst
   obtain rfl:sz=k:=hst'.sz
   have hv':RepV G w v (.vs (aG 0) sz 0 (l.length+1)):=hv
   generalize hk:l.length+1=n at hv'
   cases hv' with
   | vs0=>omega
   | @vs _ b2 o2 _ _ _ cap hm hcap hb2 =>
    rw [hmu]at hm
    simp only [so_,Prod.mk.injEq]at hm
    obtain ⟨rfl,rfl,_⟩:=hm
    subst hk
    obtain ⟨⟨arr,elem,harr⟩,hnoimm⟩:=hst'.free rfl
    have hgl:∀i:Fin (l.length+1),i.1<((x::l).map E).length:=λi=>by rw [List.length_map];exact i.2
    have hex:∀i:Fin (l.length+1),∃us:Nat->Value,(∀j,j<sz->w.cell? ⟨b,o+i.1*sz+j,none⟩=some (us j)/\(us j).oneCell'=true)/\∀j (hj:j<(E ((x::l).get i)).length),RepD G.imm w (us j) (E ((x::l).get i))[j]:=λi=>by
     obtain ⟨hl,us,u1,u2⟩:=hst'.elem (.inl rfl) i.1 (hgl i)
     have e:((x::l).map E)[i.1]'(hgl i)=E ((x::l).get i):=by rw [List.getElem_map];rfl
     rw [e]at hl
     refine⟨us,λj hj=>u1 j (by rw [e,hl];exact hj),λj hj => ?_⟩
     have:=u2 j (by rw [e];exact hj)
     simp only [e]at this
     exact this
    let enc:Fin (l.length+1)->List Value:=λi=>(List.range sz).map λj=>(w.cell? ⟨b,o+i.1*sz+j,none⟩).getD undef
    have henc:∀i,(enc i).length=sz:=λi=>by simp [enc]
    have hencj:∀i j (hj:j<(enc i).length),∃u,(enc i)[j]=u/\w.cell? ⟨b,o+i.1*sz+j,none⟩=some u/\u.oneCell'=true/\∀(h2:j<(E ((x::l).get i)).length),RepD G.imm w u (E ((x::l).get i))[j]:=λi j hj=>by
     obtain ⟨us,u1,u2⟩:=hex i
     have hj':j<sz:=by rw [henc]at hj;exact hj
     refine⟨us j,?_,(u1 j hj').1,(u1 j hj').2,λh2=>u2 j h2⟩
     simp [enc,(u1 j hj').1]
    have h1:∀i,∀v∈enc i,v.oneCell'=true:=λi v hv=>by
     obtain ⟨j,hj,rfl⟩:=List.getElem_of_mem hv
     obtain ⟨u,e,_,h,_⟩:=hencj i j hj
     rw [e];exact h
    have hds:(Array.ofFn λi:Fin (l.length+1)=>i).size=l.length+1:=by simp
    have hdg:∀t (h:t<l.length+1),(Array.ofFn λi:Fin (l.length+1)=>i)[t]! = ⟨t,h⟩:=λt h=>by
     rw [getElem!_pos _ t (by simpa using h)];simp
    have hget:∀(i:Fin (l.length+1)) c,c<sz->w.cell? ⟨b,o+i.1*sz+c,none⟩=some (enc i)[c]! := λi c hc=>by
     obtain ⟨u,e,h,_⟩:=hencj i c (by rw [henc];exact hc)
     rw [getElem!_pos _ c (by rw [henc];exact hc),e];exact h
    have hH:HoldsK enc sz w b o (Array.ofFn λi:Fin (l.length+1)=>i):=λt ht=>by
     have ht':t<(l.length+1)*sz:=by simpa using ht
     have hk0:0<sz:=by
      rcases Nat.eq_zero_or_pos sz with h|h
      ·rw [h]at ht';omega
      ·exact h
     have htd:t / sz<l.length+1:=Nat.div_lt_of_lt_mul (by rw [Nat.mul_comm];exact ht')
     refine⟨?_,by simp only [World.frozen?,harr];simp⟩
     rw [get_flatK _ _ _ _ (by rw [hds];exact ht'),hdg _ htd]
     have:=hget ⟨t / sz,htd⟩ (t % sz) (Nat.mod_lt _ hk0)
     have e:o+t / sz*sz+t % sz=o+t:=by have:=Nat.div_add_mod t sz;rw [Nat.mul_comm]at this;omega
     simp only [e]at this
     exact this
    have hcf:∀i j,F ((x::l).get i) ((x::l).get j)=some (qB F x l i j):=λi j=>by
     have:=hsome i j
     unfold qB
     cases hx:F ((x::l).get i) ((x::l).get j)with
     | none=>rw [hx]at this;cases this
     | some a=>rfl
    have hcmp:=QA (E:=E) (P:=P) (g:=g) hg (x::l).get enc (k:=sz) (qB F x l) hcf hinv (b:=b) (o:=o) (n:=l.length+1) hnoimm (hinv.bound _ _ _ _ hmu) (λi=>by rw [henc,hE]) (λi j k1 k2=>by
     obtain ⟨u,e,_,_,h⟩:=hencj i j k1
     rw [e];exact h k2)
    have hadr:(⟨b,o+0*sz,none⟩:Addr)=⟨b,o,none⟩:=by simp
    show Calls P f #[.slice (some ⟨b,o+0*sz,none⟩) (l.length+1) cap,.func (.func g) #[] #[]] w _
    rw [hadr]
    have hcall:=hC (Fin (l.length+1)) enc henc h1 (qB F x l) hO g #[] b o cap (Array.ofFn λi=>i) w (λargs w=>EN (C:=⟨P,0,[],[]⟩) hb w) (by rw [hds];exact hcmp) hH (hinv.bound _ _ _ _ hmu) (by rw [hds];exact hlen)
    rw [hds]at hcall
    refine hcall.mono ?_
    rintro e w' ⟨rfl,m,os,rfl⟩
    generalize hd':pdq (ltOf (qB F x l)) (Array.ofFn λi=>i) 0 (l.length+1) (Lib.bitLen (l.length+1)) true true=d' at *
    have hrd:r=d'.toList.map (x::l).get:=by rw [<- hF];unfold ym;rw [hd']
    have hput:=F8 (ev:=(id:Value->Value)) (o:=o) (d:=flatK enc sz d') (w:=Sort.ahead w m) (b:=b) (arr:=arr) (t:=elem) (fr:=(0,0)) harr
    have hpsz:(putCells (id:Value->Value) o (flatK enc sz d') arr).size=arr.size:=by simp [putCells]
    have hHp:HoldsK enc sz (putRowK enc sz (Sort.ahead w m) b o d') b o d':=holdsK_putRowK enc sz (Sort.ahead w m) b o (Array.ofFn λi=>i) d' (holdsK_ahead enc sz w m b o _ hH) (by rw [p4,hds])
    have hroom0:=hst'.room
    rw [Gi E sz hE,bG harr]at hroom0
    obtain ⟨i1,e1⟩:=hinv.write (w':=putRowK enc sz (Sort.ahead w m) b o d') hS rfl hmu (λb' hb'=>wN hb') (by simp [putRowK,putRow,mapBlock,Sort.ahead]) (by rw [bG harr];show _<=bsize (putRow id (Sort.ahead w m) b o (flatK enc sz d')) b;rw [bG hput,hpsz];exact Nat.le_refl _) (λe he=>by rw [l8 harr]at he;show elemAt (putRow id (Sort.ahead w m) b o (flatK enc sz d')) b=_;rw [l8 hput];exact he) hnoimm rfl rfl rfl (.vec sz (r.map E)) (λex=>by
     show Stands _ _ _ _ _ _
     refine { sz:=rfl,even:=λy hy=>by obtain ⟨z,_,rfl⟩:=List.mem_map.1 hy;exact hE z,room := ?_,cell:=λj hj => ?_,free:=λ_=>⟨⟨_,_,hput⟩,hnoimm⟩,froz:=λe=>by cases e }
     ·rw [Gi E sz hE]
      show _<=bsize (putRow id (Sort.ahead w m) b o (flatK enc sz d')) b
      rw [bG hput,hpsz,hrl];simpa using hroom0
     ·have hj':j<(l.length+1)*sz:=by rw [Gi E sz hE,hrl]at hj;exact hj
      have hk0:0<sz:=by
       rcases Nat.eq_zero_or_pos sz with h|h
       ·rw [h]at hj';omega
       ·exact h
      have htd:j / sz<d'.size:=by rw [p4];exact Nat.div_lt_of_lt_mul (by rw [Nat.mul_comm];exact hj')
      have hmod:=Nat.mod_lt j hk0
      obtain ⟨c1,_⟩:=hHp.cell htd hmod
      have ej:o+j / sz*sz+j % sz=o+j:=by have:=Nat.div_add_mod j sz;rw [Nat.mul_comm]at this;omega
      rw [ej]at c1
      obtain ⟨u,e,_,h,hrep⟩:=hencj d'[j / sz]! (j % sz) (by rw [henc];exact hmod)
      have hel:(E ((x::l).get d'[j / sz]!)).length=sz:=hE _
      have hrep':=hrep (by rw [hel];exact hmod)
      refine⟨u,?_,h,?_⟩
      ·rw [c1,getElem!_pos _ (j % sz) (by rw [henc];exact hmod),e]
      ·have hev:∀y∈(r.map E).map (λx=>x.map V.d),y.length=sz:=λy hy=>by
        obtain ⟨z,hz,rfl⟩:=List.mem_map.1 hy
        obtain ⟨z',_,rfl⟩:=List.mem_map.1 hz
        rw [List.length_map];exact hE z'
       have hri:j / sz<r.length:=by rw [hrl,<- p4];exact htd
       have hrg:r[j / sz]=(x::l).get d'[j / sz]! := by
        have:r[j / sz]? = some ((x::l).get d'[j / sz]!):=by
         rw [hrd,List.getElem?_map,Array.getElem?_toList,Array.getElem?_eq_getElem htd,getElem!_pos d' _ htd];rfl
        rw [List.getElem?_eq_getElem hri]at this
        exact Option.some.inj this
       obtain ⟨g1,g2⟩:=flat_get sz _ hev (j / sz) (j % sz) (by simpa using hri) (by simpa [hE]using hmod)
       have ei:j / sz*sz+j % sz=j:=by have:=Nat.div_add_mod j sz;rw [Nat.mul_comm]at this;omega
       have eall:(Box.vec sz (r.map E)).all[j]'hj=V.d ((E (r[j / sz]))[j % sz]'(by rw [hE];exact hmod)):=by
        have:(Box.vec sz (r.map E)).all[j]? = some (V.d ((E (r[j / sz]))[j % sz]'(by rw [hE];exact hmod))):=by
         show ((r.map E).map λx=>x.map V.d).flatten[j]? = _
         have g1':j / sz*sz+j % sz<((r.map E).map λx=>x.map V.d).flatten.length:=g1
         rw [ei]at g1'
         rw [List.getElem?_eq_getElem g1']
         have g2':=g2
         simp only [ei]at g2'
         rw [g2'];simp
        rw [List.getElem?_eq_getElem hj]at this
        exact Option.some.inj this
       rw [eall]
       refine .d ?_
       simp only [hrg]
       exact hrep'.ext ex.imm ex.cell) (λ_=>Nat.le_add_right _ _)
    obtain ⟨i2,e2⟩:=i1.more (w':=sortWorldK enc sz w b o m d' os) (λb' hb'=>by
     show ((putRowK enc sz (Sort.ahead w m) b o d').heap++os)[b']? = _
     rw [Array.getElem?_append_left hb']) (by simp [sortWorldK,grow]) rfl rfl rfl (λ_ _ h=>h) (λ_ _ h => .inl h) rfl (λ_ h=>h)
    refine⟨_,G,_,1,_,[aG 0],rfl,i2,unit _ _,rfl,by simp,λi hi => ?_,λi bx hb => ?_⟩
    ·have:i=0:=by simpa using hi
     subst this;rfl
    ·cases i with
     | zero =>
      simp only [List.getElem?_cons_zero,so_]at hb
      subst hb
      exact⟨aG 0,rfl,by simp [supd,Box.ren]⟩
     | succ i=>simp at hb
end Go.Eng

