/-
  The engine: what the machine does to data, shown once for all programs (part 3).
-/
import Derived.Test.YtljhfffghjclfabGreatDoorEng2
import Derived.Tactics
import Derived.KernelRfl
import Derived.IntWalk
import Derived.Lib.Bytealg
/-
  THE ENGINE: a function's body as a condition on data ('wpD'), and that the machine meets it.
-/
namespace Go.Eng
set_option linter.unusedSectionVars false
variable [DM]
def jU:List Oper->Bool
  | []=>true
  | o::r=>(match o.dst with
    | some d=>r.all λh=>match h.dst with
      | some A => !(Nat.beq d A)
      | none=>true
    | none=>true)&&jU r
def y7 (C:Cfg) (ops:List Oper):Bool:=ops.all (xA C)&&jU ops
def envS:List (Nat×V)->Nat->V
  | [],_ => .any
  | (k,v)::l,j=>bif Nat.beq j k then v else envS l j
theorem J3 (sl:Nat->V):∀(ks:List Nat) (j:Nat),envS (ks.map λk=>(k,sl k)) j=sl j\/envS (ks.map λk=>(k,sl k)) j = .any
  | [],_ => .inr rfl
  | k::ks,j=>by
    simp only [List.map_cons,envS]
    cases h:Nat.beq j k with
    | true=>rw [Nat.eq_of_beq_eq_true h];exact .inl rfl
    | false=>exact J3 sl ks j
inductive NilD:List V->List V->Prop
  | nil:NilD [] []
  | same (v:V) {a b:List V}:NilD a b->NilD (v::a) (v::b)
  | nils {a b:List V}:NilD a b->NilD (.nil::a) (.d .nils::b)
theorem NilD.rep {G:Gh} {w:World} {cs o:List V} (h:NilD cs o):cs.length=o.length/\∀(i:Nat) (h1:i<cs.length) (h2:i<o.length) (u:Value),RepV G w u cs[i]↔RepV G w u o[i]:=by
  induction h with
  | nil=>exact⟨rfl,λi h1=>absurd h1 (Nat.not_lt_zero i)⟩
  | same v _ A =>
    refine⟨by simp [A.1],λi h1 h2 u => ?_⟩
    cases i with
    | zero=>exact Iff.rfl
    | succ i=>exact A.2 i (by simpa using h1) (by simpa using h2) u
  | nils _ A =>
    refine⟨by simp [A.1],λi h1 h2 u => ?_⟩
    cases i with
    | zero =>
      refine⟨λh => ?_,λh => ?_⟩
      · have B:RepV G w u .nil:=h
        cases B with
        | nil a=>exact .d (.nils a)
      · have B:RepV G w u (.d .nils):=h
        have h2:=B.d_inv
        cases h2 with
        | nils a=>exact .nil a
    | succ i=>exact A.2 i (by simpa using h1) (by simpa using h2) u
inductive Gst:St->St->Prop
  | refl (σ:St):Gst σ σ
  | forget (σ:St) (ks:List Nat):Gst σ ⟨envS (ks.map λk=>(k,σ.slots k)),σ.store,σ.tick⟩
  | froz (σ:St) (n:Nm):Gst σ ⟨σ.slots,freezeAll σ.store [n],σ.tick⟩
  | co (σ:St) (k:Nat):Gst σ ⟨upd σ.slots k (co σ.store (σ.slots k)),σ.store,σ.tick⟩
  | coB (σ:St) (n:Nm) (sz:Nat) (cs:List V) (h:σ.store n=some (.cells sz cs)):Gst σ ⟨σ.slots,supd σ.store n (some (.cells sz (cs.map (co1 σ.store)))),σ.tick⟩
  | coM (σ:St) (n:Nm) (sz:Nat) (cs cs':List V) (h:σ.store n=some (.cells sz cs)) (hl:cs'.length=cs.length) (hc:∀j (h1:j<cs'.length) (h2:j<cs.length),cs'[j]=cs[j]\/cs'[j]=co1 σ.store cs[j]):Gst σ ⟨σ.slots,supd σ.store n (some (.cells sz cs')),σ.tick⟩
  | shr (σ:St) (n:Nm) (sz m:Nat) (xs:List (List D)) (h:σ.store n=some (.vec sz xs)):Gst σ ⟨σ.slots,supd σ.store n (some (.vec sz (xs.take m))),σ.tick⟩
  | pm (σ:St) (n:Nm) (h:σ.store n=some (.map [])):Gst σ ⟨σ.slots,supd σ.store n (some (.pmap [])),σ.tick⟩
  | wild (σ:St) (i:Nat) (n:Nm) (sz k len:Nat) (xs:List (List D)) (h:σ.store n=some (.vec sz xs)) (hi:σ.slots i = .vs n sz k len):Gst σ ⟨upd σ.slots i (.d (.wild sz len)),supd σ.store n none,σ.tick⟩
  | nild (σ:St) (i:Nat) (cs cs':List V) (hi:σ.slots i = .agg cs) (hc:NilD cs cs'):Gst σ ⟨upd σ.slots i (mkAgg cs'),σ.store,σ.tick⟩
  | c2v (σ:St) (n:Nm) (sz:Nat) (xs:List (List D)) (h:σ.store n=some (.cells sz (xs.flatten.map .d))) (he:∀x∈xs,x.length=sz):Gst σ ⟨σ.slots,supd σ.store n (some (.vec sz xs)),σ.tick⟩
  | v2c (σ:St) (n:Nm) (sz:Nat) (xs:List (List D)) (cs:List V) (h:σ.store n=some (.vec sz xs)) (hs:1<sz) (hs2:sz<1048576) (hc:NilD cs (xs.flatten.map .d)):Gst σ ⟨σ.slots,supd σ.store n (some (.cells sz cs)),σ.tick⟩
  | wild0 (σ:St) (i sz:Nat) (hi:σ.slots i = .nil\/σ.slots i = .d (.sl [])):Gst σ ⟨upd σ.slots i (.d (.wild sz 0)),σ.store,σ.tick⟩
  | trans {a b c:St}:Gst a b->Gst b c->Gst a c
def FZ (C:Cfg) (all:List Oper) (tk:Nat) (K:(Nat->V)->Store->Prop):List Oper->(Nat->V)->Store->Prop
  | [],sl,S=>K sl S
  | o::rest,sl0,h=>∃sl S,Gst ⟨sl0,h,tk⟩ ⟨sl,S,tk⟩/\match aL all sl o with
    | some true=>(opD C o sl S tk λA=>FZ C all tk K rest (dE sl o.dst A.val) (dn S A.upd))\/OL C o sl S tk λA=>FZ C all tk K rest (dE sl o.dst A.val) (dn S A.upd)
    | some false=>FZ C all tk K rest (dE sl o.dst .none) S
    | none=>False
def DU (all:List Oper) (k:Nat) (A:Eff):List (Nat×Eff)->Prop
  | []=>True
  | (j,B)::L=>(Dis A B\/Au all 8 j k=true)/\DU all k A L
def opsL (C:Cfg) (all:List Oper) (tk:Nat) (K:(Nat->V)->Store->Prop):List Oper->Nat->List (Nat×Eff)->(Nat->V)->Store->Prop
  | [],_,_,sl,S=>K sl S
  | o::rest,k,L,sl,S=>match aL all sl o with
    | some true=>opD C o sl S tk λA=>DU all k A L/\opsL C all tk K rest (k+1) ((k,A)::L) (dE sl o.dst A.val) (dn S A.upd)
    | some false=>opsL C all tk K rest (k+1) L (dE sl o.dst .none) S
    | none=>False
def Ni (C:Cfg) (ops:Array Oper) (h:Bool) (σ:St) (K:St->Prop):Prop :=
  y7 C ops.toList=true /\
  bif h then (C.P.follows .mixedOrders=true/\Region.lexB .any ops=true/\opsL C ops.toList σ.tick (λsl S=>K ⟨sl,S,σ.tick+1⟩) ops.toList 0 [] σ.slots σ.store)
  else FZ C ops.toList σ.tick (λsl S=>K ⟨sl,S,σ.tick+1⟩) ops.toList σ.slots σ.store
def condD (v:V) (x y:Prop):Prop:=∃t,v = .d (.bool t)/\(t=true->x)/\(t=false->y)
def seqQ (K:St->Prop) (Q:Exit->St->Prop):Exit->St->Prop
  | .normal,σ=>K σ
  | e,σ=>Q e σ
def JJ (id:Nat) (Q:Exit->St->Prop):Exit->St->Prop
  | .exit h,σ=>bif Nat.beq h id then Q .normal σ else Q (.exit h) σ
  | e,σ=>Q e σ
def wpD (C:Cfg):Code->(Exit->St->Prop)->St->Prop
  | .skip,Q,σ=>Q .normal σ
  | .seq a b,Q,σ=>wpD C a (seqQ (λσ=>∃h,Gst σ h/\wpD C b Q h) Q) σ
  | .cond c x y,Q,σ=>condD (ev σ.slots c) (∃h,Gst σ h/\wpD C x Q h) (∃h,Gst σ h/\wpD C y Q h)
  | .block id c,Q,σ=>wpD C c (JJ id Q) σ
  | .exit id,Q,σ=>Q (.exit id) σ
  | .ret,Q,σ=>Q .ret σ
  | .loop c,Q,σ=>∃(I:St->Prop) (m:St->Nat),(∃F,Gst σ F/\I F)/\∀h,I h->wpD C c (seqQ (λB=>∃A,Gst B A/\I A/\m A<m h) Q) h
  | .region _ ops o,Q,σ=>Ni C ops o σ (Q .normal)
  | _,_,_=>False
def Gn (C:Cfg) (E:Env) (G:Gh) (w:World) (a:Act) (σ:St):Prop:=Reg C E G w a σ.slots σ.store σ.tick (λ_=>False)
section
variable {C:Cfg} {E:Env}
theorem rO:∀{l:List Oper} (_:jU l=true) (i j:Nat) (o A:Oper) (d:Nat),l[i]? = some o->l[j]? = some A->o.dst=some d->A.dst=some d->i=j
  | [],_,i,j,o,A,d,h1,_,_,_=>by simp at h1
  | x::l,h,0,0,o,A,d,_,_,_,_=>rfl
  | x::l,h,0,j+1,o,A,d,h1,h2,F,I=>by
    simp only [List.getElem?_cons_zero,so_]at h1
    subst h1
    simp only [jU,F,Bool.and_eq_true]at h
    have B:=List.all_eq_true.1 h.1 A (List.mem_of_getElem? (by simpa using h2))
    simp only [I]at B
    have:Nat.beq d d=true:=Nat.beq_refl d
    rw [this]at B;cases B
  | x::l,h,i+1,0,o,A,d,h1,h2,F,I=>by
    simp only [List.getElem?_cons_zero,so_]at h2
    subst h2
    simp only [jU,I,Bool.and_eq_true]at h
    have B:=List.all_eq_true.1 h.1 o (List.mem_of_getElem? (by simpa using h1))
    simp only [F]at B
    have:Nat.beq d d=true:=Nat.beq_refl d
    rw [this]at B;cases B
  | x::l,h,i+1,j+1,o,A,d,h1,h2,F,I=>by
    simp only [jU,Bool.and_eq_true]at h
    rw [rO h.2 i j o A d (by simpa using h1) (by simpa using h2) F I]
theorem yz {ops:Array Oper} (h:y7 C ops.toList=true) {j:Nat} {o:Oper} (ho:ops[j]? = some o):xA C o=true:=by
  simp only [y7,Bool.and_eq_true]at h
  exact List.all_eq_true.1 h.1 o (List.mem_of_getElem? (by simpa using ho))
theorem nk {o:Oper} (h:xA C o=true) {d:Nat} (A:o.dst=some d):d<C.n/\d<100000:=by
  simp only [xA,A,Bool.and_eq_true]at h
  exact⟨by simpa [Nat.blt_eq]using h.1,by simpa [Nat.blt_eq]using h.2⟩
def Nl (pre:List Oper) (n:Nat):Prop:=∃o∈pre,o.dst=some (n % 100000)
theorem Gst.okR {U:Nat->Prop} {σ σ':St} (h:Gst σ σ'):∀{G:Gh} {w:World} {a:Act},Reg C E G w a σ.slots σ.store σ.tick U->∃G',Reg C E G' w a σ'.slots σ'.store σ'.tick U:=by
  induction h with
  | refl σ=>exact λhc=>⟨_,hc⟩
  | forget σ ks =>
    intro G w a hc
    have ht:∀i,RepV G w (a.tmps.getD i undef) (envS (ks.map λk=>(k,σ.slots k)) i):=λi=>by
      rcases J3 σ.slots ks i with e|e
      · rw [e];exact hc.tm i
      · rw [e];exact .any _
    exact⟨G,{ hc with tm:=ht }⟩
  | froz σ n =>
    intro G w a hc
    obtain ⟨G',i,e⟩:=oP [n] hc.inv
    exact⟨G',{ sz:=hc.sz,df:=hc.df,tm:=λj=>(hc.tm j).ext e,inv:=i }⟩
  | co σ k =>
    intro G w a hc
    have ht:∀i,RepV G w (a.tmps.getD i undef) (upd σ.slots k (Eng.co σ.store (σ.slots k)) i):=λi=>by
      simp only [upd]
      cases h:Nat.beq i k with
      | true=>rw [Nat.eq_of_beq_eq_true h];exact IQ hc.inv (hc.tm k)
      | false=>exact hc.tm i
    exact⟨G,{ hc with tm:=ht }⟩
  | coB σ n sz cs h =>
    intro G w a hc
    refine⟨G,{ sz:=hc.sz,df:=hc.df,tm:=hc.tm,inv := { hc.inv with box:=λm bx hm => ?_,one:=λn1 n2 b1 b2 b o s1 X s2 h1 h2 B Y W => ?_ } }⟩
    · by_cases e:m=n
      · subst e
        simp only [supd,if_true,so_]at hm
        subst hm
        obtain ⟨b,o,sz1,F,I,hm⟩:=hc.inv.box m _ h
        refine⟨b,o,sz1,F,?_,λ_=>hm rfl⟩
        have A:Stands G w (.cells sz cs) b o sz1:=I
        have:Stands G w (.cells sz (cs.map (co1 σ.store))) b o sz1 :=
          { sz:=A.sz,even:=trivial,room:=by have:=A.room;simp only [Box.all,List.length_map]at this ⊢;exact this
            cell:=λj hj=>by
              have L:j<cs.length:=by simpa [Box.all]using hj
              obtain ⟨u,h1,h2,B⟩:=A.cell j L
              refine⟨u,h1,h2,?_⟩
              simp only [Box.all,List.getElem_map]
              exact DT hc.inv B
            free:=A.free,froz:=λhm=>by simp [Box.mut]at hm,cel:=A.cel }
        exact this
      · simp only [supd,if_neg e]at hm
        exact hc.inv.box m bx hm
    · have old:∀m bx,supd σ.store n (some (.cells sz (cs.map (co1 σ.store)))) m=some bx->∃bx',σ.store m=some bx'/\bx'.mut=bx.mut:=λm bx hm=>by
        by_cases e:m=n
        · subst e
          simp only [supd,if_true,so_]at hm
          subst hm
          exact⟨_,h,rfl⟩
        · simp only [supd,if_neg e]at hm
          exact⟨bx,hm,rfl⟩
      obtain ⟨c1,O,m1⟩:=old _ _ h1
      obtain ⟨Z,N,_⟩:=old _ _ h2
      exact hc.inv.one n1 n2 c1 Z b o s1 X s2 O N (m1.trans B) Y W
  | shr σ n sz m xs h =>
    intro G w a hc
    refine⟨G,{ sz:=hc.sz,df:=hc.df,tm:=hc.tm,inv := { hc.inv with box:=λm' bx hm => ?_,one:=λn1 n2 b1 b2 b o s1 X s2 h1 h2 B Y W => ?_ } }⟩
    · by_cases e:m'=n
      · subst e
        simp only [supd,if_true,so_]at hm
        subst hm
        obtain ⟨b,o,sz1,F,I,hm⟩:=hc.inv.box m' _ h
        refine⟨b,o,sz1,F,?_,λ_=>hm rfl⟩
        have A:Stands G w (.vec sz xs) b o sz1:=I
        have J:(Box.vec sz xs).all=(Box.vec sz (xs.take m)).all++(Box.vec sz (xs.drop m)).all:=by
          simp only [Box.all]
          rw [<- List.flatten_append,<- List.map_append,List.take_append_drop]
        have hle:(Box.vec sz (xs.take m)).all.length<=(Box.vec sz xs).all.length:=by rw [J,List.length_append];omega
        have:Stands G w (.vec sz (xs.take m)) b o sz1 :=
          { sz:=A.sz,even:=λx hx=>A.even x (List.mem_of_mem_take hx),room:=Nat.le_trans (Nat.add_le_add_left hle o) A.room
            cell:=λj hj=>by
              obtain ⟨u,h1,h2,B⟩:=A.cell j (Nat.lt_of_lt_of_le hj hle)
              refine⟨u,h1,h2,?_⟩
              have e:(Box.vec sz xs).all[j]'(Nat.lt_of_lt_of_le hj hle)=(Box.vec sz (xs.take m)).all[j]:=by
                have e2:(Box.vec sz xs).all[j]? = (Box.vec sz (xs.take m)).all[j]? := by rw [J,List.getElem?_append_left hj]
                rw [List.getElem?_eq_getElem (Nat.lt_of_lt_of_le hj hle),List.getElem?_eq_getElem hj,so_]at e2
                exact e2
              rw [<- e];exact B
            free:=A.free,froz:=λhm=>by simp [Box.mut]at hm }
        exact this
      · simp only [supd,if_neg e]at hm
        exact hc.inv.box m' bx hm
    · have old:∀m' bx,supd σ.store n (some (.vec sz (xs.take m))) m'=some bx->∃bx',σ.store m'=some bx'/\bx'.mut=bx.mut:=λm' bx hm=>by
        by_cases e:m'=n
        · subst e
          simp only [supd,if_true,so_]at hm
          subst hm
          exact⟨_,h,rfl⟩
        · simp only [supd,if_neg e]at hm
          exact⟨bx,hm,rfl⟩
      obtain ⟨c1,O,m1⟩:=old _ _ h1
      obtain ⟨Z,N,_⟩:=old _ _ h2
      exact hc.inv.one n1 n2 c1 Z b o s1 X s2 O N (m1.trans B) Y W
  | coM σ n sz cs M h hl hcs =>
    intro G w a hc
    refine⟨G,{ sz:=hc.sz,df:=hc.df,tm:=hc.tm,inv := { hc.inv with box:=λm bx hm => ?_,one:=λn1 n2 b1 b2 b o s1 X s2 h1 h2 B Y W => ?_ } }⟩
    · by_cases e:m=n
      · subst e
        simp only [supd,if_true,so_]at hm
        subst hm
        obtain ⟨b,o,sz1,F,I,hm⟩:=hc.inv.box m _ h
        refine⟨b,o,sz1,F,?_,λ_=>hm rfl⟩
        have A:Stands G w (.cells sz cs) b o sz1:=I
        have:Stands G w (.cells sz M) b o sz1 :=
          { sz:=A.sz,even:=trivial,room:=by have:=A.room;simp only [Box.all]at this ⊢;omega
            cell:=λj hj=>by
              have hj1:j<M.length:=hj
              have L:j<cs.length:=by omega
              obtain ⟨u,h1,h2,B⟩:=A.cell j L
              refine⟨u,h1,h2,?_⟩
              show RepV G w u M[j]
              rcases hcs j hj1 L with e|e
              · rw [e];exact B
              · rw [e];exact DT hc.inv B
            free:=A.free,froz:=λhm=>by simp [Box.mut]at hm,cel:=A.cel }
        exact this
      · simp only [supd,if_neg e]at hm
        exact hc.inv.box m bx hm
    · have old:∀m bx,supd σ.store n (some (.cells sz M)) m=some bx->∃bx',σ.store m=some bx'/\bx'.mut=bx.mut:=λm bx hm=>by
        by_cases e:m=n
        · subst e
          simp only [supd,if_true,so_]at hm
          subst hm
          exact⟨_,h,rfl⟩
        · simp only [supd,if_neg e]at hm
          exact⟨bx,hm,rfl⟩
      obtain ⟨c1,O,m1⟩:=old _ _ h1
      obtain ⟨Z,N,_⟩:=old _ _ h2
      exact hc.inv.one n1 n2 c1 Z b o s1 X s2 O N (m1.trans B) Y W
  | pm σ n h =>
    intro G w a hc
    refine⟨G,{ sz:=hc.sz,df:=hc.df,tm:=hc.tm,inv := { hc.inv with box:=λm bx hm => ?_,one:=λn1 n2 b1 b2 b o s1 X s2 h1 h2 B Y W => ?_ } }⟩
    · by_cases e:m=n
      · subst e
        simp only [supd,if_true,so_]at hm
        subst hm
        obtain ⟨b,o,sz1,F,I,hm⟩:=hc.inv.box m _ h
        refine⟨b,o,sz1,F,?_,λ_=>hm rfl⟩
        obtain ⟨k0,arr,clock,O,N,k3⟩:=I
        exact⟨k0,arr,clock,O,N,λi h1 h2=>absurd h2 (Nat.not_lt_zero i)⟩
      · simp only [supd,if_neg e]at hm
        exact hc.inv.box m bx hm
    · have old:∀m bx,supd σ.store n (some (.pmap [])) m=some bx->∃bx',σ.store m=some bx'/\bx'.mut=bx.mut:=λm bx hm=>by
        by_cases e:m=n
        · subst e
          simp only [supd,if_true,so_]at hm
          subst hm
          exact⟨_,h,rfl⟩
        · simp only [supd,if_neg e]at hm
          exact⟨bx,hm,rfl⟩
      obtain ⟨c1,O,m1⟩:=old _ _ h1
      obtain ⟨Z,N,_⟩:=old _ _ h2
      exact hc.inv.one n1 n2 c1 Z b o s1 X s2 O N (m1.trans B) Y W
  | wild σ i n sz k len xs h hi =>
    intro G w a hc
    have R:=hc.tm i
    rw [hi]at R
    obtain ⟨G',i',e,r⟩:=RH hc.inv h R
    have ht:∀j,RepV G' w (a.tmps.getD j undef) (upd σ.slots i (.d (.wild sz len)) j):=λj=>by
      simp only [upd]
      cases hj:Nat.beq j i with
      | true=>rw [Nat.eq_of_beq_eq_true hj];exact .d r
      | false=>exact (hc.tm j).ext e
    exact⟨G',{ sz:=hc.sz,df:=hc.df,tm:=ht,inv:=i' }⟩
  | nild σ i cs M hi hcs =>
    intro G w a hc
    have R:=hc.tm i
    rw [hi]at R
    have ht:∀j,RepV G w (a.tmps.getD j undef) (upd σ.slots i (mkAgg M) j):=λj=>by
      simp only [upd]
      cases hj:Nat.beq j i with
      | true =>
        rw [Nat.eq_of_beq_eq_true hj]
        generalize a.tmps.getD i undef=v at R
        cases R with
        | agg arr _ hl hh =>
          obtain ⟨l1,l2⟩:=hcs.rep (G:=G) (w:=w)
          exact mJ (by omega) (λk h1 h2=>(l2 k (by omega) h2 _).1 (hh k h1 (by omega)))
      | false=>exact hc.tm j
    exact⟨G,{ hc with tm:=ht }⟩
  | c2v σ n sz xs h he =>
    intro G w a hc
    refine⟨G,{ sz:=hc.sz,df:=hc.df,tm:=hc.tm,inv := { hc.inv with box:=λm bx hm => ?_,one:=λn1 n2 b1 b2 b o s1 X s2 h1 h2 B Y W => ?_ } }⟩
    · by_cases e:m=n
      · subst e
        simp only [supd,if_true,so_]at hm
        subst hm
        obtain ⟨b,o,sz1,F,I,hm⟩:=hc.inv.box m _ h
        refine⟨b,o,sz1,F,?_,λ_=>hm rfl⟩
        have A:Stands G w (.cells sz (xs.flatten.map .d)) b o sz1:=I
        have J:(Box.vec sz xs).all=xs.flatten.map V.d:=by simp only [Box.all,List.map_flatten]
        have:Stands G w (.vec sz xs) b o sz1 :=
          { sz:=A.sz,even:=he,room:=by rw [J];exact A.room
            cell:=λj hj=>by
              have L:j<(Box.cells sz (xs.flatten.map V.d)).all.length:=by rw [J]at hj;exact hj
              obtain ⟨u,h1,h2,B⟩:=A.cell j L
              refine⟨u,h1,h2,?_⟩
              simp only [J]
              exact B
            free:=A.free,froz:=λhm=>by simp [Box.mut]at hm }
        exact this
      · simp only [supd,if_neg e]at hm
        exact hc.inv.box m bx hm
    · have old:∀m bx,supd σ.store n (some (.vec sz xs)) m=some bx->∃bx',σ.store m=some bx'/\bx'.mut=bx.mut:=λm bx hm=>by
        by_cases e:m=n
        · subst e
          simp only [supd,if_true,so_]at hm
          subst hm
          exact⟨_,h,rfl⟩
        · simp only [supd,if_neg e]at hm
          exact⟨bx,hm,rfl⟩
      obtain ⟨c1,O,m1⟩:=old _ _ h1
      obtain ⟨Z,N,_⟩:=old _ _ h2
      exact hc.inv.one n1 n2 c1 Z b o s1 X s2 O N (m1.trans B) Y W
  | v2c σ n sz xs cs h hs hs2 hnd =>
    intro G w a hc
    refine⟨G,{ sz:=hc.sz,df:=hc.df,tm:=hc.tm,inv := { hc.inv with box:=λm bx hm => ?_,one:=λn1 n2 b1 b2 b o s1 X s2 h1 h2 B Y W => ?_ } }⟩
    · by_cases e:m=n
      · subst e
        simp only [supd,if_true,so_]at hm
        subst hm
        obtain ⟨b,o,sz1,F,I,hm⟩:=hc.inv.box m _ h
        refine⟨b,o,sz1,F,?_,λ_=>hm rfl⟩
        have A:Stands G w (.vec sz xs) b o sz1:=I
        have J:(Box.vec sz xs).all=xs.flatten.map V.d:=by simp only [Box.all,List.map_flatten]
        obtain ⟨l1,l2⟩:=hnd.rep (G:=G) (w:=w)
        have:Stands G w (.cells sz cs) b o sz1 :=
          { sz:=A.sz,even:=trivial,room:=by have:=A.room;rw [J,<- l1]at this;exact this
            cell:=λj hj=>by
              have hj1:j<cs.length:=hj
              have L:j<(Box.vec sz xs).all.length:=by rw [J,<- l1];exact hj1
              obtain ⟨u,h1,h2,B⟩:=A.cell j L
              refine⟨u,h1,h2,?_⟩
              simp only [J]at B
              exact (l2 j hj1 (by rw [<- l1];exact hj1) u).2 B
            free:=A.free,froz:=λhm=>by simp [Box.mut]at hm
            cel:=⟨λhq=>by omega,λhq=>by omega⟩ }
        exact this
      · simp only [supd,if_neg e]at hm
        exact hc.inv.box m bx hm
    · have old:∀m bx,supd σ.store n (some (.cells sz cs)) m=some bx->∃bx',σ.store m=some bx'/\bx'.mut=bx.mut:=λm bx hm=>by
        by_cases e:m=n
        · subst e
          simp only [supd,if_true,so_]at hm
          subst hm
          exact⟨_,h,rfl⟩
        · simp only [supd,if_neg e]at hm
          exact⟨bx,hm,rfl⟩
      obtain ⟨c1,O,m1⟩:=old _ _ h1
      obtain ⟨Z,N,_⟩:=old _ _ h2
      exact hc.inv.one n1 n2 c1 Z b o s1 X s2 O N (m1.trans B) Y W
  | wild0 σ i sz hi =>
    intro G w a hc
    have R:=hc.tm i
    have ht:∀j,RepV G w (a.tmps.getD j undef) (upd σ.slots i (.d (.wild sz 0)) j):=λj=>by
      simp only [upd]
      cases hj:Nat.beq j i with
      | true =>
        rw [Nat.eq_of_beq_eq_true hj]
        generalize a.tmps.getD i undef=v at R
        rcases hi with hi|hi
        · rw [hi]at R
          cases R with
          | nil a=>exact .d (.wild0 a 0 sz)
        · rw [hi]at R
          have hd:=R.d_inv
          rcases hd.sl_len with⟨a,cap,⟨rfl,_⟩|⟨a',cap',rfl,_⟩⟩
          · exact .d (.wild0 _ _ sz)
          · exact .d (.wild0 _ _ sz)
      | false=>exact hc.tm j
    exact⟨G,{ hc with tm:=ht }⟩
  | trans _ _ h1 h2 =>
    intro G w a hc
    obtain ⟨G1,B⟩:=h1 hc
    exact h2 B
theorem vJ {ops:Array Oper} {tk:Nat} {K:(Nat->V)->Store->Prop} {Q':Exit->Act->World->Prop} (B:y7 C ops.toList=true)
    (Z:∀a w G sl S,K sl S->Reg C E G w a sl S tk (Nl ops.toList)->Q' .normal a w) :
    ∀(rest pre:List Oper) (sl:Nat->V) (S:Store) (a:Act) (w:World) (G:Gh),ops.toList=pre++rest->FZ C ops.toList tk K rest sl S->Reg C E G w a sl S tk (Nl pre) ->
      wpList C.P ops Q' rest a w
  | [],pre,sl,S,a,w,G,hp,h,I=>by
    rw [List.append_nil]at hp
    exact Z a w G sl S h (hp ▸ I)
  | o::rest,pre,sl0,S0,a,w,G0,hp,h,I=>by
    simp only [FZ]at h
    obtain ⟨sl,S,hg,h⟩:=h
    obtain ⟨G,I⟩:=hg.okR I
    dsimp only at I
    have Y:ops[pre.length]? = some o:=by rw [<- Array.getElem?_toList,hp];simp
    have J:=yz B Y
    have X:∀b,aL ops.toList sl o=some b->Region.wanted o (yielded ops a.tmps)=b:=λb hb =>
      Hd I hb (λj N d M hd'=>(nk (yz B M) hd').1)
    have O:ops.toList=(pre++[o])++rest:=by rw [hp];simp
    unfold wpList
    split at h
    · rename_i hw
      rw [if_pos (X true hw)]
      left
      have L:∀(A:Eff) (u:Value) (w':World) (G':Gh),FZ C ops.toList tk K rest (dE sl o.dst A.val) (dn S A.upd)->Reg C E G' w' (a.put o.dst u) (dE sl o.dst A.val) (dn S A.upd) tk (λn=>Nl pre n\/o.dst=some (n % 100000))->wpList C.P ops Q' rest (a.put o.dst u) w' :=
        λA u w' G' hA F=>vJ B Z rest (pre++[o]) _ _ _ w' G' O hA { F with inv:=F.inv.mono (λn R=>by
          rcases R with⟨N,h1,h2⟩|R
          · exact⟨N,by simp [h1],h2⟩
          · exact⟨o,by simp,R⟩) }
      have W:∀d,o.dst=some d->∀j,¬Nl pre (d+100000*j):=λd hd j hu=>by
        obtain ⟨N,M,he⟩:=hu
        obtain ⟨i,hi,rfl⟩:=List.getElem_of_mem M
        have hlt:=(nk J hd).2
        have e:(d+100000*j) % 100000=d:=(Nat.add_mul_mod_self_left d 100000 j).trans (Nat.mod_eq_of_lt hlt)
        rw [e]at he
        simp only [y7,Bool.and_eq_true]at B
        have:=rO B.2 i pre.length pre[i] o d (by rw [hp,List.getElem?_append_left hi];simp) (by rw [hp];simp) he hd
        omega
      rcases h with h|h
      case inr=>exact nil_ok I J W h L
      refine op_ok I J W h (λA u w' G' hA F=>vJ B Z rest (pre++[o]) _ _ _ w' G' O hA ?_)
      exact { F with inv:=F.inv.mono (λn R=>by
          rcases R with⟨N,h1,h2⟩|R
          · exact⟨N,by simp [h1],h2⟩
          · exact⟨o,by simp,R⟩) }
    · rename_i hw
      rw [if_neg (by rw [X false hw];simp)]
      refine vJ B Z rest (pre++[o]) _ _ _ w G O h ?_
      have:=I.put (Ext.refl G w) I.inv J (RepV.none)
      exact { this with inv:=this.inv.mono (λn ⟨N,h1,h2⟩=>⟨N,by simp [h1],h2⟩) }
    · exact h.elim
def RI (ops:Array Oper) (h:Array Bool) (n:Nat):Prop:=∃i o,ops[i]? = some o/\h.getD i false=true/\o.dst=some (n % 100000)
theorem zw {ops:Array Oper} {tk:Nat} {K:(Nat->V)->Store->Prop} {Q':Exit->Act->World->Prop} (F:y7 C ops.toList=true)
    (Z:∀a w G sl S U,K sl S->Reg C E G w a sl S tk U->Q' .normal a w) :
    ∀(fuel:Nat) (B:Array Bool) (sl:Nat->V) (S:Store) (L:Log) (a:Act) (w:World) (G:Gh),Oo C ops tk K fuel B sl S L->B.size=ops.size ->
      Reg C E G w a sl S tk (RI ops B)->wpAny C.P .any ops Q' fuel B a w
  | 0,B,sl,S,L,a,w,G,h,_,M=>⟨h.1,Z a w G sl S _ h.2 M⟩
  | fuel+1,B,sl,S,L,a,w,G,h,hsz,M=>by
    refine⟨λh0=>Z a w G sl S _ (h.1 h0) M,λi hi => ?_⟩
    have N:=h.2 i hi
    obtain ⟨hun,o,ho,_⟩:=mem_ready.1 hi
    have O:=EB hun
    have J:=yz F ho
    have X:i<B.size:=by rw [hsz];exact (Array.getElem?_eq_some_iff.1 ho).1
    have R:∀b,aL ops.toList sl o=some b->Region.wanted o (yielded ops a.tmps)=b:=λb hb =>
      Hd M hb (λj o' d ho' hd'=>(nk (yz F ho') hd').1)
    have I:∀n,RI ops B n->RI ops (B.setIfInBounds i true) n:=λn ⟨k,o',h1,h2,h3⟩=>⟨k,o',h1,getD_set_true h2,h3⟩
    unfold qD at N
    unfold wpOp
    simp only [ho]at N ⊢
    split at N
    · rename_i hw
      rw [if_pos (R true hw)]
      left
      refine op_ok M J (λd hd j hu => ?_) N (λA u w' G' hA Y=>zw F Z fuel _ _ _ _ _ w' G' hA.2 (by simp [hsz]) ?_)
      · obtain ⟨k,o',h1,h2,h3⟩:=hu
        have hlt:=(nk J hd).2
        have e:(d+100000*j) % 100000=d:=(Nat.add_mul_mod_self_left d 100000 j).trans (Nat.mod_eq_of_lt hlt)
        rw [e]at h3
        simp only [y7,Bool.and_eq_true]at F
        have:=rO F.2 k i o' o d (by simpa using h1) (by simpa using ho) h3 hd
        subst this
        rw [O]at h2;cases h2
      · exact { Y with inv:=Y.inv.mono (λn W=>by
          rcases W with W|W
          · exact I n W
          · exact⟨i,o,ho,by simp [Array.getD_eq_getD_getElem?,X],W⟩) }
    · rename_i hw
      rw [if_neg (by rw [R false hw];simp)]
      refine zw F Z fuel _ _ _ _ _ w G N (by simp [hsz]) ?_
      have:=M.put (Ext.refl G w) M.inv J (RepV.none)
      exact { this with inv:=this.inv.mono I }
    · exact N.elim
theorem vO {ops:Array Oper} {tk:Nat} {K:(Nat->V)->Store->Prop}:∀(rest:List Oper) (k:Nat) (L:List (Nat×Eff)) (F:Log) (sl:Nat->V) (S:Store),
    (∀i,rest[i]? = ops[k+i]?)->k+rest.length=ops.size->(∀j B,F j=some B->(j,B)∈L)->opsL C ops.toList tk K rest k L sl S->Rc C ops tk K rest.length k sl S F
  | [],k,L,F,sl,S,_,_,_,h=>h
  | o::rest,k,L,F,sl,S,hi,W,J,h=>by
    have O:ops[k]? = some o:=by simpa using (hi 0).symm
    have I:∀i,rest[i]? = ops[k+1+i]? := λi=>by
      have:=hi (i+1)
      simpa [Nat.add_assoc,Nat.add_comm 1 i]using this
    simp only [List.length_cons]at W ⊢
    simp only [opsL]at h
    show qD C ops tk k (Rc C ops tk K rest.length (k+1)) sl S F
    unfold qD
    simp only [O]
    split at h
    · rename_i M
      simp only [M]
      refine uK (λA ⟨hc,X⟩=>⟨λj B hj => ?_,vO rest (k+1) ((k,A)::L) _ _ _ I (by omega) (λj B hj => ?_) X⟩) h
      · have key:∀(L:List (Nat×Eff)),DU ops.toList k A L->(j,B)∈L->Dis A B\/Au ops.toList 8 j k=true:=by
          intro L
          induction L with
          | nil=>intro _ hm;cases hm
          | cons p L R =>
            intro hc hm
            obtain ⟨Y,Z⟩:=p
            rcases List.mem_cons.1 hm with hm|hm
            · simp only [Prod.mk.injEq]at hm
              obtain ⟨rfl,rfl⟩:=hm
              exact hc.1
            · exact R hc.2 hm
        exact key L hc (J j B hj)
      · unfold qI at hj
        split at hj
        · rename_i N
          simp only [so_]at hj
          subst hj N
          simp
        · exact List.mem_cons_of_mem _ (J j B hj)
    · rename_i M
      simp only [M]
      exact vO rest (k+1) L F _ _ I (by omega) J h
    · exact h.elim
theorem Reg.next {G:Gh} {w:World} {a:Act} {sl:Nat->V} {S:Store} {tk:Nat} {U:Nat->Prop} (h:Reg C E G w a sl S tk U):Reg C E G w a sl S (tk+1) (λ_=>False) :=
  { h with inv := { h.inv with tick:=λn x o => .inl (by rcases h.inv.tick n x o with h1 | ⟨h1,_⟩ <;> omega) } }
theorem Reg.drew {G:Gh} {w:World} {a:Act} {sl:Nat->V} {S:Store} {tk:Nat} {U:Nat->Prop} (h:Reg C E G w a sl S tk U):Reg C E G w.drew a sl S tk U :=
  { h with tm:=λi=>(h.tm i).ext h.inv.drew.2,inv:=h.inv.drew.1 }
theorem Gq {id:Nat} {ops:Array Oper} {o:Bool} {σ:St} {K:St->Prop} {Q':Exit->Act->World->Prop} {G:Gh} {w:World} {a:Act} (hc:Gn C E G w a σ)
    (O:∀a w G R,K R->Gn C E G w a R->Q' .normal a w) (h:Ni C ops o σ K):(Code.region id ops o).wp C.P Q' a w:=by
  obtain ⟨F,h⟩:=h
  cases o with
  | false =>
    simp only [cond_false]at h
    refine wp_region_list (vJ (E:=E) F (λa w G sl S M L=>O a w G ⟨sl,S,σ.tick+1⟩ M L.next) ops.toList [] σ.slots σ.store a w G rfl h ?_)
    exact { hc with inv:=hc.inv.mono (λ_ I=>I.elim) }
  | true =>
    simp only [cond_true]at h
    obtain ⟨hm,N,hl⟩:=h
    simp only [Region.lexB,Bool.and_eq_true]at N
    refine wp_region_any hm ?_
    have h1:=vO (ops:=ops) ops.toList 0 [] (λ_=>none) σ.slots σ.store (λi=>by simp) (by simp) (λj B hj=>by cases hj) hl
    have h2:=F3 (C:=C) (tk:=σ.tick) ops.toList.length 0 (Array.replicate ops.size false) σ.slots σ.store (λ_=>none) (by simp) (by simpa using N.2)
      (λk ok _ A=>by
        exfalso
        rcases Nat.lt_or_ge k ops.size with J|J
        · simp [Array.getD_eq_getD_getElem?,J]at A
        · simp [Array.getD_eq_getD_getElem?,J]at A) (λ_ _=>rfl) h1
    have W:=zw (E:=E) (Q':=Q') F (λa w G sl S U M L=>O a w G ⟨sl,S,σ.tick+1⟩ M L.next) _ _ _ _ _ a w.drew G h2 (by simp)
      (Reg.drew { hc with inv:=hc.inv.mono (λ_ I=>I.elim) })
    simpa using W
theorem exists_least {p:Nat->Prop} (h:∃n,p n):∃n,p n/\∀m,p m->n<=m:=by
  obtain ⟨n,o⟩:=h
  induction n using Nat.strongRecOn with
  | _ n A =>
    by_cases hx:∃m,m<n/\p m
    · obtain ⟨m,h1,h2⟩:=hx
      exact A m h1 h2
    · exact⟨n,o,λm hm=>Nat.le_of_not_lt (λh1=>hx ⟨m,h1,hm⟩)⟩
open Classical in
noncomputable def leastOf (p:Nat->Prop):Nat:=if h:∃n,p n then (exists_least h).choose else 0
theorem leastOf_spec {p:Nat->Prop} (h:∃n,p n):p (leastOf p)/\∀m,p m->leastOf p<=m:=by
  unfold leastOf
  rw [dif_pos h]
  exact (exists_least h).choose_spec
def Fits (C:Cfg) (E:Env) (I:St->Prop) (m:St->Nat) (a:Act) (w:World) (n:Nat):Prop:=∃G σ,Gn C E G w a σ/\I σ/\m σ=n
theorem Gst.ok {σ o:St} (h:Gst σ o):∀{G:Gh} {w:World} {a:Act},Gn C E G w a σ->∃G',Gn C E G' w a o:=λhc=>Gst.okR h hc
theorem nX:∀(c:Code) (Q:Exit->St->Prop) (σ:St) (Q':Exit->Act->World->Prop) (a:Act) (w:World) (G:Gh),Gn C E G w a σ ->
    (∀e a w G F,Q e F->Gn C E G w a F->Q' e a w)->wpD C c Q σ->c.wp C.P Q' a w
  | .skip,Q,σ,Q',a,w,G,hc,A,h=>wp_skip (A _ a w G σ h hc)
  | .ret,Q,σ,Q',a,w,G,hc,A,h=>wp_ret (A _ a w G σ h hc)
  | .exit id,Q,σ,Q',a,w,G,hc,A,h=>wp_exit (A _ a w G σ h hc)
  | .seq x y,Q,σ,Q',a,w,G,hc,A,h=>by
    refine wp_seq (nX x _ σ _ a w G hc (λe a w G F B o => ?_) h)
    cases e with
    | normal =>
      obtain ⟨W,R,B⟩:=B
      obtain ⟨N,J⟩:=R.ok o
      exact nX y Q W Q' a w N J A B
    | exit id=>exact A _ a w G F B o
    | goto l=>exact A _ a w G F B o
    | ret=>exact A _ a w G F B o
    | panic ch=>exact A _ a w G F B o
    | outgrown=>exact A _ a w G F B o
  | .cond c x y,Q,σ,Q',a,w,G,hc,A,h=>by
    obtain ⟨t,ht,h1,h2⟩:=h
    have hv:=Reg.ev hc c
    rw [ht]at hv
    have X:=hv.d_inv.bool_inv
    cases t with
    | true =>
      obtain ⟨W,R,B⟩:=h1 rfl
      obtain ⟨N,J⟩:=R.ok hc
      exact wp_cond_true X (nX x Q W Q' a w N J A B)
    | false =>
      obtain ⟨W,R,B⟩:=h2 rfl
      obtain ⟨N,J⟩:=R.ok hc
      exact wp_cond_false X (nX y Q W Q' a w N J A B)
  | .block id x,Q,σ,Q',a,w,G,hc,A,h=>by
    refine wp_block (nX x _ σ _ a w G hc (λe a w G F B o => ?_) h)
    cases e with
    | exit id' =>
      simp only [JJ]at B
      simp only [Exit.inBlock]
      cases hb:Nat.beq id' id with
      | true =>
        rw [hb]at B
        rw [if_pos (Nat.eq_of_beq_eq_true hb)]
        exact A _ a w G F B o
      | false =>
        rw [hb]at B
        rw [if_neg (λe=>by rw [e,Nat.beq_refl]at hb;cases hb)]
        exact A _ a w G F B o
    | normal=>exact A _ a w G F B o
    | goto l=>exact A _ a w G F B o
    | ret=>exact A _ a w G F B o
    | panic ch=>exact A _ a w G F B o
    | outgrown=>exact A _ a w G F B o
  | .loop x,Q,σ,Q',a,w,G,hc,A,h=>by
    obtain ⟨I,m,⟨σ0,hg0,h0⟩,L⟩:=h
    obtain ⟨G0,Z⟩:=hg0.ok hc
    refine wp_loop (λa w=>∃n,Fits C E I m a w n) (λa w=>leastOf (Fits C E I m a w)) ⟨m σ0,G0,σ0,Z,h0,rfl⟩ (λa w hI => ?_)
    obtain ⟨⟨G,σ,hc,hIσ,hm⟩,_⟩:=leastOf_spec hI
    refine nX x _ σ _ a w G hc (λe M w' G' F B o => ?_) (L σ hIσ)
    cases e with
    | normal =>
      obtain ⟨Y,hg3,h1,h2⟩:=B
      obtain ⟨G3,hc3⟩:=hg3.ok o
      have O:∃n,Fits C E I m M w' n:=⟨m Y,G3,Y,hc3,h1,rfl⟩
      refine⟨O,?_⟩
      have:=(leastOf_spec O).2 (m Y) ⟨G3,Y,hc3,h1,rfl⟩
      omega
    | exit id=>exact A _ M w' G' F B o
    | goto l=>exact A _ M w' G' F B o
    | ret=>exact A _ M w' G' F B o
    | panic ch=>exact A _ M w' G' F B o
    | outgrown=>exact A _ M w' G' F B o
  | .region id ops draw,Q,σ,Q',a,w,G,hc,A,h=>Gq hc (λa w G F hk o=>A _ a w G F hk o) h
  | .rangeFunc ..,_,_,_,_,_,_,_,_,h=>h.elim
  | .scope _,_,_,_,_,_,_,_,_,h=>h.elim
  | .label _,_,_,_,_,_,_,_,_,h=>h.elim
  | .goto _,_,_,_,_,_,_,_,_,h=>h.elim
  | .refuse _,_,_,_,_,_,_,_,_,h=>h.elim
end
end Go.Eng

/-
  THE ENGINE: a function's contract out of its body.
-/
namespace Go.Eng
set_option linter.unusedSectionVars false
variable [DM]
def Dr (C:Cfg) (σ:St):List ResultVar->Option (List V)
 | []=>some []
 | .tmp t::h=>(Dr C σ h).map (σ.slots t :: ·)
 | .cell a t::h=>match rH C.P t σ.store (σ.slots a),Dr C σ h with
  | some A,some vs=>some (A.val::vs)
  | _,_=>none
def yO (vs:List V):V:=match vs with
 | [v]=>v
 | vs => .tup vs
def NM (k:Nat) (r:V) (Sout:List (Option Box)) (vs:List V) (S:Store):Prop :=
 ∃(h:List V) (ν:List Nm),vs.length=h.length/\(∀(i:Nat) (h1:i<vs.length) (h2:i<h.length),h[i]=vs[i]\/h[i]=co S vs[i])/\yO h=ren ν r/\ν.length=Sout.length/\ν.Nodup/\(∀i,i<k->ν[i]? = some (au i)) /\
  ∀(i:Nat) (bx:Box),Sout[i]? = some (some bx)->∃n,ν[i]? = some n/\S n=some (bx.ren ν)
def Qa (C:Cfg) (h:List ResultVar) (fin:List V->Store->Prop):Exit->St->Prop
 | .normal,σ | .ret,σ=>∃vs,Dr C σ h=some vs/\fin vs σ.store
 | _,_=>False
def CB (args:List V):Nat->V:=λi=>args.getD i .none
theorem DZ {C:Cfg} {E:Env} {G:Gh} {w:World} {a:Act} {σ:St} (hc:Gn C E G w a σ):∀(B:List ResultVar) (vs:List V),Dr C σ B=some vs ->
  ∃us:List Value,pG G w us vs/\(B.mapM (fun | .tmp t=>pure (a.tmps.getD t undef) | .cell b t=>do loadVar t (<- asAddr (a.tmps.getD b undef)):ResultVar->Sem Value)).run C.P w = .ok us w
 | [],vs,h=>by
  simp only [Dr,so_]at h
  subst h
  exact⟨[],⟨rfl,λi h1=>absurd h1 (Nat.not_lt_zero i)⟩,rfl⟩
 | .tmp t::B,vs,h=>by
  simp only [Dr,Option.map_eq_some_iff]at h
  obtain ⟨o,h1,rfl⟩:=h
  obtain ⟨us,h2,I⟩:=DZ hc B o h1
  refine⟨a.tmps.getD t undef::us,⟨by simp [h2.1],λi J W => ?_⟩,by simp only [List.mapM_cons,Sem.run_bind,Sem.run_pure,Result.andThen_ok,I]⟩
  cases i with
  | zero=>exact hc.tm t
  | succ i=>exact h2.2 i _ _
 | .cell b t::B,vs,h=>by
  simp only [Dr]at h
  split at h
  ·rename_i A o M h1
   simp only [so_]at h
   subst h
   obtain ⟨us,h2,I⟩:=DZ hc B o h1
   obtain ⟨N,L,O,J,R,_⟩:=G8 hc.inv (hc.tm b) M
   refine⟨L::us,⟨by simp [h2.1],λi J W => ?_⟩,?_⟩
   ·cases i with
    | zero=>exact R
    | succ i=>exact h2.2 i _ _
   ·have F:(asAddr (a.tmps.getD b undef)).run C.P w = .ok N w:=by rw [O];rfl
    simp only [List.mapM_cons,Sem.run_bind,F,Sem.run_pure,Result.andThen_ok,J,I]
  ·cases h
theorem FnM.of_wpD' {P:Program} {f:FuncId} {fn:Func} {body:Code} {C:Cfg} (hf:P.funcs[f]? = some fn) (hb:fn.body=some body) (hP:C.P=P) (hn:C.n=fn.ntmps)
  {args:List V} {Sin:List Box} {r:V} {Sout:List (Option Box)} (hl:args.length<=fn.ntmps)
  (h:∃R,Gst ⟨CB args,cB Sin,1⟩ R/\wpD C body (Qa C fn.results.toList (NM Sin.length r Sout)) R):FnM P f args Sin r Sout:=by
 subst hP
 intro G w o M A
 refine calls_of_wp hf hb ?_
 have hc:Gn C ⟨G,w,yN G Sin⟩ G w { tmps:=o.toArray++Array.replicate (fn.ntmps-o.toArray.size) undef,defers:=[] } ⟨CB args,cB Sin,1⟩:=by
  refine⟨?_,rfl,λi => ?_,M⟩
  ·have:=A.1
   simp;omega
  ·have hl:=A.1
   show RepV G w _ (args.getD i .none)
   by_cases hi:i<args.length
   ·have h1:=A.2 i (by omega) hi
    simp only [Array.getD_eq_getD_getElem?,List.getD_eq_getElem?_getD]
    rw [List.getElem?_eq_getElem hi,Array.getElem?_append_left (by simp;omega)]
    simp [show i<o.length by omega]
    exact h1
   ·have e2:args.getD i .none = .none:=by simp [List.getD_eq_getElem?_getD,List.getElem?_eq_none (Nat.le_of_not_lt hi)]
    have e1:(o.toArray++Array.replicate (fn.ntmps-o.toArray.size) undef).getD i undef=undef:=by
     simp only [Array.getD_eq_getD_getElem?]
     rw [Array.getElem?_append_right (by simp;omega)]
     simp only [Array.getElem?_replicate]
     split <;> rfl
    rw [e1,e2]
    exact .none
 obtain ⟨σ0,Z,h⟩:=h
 obtain ⟨G0,X⟩:=Z.ok hc
 refine nX body _ _ _ _ _ _ X (λe a w' G' R L F => ?_) h
 have fin:Qa C fn.results.toList (NM Sin.length r Sout) .ret R->a.defers=[]/\∃v,(results fn a.tmps).run C.P w' = .ok v w'/\∃v' G' S' W U' ν,Ending.returned v = .returned v'/\Inv ⟨G,w,yN G Sin⟩ G' w' S' W U'/\RepV G' w' v' (ren ν r) /\
   ν.length=Sout.length/\ν.Nodup/\(∀i,i<Sin.length->ν[i]? = some (au i))/\∀(i:Nat) (bx:Box),Sout[i]? = some (some bx)->∃n,ν[i]? = some n/\S' n=some (bx.ren ν):=by
  rintro ⟨vs0,h1,vs,ν,f0,O,f1,f2,f3,f4,f5⟩
  obtain ⟨us,J,u2⟩:=DZ F _ vs0 h1
  have B:pG G' w' us vs:=⟨J.1.trans f0,λi q1 q2=>by
   rcases O i (by omega) q2 with e|e
   ·rw [e];exact J.2 i q1 _
   ·rw [e];exact IQ F.inv (J.2 i q1 _)⟩
  have N:∃v,(results fn a.tmps).run C.P w' = .ok v w'/\RepV G' w' v (yO vs):=by
   have hm:(fn.results.mapM (fun | .tmp t=>pure (a.tmps.getD t undef) | .cell b t=>do loadVar t (<- asAddr (a.tmps.getD b undef)):ResultVar->Sem Value)).run C.P w' = .ok us.toArray w':=by
    rw [Array.mapM_eq_mapM_toList]
    simp only [Sem.run_map,u2,Result.andThen_ok]
   have I:(results fn a.tmps).run C.P w' = .ok (if h:us.toArray.size=1 then us.toArray[0]else .tuple us.toArray) w':=by
    unfold results
    simp only [Sem.run_bind,Sem.run_pure]
    exact (congrArg (λx=>Result.andThen x (λ(a:Array Value) w'=>Result.ok (if h:a.size=1 then a[0]else Value.tuple a) w')) hm).trans rfl
   refine⟨_,I,?_⟩
   have Y:=B.1
   clear f1 O f0 u2 hm I
   match vs,us,B,Y with
   | [v],[u],B,_=>exact B.2 0 (by simp) (by simp)
   | [],[],B,_=>exact .tup [] [] B.1 B.2
   | v1::v2::vs,x1::x2::us,B,_ =>
    rw [dif_neg (by simp)]
    exact .tup _ _ B.1 B.2
  obtain ⟨v,hv,rv⟩:=N
  refine⟨F.df,v,hv,v,G',_,_,_,ν,rfl,F.inv,?_,f2,f3,f4,f5⟩
  rw [<- f1]
  exact rv
 cases e with
 | normal=>exact fin L
 | ret=>exact fin L
 | exit id=>exact L.elim
 | goto l=>exact L.elim
 | panic ch=>exact L.elim
 | outgrown=>exact L.elim
end Go.Eng

/-
  THE ENGINE: a body over a list of the boxes that are known ('wH'), ticks hidden; the rules for control, regions and loops.
-/
namespace Go.Eng
set_option linter.unusedSectionVars false
variable [DM]
set_option linter.unusedVariables false
abbrev Hp:=List (Nm×Option Box)
structure Ag (H:Hp) (S:Store) (t:Nat):Prop where
 pos:0<t
 nd:(H.map (·.1)).Nodup
 at_:∀p∈H,p.1.2<t/\∀b,p.2=some b->S p.1=some b
structure AgR (H:Hp) (S:Store) (t:Nat) (rest:List Oper):Prop where
 pos:0<t
 nd:(H.map (·.1)).Nodup
 at_:∀p∈H,(p.1.2<t\/p.1.2=t/\∀o∈rest,o.dst≠some (p.1.1 % 100000))/\∀b,p.2=some b->S p.1=some b
def qL (C:Cfg) (rest:List Oper):Prop:=jU rest=true/\∀o∈rest,xA C o=true
abbrev QH:=Exit->(Nat->V)->Hp->Prop
def endR (tk:Nat) (K:(Nat->V)->Hp->Prop) (sl:Nat->V) (S:Store):Prop:=∃h,AgR h S tk []/\K sl h
abbrev Fp:=Nat×List Nm×Bool
def LogOK (Γ:List Fp) (L:List (Nat×Eff)):Prop:=∀p∈L,(p.2.upd=[]/\p.2.req=[])\/∃e∈Γ,e.1=p.1/\(∀x∈p.2.req,x.1∈e.2.1)/\(∀x∈p.2.upd,x.1∈e.2.1)/\(e.2.2=false->p.2.upd=[])
def PS (all:List Oper) (k:Nat) (T:List Nm) (w:Bool):List Fp->Prop
 | []=>True
 | e::Γ=>((w=false/\e.2.2=false)\/(∀n∈T,n∉e.2.1)\/Au all 8 e.1 k=true)/\PS all k T w Γ
abbrev Qm:=Option (List Fp)
def okQ (q:Qm) (all:List Oper) (k:Nat) (T:List Nm) (w:Bool):Prop:=match q with
 | none=>True
 | some Γ=>PS all k T w Γ
theorem il {b:Prop}:(none:Qm)=none\/b := .inl rfl
theorem ft {R:Store->Nat->Prop} {all:List Oper} {k:Nat} {T:List Nm} {w:Bool}:∀S tk,R S tk->okQ none all k T w:=λ_ _ _=>trivial
def mV (q:Qm) (k:Nat) (T:List Nm) (w:Bool):Qm:=q.map (λΓ=>Γ++[(k,T,w)])
def Jq (tk:Nat) (rest:List Oper) (m:Nm):Prop:=m.2<tk\/m.2=tk/\∀o∈rest,o.dst≠some (m.1 % 100000)
theorem Jq.tail {tk:Nat} {o:Oper} {rest:List Oper} {m:Nm} (h:Jq tk (o::rest) m):Jq tk rest m:=h.imp id (λh=>⟨h.1,λA ho=>h.2 A (List.mem_cons_of_mem _ ho)⟩)
def Rm (tk:Nat) (rest:List Oper) (Γ:List Fp):Prop:=∀e∈Γ,∀m∈e.2.1,Jq tk rest m
theorem Rm.tail {tk:Nat} {o:Oper} {rest:List Oper} {Γ:List Fp} (h:Rm tk (o::rest) Γ):Rm tk rest Γ:=λe he m hm=>(h e he m hm).tail
def oldQ (q:Qm) (tk:Nat) (rest:List Oper):Prop:=match q with
 | none=>True
 | some Γ=>Rm tk rest Γ
def aR (q:Qm) (C:Cfg) (all:List Oper) (K:(Nat->V)->Hp->Prop) (rest:List Oper) (sl:Nat->V) (H:Hp):Prop :=
 ∀S tk,qL C rest->AgR H S tk rest ->
  match q with
  | none=>FZ C all tk (endR tk K) rest sl S
  | some Γ=>∀k L,all.length=k+rest.length->LogOK Γ L->Rm tk rest Γ->opsL C all tk (endR tk K) rest k L sl S
def Ll (Q:QH):Exit->St->Prop:=λe σ=>∃h,Ag h σ.store σ.tick/\Q e σ.slots h
def nL (C:Cfg):Code->Bool
 | .seq a b=>nL C a&&nL C b
 | .cond _ x y=>nL C x&&nL C y
 | .block _ c=>nL C c
 | .loop c=>nL C c
 | .region _ ops h=>y7 C ops.toList&&(!h||(C.P.follows .mixedOrders&&Region.lexB .any ops))
 | _=>true
def wH (C:Cfg) (c:Code) (Q:QH) (sl:Nat->V) (H:Hp):Prop :=
 nL C c=true->∀S t,Ag H S t->∃h,Gst ⟨sl,S,t⟩ h/\wpD C c (Ll Q) h
theorem Py {C:Cfg} {o:Oper} {sl:Nat->V} {S:Store} {tk:Nat} {K J:Eff->Prop} (h:∀A,K A->J A) (F:OL C o sl S tk K):OL C o sl S tk J:=by
 unfold OL at *
 split at F
 ·obtain ⟨xs,e,h1,h2,B⟩:=F
  exact⟨xs,e,h1,h2,λb hb=>h _ (B b hb)⟩
 ·obtain ⟨d,n,bx,es,h1,h2,B,I,M,L⟩:=F
  exact⟨d,n,bx,es,h1,h2,B,I,M,h _ L⟩
 ·obtain ⟨n,cur,left,h1,h2,B,I⟩:=F
  exact⟨n,cur,left,h1,h2,λe=>h _ (B e),λi e he=>h _ (I i e he)⟩
 ·obtain ⟨n,e,left,h1,h2,B⟩:=F
  exact⟨n,e,left,h1,h2,h _ B⟩
 ·exact F
theorem uM {C:Cfg} {all:List Oper} {tk:Nat} {K J:(Nat->V)->Store->Prop} (F:∀sl S,K sl S->J sl S):∀(l:List Oper) (sl:Nat->V) (S:Store),FZ C all tk K l sl S->FZ C all tk J l sl S
 | [],_,_,h=>F _ _ h
 | o::rest,sl,S,h=>by
  simp only [FZ]at h ⊢
  obtain ⟨sl',S',L,h⟩:=h
  refine⟨sl',S',L,?_⟩
  split
  ·rename_i B;simp only [B]at h;exact h.imp (uK (λA I=>uM F rest _ _ I)) (Py (λA I=>uM F rest _ _ I))
  ·rename_i B;simp only [B]at h;exact uM F rest _ _ h
  ·rename_i B;simp only [B]at h
theorem yI {C:Cfg} {all:List Oper} {tk:Nat} {K J:(Nat->V)->Store->Prop} (F:∀sl S,K sl S->J sl S):∀(l:List Oper) (k:Nat) (L:List (Nat×Eff)) (sl:Nat->V) (S:Store),opsL C all tk K l k L sl S->opsL C all tk J l k L sl S
 | [],_,_,_,_,h=>F _ _ h
 | o::rest,k,L,sl,S,h=>by
  simp only [opsL]at h ⊢
  split
  ·rename_i B;simp only [B]at h;exact uK (λA I=>⟨I.1,yI F rest _ _ _ _ I.2⟩) h
  ·rename_i B;simp only [B]at h;exact yI F rest _ _ _ _ h
  ·rename_i B;simp only [B]at h
theorem jy {C:Cfg}:∀(c:Code) {Q Q':Exit->St->Prop} {σ:St},(∀e σ,Q e σ->Q' e σ)->wpD C c Q σ->wpD C c Q' σ
 | .skip,_,_,_,o,h=>o _ _ h
 | .ret,_,_,_,o,h=>o _ _ h
 | .exit _,_,_,_,o,h=>o _ _ h
 | .seq x y,Q,Q',σ,o,h=>jy x (λe σ h=>by
   cases e with
   | normal=>obtain ⟨F,J,h⟩:=h;exact⟨F,J,jy y o h⟩
   | _=>exact o _ _ h) h
 | .cond c x y,Q,Q',σ,o,h=>by
  obtain ⟨t,ht,h1,h2⟩:=h
  exact⟨t,ht,λe=>(h1 e).imp λ_ h=>⟨h.1,jy x o h.2⟩,λe=>(h2 e).imp λ_ h=>⟨h.1,jy y o h.2⟩⟩
 | .block id x,Q,Q',σ,o,h=>jy x (λe σ h=>by
   cases e with
   | exit B =>
    simp only [JJ]at h ⊢
    cases hb:Nat.beq B id with
    | true=>rw [hb]at h;exact o _ _ h
    | false=>rw [hb]at h;exact o _ _ h
   | _=>exact o _ _ h) h
 | .loop x,Q,Q',σ,o,h=>by
  obtain ⟨I,m,L,M⟩:=h
  exact⟨I,m,L,λF hI=>jy x (λe σ h=>by
   cases e with
   | normal=>exact h
   | _=>exact o _ _ h) (M F hI)⟩
 | .region id ops A,Q,Q',σ,o,h=>by
  obtain ⟨h1,h2⟩:=h
  refine⟨h1,?_⟩
  cases A with
  | true=>exact⟨h2.1,h2.2.1,yI (λ_ _=>o _ _) _ _ _ _ _ h2.2.2⟩
  | false=>exact uM (λ_ _=>o _ _) _ _ _ h2
 | .rangeFunc ..,_,_,_,_,h=>h.elim
 | .scope _,_,_,_,_,h=>h.elim
 | .label _,_,_,_,_,h=>h.elim
 | .goto _,_,_,_,_,h=>h.elim
 | .refuse _,_,_,_,_,h=>h.elim
section
variable {C:Cfg} {Q:QH} {sl:Nat->V} {H:Hp}
def Gs (K:(Nat->V)->Hp->Prop) (Q:QH):QH
 | .normal,sl,H=>K sl H
 | e,sl,H=>Q e sl H
def Pb (id:Nat) (Q:QH):QH
 | .exit h,sl,H=>bif Nat.beq h id then Q .normal sl H else Q (.exit h) sl H
 | e,sl,H=>Q e sl H
theorem IC {c:Code} {Q Q':QH} (h:∀e sl H,Q e sl H->Q' e sl H) (o:wH C c Q sl H):wH C c Q' sl H:=λok S t A=>by
 obtain ⟨σ,B,o⟩:=o ok S t A
 exact⟨σ,B,jy c (λe σ ⟨F,h1,h2⟩=>⟨F,h1,h _ _ _ h2⟩) o⟩
theorem ax (h:Q .normal sl H):wH C .skip Q sl H:=λ_ S t o=>⟨_,.refl _,H,o,h⟩
theorem ay (h:Q .ret sl H):wH C .ret Q sl H:=λ_ S t o=>⟨_,.refl _,H,o,h⟩
theorem bg {id:Nat} (h:Q (.exit id) sl H):wH C (.exit id) Q sl H:=λ_ S t o=>⟨_,.refl _,H,o,h⟩
theorem ak {a b:Code} (h:wH C a (Gs (wH C b Q) Q) sl H):wH C (.seq a b) Q sl H:=λok S t o=>by
 simp only [nL,Bool.and_eq_true]at ok
 obtain ⟨σ,I,h⟩:=h ok.1 S t o
 refine⟨σ,I,jy a (λe σ h => ?_) h⟩
 obtain ⟨F,h1,h2⟩:=h
 cases e with
 | normal =>
  obtain ⟨A,B,J⟩:=h2 ok.2 σ.store σ.tick h1
  exact⟨A,B,J⟩
 | _=>exact⟨F,h1,h2⟩
theorem aM {id:Nat} {c:Code} (h:wH C c (Pb id Q) sl H):wH C (.block id c) Q sl H:=λok S t B=>by
 obtain ⟨σ,F,h⟩:=h ok S t B
 refine⟨σ,F,jy c (λe σ h => ?_) h⟩
 obtain ⟨A,h1,h2⟩:=h
 cases e with
 | exit o =>
  simp only [JJ,Pb]at *
  cases hb:Nat.beq o id with
  | true=>rw [hb]at h2;exact⟨A,h1,h2⟩
  | false=>rw [hb]at h2;exact⟨A,h1,h2⟩
 | _=>exact⟨A,h1,h2⟩
theorem wH_if {c:Operand} {x y:Code} {b:Bool} (o:ev sl c = .d (.bool b)) (h1:b=true->wH C x Q sl H) (h2:b=false->wH C y Q sl H):wH C (.cond c x y) Q sl H:=λok S t h=>by
 simp only [nL,Bool.and_eq_true]at ok
 exact⟨_,.refl _,b,o,λe=>h1 e ok.1 S t h,λe=>h2 e ok.2 S t h⟩
theorem aB {c:Operand} {x y:Code} {b:Bool} (o:ev sl c = .d (.bool b)) (hb:b=true) (h:wH C x Q sl H):wH C (.cond c x y) Q sl H :=
 wH_if o (λ_=>h) (λe=>by rw [hb]at e;cases e)
theorem aA {c:Operand} {x y:Code} {b:Bool} (o:ev sl c = .d (.bool b)) (hb:b=false) (h:wH C y Q sl H):wH C (.cond c x y) Q sl H :=
 wH_if o (λe=>by rw [hb]at e;cases e) (λ_=>h)
theorem oH {c:Code} {sl':Nat->V} {o:Hp} (h:wH C c Q sl' o) (F:∀S t,Ag H S t->∃S',Gst ⟨sl,S,t⟩ ⟨sl',S',t⟩/\Ag o S' t):wH C c Q sl H:=λok S t A=>by
 obtain ⟨S',h1,h2⟩:=F S t A
 obtain ⟨σ,B,I⟩:=h ok S' t h2
 exact⟨σ,h1.trans B,I⟩
def pick (h:List (Nat×V)) (sl:Nat->V):List (Nat×V):=h.map λp=>(p.1,sl p.1)
theorem Oz {c:Code} (o:List (Nat×V)) (he:pick o sl=o) (h:wH C c Q (envS o) H):wH C c Q sl H :=
 oH h λS t A=>⟨S,by
  have:=Gst.forget ⟨sl,S,t⟩ (o.map (·.1))
  have e:((o.map (·.1)).map λk=>(k,sl k))=o:=by rw [List.map_map];exact he
  simp only [e]at this
  exact this,A⟩
def pre (H0 H:Hp):Prop:=∃is:List Nat,is.Nodup/\is.map (λi=>H[i]?)=H0.map some
theorem aJ {H0 H:Hp} (h:H.take H0.length=H0):pre H0 H:=by
 have hl:H0.length<=H.length:=by
  have:=congrArg List.length h
  rw [List.length_take]at this;omega
 refine⟨List.range H0.length,List.nodup_range,?_⟩
 refine List.ext_getElem (by simp) (λi h1 h2 => ?_)
 simp only [List.length_map]at h2
 simp only [List.getElem_map,List.getElem_range]
 have:H0[i]? = H[i]? := by
  conv=>lhs;rw [<- h]
  rw [List.getElem?_take,if_pos h2]
 rw [<- this,List.getElem?_eq_getElem h2]
theorem vZ {H0 H:Hp} {is:List Nat} (h:is.map (λi=>H[i]?)=H0.map some):is.length=H0.length/\∀(i:Nat) (h1:i<is.length) (h2:i<H0.length),H[is[i]]? = some H0[i]:=by
 have hl:is.length=H0.length:=by simpa using congrArg List.length h
 refine⟨hl,λi h1 h2 => ?_⟩
 have:=congrArg (λl=>l[i]?) h
 simpa [List.getElem?_map,List.getElem?_eq_getElem h1,List.getElem?_eq_getElem h2]using this
theorem Ag.pre {S:Store} {t:Nat} {H0:Hp} (h:pre H0 H) (I:Ag H S t):Ag H0 S t:=by
 obtain ⟨is,W,he⟩:=h
 obtain ⟨hl,J⟩:=vZ he
 refine⟨I.pos,?_,λp hp => ?_⟩
 ·refine List.pairwise_iff_getElem.2 (λa b O hb L e => ?_)
  simp only [List.length_map]at O hb
  simp only [List.getElem_map]at e
  have F:=List.getElem?_eq_some_iff.1 (J a (by omega) O)
  have B:=List.getElem?_eq_some_iff.1 (J b (by omega) hb)
  obtain ⟨N,F⟩:=F
  obtain ⟨R,B⟩:=B
  have M:is[a]≠is[b]:=λe=>by
   have:=(List.pairwise_iff_getElem.1 W) a b (by omega) (by omega) L
   exact this e
  have A:=I.nd
  rcases Nat.lt_or_gt_of_ne M with o|o
  ·have:=(List.pairwise_iff_getElem.1 A) is[a] is[b] (by simpa using N) (by simpa using R) o
   simp only [List.getElem_map]at this
   rw [F,B]at this
   exact this e
  ·have:=(List.pairwise_iff_getElem.1 A) is[b] is[a] (by simpa using R) (by simpa using N) o
   simp only [List.getElem_map]at this
   rw [F,B]at this
   exact this e.symm
 ·obtain ⟨i,hi,rfl⟩:=List.getElem_of_mem hp
  exact I.at_ _ (List.mem_of_getElem? (J i (by omega) hi))
def Kz {β:Type} (h:β->List (Nat×V)) (o:β->Hp) (R:β->Prop):(Nat->V)->Hp->Prop:=λsl H=>∃x,R x/\Eng.pick (h x) sl=h x/\Eng.pre (o x) H
theorem wH_pre {c:Code} {H0:Hp} (h:Eng.pre H0 H) (A:wH C c Q sl H0):wH C c Q sl H:=oH A (λS t o=>⟨S,.refl _,o.pre h⟩)
theorem lD {c:Code} {β:Type} (o:β->List (Nat×V)) (A:β->Hp) (R:β->Prop) (h1:wH C c (Gs (Kz o A R) Q) sl H) (h2:∀x,R x->∀sl' B,Eng.pick (o x) sl'=o x->Eng.pre (A x) B->Q .normal sl' B):wH C c Q sl H:=by
 refine IC (λe sl H h => ?_) h1
 cases e with
 | normal =>
  obtain ⟨x,F,he,hp⟩:=h
  exact h2 x F _ _ he hp
 | _=>exact h
theorem aN {c:Code} {H0:Hp} (o:List (Nat×V)) (he:Eng.pick o sl=o) (hp:Eng.pre H0 H) (h:wH C c Q (envS o) H0):wH C c Q sl H:=wH_pre hp (Oz o he h)
def loopE {β:Type} (h:β->List (Nat×V)) (o:β->Hp) (R:β->Prop) (m:β->Nat) (x:β) (sl:Nat->V) (H:Hp):Prop:=∃x',R x'/\m x'<m x/\pick (h x') sl=h x'/\pre (o x') H
def Lb {β:Type} (h:β->List (Nat×V)) (o:β->Hp) (R:β->Prop) (m:β->Nat) (x:β) (Q:QH):QH
 | .normal,sl,H=>loopE h o R m x sl H
 | e,sl,H=>Q e sl H
theorem JZ {h:List (Nat×V)} {S:Store} {t:Nat} (he:pick h sl=h):Gst ⟨sl,S,t⟩ ⟨envS h,S,t⟩:=by
 have:=Gst.forget ⟨sl,S,t⟩ (h.map (·.1))
 have e:((h.map (·.1)).map λk=>(k,sl k))=h:=by rw [List.map_map];exact he
 simp only [e]at this
 exact this
open Classical in
theorem Ec {c:Code} {β:Type} (o:β->List (Nat×V)) (W:β->Hp) (R:β->Prop) (m:β->Nat) (F:β) (hx:R F) (he:pick (o F) sl=o F) (hH:pre (W F) H)
  (h:∀x,R x->wH C c (Lb o W R m x Q) (envS (o x)) (W x)):wH C (.loop c) Q sl H:=by
 intro ok S t Z
 have ag:=Z.pre hH
 let I:St->Nat->Prop:=λσ n=>∃x,R x/\m x=n/\Ag (W x) σ.store σ.tick/\σ.slots=envS (o x)
 have key:∀σ n,I σ n->∃N,Gst σ N/\wpD C c (seqQ (λB=>∃M,Gst B M/\∃A,A<n/\I M A) (Ll Q)) N:=by
  rintro ⟨sl',S',t'⟩ n ⟨x,hR,hm,ag',rfl⟩
  obtain ⟨N,hg,hw⟩:=h x hR ok S' t' ag'
  refine⟨N,hg,jy c (λe σ h => ?_) hw⟩
  obtain ⟨H',h1,h2⟩:=h
  cases e with
  | normal =>
   obtain ⟨x',hR',O,Y,hp⟩:=h2
   exact⟨⟨envS (o x'),σ.store,σ.tick⟩,JZ Y,m x',by omega,x',hR',rfl,h1.pre hp,rfl⟩
  | _=>exact⟨H',h1,h2⟩
 let J:St->Nat->Prop:=λN n=>wpD C c (seqQ (λB=>∃M,Gst B M/\∃A,A<n/\I M A) (Ll Q)) N
 have hI0:I ⟨envS (o F),S,t⟩ (m F):=⟨F,hx,rfl,ag,rfl⟩
 obtain ⟨σ0,hg0,hJ0⟩:=key _ _ hI0
 refine⟨⟨sl,S,t⟩,.refl _,?_⟩
 show wpD C (.loop c) (Ll Q) _
 refine⟨λσ=>∃n,J σ n,λσ=>leastOf (J σ),⟨σ0,(JZ he).trans hg0,_,hJ0⟩,λσ hJ => ?_⟩
 obtain ⟨h1,h2⟩:=leastOf_spec hJ
 refine jy c (λe B hq => ?_) h1
 cases e with
 | normal =>
  obtain ⟨M,hg3,A,O,hI⟩:=hq
  obtain ⟨σ4,X,L⟩:=key M A hI
  refine⟨σ4,hg3.trans X,⟨A,L⟩,?_⟩
  have:=(leastOf_spec (p:=J σ4) ⟨A,L⟩).2 A L
  exact Nat.lt_of_le_of_lt this O
 | _=>exact hq
theorem AgR.start {S:Store} {t:Nat} (h:Ag H S t) (ops:List Oper):AgR H S t ops:=⟨h.pos,h.nd,λp hp=>⟨.inl (h.at_ p hp).1,(h.at_ p hp).2⟩⟩
theorem AgR.fin {S:Store} {t:Nat} (h:AgR H S t []):Ag H S (t+1):=⟨Nat.succ_pos _,h.nd,λp hp=>⟨by rcases (h.at_ p hp).1 with h1 | ⟨h1,_⟩ <;> omega,(h.at_ p hp).2⟩⟩
theorem AgR.tail {S:Store} {t:Nat} {o:Oper} {rest:List Oper} (h:AgR H S t (o::rest)):AgR H S t rest:=⟨h.pos,h.nd,λp hp=>⟨by
 rcases (h.at_ p hp).1 with h1|⟨h1,h2⟩
 ·exact .inl h1
 ·exact .inr ⟨h1,λo ho=>h2 o (List.mem_cons_of_mem _ ho)⟩,(h.at_ p hp).2⟩⟩
theorem qL.tail {o:Oper} {rest:List Oper} (h:qL C (o::rest)):qL C rest:=⟨by
 have:=h.1;simp only [jU,Bool.and_eq_true]at this;exact this.2,λo ho=>h.2 o (List.mem_cons_of_mem _ ho)⟩
theorem av {id:Nat} {ops:List Oper} (h:aR none C ops (λsl H=>Q .normal sl H) ops sl H):wH C (.region id ops.toArray false) Q sl H:=λok S t B=>by
 refine⟨_,.refl _,?_⟩
 simp only [nL,Bool.not_false,Bool.true_or,Bool.and_true]at ok
 have A:=ok
 simp only [y7,Bool.and_eq_true]at A
 have h1:=h S t ⟨A.2,λo ho=>List.all_eq_true.1 A.1 o ho⟩ (AgR.start B _)
 refine⟨ok,?_⟩
 exact uM (λsl S ⟨F,h1,h2⟩=>⟨F,h1.fin,h2⟩) _ _ _ h1
theorem bD {id:Nat} {ops:List Oper} (h:aR (some []) C ops (λsl H=>Q .normal sl H) ops sl H):wH C (.region id ops.toArray true) Q sl H:=λok S t F=>by
 refine⟨_,.refl _,?_⟩
 simp only [nL,Bool.and_eq_true,Bool.not_true,Bool.false_or]at ok
 obtain ⟨B,hm,hl⟩:=ok
 have A:=B
 simp only [y7,Bool.and_eq_true]at A
 have h1:=h S t ⟨A.2,λo ho=>List.all_eq_true.1 A.1 o ho⟩ (AgR.start F _) 0 [] (by simp) (λp hp=>by cases hp) (λe he=>by cases he)
 refine⟨B,hm,hl,?_⟩
 exact yI (λsl S ⟨I,h1,h2⟩=>⟨I,h1.fin,h2⟩) _ _ _ _ _ h1
variable {q:Qm} {all rest:List Oper} {K:(Nat->V)->Hp->Prop}
theorem af (h:K sl H):aR q C all K [] sl H:=λS tk _ o=>by
 cases q with
 | none=>exact⟨H,o,h⟩
 | some Γ=>intro k L _ _ _;exact⟨H,o,h⟩
theorem Cg {all:List Oper} {k:Nat} {A:Eff} {T:List Nm} {w:Bool} {Γ:List Fp} (hT:(∀x∈A.req,x.1∈T)/\∀x∈A.upd,x.1∈T) (M:w=false->A.upd=[]) (hf:PS all k T w Γ):∀{L:List (Nat×Eff)},LogOK Γ L->DU all k A L
 | [],_=>trivial
 | (j,B)::L,h=>by
  refine⟨?_,Cg hT M hf (λp hp=>h p (by simp [hp]))⟩
  rcases h (j,B) (by simp)with⟨h1,h2⟩|⟨e,he,h1,h2,I,W⟩
  ·exact .inl (by unfold Dis;dsimp only at h1 h2;rw [h1,h2];simp)
  ·have key:∀{Γ:List Fp},PS all k T w Γ->e∈Γ->(w=false/\e.2.2=false)\/(∀n∈T,n∉e.2.1)\/Au all 8 e.1 k=true:=by
    intro Γ
    induction Γ with
    | nil=>intro _ h;cases h
    | cons x Γ O =>
     intro h1 h2
     rcases List.mem_cons.1 h2 with rfl|h2
     ·exact h1.1
     ·exact O h1.2 h2
   rcases key hf he with⟨o,R⟩|o|o
   ·have N:=M o
    have J:=W R
    exact .inl (by unfold Dis;dsimp only at J;rw [N,J];simp)
   ·refine .inl ⟨λp hp=>⟨λx F e' => ?_,λx F e' => ?_⟩,λx F p hp e' => ?_⟩
    ·exact o _ (hT.2 p hp) (e' ▸ h2 x F)
    ·exact o _ (hT.2 p hp) (e' ▸ I x F)
    ·exact o _ (hT.1 p hp) (e' ▸ I x F)
   ·rw [h1]at o;exact .inr o
theorem mM {o:Oper} {v:V} (W:aL all sl o=some true) (F:∀S tk (X:Eff->Prop),AgR H S tk (o::rest)->(∀A,A.upd=[]->A.req=[]->A.val=v->X A)->opD C o sl S tk X)
  (h:aR q C all K rest (dE sl o.dst v) H):aR q C all K (o::rest) sl H:=λS tk ok I=>by
 have O:=h S tk ok.tail I.tail
 cases q with
 | none =>
  refine⟨sl,S,.refl _,?_⟩
  simp only [W]
  exact .inl (F S tk _ I (λA B N M=>by rw [B,M];exact O))
 | some Γ =>
  intro k L hk J R
  simp only [opsL,W]
  refine F S tk _ I (λA B N M=>⟨?_,?_⟩)
  ·refine Cg (T:=[]) (w:=false) (Γ:=Γ) ⟨by rw [N];simp,by rw [B];simp⟩ (λ_=>B) ?_ J
   clear O J h R
   induction Γ with
   | nil=>trivial
   | cons e Γ Y=>exact⟨.inr (.inl (λn Z=>by cases Z)),Y⟩
  rw [B,M]
  exact O (k+1) ((k,A)::L) (by simp only [List.length_cons]at hk;omega) (λp hp=>by
   rcases List.mem_cons.1 hp with hp|hp
   ·rw [hp];exact .inl ⟨B,N⟩
   ·exact J p hp) R.tail
theorem bR {o:Oper} (A:aL all sl o=some false) (h:aR q C all K rest (dE sl o.dst .none) H):aR q C all K (o::rest) sl H:=λS tk ok F=>by
 have B:=h S tk ok.tail F.tail
 cases q with
 | none =>
  refine⟨sl,S,.refl _,?_⟩
  simp only [A]
  exact B
 | some Γ =>
  intro k L J I M
  simp only [opsL,A]
  exact B (k+1) L (by simp only [List.length_cons]at J;omega) I M.tail
theorem Km {o:Oper} (k:Nat) (w:Bool) (N:q=none\/Nat.beq all.length (k+(rest.length+1))=true) (hw:aL all sl o=some true)
  (I:∀S tk (Z:Eff->Prop),qL C (o::rest)->AgR H S tk (o::rest)->oldQ q tk (o::rest) ->
   (∀A O T,okQ q all k T w->(∀m∈T,Jq tk rest m)->((∀x∈A.req,x.1∈T)/\∀x∈A.upd,x.1∈T)->(w=false->A.upd=[])->AgR O (dn S A.upd) tk rest->aR (mV q k T w) C all K rest (dE sl o.dst A.val) O->Z A)->opD C o sl S tk Z) :
  aR q C all K (o::rest) sl H:=λS tk ok W=>by
 cases q with
 | none =>
  refine⟨sl,S,.refl _,?_⟩
  simp only [hw]
  exact .inl (I S tk _ ok W trivial (λA O T _ _ _ _ B h=>h _ tk ok.tail B))
 | some Γ =>
  intro k' L J X Y
  have R:k'=k:=by
   rcases N with N|N
   ·cases N
   ·have:=Nat.eq_of_beq_eq_true N
    simp only [List.length_cons]at J
    omega
  subst R
  simp only [opsL,hw]
  refine I S tk _ ok W Y (λA O T hf M hT F B h=>⟨Cg hT F hf X,?_⟩)
  have h':=h _ tk ok.tail B
  exact h' (k'+1) ((k',A)::L) (by simp only [List.length_cons]at J;omega) (λp hp=>by
   rcases List.mem_cons.1 hp with hp|hp
   ·rw [hp];exact .inr ⟨(k',T,w),by simp,rfl,hT.1,hT.2,F⟩
   ·rcases X p hp with h1|⟨e,h1,h2⟩
    ·exact .inl h1
    ·exact .inr ⟨e,by simp [h1],h2⟩) (λe he m hm=>by
   rcases List.mem_append.1 he with he|he
   ·exact (Y e he m hm).tail
   ·rw [List.mem_singleton]at he;subst he;exact M m hm)
theorem AgR.old {S:Store} {tk:Nat} {l:List Oper} (o:AgR H S tk l) {m:Nm} (h:m∈H.map (·.1)):Jq tk l m:=by
 obtain ⟨p,hp,rfl⟩:=List.mem_map.1 h
 exact (o.at_ p hp).1
theorem rz {o:Oper} (k:Nat) (T:List Nm) (w:Bool) (R:q=none\/Nat.beq all.length (k+(rest.length+1))=true) (hf:∀S tk,AgR H S tk (o::rest)->okQ q all k T w) (I:∀m∈T,m∈H.map (·.1)) (N:aL all sl o=some true)
  (J:∀S tk (B:Eff->Prop),qL C (o::rest)->AgR H S tk (o::rest) ->
   (∀A h,((∀x∈A.req,x.1∈T)/\∀x∈A.upd,x.1∈T)->(w=false->A.upd=[])->AgR h (dn S A.upd) tk rest->aR (mV q k T w) C all K rest (dE sl o.dst A.val) h->B A)->opD C o sl S tk B) :
  aR q C all K (o::rest) sl H :=
 Km k w R N (λS tk B ok F _ M=>J S tk B ok F (λA h h1 h2 L O=>M A h T (hf S tk F) (λm hm=>(F.old (I m hm)).tail) h1 h2 L O))
theorem zi {H:Hp} {k:Nat} {n:Nm} {b:Option Box} (h:H[k]? = some (n,b)):∀m ∈ [n],m∈H.map (·.1):=λm hm=>by
 rw [List.mem_singleton]at hm;subst hm
 exact List.mem_map.2 ⟨_,List.mem_of_getElem? h,rfl⟩
theorem Ay {q:Qm} {all:List Oper} {k:Nat} {w:Bool}:okQ q all k [] w:=by
 cases q with
 | none=>trivial
 | some Γ =>
  show PS all k [] w Γ
  induction Γ with
  | nil=>trivial
  | cons e Γ o=>exact⟨.inr (.inl (λn h=>by cases h)),o⟩
theorem DF {q:Qm} {all:List Oper} {k:Nat} {T T':List Nm} {w:Bool} (hs:∀m∈T',m∈T) (h:okQ q all k T w):okQ q all k T' w:=by
 cases q with
 | none=>trivial
 | some Γ =>
  simp only [okQ]at h ⊢
  induction Γ with
  | nil=>trivial
  | cons e Γ A=>exact⟨h.1.imp id (λh=>h.imp (λh n o=>h n (hs n o)) id),A h.2⟩
theorem okQ_add {q:Qm} {all rest:List Oper} {k tk:Nat} {T:List Nm} {n:Nm} (h:okQ q all k T true) (ho:oldQ q tk rest) (A:¬Jq tk rest n):okQ q all k (T++[n]) true:=by
 cases q with
 | none=>trivial
 | some Γ =>
  simp only [oldQ]at ho
  simp only [okQ]at h ⊢
  induction Γ with
  | nil=>trivial
  | cons e Γ o =>
   refine⟨?_,o h.2 (λe he=>ho e (by simp [he]))⟩
   rcases h.1 with⟨h1,_⟩|h1|h1
   ·cases h1
   ·refine .inr (.inl (λm hm he => ?_))
    rcases List.mem_append.1 hm with hm|hm
    ·exact h1 m hm he
    ·rw [List.mem_singleton]at hm;subst hm;exact A (ho e (by simp) m he)
   ·exact .inr (.inr h1)
theorem JI {o:Oper} (M:aL all sl o=some true)
  (I:∀S tk (J:Eff->Prop),qL C (o::rest)->AgR H S tk (o::rest)->(∀A F,AgR F (dn S A.upd) tk rest->aR none C all K rest (dE sl o.dst A.val) F->J A)->opD C o sl S tk J):aR none C all K (o::rest) sl H:=λS tk ok L=>by
 refine⟨sl,S,.refl _,?_⟩
 simp only [M]
 exact .inl (I S tk _ ok L (λA F B h=>h _ tk ok.tail B))
theorem dis1 {n m:Nm} (h:n≠m):∀x ∈ [n],x ∉ [m]:=λx o hm=>by
 rw [List.mem_singleton]at o hm;exact h (o.symm.trans hm)
theorem QB {S:Store} {tk:Nat} {l:List Oper} (o:AgR H S tk l) {i j:Nat} {n m:Nm} {b c:Option Box} (hi:H[i]? = some (n,b)) (hj:H[j]? = some (m,c)) (h:i≠j):n≠m:=λe=>by
 have h1:=List.getElem?_eq_some_iff.1 hi
 have h2:=List.getElem?_eq_some_iff.1 hj
 exact h (iY o.nd i j (by simpa using h1.1) (by simpa using h2.1) (by simp [h1.2,h2.2,e]))
end
end Go.Eng

/-
  THE ENGINE: loads, stores and fields by the facts of a type; what a naming leaves alone.
-/
namespace Go.Eng
set_option linter.unusedSectionVars false
variable [DM]
set_option linter.unusedVariables false
def K5 (agg:Bool) (size:Nat) (n:Nm) (i j:Nat):Option Box->Option Eff
 | some (.vec sz xs)=>match xs[i]? with
  | some cs=>(rdD agg size (cs.drop j)).map λv=>⟨[(n,.vec sz xs)],[],v⟩
  | none=>none
 | some (.froz sz xs)=>match xs[i]? with
  | some cs=>(rdD agg size (cs.drop j)).map λv=>⟨[(n,.froz sz xs)],[],v⟩
  | none=>none
 | some (.cells sz cs)=>(rdV agg size (cs.drop (i*sz+j))).map λv=>⟨[(n,.cells sz cs)],[],v⟩
 | _=>none
theorem Cr {P:Program} {t:TypeId} {agg:Bool} {size:Nat} (h1:szT P t=some size) (h2:cz P t=agg) (S:Store) (n:Nm) (i j:Nat):rH P t S (.ref n i j)=K5 agg size n i j (S n):=by
 simp only [rH,h1,h2,K5]
 cases S n with
 | none=>rfl
 | some b=>cases b <;> rfl
theorem LU {P:Program} {t:TypeId} {agg:Bool} {size:Nat} (h1:szT P t=some size) (h2:cz P t=agg) (S:Store) (cs:List D):rH P t S (.d (.ptr cs))=(rdD agg size cs).bind fq:=by
 simp only [rH,h1,h2]
def Jv (size:Nat) (n:Nm) (i j:Nat) (x:V):Option Box->Option Eff
 | some (.cells sz cs) =>
  bif Nat.beq (aX x).length size&&Nat.ble (i*sz+j+size) cs.length&&(aX x).all iM&&Nat.blt sz 1048576 then
   some ⟨[(n,.cells sz cs)],[(n,some (.cells sz (splice cs (aX x) (i*sz+j))))],.none⟩
  else none
 | some (.vec sz xs)=>match xs[i]?,qO (aX x)with
  | some cs,some new =>
   bif Nat.beq new.length size&&Nat.ble (j+size) cs.length&&(aX x).all iM then
    some ⟨[(n,.vec sz xs)],[(n,some (.vec sz (xs.set i (splice cs new j))))],.none⟩
   else none
  | _,_=>none
 | _=>none
theorem Fx {P:Program} {t:TypeId} {size:Nat} (h1:szT P t=some size) (S:Store) (n:Nm) (i j:Nat) (x:V):vR P t S (.ref n i j) x=Jv size n i j x (S n):=by
 simp only [vR,h1,Jv]
 cases S n with
 | none=>rfl
 | some b=>cases b <;> rfl
theorem FO {P:Program} {t:TypeId} {f off s:Nat} (h:bN P t f=some (off,s+1)) (n:Nm) (i j:Nat):je P t (.ref n i j) f=some ⟨[],[],.ref n i (j+off)⟩:=by
 unfold bN at h
 unfold je
 cases hf:x8 P t f with
 | none=>rw [hf]at h;cases h
 | some A =>
  simp only [hf,Option.map_eq_some_iff]at h
  obtain ⟨o,h1,h2⟩:=h
  cases h2
  simp only [h1];rfl
theorem Dl {P:Program} {t:TypeId} {f off s:Nat} (h:bN P t f=some (off,s+1)) (cs:List D):je P t (.d (.ptr cs)) f=bif Nat.ble off cs.length then some ⟨[],[],.d (.ptr (cs.drop off))⟩else none:=by
 unfold bN at h
 unfold je
 cases hf:x8 P t f with
 | none=>rw [hf]at h;cases h
 | some A =>
  simp only [hf,Option.map_eq_some_iff]at h
  obtain ⟨o,h1,h2⟩:=h
  cases h2
  simp only [h1];rfl
def Pw (size:Nat) (x:V) (i:Int):Option Eff:=match x with
 | .d (.sl xs)=>match xs[i.toNat]? with
  | some cs=>bif Nat.beq cs.length size then fq (.d (.ptr cs))else none
  | none=>none
 | .vs n sz k len=>bif Nat.ble (i.toNat+1) len&&Nat.beq sz size then fq (.ref n (k+i.toNat) 0)else none
 | .d (.wild sz len)=>bif Nat.ble (i.toNat+1) len&&Nat.beq sz size then fq (.d (.wildp size))else none
 | _=>none
theorem zg {P:Program} {t:TypeId} {size:Nat} (h:(elemT P t).bind (szT P)=some size) (x:V) (k:IntKind) (i:Int):kG P t x (.d (.int k i))=bif decide (0<=i)then Pw size x i else none:=by
 simp only [kG,h,Pw]
 rfl
theorem idxB_sl {size:Nat} {xs:List (List D)} {i:Int} {cs:List D} (h:xs[i.toNat]? = some cs) (hl:cs.length=size):Pw size (.d (.sl xs)) i=some ⟨[],[],.d (.ptr cs)⟩:=by
 subst hl
 simp only [Pw,h,Nat.beq_refl,cond_true];rfl
theorem idxB_vs {size:Nat} {n:Nm} {k len:Nat} {i:Int} (h:i.toNat<len):Pw size (.vs n size k len) i=some ⟨[],[],.ref n (k+i.toNat) 0⟩:=by
 simp only [Pw,Nat.beq_refl,Bool.and_true,Nat.ble_eq_true_of_le h,cond_true];rfl
theorem jM (l:List Box) (i:Nat):cB l (au i)=l[i]? := by simp only [cB,gQ]
theorem sD {ρ:List Nm} {v:V} (h:okV 0 v=true):ren ρ v=v :=
 zG ρ 0 (λn o=>by obtain ⟨i,hi,_⟩:=su o;exact absurd hi (Nat.not_lt_zero i)) _ h
theorem IW {ρ:List Nm} {vs:List V} (h:okL 0 vs=true):renL ρ vs=vs :=
 ve ρ 0 (λn o=>by obtain ⟨i,hi,_⟩:=su o;exact absurd hi (Nat.not_lt_zero i)) _ h
theorem yL {ρ:List Nm} {b:Box} (h:b.ok 0=true):b.ren ρ=b:=by
 cases b with
 | cells sz cs=>simp only [Box.ok]at h;simp only [Box.ren,IW h]
 | pmap es =>
  simp only [Box.ren,Box.pmap.injEq]
  exact (List.map_congr_left (λe he=>by rw [sD (List.all_eq_true.1 h e he)];rfl)).trans (List.map_id _)
 | iter cur left =>
  simp only [Box.ok,Bool.and_eq_true]at h
  simp only [Box.ren,Box.iter.injEq]
  refine⟨?_,(List.map_congr_left (λe he=>by rw [sD (List.all_eq_true.1 h.2 e he)];rfl)).trans (List.map_id _)⟩
  cases cur with
  | none=>rfl
  | some x=>simp only [Option.map_some,sD (v:=x.2) (by simpa using h.1)]
 | _=>rfl
theorem Fq {k k':Nat} (h:k<=k') {n:Nm} (o:okN k n=true):okN k' n=true:=by
 unfold okN at *
 split
 ·rename_i i hi
  rw [hi]at o
  have h1:Nat.blt i k=true:=o
  simp only [Nat.blt_eq]at h1 ⊢
  omega
 ·rename_i hi;rw [hi]at o;exact o
mutual
theorem rP {k k':Nat} (h:k<=k'):∀(v:V),okV k v=true->okV k' v=true
 | .ref n i j,o=>by simp only [okV]at *;exact Fq h o
 | .vs n sz a len,o=>by simp only [okV]at *;exact Fq h o
 | .map n,o=>by simp only [okV]at *;exact Fq h o
 | .fn f caps,o=>by simp only [okV]at *;exact uZ h caps o
 | .agg cs,o=>by simp only [okV]at *;exact uZ h cs o
 | .tup vs,o=>by simp only [okV]at *;exact uZ h vs o
 | .d _,_=>rfl
 | .nil,_=>rfl
 | .nilm,_=>rfl
 | .nili,_=>rfl
 | .none,_=>rfl
 | .any,_=>rfl
theorem uZ {k k':Nat} (h:k<=k'):∀(vs:List V),okL k vs=true->okL k' vs=true
 | [],_=>rfl
 | v::vs,o=>by
  simp only [okL,Bool.and_eq_true]at *
  exact⟨rP h v o.1,uZ h vs o.2⟩
end
theorem Box.ok_mono {k k':Nat} (h:k<=k') {b:Box} (hb:b.ok k=true):b.ok k'=true:=by
 cases b with
 | cells sz cs=>exact uZ h cs hb
 | pmap es=>exact List.all_eq_true.2 (λe he=>rP h _ (List.all_eq_true.1 hb e he))
 | iter cur left =>
  simp only [Box.ok,Bool.and_eq_true]at hb ⊢
  refine⟨?_,List.all_eq_true.2 (λe he=>rP h _ (List.all_eq_true.1 hb.2 e he))⟩
  cases cur with
  | none=>rfl
  | some x=>exact rP h _ (by simpa using hb.1)
 | _=>rfl
theorem xD (n:Nm) (l:List Nm):qF (n::l) (au 0)=n:=by simp only [qF,gQ];rfl
theorem vU (a n:Nm) (l:List Nm):qF (a::n::l) (au 1)=n:=by simp only [qF,gQ];rfl
theorem lQ {i k:Nat} (h:i<k):okN k (au i)=true:=by simp only [okN,gQ];simpa [Nat.blt_eq]using h
end Go.Eng

/-
  THE ENGINE: the rules for single operations over a list of known boxes.
-/
namespace Go.Eng
set_option linter.unusedSectionVars false
variable [DM]
set_option linter.unusedVariables false
abbrev w64 (n:Int):Int:=IntKind.i64.wrap n
abbrev vI (n:Int):V := .d (.int .i64 n)
abbrev vB (b:Bool):V := .d (.bool b)
abbrev vS (s:ByteArray):V := .d (.str s)
abbrev dl {α:Type} (enc:α->List D) (xs:List α):D := .sl (xs.map enc)
abbrev vL {α:Type} (enc:α->List D) (xs:List α):V := .d (.sl (xs.map enc))
abbrev vV {α:Type} (n:Nm) (sz:Nat) (xs:List α):V := .vs n sz 0 xs.length
abbrev bV {α:Type} (sz:Nat) (enc:α->List D) (xs:List α):Box := .vec sz (xs.map enc)
abbrev bF {α:Type} (sz:Nat) (enc:α->List D) (xs:List α):Box := .froz sz (xs.map enc)
def gV {α:Type} (n:Nm) (sz:Nat):List α->V
 | [] => .nil
 | x::xs => .vs n sz 0 (x::xs).length
def gB {α:Type} (sz:Nat) (enc:α->List D):List α->Option Box
 | []=>none
 | x::xs=>some (.vec sz ((x::xs).map enc))
def gF {α:Type} (sz:Nat) (enc:α->List D):List α->Option Box
 | []=>none
 | x::xs=>some (.froz sz ((x::xs).map enc))
def eI (n:Int):List D:=[.int .i64 n]
def eS (s:ByteArray):List D:=[.str s]
def idx {α:Type} (xs:List α) (i:Int):Option α:=if 0<=i then xs[i.toNat]? else none
section
variable {C:Cfg} {sl:Nat->V} {H:Hp} {q:Qm} {all rest:List Oper} {K:(Nat->V)->Hp->Prop}
variable {dst:Option Tmp} {d:Nat} {t ty:TypeId} {pos:String} {after:Array Edge} {g:Option (Nat×Bool)}
theorem wt (h:g=none) {op:Op}:aL all sl ⟨dst,op,ty,pos,after,g⟩=some true:=by subst h;rfl
theorem wz {op:Op}:aL all sl ⟨dst,op,ty,pos,after,none⟩=some true:=rfl
theorem wg {j:Nat} {o b:Bool} {c:Bool} {A:Nat} {op:Op} (h1:(all[j]?).bind (·.dst)=some A) (h2:sl A = .d (.bool b)) (h:(b==o)=c):aL all sl ⟨dst,op,ty,pos,after,some (j,o)⟩=some c:=by
 subst h;simp only [aL,h1,h2]
theorem wa {j:Nat} {o b:Bool} {c:Bool} {A:Nat} {op:Op} (h1:(all[j]?).bind (·.dst)=some A:=by rfl) (h2:sl A = .d (.bool b):=by rfl) (h:(b==o)=c:=by rfl):aL all sl ⟨dst,op,ty,pos,after,some (j,o)⟩=some c:=wg h1 h2 h
theorem wn {j:Nat} {h:Bool} {o:Nat} {op:Op} (h1:(all[j]?).bind (·.dst)=some o) (h2:sl o = .none):aL all sl ⟨dst,op,ty,pos,after,some (j,h)⟩=some false:=by
 simp only [aL,h1,h2]
def FC (C:Cfg) (sl:Nat->V):Op->Option V
 | .move x | .assign x=>some (ev sl x)
 | .pick c a b=>Rq (ev sl c) (ev sl a) (ev sl b)
 | .nilCheck x=>yH (ev sl x)
 | .binOp op t x y _=>CY C.P op t x y (ev sl x) (ev sl y)
 | .unOp op _ x=>unF op (ev sl x)
 | .convert s t x=>CF C.P s t (ev sl x)
 | .makeFunc (.func f) first h=>Ps f (first.toList.map (ev sl)) (h.toList.map (ev sl))
 | .slice t x o hi mx=>lg C.P t (ev sl x) (o.map (ev sl)) (hi.map (ev sl)) (mx.map (ev sl))
 | .field t x f=>Js C.P t (ev sl x) f
 | .index t x i=>Bz C.P t (ev sl x) (ev sl i)
 | .extract x i=>Af (ev sl x) i
 | .build t parts=>bif (parts.toList.map λp=>(p.1,ev sl p.2)).all (λp=>(aX p.2).all iM)then Iz C.P t (parts.toList.map λp=>(p.1,ev sl p.2))else none
 | _=>none
theorem P7 {op:Op} {v:V} (h:FC C sl op=some v) (S:Store) (tk:Nat) (B:Eff->Prop) (F:B ⟨[],[],v⟩):opD C ⟨dst,op,ty,pos,after,g⟩ sl S tk B:=by
 have fin:(∀c,op ≠ .call c)->oz C ⟨dst,op,ty,pos,after,g⟩ sl S tk=(FC C sl op).bind fq->opD C ⟨dst,op,ty,pos,after,g⟩ sl S tk B:=by
  intro hc e
  have e':oz C ⟨dst,op,ty,pos,after,g⟩ sl S tk=some ⟨[],[],v⟩:=by rw [e,h];rfl
  unfold opD
  split
  ·rename_i c A;exact absurd A (hc c)
  ·rw [e'];exact F
 have o:(∀c,op ≠ .call c)->(∃b,oz C ⟨dst,op,ty,pos,after,g⟩ sl S tk=orE ((FC C sl op).bind fq) b)->opD C ⟨dst,op,ty,pos,after,g⟩ sl S tk B:=by
  intro hc ⟨b,e⟩
  have e':oz C ⟨dst,op,ty,pos,after,g⟩ sl S tk=some ⟨[],[],v⟩:=by rw [e,h];rfl
  unfold opD
  split
  ·rename_i c A;exact absurd A (hc c)
  ·rw [e'];exact F
 cases op <;> first | (refine fin (λc e=>by cases e) ?_;rfl) | (cases h;done) | skip
 case convert s t x=>exact o (λc e=>by cases e) ⟨Bu C.P s t S (ev sl x),rfl⟩
 case slice t x lo hi mx=>exact o (λc e=>by cases e) ⟨rE C.P t S (ev sl x) (lo.map (ev sl)) (hi.map (ev sl)) (mx.map (ev sl)),rfl⟩
 case build t parts =>
  refine fin (λc e=>by cases e) ?_
  simp only [FC]at h ⊢
  simp only [oz]
  cases hb:(parts.toList.map λp=>(p.1,ev sl p.2)).all (λp=>(aX p.2).all iM)with
  | true=>simp only [cond_true]
  | false=>simp only [hb,cond_false]at h;cases h
 case makeFunc fn first captured =>
  cases fn with
  | func f =>
   exact fin (λc e=>by cases e) rfl
  | _=>cases h
theorem aI {op:Op} (v:V) (B:aL all sl ⟨dst,op,ty,pos,after,g⟩=some true) (F:FC C sl op=some v)
  (h:aR q C all K rest (dE sl dst v) H):aR q C all K (⟨dst,op,ty,pos,after,g⟩::rest) sl H :=
 mM B (λS tk o _ A=>P7 F S tk o (A _ rfl rfl rfl)) h
theorem aC {x:Operand} {c b:Bool} (o:ev sl x = .d (.bool c)) (hc:c=b) (A:aL all sl ⟨dst,.move x,ty,pos,after,g⟩=some true)
  (h:aR q C all K rest (dE sl dst (vB b)) H):aR q C all K (⟨dst,.move x,ty,pos,after,g⟩::rest) sl H :=
 aI (vB b) A (by show some (ev sl x)=_;rw [o,hc]) h
end
end Go.Eng

/-
  THE ENGINE: the rules for operations over memory.
-/
namespace Go.Eng
set_option linter.unusedSectionVars false
variable [DM]
set_option linter.unusedVariables false
section
variable {C:Cfg} {sl:Nat->V} {H:Hp} {q:Qm} {all rest:List Oper} {K:(Nat->V)->Hp->Prop}
variable {dst:Option Tmp} {d:Nat} {t ty:TypeId} {pos:String} {after:Array Edge} {g:Option (Nat×Bool)}
theorem AgR.get {S:Store} {tk:Nat} {l:List Oper} (o:AgR H S tk l) {i:Nat} {n:Nm} {b:Box} (h:H[i]? = some (n,some b)):S n=some b :=
  (o.at_ _ (List.mem_of_getElem? h)).2 b rfl
theorem AgR.set {S:Store} {tk:Nat} {l:List Oper} (A:AgR H S tk l) {i:Nat} {n:Nm} {F b:Option Box} {b':Option Box} (h:H[i]? = some (n,F)) (hb:∀x,b=some x->b'=some x):AgR (H.set i (n,b)) (supd S n b') tk l:=by
  have hi:i<H.length:=by
    have:=List.getElem?_eq_some_iff.1 h
    exact this.1
  have he:H[i]=(n,F):=by have:=List.getElem?_eq_some_iff.1 h;exact this.2
  have hm:(H.set i (n,b)).map (·.1)=H.map (·.1):=by
    apply List.ext_getElem
    · simp
    · intro j h1 h2
      simp only [List.length_map]at h2
      simp only [List.getElem_map,List.getElem_set]
      split
      · rename_i e;subst e;rw [he]
      · rfl
  refine⟨A.pos,by rw [hm];exact A.nd,λp hp => ?_⟩
  obtain ⟨j,hj,rfl⟩:=List.getElem_of_mem hp
  simp only [List.length_set]at hj
  simp only [List.getElem_set]
  split
  · rename_i e;subst e
    have:=A.at_ (n,F) (by rw [<- he];exact List.getElem_mem hi)
    exact⟨this.1,λx B=>by simp only [supd,if_true];exact hb x B⟩
  · rename_i e
    have h1:=A.at_ H[j] (List.getElem_mem hj)
    refine⟨h1.1,λx B => ?_⟩
    have o:H[j].1≠n:=λo=>by
      have:=A.nd
      have h2:(H.map (·.1))[j]'(by simpa using hj)=(H.map (·.1))[i]'(by simpa using hi):=by simp [he,o]
      exact e (iY A.nd i j (by simpa using hi) (by simpa using hj) h2.symm)
    simp only [supd,if_neg o]
    exact h1.2 x B
theorem new_ne {S:Store} {tk:Nat} {o:Oper} (ok:qL C (o::rest)) (B:AgR H S tk (o::rest)) (A:o.dst=some d) (j:Nat):∀p∈H,p.1≠(d+100000*j,tk):=λp hp e=>by
  have h:=(nk (ok.2 o (by simp)) A).2
  rcases (B.at_ p hp).1 with h1|⟨_,h1⟩
  · rw [e]at h1;exact Nat.lt_irrefl _ h1
  · have:=h1 o (by simp)
    rw [e,A]at this
    have e2:(d+100000*j) % 100000=d:=(Nat.add_mul_mod_self_left d 100000 j).trans (Nat.mod_eq_of_lt h)
    simp only [e2]at this
    exact this rfl
theorem AgR.new {S:Store} {tk:Nat} {o:Oper} (ok:qL C (o::rest)) (B:AgR H S tk (o::rest)) (J:o.dst=some d) (b:Box):AgR (H++[((d,tk),some b)]) (supd S (d,tk) (some b)) tk rest:=by
  have h:=new_ne ok B J 0
  simp only [Nat.mul_zero,Nat.add_zero]at h
  have I:=(nk (ok.2 o (by simp)) J).2
  refine⟨B.pos,?_,λp hp => ?_⟩
  · rw [List.map_append,List.nodup_append]
    refine⟨B.nd,by simp,λa M b hb => ?_⟩
    simp only [List.map_cons,List.map_nil,List.mem_singleton]at hb
    obtain ⟨p,hp,rfl⟩:=List.mem_map.1 M
    rw [hb]
    exact h p hp
  · rcases List.mem_append.1 hp with hp | hp
    · have:=B.tail.at_ p hp
      exact⟨this.1,λx F=>by simp only [supd,if_neg (h p hp)];exact this.2 x F⟩
    · simp only [List.mem_singleton]at hp
      subst hp
      refine⟨.inr ⟨rfl,λN L A => ?_⟩,λx F=>by simp only [supd,if_true];exact F⟩
      simp only [Nat.mod_eq_of_lt I]at A
      have h1:=ok.1
      simp only [jU,J,Bool.and_eq_true]at h1
      have h2:=List.all_eq_true.1 h1.1 N L
      simp only [A,Nat.beq_refl]at h2
      cases h2
theorem tQ {o:Oper} {d:Nat} (N:o.dst=some d) (k:Nat) (T:List Nm) (hk:q=none\/Nat.beq all.length (k+(rest.length+1))=true) (hf:∀S tk,AgR H S tk (o::rest)->okQ q all k T true) (R:∀m∈T,m∈H.map (·.1)) (hw:aL all sl o=some true)
    (W:∀S tk (M:Eff->Prop),qL C (o::rest)->AgR H S tk (o::rest) ->
      (∀A L m,(m=(d,tk)\/m∈T)->((∀x∈A.req,x.1∈T++[m])/\∀x∈A.upd,x.1∈T++[m])->AgR L (dn S A.upd) tk rest->aR (mV q k (T++[m]) true) C all K rest (dE sl o.dst A.val) L->M A)->opD C o sl S tk M) :
    aR q C all K (o::rest) sl H :=
  Km k true hk hw (λS tk M ok I Z Y=>by
    have O:=(nk (ok.2 o (by simp)) N).2
    have J:¬Jq tk (o::rest) (d,tk):=by
      rintro (h|⟨_,h⟩)
      · exact Nat.lt_irrefl _ h
      · have:=h o (by simp)
        simp only [N,Nat.mod_eq_of_lt O,ne_eq,not_true]at this
    refine W S tk M ok I (λA L m hm h1 X h4=>Y A L (T++[m]) ?_ (λm' B => ?_) h1 (λe=>by cases e) X h4)
    · rcases hm with rfl | hm
      · exact okQ_add (hf S tk I) Z J
      · exact DF (λx F=>(List.mem_append.1 F).elim id (λF=>by rw [List.mem_singleton]at F;rw [F];exact hm)) (hf S tk I)
    · have hT:∀x∈T,Jq tk rest x:=λx F=>(I.old (R x F)).tail
      rcases List.mem_append.1 B with B|B
      · exact hT _ B
      · rw [List.mem_singleton]at B;subst B
        rcases hm with rfl|hm
        · exact ((I.new ok N (.cells 0 [])).at_ ((d,tk),some (.cells 0 [])) (by simp)).1
        · exact hT _ hm)
theorem xu {b:Builtin} {args:Array Operand} {o:Array TypeId} {S:Store} {tk:Nat} {B:Eff->Prop} {A:Eff} (h:r9 C.P b o.toList (args.toList.map (ev sl)) S dst tk=some A) (F:B A) :
    opD C ⟨dst,.call ⟨.builtin b,args,o⟩,ty,pos,after,g⟩ sl S tk B:=by
  show (match oz C _ sl S tk with | some A=>B A | none=>False)
  have e:oz C ⟨dst,.call ⟨.builtin b,args,o⟩,ty,pos,after,g⟩ sl S tk=some A:=h
  rw [e];exact F
theorem Cc {x:Operand} {v:V} (hl:Du C.P t (ev sl x)=some v) (B:aL all sl ⟨dst,.call ⟨.builtin .len,#[x],#[t]⟩,ty,pos,after,g⟩=some true) (h:aR q C all K rest (dE sl dst v) H) :
    aR q C all K (⟨dst,.call ⟨.builtin .len,#[x],#[t]⟩,ty,pos,after,g⟩::rest) sl H :=
  mM B (λS tk F _ o=>xu (A:=⟨[],[],v⟩) (by
    have hm:FI (ev sl x)=false:=by
      cases hx:ev sl x with
      | map n=>rw [hx]at hl;unfold Du at hl;split at hl <;> first | (cases hl;done) | simp_all
      | _=>rfl
    show (bif FI (ev sl x)then yA C.P t S (ev sl x)else (Du C.P t (ev sl x)).bind fq)=_
    rw [hm,cond_false,hl];rfl) (o _ rfl rfl rfl)) h
theorem bL {α:Type} {enc:α->List D} {xs:List α} {x:Operand} {e:TypeId} (A:C.P.underlying t=some (.slice e)) (o:ev sl x=vL enc xs) (B:aL all sl ⟨dst,.call ⟨.builtin .len,#[x],#[t]⟩,ty,pos,after,g⟩=some true)
    (h:aR q C all K rest (dE sl dst (vI xs.length)) H):aR q C all K (⟨dst,.call ⟨.builtin .len,#[x],#[t]⟩,ty,pos,after,g⟩::rest) sl H :=
  Cc (by rw [o];simp only [Du,A,List.length_map]) B h
theorem oK {s:ByteArray} {x:Operand} (A:C.P.underlying t=some .string) (o:ev sl x=vS s) (B:aL all sl ⟨dst,.call ⟨.builtin .len,#[x],#[t]⟩,ty,pos,after,g⟩=some true)
    (h:aR q C all K rest (dE sl dst (vI s.size)) H):aR q C all K (⟨dst,.call ⟨.builtin .len,#[x],#[t]⟩,ty,pos,after,g⟩::rest) sl H :=
  Cc (by rw [o];simp only [Du,A]) B h
theorem h_lenw {α:Type} {n:Nm} {sz:Nat} {xs:List α} {x:Operand} {e:TypeId} (A:C.P.underlying t=some (.slice e)) (o:ev sl x=vV n sz xs) (B:aL all sl ⟨dst,.call ⟨.builtin .len,#[x],#[t]⟩,ty,pos,after,g⟩=some true)
    (h:aR q C all K rest (dE sl dst (vI xs.length)) H):aR q C all K (⟨dst,.call ⟨.builtin .len,#[x],#[t]⟩,ty,pos,after,g⟩::rest) sl H :=
  Cc (by rw [o];simp only [Du,A]) B h
theorem rG {α:Type} {n:Nm} {sz:Nat} {xs:List α} {x:Operand} {e:TypeId} (A:C.P.underlying t=some (.slice e)) (o:ev sl x=gV n sz xs) (B:aL all sl ⟨dst,.call ⟨.builtin .len,#[x],#[t]⟩,ty,pos,after,g⟩=some true)
    (h:aR q C all K rest (dE sl dst (vI xs.length)) H):aR q C all K (⟨dst,.call ⟨.builtin .len,#[x],#[t]⟩,ty,pos,after,g⟩::rest) sl H :=
  Cc (by rw [o];cases xs <;> simp [Du,A,gV]) B h
theorem uD {b:Builtin} {args:Array Operand} {o:Array TypeId} (v:V) (I:r9 C.P b o.toList (args.toList.map (ev sl)) (λ_=>none) none 0=some ⟨[],[],v⟩) (hb:b = .min\/b = .max) (F:aL all sl ⟨dst,.call ⟨.builtin b,args,o⟩,ty,pos,after,g⟩=some true)
    (h:aR q C all K rest (dE sl dst v) H):aR q C all K (⟨dst,.call ⟨.builtin b,args,o⟩,ty,pos,after,g⟩::rest) sl H :=
  mM F (λS tk J _ B=>xu (A:=⟨[],[],v⟩) (by rcases hb with rfl | rfl <;> exact I) (B _ rfl rfl rfl)) h
theorem jK {op:Op} {S:Store} {tk:Nat} {B:Eff->Prop} {A:Eff} (hc:∀c,op ≠ .call c) (h:oz C ⟨dst,op,ty,pos,after,g⟩ sl S tk=some A) (F:B A):opD C ⟨dst,op,ty,pos,after,g⟩ sl S tk B:=by
  unfold opD
  split
  · rename_i c o;exact absurd o (hc c)
  · rw [h];exact F
theorem orE_l {a b:Option Eff} {A:Eff} (h:a=some A):orE a b=some A:=by rw [h];rfl
theorem dC {α:Type} {enc:α->List D} {xs:List α} {x i:Operand} {k:IntKind} {n:Int} {y:α} {size:Nat} (hT:(elemT C.P t).bind (szT C.P)=some size) (B:ev sl x=vL enc xs) (hi:ev sl i = .d (.int k n)) (o:idx xs n=some y) (hl:(enc y).length=size)
    (F:aL all sl ⟨dst,.indexAddr t x i,ty,pos,after,g⟩=some true) (h:aR q C all K rest (dE sl dst (.d (.ptr (enc y)))) H):aR q C all K (⟨dst,.indexAddr t x i,ty,pos,after,g⟩::rest) sl H :=
  mM F (λS tk L _ J=>jK (A:=⟨[],[],.d (.ptr (enc y))⟩) (λc e=>by cases e) (by
    show orE (kG C.P t (ev sl x) (ev sl i)) _=_
    refine orE_l ?_
    unfold idx at o
    split at o
    · rename_i I
      rw [B,hi,zg hT,decide_eq_true I]
      exact idxB_sl (by rw [List.getElem?_map,o];rfl) hl
    · cases o) (J _ rfl rfl rfl)) h
theorem Hq {x i:Operand} {k:IntKind} {n:Int} {nm:Nm} {j len size:Nat} (hT:(elemT C.P t).bind (szT C.P)=some size) (o:ev sl x = .vs nm size j len) (hi:ev sl i = .d (.int k n)) (F:0<=n) (h1:n.toNat<len)
    (B:aL all sl ⟨dst,.indexAddr t x i,ty,pos,after,g⟩=some true) (h:aR q C all K rest (dE sl dst (.ref nm (j+n.toNat) 0)) H):aR q C all K (⟨dst,.indexAddr t x i,ty,pos,after,g⟩::rest) sl H :=
  mM B (λS tk J _ I=>jK (A:=⟨[],[],.ref nm (j+n.toNat) 0⟩) (λc e=>by cases e) (by
    show orE (kG C.P t (ev sl x) (ev sl i)) _=_
    refine orE_l ?_
    rw [o,hi,zg hT,decide_eq_true F]
    exact idxB_vs h1) (I _ rfl rfl rfl)) h
theorem si {x:Operand} {f off s:Nat} {cs:List D} (F:bN C.P t f=some (off,s+1)) (B:ev sl x = .d (.ptr cs)) (v:List D) (J:cs.drop off=v) (o:Nat.ble off cs.length=true)
    (I:aL all sl ⟨dst,.fieldAddr t x f,ty,pos,after,g⟩=some true) (h:aR q C all K rest (dE sl dst (.d (.ptr v))) H):aR q C all K (⟨dst,.fieldAddr t x f,ty,pos,after,g⟩::rest) sl H :=
  mM I (λS tk M _ L=>jK (A:=⟨[],[],.d (.ptr v)⟩) (λc e=>by cases e) (by
    show je C.P t (ev sl x) f=_
    rw [B,Dl F,o,J];rfl) (L _ rfl rfl rfl)) h
theorem aG {x:Operand} {f off s:Nat} {n:Nm} {i j:Nat} (F:bN C.P t f=some (off,s+1)) (B:ev sl x = .ref n i j) (o:Nat) (hj:j+off=o)
    (I:aL all sl ⟨dst,.fieldAddr t x f,ty,pos,after,g⟩=some true) (h:aR q C all K rest (dE sl dst (.ref n i o)) H):aR q C all K (⟨dst,.fieldAddr t x f,ty,pos,after,g⟩::rest) sl H :=
  mM I (λS tk L _ J=>jK (A:=⟨[],[],.ref n i o⟩) (λc e=>by cases e) (by
    show je C.P t (ev sl x) f=_
    rw [B,FO F,hj]) (J _ rfl rfl rfl)) h
theorem bC {x:Operand} {size:Nat} {agg:Bool} {cs:List D} (hs:szT C.P t=some size) (B:cz C.P t=agg) (o:ev sl x = .d (.ptr cs)) (v:V) (J:rdD agg size cs=some v)
    (I:aL all sl ⟨dst,.load t x,ty,pos,after,g⟩=some true) (h:aR q C all K rest (dE sl dst v) H):aR q C all K (⟨dst,.load t x,ty,pos,after,g⟩::rest) sl H :=
  mM I (λS tk L _ F=>jK (A:=⟨[],[],v⟩) (λc e=>by cases e) (by
    show rH C.P t S (ev sl x)=_
    rw [o,LU hs B,J];rfl) (F _ rfl rfl rfl)) h
theorem aF {x:Operand} {size:Nat} {agg:Bool} {n:Nm} {i j sz:Nat} {cs:List V} (p k:Nat) (hp:q=none\/Nat.beq all.length (p+(rest.length+1))=true) (hf:∀S tk,AgR H S tk (⟨dst,.load t x,ty,pos,after,g⟩::rest)->okQ q all p [n] false) (hs:szT C.P t=some size) (L:cz C.P t=agg) (F:ev sl x = .ref n i j) (B:H[k]? = some (n,some (.cells sz cs))) (v:V) (J:rdV agg size (cs.drop (i*sz+j))=some v)
    (I:aL all sl ⟨dst,.load t x,ty,pos,after,g⟩=some true) (h:aR (mV q p [n] false) C all K rest (dE sl dst v) H):aR q C all K (⟨dst,.load t x,ty,pos,after,g⟩::rest) sl H :=
  rz p [n] false hp hf (zi B) I (λS tk N ok o M=>jK (A:=⟨[(n,.cells sz cs)],[],v⟩) (λc e=>by cases e) (by
    show rH C.P t S (ev sl x)=_
    rw [F,Cr hs L,o.get B]
    simp only [K5,J,Option.map_some]) (M _ H ⟨by simp,by simp⟩ (λ_=>rfl) o.tail h))
theorem NI {α:Type} {enc:α->List D} {xs:List α} {y:α} {x:Operand} {size:Nat} {agg:Bool} {n:Nm} {i j sz:Nat} (p k:Nat) (hp:q=none\/Nat.beq all.length (p+(rest.length+1))=true) (hf:∀S tk,AgR H S tk (⟨dst,.load t x,ty,pos,after,g⟩::rest)->okQ q all p [n] false) (hs:szT C.P t=some size) (M:cz C.P t=agg) (F:ev sl x = .ref n i j) (B:H[k]? = some (n,some (bV sz enc xs))) (L:xs[i]? = some y)
    (v:V) (J:rdD agg size ((enc y).drop j)=some v)
    (I:aL all sl ⟨dst,.load t x,ty,pos,after,g⟩=some true) (h:aR (mV q p [n] false) C all K rest (dE sl dst v) H):aR q C all K (⟨dst,.load t x,ty,pos,after,g⟩::rest) sl H :=
  rz p [n] false hp hf (zi B) I (λS tk O ok o N=>jK (A:=⟨[(n,bV sz enc xs)],[],v⟩) (λc e=>by cases e) (by
    show rH C.P t S (ev sl x)=_
    rw [F,Cr hs M,o.get B]
    simp only [K5,List.getElem?_map,L,Option.map_some,J]) (N _ H ⟨by simp,by simp⟩ (λ_=>rfl) o.tail h))
def stC (size:Nat) (cs:List V) (o:Nat) (x:V):Option (List V):=bif Nat.beq (aX x).length size&&Nat.ble (o+size) cs.length&&(aX x).all iM then some (splice cs (aX x) o)else none
def stD (size:Nat) (cs:List D) (o:Nat) (x:V):Option (List D):=match qO (aX x)with
  | some new=>bif Nat.beq new.length size&&Nat.ble (o+size) cs.length&&(aX x).all iM then some (splice cs new o)else none
  | none=>none
theorem gy {x y:Operand} {size:Nat} {n:Nm} {i j sz:Nat} {cs:List V} (p:Nat) (hp:q=none\/Nat.beq all.length (p+(rest.length+1))=true) (hf:∀S tk,AgR H S tk (⟨dst,.store t x y,ty,pos,after,g⟩::rest)->okQ q all p [n] true) (k:Nat) (hs:szT C.P t=some size) (F:ev sl x = .ref n i j) (I:H[k]? = some (n,some (.cells sz cs))) (o:List V) (B:stC size cs (i*sz+j) (ev sl y)=some o)
    (L:aL all sl ⟨dst,.store t x y,ty,pos,after,g⟩=some true) (h:aR (mV q p [n] true) C all K rest (dE sl dst .none) (H.set k (n,some (.cells sz o)))) (ht:Nat.blt sz 1048576=true:=by rfl):aR q C all K (⟨dst,.store t x y,ty,pos,after,g⟩::rest) sl H :=
  rz p [n] true hp hf (zi I) L (λS tk N ok J M=>jK (A:=⟨[(n,.cells sz cs)],[(n,some (.cells sz o))],.none⟩) (λc e=>by cases e) (by
    show vR C.P t S (ev sl x) (ev sl y)=_
    rw [F,Fx hs,J.get I]
    simp only [stC]at B
    simp only [Jv]
    cases hb:(Nat.beq (aX (ev sl y)).length size&&Nat.ble (i*sz+j+size) cs.length&&(aX (ev sl y)).all iM)with
    | true=>simp only [hb,ht,Bool.and_self,cond_true,so_]at B ⊢;rw [B]
    | false=>simp only [hb,cond_false]at B;cases B) (M _ _ ⟨by simp,by simp⟩ (λe=>by cases e) (J.tail.set I (λx F=>F)) h))
theorem h_stv {α:Type} {enc:α->List D} {xs:List α} {e:α} {x y:Operand} {size:Nat} {n:Nm} {i j sz:Nat} (p:Nat) (hp:q=none\/Nat.beq all.length (p+(rest.length+1))=true) (hf:∀S tk,AgR H S tk (⟨dst,.store t x y,ty,pos,after,g⟩::rest)->okQ q all p [n] true) (k:Nat) (hs:szT C.P t=some size) (B:ev sl x = .ref n i j) (F:H[k]? = some (n,some (bV sz enc xs))) (L:xs[i]? = some e) (e':α) (o:stD size (enc e) j (ev sl y)=some (enc e'))
    (J:aL all sl ⟨dst,.store t x y,ty,pos,after,g⟩=some true) (h:aR (mV q p [n] true) C all K rest (dE sl dst .none) (H.set k (n,some (bV sz enc (xs.set i e'))))):aR q C all K (⟨dst,.store t x y,ty,pos,after,g⟩::rest) sl H :=
  rz p [n] true hp hf (zi F) J (λS tk N ok I M=>jK (A:=⟨[(n,bV sz enc xs)],[(n,some (bV sz enc (xs.set i e')))],.none⟩) (λc e=>by cases e) (by
    show vR C.P t S (ev sl x) (ev sl y)=_
    rw [B,Fx hs,I.get F]
    simp only [stD]at o
    simp only [Jv,List.getElem?_map,L,Option.map_some]
    cases hn:qO (aX (ev sl y))with
    | none=>rw [hn]at o;cases o
    | some new =>
      simp only [hn]at o ⊢
      cases hb:(Nat.beq new.length size&&Nat.ble (j+size) (enc e).length&&(aX (ev sl y)).all iM)with
      | true=>simp only [hb,cond_true,so_]at o ⊢;rw [o];simp only [bV,List.map_set]
      | false=>simp only [hb,cond_false]at o;cases o) (M _ _ ⟨by simp,by simp⟩ (λe=>by cases e) (I.tail.set F (λx B=>B)) h))
theorem dP {e:TypeId} {cs:List V} (p:Nat) (hp:q=none\/Nat.beq all.length (p+(rest.length+1))=true) (I:zeroCells C.P e=some cs) (ho:cs.all iM=true) (J:aL all sl ⟨some d,.alloc e,ty,pos,after,g⟩=some true)
    (h:∀n:Nm,aR (mV q p [n] true) C all K rest (upd sl d (.ref n 0 0)) (H++[(n,some (.cells cs.length cs))])) (hb:EF C.P e=none:=by kernel_rfl) (B:C.vm.contains d=false:=by rfl) (o:Nat.blt cs.length 1048576=true:=by rfl):aR q C all K (⟨some d,.alloc e,ty,pos,after,g⟩::rest) sl H :=
  tQ rfl p [] hp (λ_ _ _=>Ay) (λm hm=>by cases hm) J (λS tk M ok F L=>jK (A:=⟨[],[((d,tk),some (.cells cs.length cs))],.ref (d,tk) 0 0⟩) (λc e=>by cases e) (by
    show (bif (EF C.P e).isSome then wy C.P e d tk else bif C.vm.contains d then tK C.P e d tk else xm C.P e d tk)=_
    rw [hb,B]
    simp only [Option.isSome_none,cond_false,xm,I,ho,o,Bool.and_self,cond_true]) (L _ _ _ (.inl rfl) ⟨by simp,by simp⟩ (F.new ok rfl _) (h (d,tk))))
theorem iW {e:TypeId} {x:Operand} (p:Nat) (hp:q=none\/Nat.beq all.length (p+(rest.length+1))=true) (cs:List V) (B:aX (ev sl x)=cs) (ho:cs.all iM=true) (I:aL all sl ⟨some d,.box e x,ty,pos,after,g⟩=some true)
    (h:∀n:Nm,aR (mV q p [n] true) C all K rest (upd sl d (.ref n 0 0)) (H++[(n,some (.cells cs.length cs))])) (o:Nat.blt cs.length 1048576=true:=by rfl):aR q C all K (⟨some d,.box e x,ty,pos,after,g⟩::rest) sl H :=
  tQ rfl p [] hp (λ_ _ _=>Ay) (λm hm=>by cases hm) I (λS tk L ok F J=>jK (A:=⟨[],[((d,tk),some (.cells cs.length cs))],.ref (d,tk) 0 0⟩) (λc e=>by cases e) (by
    show MR (ev sl x) d tk=_
    simp only [MR,B,ho,o,Bool.and_self,cond_true]) (J _ _ _ (.inl rfl) ⟨by simp,by simp⟩ (F.new ok rfl _) (h (d,tk))))
def co0 (v:V):V:=co (λ_=>none) v
theorem co_0 {S:Store} {v:V} (h:frz v=[]):co S v=co0 v :=
  (IZ (S:=S) (S':=λ_=>none) (v:=v) (λn o=>by rw [h]at o;cases o)).symm
theorem sJ {α β:Type} {f:α->List β}:∀{l:List α},l.flatMap f=[]->∀x∈l,f x=[]
  | a::l,h,x,o=>by
    simp only [List.flatMap_cons,List.append_eq_nil_iff]at h
    rcases List.mem_cons.1 o with rfl|o
    · exact h.1
    · exact sJ h.2 x o
def QL (sl:Nat->V) (parts:List (Nat×Operand)):List (Nat×V):=parts.map λp=>(p.1,co0 (ev sl p.2))
theorem litF_0 {S:Store} {tk len size:Nat} {parts:List (Nat×Operand)} {xs:List (List D)} (hT:(elemT C.P t).bind (szT C.P)=some size) (F:((elemT C.P t).bind (zeroCells C.P)).isSome=true)
    (o:(parts.flatMap λp=>frz (ev sl p.2))=[]) (A:ou size 0 (QL sl parts)=some xs) (hl:Nat.beq parts.length len=true) (h:Nat.ble (len*size) 16777216=true) :
    KT C t len (parts.map λp=>(p.1,ev sl p.2)) S d tk=some (bif C.vm.contains d then⟨[],[((d,tk),some (.vec size xs))],.vs (d,tk) size 0 len⟩else⟨[],[],bif Nat.beq len 0 then .nil else .d (.sl xs)⟩):=by
  have h1:((parts.map λp=>(p.1,ev sl p.2)).flatMap λp=>frz p.2)=[]:=by
    rw [List.flatMap_map];exact o
  have h2:((parts.map λp=>(p.1,ev sl p.2)).map λp=>(p.1,co S p.2))=QL sl parts:=by
    rw [List.map_map]
    exact List.map_congr_left (λp hp=>by simp only [Function.comp];rw [co_0 (sJ o p hp)])
  have B:Nat.beq ((QL sl parts).length) len=true:=by simp only [QL,List.length_map];exact hl
  simp only [KT,h1,List.all_nil,cond_true,freezeAll,d9,dn,h2,kv,hT,A,B,h,F,Bool.and_self]
  cases C.vm.contains d <;> cases Nat.beq len 0 <;> simp [fq,dZ]
theorem eD {len size:Nat} {parts:List (Nat×Operand)} (xs:List (List D)) (hT:(elemT C.P t).bind (szT C.P)=some size) (I:((elemT C.P t).bind (zeroCells C.P)).isSome=true)
    (L:(parts.flatMap λp=>frz (ev sl p.2))=[]) (F:ou size 0 (QL sl parts)=some xs) (hl:Nat.beq parts.length len=true) (B:Nat.ble (len*size) 16777216=true) (o:(C.vm.contains d||Nat.beq len 0)=false)
    (J:aL all sl ⟨some d,.buildSlice t len parts.toArray,ty,pos,after,g⟩=some true) (h:aR q C all K rest (upd sl d (.d (.sl xs))) H) (N:C.vm.contains (d+100000)=false:=by rfl):aR q C all K (⟨some d,.buildSlice t len parts.toArray,ty,pos,after,g⟩::rest) sl H :=
  mM J (λS tk O _ M=>jK (A:=⟨[],[],.d (.sl xs)⟩) (λc e=>by cases e) (by
    show (bif C.vm.contains (d+100000)then _ else KT C t len (parts.toArray.toList.map λp=>(p.1,ev sl p.2)) S d tk)=_
    rw [N,cond_false,List.toList_toArray,litF_0 hT I L F hl B]
    simp only [Bool.or_eq_false_iff]at o
    rw [o.1,o.2];rfl) (M _ rfl rfl rfl)) h
end
end Go.Eng

/-
  THE ENGINE: append, calls, a function's end.
-/
namespace Go.Eng
set_option linter.unusedSectionVars false
variable [DM]
set_option linter.unusedVariables false
set_option linter.unusedSimpArgs false
section
variable {C:Cfg} {sl:Nat->V} {H:Hp} {q:Qm} {all rest:List Oper} {K:(Nat->V)->Hp->Prop}
variable {dst:Option Tmp} {d:Nat} {t ty:TypeId} {pos:String} {after:Array Edge} {g:Option (Nat×Bool)}
theorem IL {S:Store} {tk:Nat} {l:List Oper} (o:AgR H S tk l) {i:Nat} {n:Nm} {b b':Option Box} (h:H[i]? = some (n,b)) (hb:∀x,b'=some x->S n=some x):AgR (H.set i (n,b')) S tk l:=by
 have hi:i<H.length:=(List.getElem?_eq_some_iff.1 h).1
 have he:H[i]=(n,b):=(List.getElem?_eq_some_iff.1 h).2
 have hm:(H.set i (n,b')).map (·.1)=H.map (·.1):=by
  apply List.ext_getElem
  ·simp
  ·intro j h1 h2
   simp only [List.getElem_map,List.getElem_set]
   split
   ·rename_i e;subst e;rw [he]
   ·rfl
 refine⟨o.pos,by rw [hm];exact o.nd,λp hp => ?_⟩
 obtain ⟨j,hj,rfl⟩:=List.getElem_of_mem hp
 simp only [List.length_set]at hj
 simp only [List.getElem_set]
 split
 ·rename_i e;subst e
  have:=o.at_ (n,b) (by rw [<- he];exact List.getElem_mem hi)
  exact⟨this.1,hb⟩
 ·exact o.at_ H[j] (List.getElem_mem hj)
theorem AgR.swap {S:Store} {tk:Nat} {o:Oper} (ok:qL C (o::rest)) (F:AgR H S tk (o::rest)) (L:o.dst=some d) {i:Nat} {n:Nm} {R:Option Box} (h:H[i]? = some (n,R)) (b:Option Box) (S':Store)
  (Y:∀m,m≠n->m≠(d,tk)->S' m=S m) (hb:∀x,b=some x->S' (d,tk)=some x):AgR (H.set i ((d,tk),b)) S' tk rest:=by
 have A:=new_ne ok F L 0
 simp only [Nat.mul_zero,Nat.add_zero]at A
 have J:=(nk (ok.2 o (by simp)) L).2
 have hi:i<H.length:=(List.getElem?_eq_some_iff.1 h).1
 have he:H[i]=(n,R):=(List.getElem?_eq_some_iff.1 h).2
 have B:∀j (hj:j<H.length),j≠i->H[j].1≠n:=λj hj hji e=>hji (iY F.nd j i (by simpa using hj) (by simpa using hi) (by simp [he,e]))
 have hm:(H.set i ((d,tk),b)).map (·.1)=(H.map (·.1)).set i (d,tk):=by rw [List.map_set]
 refine⟨F.pos,?_,λp hp => ?_⟩
 ·rw [hm]
  refine List.pairwise_iff_getElem.2 (λa c O hc M => ?_)
  simp only [List.length_set,List.length_map]at O hc
  have h1:=(List.pairwise_iff_getElem.1 F.nd) a c (by simpa using O) (by simpa using hc) M
  simp only [List.getElem_map]at h1
  simp only [List.getElem_set,List.getElem_map]
  split
  ·rw [if_neg (by omega)]
   exact (A _ (List.getElem_mem hc)).symm
  ·split
   ·exact A _ (List.getElem_mem O)
   ·exact h1
 ·obtain ⟨j,hj,rfl⟩:=List.getElem_of_mem hp
  simp only [List.length_set]at hj
  simp only [List.getElem_set]
  split
  ·refine⟨.inr ⟨rfl,λW N I => ?_⟩,hb⟩
   simp only [Nat.mod_eq_of_lt J]at I
   have h1:=ok.1
   simp only [jU,L,Bool.and_eq_true]at h1
   have h2:=List.all_eq_true.1 h1.1 W N
   simp only [I,Nat.beq_refl]at h2
   cases h2
  ·rename_i e
   have h1:=F.tail.at_ H[j] (List.getElem_mem hj)
   exact⟨h1.1,λx X=>by rw [Y _ (B j hj (Ne.symm e)) (A _ (List.getElem_mem hj))];exact h1.2 x X⟩
def jE {α:Type} (xs ys:List α):Option (List α):=if xs.length+ys.length<=1000000000 then some (xs++ys)else none
def fu (x y:ByteArray):Option ByteArray:=if ((x.size+y.size:Nat):Int)>IntKind.i64.max then none else some (x++y)
theorem Di {P:Program} {t e:TypeId} (h:elemT P t=some e):nT P t=false:=by
 have:=jf h
 unfold nT;rw [this]
theorem DL {α:Type} {enc:α->List D} {sz:Nat} (h:∀y,(enc y).length=sz) (ys:List α):(ys.map enc).all (λx=>Nat.beq x.length sz)=true:=by
 rw [List.all_eq_true]
 intro x o
 obtain ⟨y,_,rfl⟩:=List.mem_map.1 o
 rw [h y];exact Nat.beq_refl sz
section app
variable {α:Type} {enc:α->List D} {xs ys zs:List α} {x y:Operand} {t' e e':TypeId} {sz bytes i:Nat} {n:Nm} {z:List V}
theorem h_appgX (p:Nat) (hpp:q=none\/Nat.beq all.length (p+(rest.length+1))=true) (hf:∀S tk,AgR H S tk (⟨some d,.call ⟨.builtin .append,#[x,y],#[t,t']⟩,ty,pos,after,g⟩::rest)->okQ q all p [n] true) (he:elemT C.P t=some e) (I:I6 C.P t'=some ()) (hni:nT C.P t'=false) (hs:szT C.P e=some sz) (hz:zeroCells C.P e=some z) (hzl:z.length=sz) (hp:0<sz) (hby:bytesT C.P e=bytes) (hbb:bytes<=100000)
  (Y:∀y,(enc y).length=sz) (B:ev sl x=gV n sz xs) (W:H[i]? = some (n,gB sz enc xs)) (Z:∀S,kz S sz (ev sl y)=some (ys.map enc,[])) (M:jE xs ys=some zs)
  (hw:aL all sl ⟨some d,.call ⟨.builtin .append,#[x,y],#[t,t']⟩,ty,pos,after,g⟩=some true)
  (h:∀n':Nm,aR (mV q p [n,n'] true) C all K rest (upd sl d (gV n' sz zs)) (H.set i (n',gB sz enc zs))):aR q C all K (⟨some d,.call ⟨.builtin .append,#[x,y],#[t,t']⟩,ty,pos,after,g⟩::rest) sl H:=by
 unfold jE at M
 split at M
 case isFalse=>cases M
 rename_i N
 simp only [so_]at M
 subst M
 refine tQ rfl p [n] hpp hf (zi W) hw (λS tk K' ok X R => ?_)
 have hall:=DL (sz:=sz) Y ys
 have J:z.length=sz/\0<sz:=⟨hzl,hp⟩
 have L:∀m,m<=1000000000->(2*m+192)*bytesT C.P e<=2 ^ 48/\m<=2 ^ 48:=λm hm=>by
  rw [hby]
  have:=Nat.mul_le_mul (show 2*m+192<=2000000192 by omega) hbb
  exact⟨by omega,by omega⟩
 have run:∀{A:Eff},jm C.P t t' S (ev sl x) (ev sl y) d tk=some A->K' A->opD C ⟨some d,.call ⟨.builtin .append,#[x,y],#[t,t']⟩,ty,pos,after,g⟩ sl S tk K':=λM R=>xu (by show (bif nT C.P t' then _ else _)=_;rw [hni,cond_false];exact M) R
 cases xs with
 | nil =>
  have o:ev sl x = .nil:=B
  cases ys with
  | nil =>
   refine run (A:=⟨[],[],.nil⟩) ?_ (R _ (H.set i (n,gB sz enc ([]:List α))) n (.inr (by simp)) ⟨by simp,by simp⟩ (by
    have:=IL X W (b':=gB sz enc ([]:List α)) (λx B=>by cases B)
    exact this.tail) (h n))
   rw [o]
   simp only [jm,he,I,hs,hz,if_pos J,Z,List.map_nil,List.map_cons,if_true]
   rw [if_pos (L _ (by simp))]
   try rfl
  | cons O ys =>
   refine run (A:=⟨[],[((d,tk),some (.vec sz ((O::ys).map enc)))],.vs (d,tk) sz 0 (O::ys).length⟩) ?_ (R _ (H.set i ((d,tk),gB sz enc (O::ys))) (d,tk) (.inl rfl) ⟨by simp,by simp⟩ ?_ (h (d,tk)))
   ·rw [o]
    simp only [jm,he,I,hs,hz,if_pos J,Z,List.map_nil,List.map_cons,if_true]
    rw [if_pos (L _ (by simpa using N))]
    simp
   ·exact X.swap ok rfl W _ _ (λm h1 h2=>by simp [dn,supd,h2]) (λx B=>by simp only [dn,supd,if_true];exact B)
 | cons F xs =>
  have o:ev sl x = .vs n sz 0 (F::xs).length:=B
  have hS:S n=some (.vec sz ((F::xs).map enc)):=X.get W
  cases ys with
  | nil =>
   refine run (A:=⟨[(n,.vec sz ((F::xs).map enc))],[],.vs n sz 0 (F::xs).length⟩) ?_ (R _ (H.set i (n,gB sz enc ((F::xs)++[]))) n (.inr (by simp)) ⟨by simp,by simp⟩ (by
    have:=IL X W (b':=gB sz enc ((F::xs)++[])) (λx B=>by simp only [List.append_nil]at B;rw [hS];exact B)
    exact this.tail) (by have:=h n;rw [List.append_nil]at this;rw [List.append_nil];exact this))
   rw [o]
   simp only [jm,he,I,hs,hz,if_pos J,Z,List.map_nil,List.map_cons,if_true,hS]
   rw [if_pos ⟨trivial,by simp,L _ (by simpa using N)⟩]
   try rfl
  | cons O ys =>
   refine run (A:=⟨[(n,.vec sz ((F::xs).map enc))],[(n,none),((d,tk),some (.vec sz ((F::xs++(O::ys)).map enc)))],.vs (d,tk) sz 0 (F::xs++(O::ys)).length⟩) ?_ (R _ (H.set i ((d,tk),gB sz enc (F::xs++(O::ys)))) (d,tk) (.inl rfl) ⟨by simp,by simp⟩ ?_ (h (d,tk)))
   ·rw [o]
    simp only [jm,he,I,hs,hz,if_pos J,Z,List.map_nil,List.map_cons,if_true,hS]
    rw [if_pos ⟨trivial,by simp,L _ (by simpa using N)⟩]
    simp
    try omega
   ·exact X.swap ok rfl W _ _ (λm h1 h2=>by simp [dn,supd,h2,h1]) (λx B=>by simp only [dn,supd,if_true];exact B)
theorem kY (p:Nat) (B:q=none\/Nat.beq all.length (p+(rest.length+1))=true) (hf:∀S tk,AgR H S tk (⟨some d,.call ⟨.builtin .append,#[x,y],#[t,t']⟩,ty,pos,after,g⟩::rest)->okQ q all p [n] true) (he:elemT C.P t=some e) (A:elemT C.P t'=some e') (hs:szT C.P e=some sz) (N:zeroCells C.P e=some z) (J:z.length=sz) (hp:0<sz) (F:bytesT C.P e=bytes) (I:bytes<=100000)
  (o:∀y,(enc y).length=sz) (M:ev sl x=gV n sz xs) (X:H[i]? = some (n,gB sz enc xs)) (R:ev sl y=vL enc ys) (W:jE xs ys=some zs)
  (O:aL all sl ⟨some d,.call ⟨.builtin .append,#[x,y],#[t,t']⟩,ty,pos,after,g⟩=some true)
  (h:∀L:Nm,aR (mV q p [n,L] true) C all K rest (upd sl d (gV L sz zs)) (H.set i (L,gB sz enc zs))):aR q C all K (⟨some d,.call ⟨.builtin .append,#[x,y],#[t,t']⟩,ty,pos,after,g⟩::rest) sl H :=
 h_appgX p B hf he (Cm A) (Di A) hs N J hp F I o M X (λS=>by rw [R];simp only [kz,pK,DL (sz:=sz) o ys,if_true]) W O h
theorem h_appv (p:Nat) (hpp:q=none\/Nat.beq all.length (p+(rest.length+1))=true) (hf:∀S tk,AgR H S tk (⟨some d,.call ⟨.builtin .append,#[x,y],#[t,t']⟩,ty,pos,after,g⟩::rest)->okQ q all p [n] true) (he:elemT C.P t=some e) (B:elemT C.P t'=some e') (hs:szT C.P e=some sz) (hz:zeroCells C.P e=some z) (X:z.length=sz) (hp:0<sz) (Y:bytesT C.P e=bytes) (hbb:bytes<=100000)
  (J:∀y,(enc y).length=sz) (I:ev sl x=vV n sz xs) (R:H[i]? = some (n,some (bV sz enc xs))) (hy:ev sl y=vL enc ys) (F:jE xs ys=some zs)
  (hw:aL all sl ⟨some d,.call ⟨.builtin .append,#[x,y],#[t,t']⟩,ty,pos,after,g⟩=some true)
  (h:∀n':Nm,aR (mV q p [n,n'] true) C all K rest (upd sl d (vV n' sz zs)) (H.set i (n',some (bV sz enc zs)))):aR q C all K (⟨some d,.call ⟨.builtin .append,#[x,y],#[t,t']⟩,ty,pos,after,g⟩::rest) sl H:=by
 unfold jE at F
 split at F
 case isFalse=>cases F
 rename_i M
 simp only [so_]at F
 subst F
 refine tQ rfl p [n] hpp hf (zi R) hw (λS tk K' ok W O => ?_)
 have o:=DL (sz:=sz) J ys
 have L:z.length=sz/\0<sz:=⟨X,hp⟩
 have N:∀m,m<=1000000000->(2*m+192)*bytesT C.P e<=2 ^ 48/\m<=2 ^ 48:=λm hm=>by
  rw [Y]
  have:=Nat.mul_le_mul (show 2*m+192<=2000000192 by omega) hbb
  exact⟨by omega,by omega⟩
 have run:∀{A:Eff},jm C.P t t' S (ev sl x) (ev sl y) d tk=some A->K' A->opD C ⟨some d,.call ⟨.builtin .append,#[x,y],#[t,t']⟩,ty,pos,after,g⟩ sl S tk K':=λF O=>xu (by show (bif nT C.P t' then _ else _)=_;rw [Di B,cond_false];exact F) O
 have hS:S n=some (.vec sz (xs.map enc)):=W.get R
 cases ys with
 | nil =>
  refine run (A:=⟨[(n,.vec sz (xs.map enc))],[],.vs n sz 0 xs.length⟩) ?_ (O _ (H.set i (n,some (bV sz enc (xs++[])))) n (.inr (by simp)) ⟨by simp,by simp⟩ (by
   have:=IL W R (b':=some (bV sz enc (xs++[]))) (λx I=>by simp only [List.append_nil]at I;rw [hS];exact I)
   exact this.tail) (by have:=h n;rw [List.append_nil]at this;rw [List.append_nil];exact this))
  rw [I,hy]
  simp only [vV,jm,he,Cm B,hs,hz,if_pos L,kz,pK,o,if_true,hS]
  rw [if_pos ⟨trivial,by simp,N _ (by simpa using M)⟩]
  rfl
 | cons Z ys =>
  refine run (A:=⟨[(n,.vec sz (xs.map enc))],[(n,none),((d,tk),some (.vec sz ((xs++(Z::ys)).map enc)))],.vs (d,tk) sz 0 (xs++(Z::ys)).length⟩) ?_ (O _ (H.set i ((d,tk),some (bV sz enc (xs++(Z::ys))))) (d,tk) (.inl rfl) ⟨by simp,by simp⟩ ?_ (h (d,tk)))
  ·rw [I,hy]
   simp only [vV,jm,he,Cm B,hs,hz,if_pos L,kz,pK,o,if_true,hS]
   rw [if_pos ⟨trivial,by simp,N _ (by simpa using M)⟩]
   simp
  ·exact W.swap ok rfl R _ _ (λm h1 h2=>by simp [dn,supd,h2,h1]) (λx I=>by simp only [dn,supd,if_true];exact I)
end app
end
end Go.Eng

/-
  THE ENGINE: calls, a function's end, and what may be done between operations.
-/
namespace Go.Eng
set_option linter.unusedSectionVars false
variable [DM]
set_option linter.unusedVariables false
set_option linter.unusedSimpArgs false
section
variable {C:Cfg} {sl:Nat->V} {H:Hp} {q:Qm} {all rest:List Oper} {K:(Nat->V)->Hp->Prop}
variable {dst:Option Tmp} {d:Nat} {t ty:TypeId} {pos:String} {after:Array Edge} {g:Option (Nat×Bool)}
theorem Gb {S:Store}:∀{vs:List V},vs.flatMap frz=[]->vs.map (co S)=vs.map co0
  | vs,h=>List.map_congr_left (λv o=>co_0 (sJ h v o))
theorem oD {f:Operand} {args:List Operand} {A:Array TypeId} {fn:FuncId} {caps:List V} {S:Store} {tk:Nat} {o:Eff->Prop} (hf:ev sl f = .fn fn caps) (h:GX C (.fn fn caps) (args.map (ev sl)) dst S tk o) :
    opD C ⟨dst,.call ⟨.value f,args.toArray,A⟩,ty,pos,after,g⟩ sl S tk o:=by
  show GX C (ev sl f) (args.toArray.toList.map (ev sl)) dst S tk o
  rw [hf,List.toList_toArray];exact h
theorem aD {f:Operand} {args:List Operand} {B:Array TypeId} {fn:FuncId} {caps o:List V} {r:V} (hc:FnM C.P fn o [] r []) (hf:ev sl f = .fn fn caps) (hb:aH C.P fn=true)
    (A:(args.map (ev sl)++caps).flatMap frz=[]) (M:(args.map (ev sl)++caps).map co0=o) (F:okL 0 o=true) (J:okV 0 r=true)
    (L:aL all sl ⟨dst,.call ⟨.value f,args.toArray,B⟩,ty,pos,after,g⟩=some true) (h:aR q C all K rest (dE sl dst r) H):aR q C all K (⟨dst,.call ⟨.value f,args.toArray,B⟩,ty,pos,after,g⟩::rest) sl H :=
  mM L (λS tk N _ O=>oD hf (by
    refine .inl ⟨hb,⟨[],[],o,[],r,[],false⟩,?_,λ_=>rfl,?_⟩
    · exact { does := hc
              args:=ArgsOK.of_map <| by
                show (args.map (ev sl)++caps).map (co S)=renL [] o
                rw [Gb A,M,IW F]
              okA:=F,nodup:=List.nodup_nil,ins:=trivial,len:=Nat.le_refl _,okR:=J,okO:=rfl,mutN:=rfl
              roOK:=(λe=>by cases e),have_:=(λn A=>nomatch A),cov:=(λn I=>by rw [A]at I;cases I),dis:=(λn A=>nomatch A) }
    · have:ren [] r=r:=sD J
      show N ⟨_,_,ren [] r⟩
      rw [this]
      exact O _ rfl rfl rfl)) h
theorem h_ext {f:Operand} {args:List Operand} {A:Array TypeId} {fn:FuncId} {o:List V} {r:D} (hc:ExtM C.P fn o r) (hf:ev sl f = .fn fn []) (hb:aH C.P fn=false)
    (B:args.map (ev sl)=o)
    (I:aL all sl ⟨dst,.call ⟨.value f,args.toArray,A⟩,ty,pos,after,g⟩=some true) (h:aR q C all K rest (dE sl dst (.d r)) H):aR q C all K (⟨dst,.call ⟨.value f,args.toArray,A⟩,ty,pos,after,g⟩::rest) sl H :=
  mM I (λS tk J _ F=>oD hf (by
    refine .inr (.inl ⟨hb,rfl,r,?_,F _ rfl rfl rfl⟩)
    rw [B];exact hc)) h
def gK (H:Hp):List Nat->Option (List (Nm×Box))
  | []=>some []
  | i::is=>match H[i]?,gK H is with
    | some (n,some b),some l=>some ((n,b)::l)
    | _,_=>none
def setH (H:Hp):List (Nat×Nm×Option Box)->Hp
  | []=>H
  | (i,n,b)::l=>setH (H.set i (n,b)) l
theorem kS:∀{is:List Nat} {l:List (Nm×Box)},gK H is=some l->l.length=is.length/\∀j (h1:j<is.length) (h2:j<l.length),H[is[j]]? = some (l[j].1,some l[j].2)
  | [],l,h=>by simp only [gK,so_]at h;subst h;exact⟨rfl,λj h1=>absurd h1 (Nat.not_lt_zero _)⟩
  | i::is,l,h=>by
    simp only [gK]at h
    split at h
    · rename_i n b l' h1 h2
      simp only [so_]at h
      subst h
      obtain ⟨B,F⟩:=kS h2
      refine⟨by simp [B],λj A o => ?_⟩
      cases j with
      | zero=>exact h1
      | succ j=>exact F j (by simpa using A) (by simpa using o)
    · cases h
theorem rY {S:Store} {ρ:List Nm}:∀{ns:List Nm} {bs:List Box},ns.length=bs.length->(∀j (h1:j<ns.length) (h2:j<bs.length),bs[j].ok ρ.length=true/\S ns[j]=some (bs[j].ren ρ))->insOK S ρ ns bs
  | [],[],_,_=>trivial
  | n::ns,b::bs,hl,h=>⟨h 0 (by simp) (by simp),rY (by simpa using hl) (λj h1 h2=>h (j+1) (by simpa using h1) (by simpa using h2))⟩
  | [],_::_,hl,_=>by simp at hl
  | _::_,[],hl,_=>by simp at hl
theorem sF {S:Store} {tk:Nat} {l:List Oper} (J:AgR H S tk l) {is:List Nat} (hi:is.Nodup) {l:List (Nm×Box)} (h:gK H is=some l):(l.map (·.1)).Nodup:=by
  obtain ⟨h1,h2⟩:=kS h
  refine List.pairwise_iff_getElem.2 (λa c I hc L => ?_)
  simp only [List.length_map]at I hc
  simp only [List.getElem_map]
  intro e
  have B:=h2 a (by omega) I
  have F:=h2 c (by omega) hc
  have o:=(List.getElem?_eq_some_iff.1 B).1
  have A:=(List.getElem?_eq_some_iff.1 F).1
  have M:=iY J.nd is[a] is[c] (by simpa using o) (by simpa using A) (by
    simp only [List.getElem_map]
    rw [(List.getElem?_eq_some_iff.1 B).2,(List.getElem?_eq_some_iff.1 F).2];exact e)
  have:=iY hi a c (by omega) (by omega) M
  omega
def outs (ν:List Nm):List Nat->List Nm->List (Option Box)->List (Nat×Nm×Option Box)
  | i::is,n::ns,b::bs=>(i,n,b.map (·.ren ν))::outs ν is ns bs
  | _,_,_=>[]
def news (ν:List Nm):List Nm->List (Option Box)->Hp
  | n::ns,b::bs=>(n,b.map (·.ren ν))::news ν ns bs
  | _,_=>[]
theorem Kq (a b:List (Nat×Nm×Option Box)):∀H:Hp,setH H (a++b)=setH (setH H a) b:=by
  induction a with
  | nil=>intro H;rfl
  | cons x a h=>intro H;obtain ⟨i,n,o⟩:=x;exact h _
theorem setH_at {l:List (Nat×Nm×Option Box)}:∀{H:Hp},(setH H l).length=H.length:=by
  induction l with
  | nil=>intro H;rfl
  | cons x l h=>intro H;obtain ⟨i,n,b⟩:=x;simp only [setH];rw [h];simp
theorem yj {tk:Nat} {I:List Oper} {ν:List Nm}:∀{is:List Nat} {ns:List Nm} {bs:List (Option Box)} {H:Hp} {S:Store} (o:AgR H S tk I) (hi:is.Nodup) (J:ns.Nodup)
    (h:∀j (h1:j<is.length) (h2:j<ns.length),∃b,H[is[j]]? = some (ns[j],b)),AgR (setH H (outs ν is ns bs)) (dn S (bT ν (ns.take is.length) bs)) tk I
  | [],ns,bs,H,S,o,_,_,_=>by simp only [outs,setH,List.length_nil,List.take_zero,bT,dn];exact o
  | i::is,[],bs,H,S,o,_,_,_=>by simp only [outs,setH,List.take_nil,bT,dn];exact o
  | i::is,n::ns,[],H,S,o,_,_,_=>by simp only [outs,setH,List.length_cons,List.take_succ_cons,bT,dn];exact o
  | i::is,n::ns,b::bs,H,S,o,hi,J,h=>by
    simp only [outs,setH,List.length_cons,List.take_succ_cons,bT,dn]
    obtain ⟨M,A⟩:=h 0 (by simp) (by simp)
    have A:H[i]? = some (n,M):=A
    refine yj (o.set A (b:=b.map (Box.ren ν)) (b':=b.map (Box.ren ν)) (λx N=>N)) (List.nodup_cons.1 hi).2 (List.nodup_cons.1 J).2 (λj h1 h2 => ?_)
    obtain ⟨L,F⟩:=h (j+1) (by simpa using h1) (by simpa using h2)
    refine⟨L,?_⟩
    have B:i≠is[j]:=λe=>(List.nodup_cons.1 hi).1 (e ▸ List.getElem_mem _)
    rw [List.getElem?_set_ne B]
    exact F
theorem AgR.news {tk:Nat} {o:Oper} (ok:qL C (o::rest)) (J:o.dst=some d) {ν:List Nm}:∀(m:Nat) {bs:List (Option Box)} {H:Hp} {S:Store} (k:Nat),
    ((H.map (·.1)).Nodup/\0<tk)->(∀p∈H,((p.1.2<tk\/p.1.2=tk/\(∀N∈o::rest,N.dst≠some (p.1.1 % 100000)))\/∃j,j<k/\p.1=(d+100000*j,tk))/\∀b,p.2=some b->S p.1=some b) ->
    AgR (H++Eng.news ν ((List.range' k m).map λj=>(d+100000*j,tk)) bs) (dn S (bT ν ((List.range' k m).map λj=>(d+100000*j,tk)) bs)) tk rest
  | 0,bs,H,S,k,A,B=>by
    simp only [List.range'_zero,List.map_nil,Eng.news,List.append_nil,bT,dn]
    have F:=(nk (ok.2 o (by simp)) J).2
    refine⟨A.2,A.1,λp hp=>⟨?_,(B p hp).2⟩⟩
    rcases (B p hp).1 with (h|⟨h1,h2⟩) | ⟨j,_,h⟩
    · exact .inl h
    · exact .inr ⟨h1,λN I=>h2 N (by simp [I])⟩
    · refine .inr ⟨by rw [h],λN I M => ?_⟩
      have e2:(d+100000*j) % 100000=d:=(Nat.add_mul_mod_self_left d 100000 j).trans (Nat.mod_eq_of_lt F)
      rw [h,e2]at M
      have h1:=ok.1
      simp only [jU,J,Bool.and_eq_true]at h1
      have h2:=List.all_eq_true.1 h1.1 N I
      simp only [M,Nat.beq_refl]at h2
      cases h2
  | m+1,[],H,S,k,A,B=>by
    have:=AgR.news (tk:=tk) ok J (S:=S) (ν:=ν) 0 (bs:=[]) k A B
    simpa [List.range'_succ,Eng.news,bT,dn]using this
  | m+1,b::bs,H,S,k,A,B=>by
    have F:=(nk (ok.2 o (by simp)) J).2
    simp only [List.range'_succ,List.map_cons,Eng.news,bT,dn]
    have L:∀p∈H,p.1≠(d+100000*k,tk):=λp hp e=>by
      rcases (B p hp).1 with (h1|⟨_,h1⟩) | ⟨j,hj,h1⟩
      · rw [e]at h1;exact Nat.lt_irrefl _ h1
      · have:=h1 o (by simp)
        have e2:(d+100000*k) % 100000=d:=(Nat.add_mul_mod_self_left d 100000 k).trans (Nat.mod_eq_of_lt F)
        rw [e,J,e2]at this
        exact this rfl
      · rw [e]at h1
        simp only [Prod.mk.injEq,and_true]at h1
        omega
    have:=AgR.news (tk:=tk) ok J (ν:=ν) m (bs:=bs) (H:=H++[((d+100000*k,tk),b.map (·.ren ν))]) (S:=supd S (d+100000*k,tk) (b.map (·.ren ν))) (k+1) ?_ ?_
    · simpa only [List.append_assoc,List.cons_append,List.nil_append]using this
    · refine⟨?_,A.2⟩
      rw [List.map_append,List.nodup_append]
      refine⟨A.1,by simp,λa R c hc => ?_⟩
      simp only [List.map_cons,List.map_nil,List.mem_singleton]at hc
      obtain ⟨p,hp,rfl⟩:=List.mem_map.1 R
      rw [hc];exact L p hp
    · intro p hp
      rcases List.mem_append.1 hp with hp|hp
      · refine⟨?_,λx O=>by simp only [supd,if_neg (L p hp)];exact (B p hp).2 x O⟩
        rcases (B p hp).1 with h|⟨j,hj,h⟩
        · exact .inl h
        · exact .inr ⟨j,by omega,h⟩
      · simp only [List.mem_singleton]at hp
        subst hp
        exact⟨.inr ⟨k,by omega,rfl⟩,λx O=>by simp only [supd,if_true];exact O⟩
theorem BP {β:Type} (f:Nat->β) (m:Nat):(List.range m).map f=(List.range' 0 m).map f:=by rw [List.range_eq_range']
theorem wJ (ν:List Nm):∀(a b:List Nm) (bs:List (Option Box)),bT ν (a++b) bs=bT ν a bs++bT ν b (bs.drop a.length)
  | [],b,bs=>by simp [bT]
  | x::a,b,[]=>by cases b <;> simp [bT]
  | x::a,b,y::bs=>by simp only [List.cons_append,bT,List.length_cons,List.drop_succ_cons];rw [wJ ν a b bs]
theorem QW {f:Operand} {args:List Operand} {L:Array TypeId} {fn:FuncId} {caps o:List V} {r:V} {Sin:List Box} {Sout:List (Option Box)} (is:List Nat) (m:Nat) {l:List (Nm×Box)} (hc:FnM C.P fn o Sin r Sout)
    (hf:ev sl f = .fn fn caps) (hb:aH C.P fn=true) (hl:gK H is=some l) (hS:Sin.map (λb=>b.ren (l.map (·.1)))=l.map (·.2)) (J:Sin.all (λb=>b.ok is.length)=true)
    (I:((args.map (ev sl)++caps).flatMap frz).all (λn=>false)=true) (ha:(args.map (ev sl)++caps).map co0=renL (l.map (·.1)) o) (Z:okL is.length o=true) (hr:okV Sout.length r=true)
    (M:Sout.length=is.length+m) (hi:is.Nodup) (hO:okOut Sout.length Sout=true) (Y:mutOut (Sout.drop is.length)=true)
    (hw:aL all sl ⟨some d,.call ⟨.value f,args.toArray,L⟩,ty,pos,after,g⟩=some true)
    (h:∀ν:Nat->Nm,aR none C all K rest (upd sl d (ren (l.map (·.1)++(List.range m).map ν) r))
      (setH H (outs (l.map (·.1)++(List.range m).map ν) is (l.map (·.1)) Sout)++news (l.map (·.1)++(List.range m).map ν) ((List.range m).map ν) (Sout.drop is.length))) :
    aR none C all K (⟨some d,.call ⟨.value f,args.toArray,L⟩,ty,pos,after,g⟩::rest) sl H:=by
  have O:(args.map (ev sl)++caps).flatMap frz=[]:=by
    cases hx:(args.map (ev sl)++caps).flatMap frz with
    | nil=>rfl
    | cons a b=>rw [hx]at I;simp at I
  obtain ⟨B,N⟩:=kS hl
  have F:Sin.length=l.length:=by have:=congrArg List.length hS;simpa using this
  refine JI hw (λS tk K' ok W hk=>oD hf ?_)
  have h:=h (λj=>(d+100000*j,tk))
  have R:=sF W hi hl
  refine .inl ⟨hb,⟨[],l.map (·.1),o,Sin,r,Sout,false⟩,?_,(λe=>by cases e),?_⟩
  · exact { does := hc
            args:=ArgsOK.of_map <| by
              show (args.map (ev sl)++caps).map (co S)=_
              rw [Gb O,ha]
            okA:=by simp only [List.length_map,B];exact Z
            nodup:=R
            ins:=by
              refine rY (by simp [F]) (λj h1 h2=>⟨?_,?_⟩)
              · simp only [List.length_map,B]
                exact List.all_eq_true.1 J _ (List.getElem_mem h2)
              · simp only [List.length_map]at h1
                have e:=N j (by omega) h1
                have e2:l[j].2=Sin[j].ren (l.map (·.1)):=by
                  have:=congrArg (λx=>x[j]?) hS
                  simp only [List.getElem?_map,List.getElem?_eq_getElem h2,List.getElem?_eq_getElem h1,Option.map_some,so_]at this
                  exact this.symm
                simp only [List.getElem_map]
                show S l[j].1=_
                rw [W.get e,e2]
            len:=by rw [F,M,B];omega
            okR:=hr,okO:=hO,mutN:=by rw [F,B];exact Y
            roOK:=(λe=>by cases e),have_:=(λn I=>nomatch I),cov:=(λn h'=>by rw [O]at h';cases h'),dis:=(λn _ I=>nomatch I) }
  · have X:Sout.length-Sin.length=m:=by omega
    have e1:CallData.eff ⟨[],l.map (·.1),o,Sin,r,Sout,false⟩ S d tk=⟨((l.map (·.1)).zip Sin).map (λp=>(p.1,p.2.ren (l.map (·.1)))),bT (l.map (·.1)++ja d tk m) (l.map (·.1)++ja d tk m) Sout,ren (l.map (·.1)++ja d tk m) r⟩:=by
      simp only [CallData.eff,cond_false,CallData.names,X,dZ,d9,List.nil_append]
    show K' (CallData.eff _ S d tk)
    rw [e1]
    refine hk _ _ ?_ h
    have e2:(List.range m).map (λj=>(d+100000*j,tk))=ja d tk m:=rfl
    rw [e2]
    show AgR _ (dn S (bT _ (l.map (·.1)++ja d tk m) Sout)) tk rest
    rw [wJ,tN]
    have e3:(l.map (·.1)).length=is.length:=by simp [B]
    rw [e3]
    have A:=yj (ν:=l.map (·.1)++ja d tk m) W hi R (bs:=Sout) (λj h1 h2=>by
      simp only [List.length_map]at h2
      exact⟨_,by simp only [List.getElem_map];exact N j h1 h2⟩)
    rw [List.take_of_length_le (by omega)]at A
    have e4:ja d tk m=(List.range' 0 m).map λj=>(d+100000*j,tk):=by rw [<- e2,BP]
    rw [e4]at A ⊢
    exact AgR.news ok rfl m 0 ⟨A.nd,A.pos⟩ (λp hp=>⟨.inl (A.at_ p hp).1,(A.at_ p hp).2⟩)
theorem vH {ν:List Nm}:∀{ns:List Nm} {bs:List (Option Box)} {p:Nm×Option Box},p∈bT ν ns bs->p.1∈ns
  | n::ns,b::bs,p,h=>by
    rcases List.mem_cons.1 h with rfl|h
    · simp
    · exact List.mem_cons_of_mem _ (vH h)
  | [],_,_,h=>by simp [bT]at h
  | _::_,[],_,h=>by simp [bT]at h
theorem Bp:∀{is:List Nat} {l:List (Nm×Box)},gK H is=some l->∀m∈l.map (·.1),m∈H.map (·.1)
  | [],l,h,m,hm=>by simp only [gK,so_]at h;subst h;cases hm
  | i::is,l,h,m,hm=>by
    simp only [gK]at h
    split at h
    · rename_i n b l' h1 h2
      simp only [so_]at h;subst h
      simp only [List.map_cons,List.mem_cons]at hm
      rcases hm with rfl|hm
      · exact zi h1 _ (by simp)
      · exact Bp h2 m hm
    · cases h
theorem dQ {f:Operand} {args:List Operand} {A:Array TypeId} {fn:FuncId} {caps o:List V} {r:V} {Sin:List Box} {Sout:List (Option Box)} (p:Nat) (is:List Nat) {l:List (Nm×Box)} (hp:q=none\/Nat.beq all.length (p+(rest.length+1))=true)
    (W:∀S tk,AgR H S tk (⟨some d,.call ⟨.value f,args.toArray,A⟩,ty,pos,after,g⟩::rest)->okQ q all p (l.map (·.1)) true) (hc:FnM C.P fn o Sin r Sout)
    (hf:ev sl f = .fn fn caps) (hb:aH C.P fn=true) (hl:gK H is=some l) (hS:Sin.map (λb=>b.ren (l.map (·.1)))=l.map (·.2)) (I:Sin.all (λb=>b.ok is.length)=true)
    (F:((args.map (ev sl)++caps).flatMap frz).all (λn=>false)=true) (ha:(args.map (ev sl)++caps).map co0=renL (l.map (·.1)) o) (Z:okL is.length o=true) (hr:okV Sout.length r=true)
    (hlen:Sout.length=is.length) (hi:is.Nodup) (hO:okOut Sout.length Sout=true)
    (hw:aL all sl ⟨some d,.call ⟨.value f,args.toArray,A⟩,ty,pos,after,g⟩=some true)
    (v:V) (hv:ren (l.map (·.1)) r=v) (H':Hp) (hH:setH H (outs (l.map (·.1)) is (l.map (·.1)) Sout)=H')
    (h:aR (mV q p (l.map (·.1)) true) C all K rest (upd sl d v) H') :
    aR q C all K (⟨some d,.call ⟨.value f,args.toArray,A⟩,ty,pos,after,g⟩::rest) sl H:=by
  subst hv hH
  have N:(args.map (ev sl)++caps).flatMap frz=[]:=by
    cases L:(args.map (ev sl)++caps).flatMap frz with
    | nil=>rfl
    | cons a b=>rw [L]at F;simp at F
  obtain ⟨B,M⟩:=kS hl
  have X:Sin.length=l.length:=by have:=congrArg List.length hS;simpa using this
  refine rz p (l.map (·.1)) true hp W (Bp hl) hw (λS tk K' ok R hk=>oD hf ?_)
  have O:=sF R hi hl
  refine .inl ⟨hb,⟨[],l.map (·.1),o,Sin,r,Sout,false⟩,?_,(λe=>by cases e),?_⟩
  · exact { does := hc
            args:=ArgsOK.of_map <| by
              show (args.map (ev sl)++caps).map (co S)=_
              rw [Gb N,ha]
            okA:=by simp only [List.length_map,B];exact Z
            nodup:=O
            ins:=by
              refine rY (by simp [X]) (λj h1 h2=>⟨?_,?_⟩)
              · simp only [List.length_map,B]
                exact List.all_eq_true.1 I _ (List.getElem_mem h2)
              · simp only [List.length_map]at h1
                have e:=M j (by omega) h1
                have e2:l[j].2=Sin[j].ren (l.map (·.1)):=by
                  have:=congrArg (λx=>x[j]?) hS
                  simp only [List.getElem?_map,List.getElem?_eq_getElem h2,List.getElem?_eq_getElem h1,Option.map_some,so_]at this
                  exact this.symm
                simp only [List.getElem_map]
                show S l[j].1=_
                rw [R.get e,e2]
            len:=by show Sin.length<=Sout.length;omega
            okR:=hr,okO:=hO,mutN:=by show mutOut (List.drop Sin.length Sout)=true;rw [List.drop_of_length_le (by omega)];rfl
            roOK:=(λe=>by cases e),have_:=(λn F=>nomatch F),cov:=(λn h'=>by rw [N]at h';cases h'),dis:=(λn _ F=>nomatch F) }
  · have Y:Sout.length-Sin.length=0:=by omega
    have e1:CallData.eff ⟨[],l.map (·.1),o,Sin,r,Sout,false⟩ S d tk=⟨((l.map (·.1)).zip Sin).map (λp=>(p.1,p.2.ren (l.map (·.1)))),bT (l.map (·.1)) (l.map (·.1)) Sout,ren (l.map (·.1)) r⟩:=by
      simp only [CallData.eff,cond_false,CallData.names,Y,ja,List.range_zero,List.map_nil,List.append_nil,dZ,d9,List.nil_append]
    show K' (CallData.eff _ S d tk)
    rw [e1]
    refine hk _ _ ⟨λx L => ?_,λx L=>vH L⟩ (λh=>by cases h) ?_ h
    · obtain ⟨y,hy,rfl⟩:=List.mem_map.1 L
      exact (List.of_mem_zip hy).1
    · have e3:(l.map (·.1)).length=is.length:=by simp [B]
      have J:=yj (ν:=l.map (·.1)) R hi O (bs:=Sout) (λj h1 h2=>by
        simp only [List.length_map]at h2
        exact⟨_,by simp only [List.getElem_map];exact M j h1 h2⟩)
      rw [List.take_of_length_le (by omega)]at J
      exact J.tail
end
end Go.Eng

/-
  THE ENGINE: what may be known anew between operations; a function's end and its contract; loops over a list.
-/
namespace Go.Eng
set_option linter.unusedSectionVars false
variable [DM]
set_option linter.unusedVariables false
set_option linter.unusedSimpArgs false
section
variable {C:Cfg} {sl:Nat->V} {H:Hp} {Q:QH} {c:Code}
theorem Ag.get {S:Store} {tk:Nat} (o:Ag H S tk) {i:Nat} {n:Nm} {b:Box} (h:H[i]? = some (n,some b)):S n=some b :=
 (o.at_ _ (List.mem_of_getElem? h)).2 b rfl
theorem Ag.set {S:Store} {tk:Nat} (A:Ag H S tk) {i:Nat} {n:Nm} {F b b':Option Box} (h:H[i]? = some (n,F)) (hb:∀x,b=some x->b'=some x):Ag (H.set i (n,b)) (supd S n b') tk:=by
 have hi:i<H.length:=(List.getElem?_eq_some_iff.1 h).1
 have he:H[i]=(n,F):=(List.getElem?_eq_some_iff.1 h).2
 have hm:(H.set i (n,b)).map (·.1)=H.map (·.1):=by
  apply List.ext_getElem
  ·simp
  ·intro j h1 h2
   simp only [List.getElem_map,List.getElem_set]
   split
   ·rename_i e;subst e;rw [he]
   ·rfl
 refine⟨A.pos,by rw [hm];exact A.nd,λp hp => ?_⟩
 obtain ⟨j,hj,rfl⟩:=List.getElem_of_mem hp
 simp only [List.length_set]at hj
 simp only [List.getElem_set]
 split
 ·rename_i e;subst e
  have:=A.at_ (n,F) (by rw [<- he];exact List.getElem_mem hi)
  exact⟨this.1,λx B=>by simp only [supd,if_true];exact hb x B⟩
 ·rename_i e
  have h1:=A.at_ H[j] (List.getElem_mem hj)
  refine⟨h1.1,λx B => ?_⟩
  have o:H[j].1≠n:=λo=>e (iY A.nd i j (by simpa using hi) (by simpa using hj) (by simp [he,o]))
  simp only [supd,if_neg o]
  exact h1.2 x B
theorem Ag.drop {S:Store} {tk:Nat} (o:Ag H S tk) {i:Nat} {n:Nm} {A:Option Box} (h:H[i]? = some (n,A)):Ag (H.set i (n,none)) S tk:=by
 have hi:i<H.length:=(List.getElem?_eq_some_iff.1 h).1
 have he:H[i]=(n,A):=(List.getElem?_eq_some_iff.1 h).2
 have hm:(H.set i (n,none)).map (·.1)=H.map (·.1):=by
  apply List.ext_getElem
  ·simp
  ·intro j h1 h2
   simp only [List.getElem_map,List.getElem_set]
   split
   ·rename_i e;subst e;rw [he]
   ·rfl
 refine⟨o.pos,by rw [hm];exact o.nd,λp hp => ?_⟩
 obtain ⟨j,hj,rfl⟩:=List.getElem_of_mem hp
 simp only [List.length_set]at hj
 simp only [List.getElem_set]
 split
 ·rename_i e;subst e
  have:=o.at_ (n,A) (by rw [<- he];exact List.getElem_mem hi)
  exact⟨this.1,λx B=>by cases B⟩
 ·exact o.at_ H[j] (List.getElem_mem hj)
theorem Bf {i:Nat} {n:Nm} {o:Option Box} (h:H[i]? = some (n,o)) (B:wH C c Q sl (H.set i (n,none))):wH C c Q sl H :=
 oH B (λS t A=>⟨S,.refl _,A.drop h⟩)
theorem freeze1 {S:Store} {n:Nm} {sz:Nat} {ys:List (List D)} (h:S n=some (.vec sz ys)):freezeAll S [n]=supd S n (some (.froz sz ys)):=by
 simp [freezeAll,d9,h,dn]
theorem mR (h:∀n:Nm,wH C c Q sl (H++[(n,none)])):wH C c Q sl H:=λok S t o=>by
 have A:∃m:Nat,∀p∈H,p.1.1<m:=by
  clear h o
  induction H with
  | nil=>exact⟨0,λp hp=>by cases hp⟩
  | cons x H F =>
   obtain ⟨m,hm⟩:=F
   refine⟨max m (x.1.1+1),λp hp => ?_⟩
   rcases List.mem_cons.1 hp with rfl|hp
   ·omega
   ·have:=hm p hp;omega
 obtain ⟨m,hm⟩:=A
 refine h (m,0) ok S t ⟨o.pos,?_,λp hp => ?_⟩
 ·rw [List.map_append,List.nodup_append]
  refine⟨o.nd,by simp,λa I b hb e => ?_⟩
  simp only [List.map_cons,List.map_nil,List.mem_singleton]at hb
  obtain ⟨p,hp,rfl⟩:=List.mem_map.1 I
  have:=hm p hp
  rw [e,hb]at this
  exact Nat.lt_irrefl _ this
 ·rcases List.mem_append.1 hp with hp|hp
  ·exact o.at_ p hp
  ·simp only [List.mem_singleton]at hp
   subst hp
   exact⟨o.pos,λx B=>by cases B⟩
theorem qU {ν:List Nm} {i:Nat} {n:Nm} (h:ν[i]? = some n):qF ν (au i)=n:=by
 simp only [qF,gQ,List.getD_eq_getElem?_getD,h,Option.getD_some]
theorem I9 {α:Type} {ν:List Nm} {n:Nm} {sz:Nat} (xs:List α):ren ν (gV n sz xs)=gV (qF ν n) sz xs:=by cases xs <;> rfl
theorem zZ {α:Type} {k i sz:Nat} (h:i<k) (xs:List α):okV k (gV (au i) sz xs)=true:=by
 cases xs with
 | nil=>rfl
 | cons x xs=>exact lQ h
def resC (C:Cfg) (sl:Nat->V) (H:Hp) (a t:Nat) (v:V):Prop:=∃(k:Nat) (n:Nm) (i j sz size:Nat) (cs:List V) (agg:Bool),
 sl a = .ref n i j/\H[k]? = some (n,some (.cells sz cs))/\szT C.P t=some size/\cz C.P t=agg/\rdV agg size (cs.drop (i*sz+j))=some v
def Dv (C:Cfg) (sl:Nat->V) (H:Hp):List ResultVar->List V->Prop
 | [],[]=>True
 | .tmp t::h,v::vs=>sl t=v/\Dv C sl H h vs
 | .cell a t::h,v::vs=>resC C sl H a t v/\Dv C sl H h vs
 | _,_=>False
theorem DW {S:Store} {tk:Nat} (A:Ag H S tk):∀{o:List ResultVar} {vs:List V},Dv C sl H o vs->Dr C ⟨sl,S,tk⟩ o=some vs
 | [],[],_=>rfl
 | .tmp t::o,v::vs,h=>by
  obtain ⟨rfl,h⟩:=h
  simp only [Dr,DW A h,Option.map_some]
 | .cell a t::o,v::vs,h=>by
  obtain ⟨⟨k,n,i,j,sz,size,cs,agg,h1,h2,B,F,I⟩,h⟩:=h
  have e:rH C.P t S (sl a)=some ⟨[(n,.cells sz cs)],[],v⟩:=by
   rw [h1,Cr B F,A.get h2]
   simp only [K5,I,Option.map_some]
  simp only [Dr,e,DW A h]
 | [],_::_,h=>h.elim
 | .tmp _::_,[],h=>h.elim
 | .cell _ _::_,[],h=>h.elim
def CoOK (H:Hp) (v v':V):Prop:=v'=v\/∀S t,Ag H S t->v'=co S v
theorem jl {v v':V} (h:frz v=[]) (h2:co0 v=v'):CoOK H v v' := .inr λS t _=>by rw [co_0 h,h2]
inductive CoL (H:Hp):List V->List V->Prop
 | nil:CoL H [] []
 | cons {v v':V} {vs vs':List V} (h:CoOK H v v') (hs:CoL H vs vs'):CoL H (v::vs) (v'::vs')
theorem CoL.get {vs o:List V} (h:CoL H vs o):vs.length=o.length/\∀(i:Nat) (h1:i<vs.length) (h2:i<o.length),CoOK H vs[i] o[i]:=by
 induction h with
 | nil=>exact⟨rfl,λi h1=>absurd h1 (Nat.not_lt_zero i)⟩
 | cons h _ A =>
  refine⟨by simp [A.1],λi h1 h2 => ?_⟩
  cases i with
  | zero=>exact h
  | succ i=>exact A.2 i (by simpa using h1) (by simpa using h2)
def zS (H:Hp) (ν:List Nm):List Nat->List Nm->List (Option Box)->Prop
 | [],[],[]=>True
 | j::h,n::ns,b::bs=>H[j]? = some (n,b.map (·.ren ν))/\zS H ν h ns bs
 | _,_,_=>False
theorem Ao {ν:List Nm}:∀{o:List Nat} {ns:List Nm} {bs:List (Option Box)},zS H ν o ns bs->o.length=ns.length/\ns.length=bs.length
 | [],[],[],_=>⟨rfl,rfl⟩
 | _::_,_::_,_::_,h=>⟨by simp [(Ao h.2).1],by simp [(Ao h.2).2]⟩
 | [],_::_,_,h=>h.elim
 | [],[],_::_,h=>h.elim
 | _::_,[],_,h=>h.elim
 | _::_,_::_,[],h=>h.elim
theorem xP {ν:List Nm}:∀{o:List Nat} {ns:List Nm} {bs:List (Option Box)} (_:zS H ν o ns bs) (i:Nat) (h1:i<o.length) (h2:i<ns.length) (A:i<bs.length),H[o[i]]? = some (ns[i],bs[i].map (·.ren ν))
 | _::_,_::_,_::_,h,0,_,_,_=>h.1
 | _::_,_::_,_::_,h,i+1,h1,h2,A=>xP h.2 i (by simpa using h1) (by simpa using h2) (by simpa using A)
def vF (C:Cfg) (A:List ResultVar) (k:Nat) (r:V) (Sout:List (Option Box)):QH:=λe sl H=>(e = .normal\/e = .ret) /\
 ∃(vs h:List V) (o:List Nat) (ν:List Nm),Dv C sl H A vs/\CoL H vs h/\yO h=ren ν r/\zS H ν o ν Sout/\o.Nodup/\(∀i,i<k->ν[i]? = some (au i))
theorem Nk {J:List ResultVar} {k:Nat} {r:V} {Sout:List (Option Box)} {e:Exit} {σ:St} (h:Ll (vF C J k r Sout) e σ):Qa C J (NM k r Sout) e σ:=by
 obtain ⟨H,A,he,vs,I,O,ν,h1,h2,Z,B,Y,R⟩:=h
 obtain ⟨l1,X⟩:=Ao B
 obtain ⟨c1,c2⟩:=h2.get
 have L:ν.Nodup:=by
  refine List.pairwise_iff_getElem.2 (λa b W hb hab e => ?_)
  have M:=List.getElem?_eq_some_iff.1 (xP B a (by omega) W (by omega))
  have N:=List.getElem?_eq_some_iff.1 (xP B b (by omega) hb (by omega))
  have:=iY A.nd O[a] O[b] (by simpa using M.1) (by simpa using N.1) (by simp [M.2,N.2,e])
  have:=iY Y a b (by omega) (by omega) this
  omega
 have fin:NM k r Sout vs σ.store:=⟨I,ν,c1,λi q1 q2=>(c2 i q1 q2).imp id (λh=>h _ _ A),Z,X,L,R,λi bx hb=>by
  obtain ⟨hi,F⟩:=List.getElem?_eq_some_iff.1 hb
  have:=xP B i (by omega) (by omega) hi
  rw [F]at this
  exact⟨ν[i],List.getElem?_eq_getElem (by omega),A.get this⟩⟩
 have o:Dr C σ J=some vs:=DW A h1
 rcases he with rfl|rfl
 ·exact⟨vs,o,fin⟩
 ·exact⟨vs,o,fin⟩
theorem fin0 {o:List ResultVar} {r:V} {e:Exit} (he:e = .normal\/e = .ret) (vs:List V) (h1:Dv C sl H o vs) (h2:(vs.flatMap frz).all (λ_=>false)=true) (I:yO (vs.map co0)=r) (F:okV 0 r=true):vF C o 0 r [] e sl H:=by
 have B:vs.flatMap frz=[]:=by
  cases hx:vs.flatMap frz with
  | nil=>rfl
  | cons a b=>rw [hx]at h2;simp at h2
 have hc:∀{vs:List V},vs.flatMap frz=[]->CoL H vs (vs.map co0):=by
  intro vs
  induction vs with
  | nil=>exact λ_ => .nil
  | cons v vs A=>exact λh => .cons (jl (sJ h v (by simp)) rfl) (A (by simp only [List.flatMap_cons,List.append_eq_nil_iff]at h;exact h.2))
 exact⟨he,vs,_,[],[],h1,hc B,by rw [I,sD F],trivial,List.nodup_nil,λi hi=>absurd hi (Nat.not_lt_zero i)⟩
theorem Ad {A:List ResultVar} {k:Nat} {r:V} {Sout:List (Option Box)} {e:Exit} (he:e = .normal\/e = .ret) (vs h:List V) (o:List Nat) (ν:List Nm) (h1:Dv C sl H A vs) (h2:CoL H vs h) (J:yO h=ren ν r)
  (F:zS H ν o ν Sout) (I:o.Nodup) (B:(ν.take k)=(List.range k).map au):vF C A k r Sout e sl H :=
 ⟨he,vs,h,o,ν,h1,h2,J,F,I,λi hi=>by
  have:(ν.take k)[i]? = ((List.range k).map au)[i]? := by rw [B]
  rw [List.getElem?_take,if_pos hi]at this
  rw [this];simp [hi]⟩
def kM:Nat->List Box->Hp
 | _,[]=>[]
 | i,b::bs=>(au i,some b)::kM (i+1) bs
theorem rD:∀{bs:List Box} {i:Nat} {p:Nm×Option Box},p∈kM i bs->∃j b,p=(au (i+j),some b)/\bs[j]? = some b
 | b::bs,i,p,h=>by
  rcases List.mem_cons.1 h with rfl|h
  ·exact⟨0,b,rfl,rfl⟩
  ·obtain ⟨j,b',h1,h2⟩:=rD h
   exact⟨j+1,b',by rw [h1];congr 2;omega,by simpa using h2⟩
theorem FV:∀(bs:List Box) (i:Nat),((kM i bs).map (·.1)).Nodup
 | [],_=>List.nodup_nil
 | b::bs,i=>by
  refine List.nodup_cons.2 ⟨λh => ?_,FV bs (i+1)⟩
  obtain ⟨p,hp,he⟩:=List.mem_map.1 h
  obtain ⟨j,b',h1,_⟩:=rD hp
  rw [h1]at he
  simp only [au,Prod.mk.injEq,and_true]at he
  omega
theorem FnM.of_wH {P:Program} {f:FuncId} {fn:Func} {body:Code} (C:Cfg) (F:C.P=P) (hf:P.funcs[f]? = some fn) (hb:fn.body=some body) (J:C.n=fn.ntmps)
  {args:List V} {Sin:List Box} {r:V} {Sout:List (Option Box)} (hl:args.length<=fn.ntmps) (o:nL C body=true)
  (h:wH C body (vF C fn.results.toList Sin.length r Sout) (CB args) (kM 0 Sin)):FnM P f args Sin r Sout:=by
 refine FnM.of_wpD' hf hb F J hl ?_
 obtain ⟨L,B,I⟩:=h o (cB Sin) 1 ⟨Nat.one_pos,FV _ _,λp hp=>by
  obtain ⟨j,b,rfl,hb⟩:=rD hp
  refine⟨Nat.one_pos,λx A => ?_⟩
  simp only [so_]at A
  subst A
  rw [jM,Nat.zero_add];exact hb⟩
 exact⟨L,B,jy body (λe σ h=>Nk h) I⟩
end
end Go.Eng

/-
  THE PLAIN FORMS: how a round ends, loops over a list, loops in general; and what a walk asks of them.
-/
namespace Go.Eng
set_option linter.unusedSectionVars false
variable [DM]
set_option linter.unusedVariables false
inductive Ctl (σ ρ:Type) where
 | go (s:σ)
 | brk (s:σ)
 | ret (r:ρ)
def forR {α σ ρ:Type} (body:Nat->α->σ->Option (Ctl σ ρ)):List α->Nat->σ->Option (Ctl σ ρ)
 | [],_,s=>some (.go s)
 | x::xs,k,s=>(body k x s).bind λc=>match c with
  | .go h=>forR body xs (k+1) h
  | .brk h=>some (.go h)
  | .ret r=>some (.ret r)
def forL {α σ ρ:Type} (xs:List α) (s:σ) (body:Nat->α->σ->Option (Ctl σ ρ)):Option (Ctl σ ρ):=if xs.length<=1000000000000 then forR body xs 0 s else none
def iterN {σ ρ:Type} (body:σ->Option (Ctl σ ρ)):Nat->σ->Option (Ctl σ ρ)
 | 0,_=>none
 | n+1,s=>(body s).bind λc=>match c with
  | .go h=>iterN body n h
  | .brk h=>some (.go h)
  | .ret r=>some (.ret r)
open Classical in
noncomputable def jH {σ ρ:Type} (s:σ) (body:σ->Option (Ctl σ ρ)):Option (Ctl σ ρ):=if h:∃n o,iterN body n s=some o then some h.choose_spec.choose else none
theorem fe {σ ρ:Type} {s:σ} {body:σ->Option (Ctl σ ρ)} {o:Ctl σ ρ} (h:jH s body=some o):∃n,iterN body n s=some o:=by
 unfold jH at h
 split at h
 ·rename_i A
  simp only [so_]at h
  exact⟨A.choose,by rw [A.choose_spec.choose_spec,h]⟩
 ·cases h
theorem Ac {σ ρ:Type} {body:σ->Option (Ctl σ ρ)}:∀{n:Nat} {s:σ} {o:Ctl σ ρ} (m:Nat),iterN body n s=some o->n<=m->iterN body m s=some o
 | 0,_,_,_,h,_=>by cases h
 | n+1,s,o,0,h,hm=>by omega
 | n+1,s,o,m+1,h,hm=>by
  simp only [iterN,Option.bind_eq_some_iff]at h ⊢
  obtain ⟨c,h1,h2⟩:=h
  refine⟨c,h1,?_⟩
  cases c with
  | go A=>exact Ac m h2 (by omega)
  | brk A=>exact h2
  | ret r=>exact h2
theorem lZ {σ ρ:Type} {s:σ} {body:σ->Option (Ctl σ ρ)} {o:Ctl σ ρ} {n:Nat} (h:iterN body n s=some o):jH s body=some o:=by
 have A:∃n o,iterN body n s=some o:=⟨n,o,h⟩
 unfold jH
 rw [dif_pos A]
 have h1:=A.choose_spec.choose_spec
 have h2:=Ac (max n A.choose) h1 (Nat.le_max_right _ _)
 rw [Ac (max n A.choose) h (Nat.le_max_left _ _)]at h2
 exact h2.symm
theorem bind_some {α β:Type} {x:Option α} {f:α->Option β} {r:β} (h:x.bind f=some r):∃a,x=some a/\f a=some r:=Option.bind_eq_some_iff.1 h
theorem aj {α:Type} {c:Bool} {x y:Option α} {r:α} (h:(bif c then x else y)=some r):(c=true/\x=some r)\/(c=false/\y=some r):=by
 cases c with
 | true=>exact .inl ⟨rfl,h⟩
 | false=>exact .inr ⟨rfl,h⟩
theorem aZ {α σ ρ:Type} {xs:List α} {s:σ} {body:Nat->α->σ->Option (Ctl σ ρ)} {o:Ctl σ ρ} (h:forL xs s body=some o):xs.length<=1000000000000/\forR body xs 0 s=some o:=by
 unfold forL at h
 split at h
 ·exact⟨‹_›,h⟩
 ·cases h
theorem drop_nil {α:Type} {xs:List α} {k:Nat} (h:xs.drop k=[]):decide ((k:Int)<(xs.length:Int))=false:=by
 have:=List.drop_eq_nil_iff.1 h
 simp;omega
theorem DY {α:Type} {xs l:List α} {x:α} {k:Nat} (h:xs.drop k=x::l):k<xs.length:=by
 have h1:(xs.drop k).length=(x::l).length:=by rw [h]
 simp at h1;omega
theorem bz {α:Type} {xs l:List α} {x:α} {k:Nat} (h:xs.drop k=x::l):decide ((k:Int)<(xs.length:Int))=true:=by
 have:=DY h
 simp;omega
theorem bI {α:Type} {xs l:List α} {x:α} {k:Nat} (h:xs.drop k=x::l):idx xs (k:Int)=some x:=by
 have h1:(xs.drop k)[0]? = some x:=by rw [h];rfl
 rw [List.getElem?_drop]at h1
 simp only [idx]
 rw [if_pos (by omega)]
 simpa using h1
theorem JV {α:Type} {xs l:List α} {x:α} {k:Nat} (h:xs.drop k=x::l):xs[k]? = some x:=by
 have h1:(xs.drop k)[0]? = some x:=by rw [h];rfl
 rw [List.getElem?_drop]at h1
 simpa using h1
theorem aW {α:Type} {xs l:List α} {x:α} {k:Nat} (h:xs.drop k=x::l):xs.drop (k+1)=l:=by
 have h1:(xs.drop k).drop 1=l:=by rw [h];rfl
 rwa [List.drop_drop]at h1
theorem ED (n:Int) (h : -9223372036854775808<=n/\n<=9223372036854775807):w64 n=n:=IntWalk.i64_in n h
theorem bG {α:Type} {xs l:List α} {x:α} {k:Nat} (h:xs.drop k=x::l) (hl:xs.length<=1000000000000):w64 ((k:Int)+1)=((k+1:Nat):Int):=by
 have:=DY h
 rw [ED _ (by omega)];omega
theorem fC {C:Cfg} {sl:Nat->V} {H:Hp} {q:Qm} {all rest:List Oper} {K:(Nat->V)->Hp->Prop} {dst:Option Tmp} {ty:TypeId} {pos:String} {after:Array Edge} {g:Option (Nat×Bool)} {op:Op} {a b:Int} (e:w64 a=b)
  (o:aL all sl ⟨dst,op,ty,pos,after,g⟩=some true) (A:FC C sl op=some (vI (w64 a))) (h:aR q C all K rest (dE sl dst (vI b)) H):aR q C all K (⟨dst,op,ty,pos,after,g⟩::rest) sl H :=
 aI _ o A (by rw [e];exact h)
end Go.Eng

/-
  THE ENGINE: what the printed proofs use besides.
-/
namespace Go.Eng
set_option linter.unusedSectionVars false
variable [DM]
set_option linter.unusedVariables false
set_option linter.unusedSimpArgs false
def eK (k:IntKind) (n:Int):List D:=[.int k n]
def eL {α:Type} (enc:α->List D) (xs:List α):List D:=[dl enc xs]
abbrev sEq (a b:ByteArray):Bool:=a.toList==b.toList
abbrev sNe (a b:ByteArray):Bool := !(a.toList==b.toList)
abbrev sLt (a b:ByteArray):Bool:=Op.bytesLess a.toList b.toList
abbrev sLe (a b:ByteArray):Bool:=Op.bytesLess a.toList b.toList||a.toList==b.toList
abbrev JL (a b:Int):Int:=if b<a then b else a
abbrev uQ (a b:Int):Int:=if b>a then b else a
abbrev PK (k:IntKind) (a b:Int):Int:=k.wrap (BitVec.ofInt k.bits a &&& BitVec.ofInt k.bits b).toNat
def MP (k:IntKind) (a b:Int):Option Int:=if b=0 then none else some (k.wrap (a.tdiv b))
def KN (k:IntKind) (a b:Int):Option Int:=if b=0 then none else some (a.tmod b)
def shlO (k:IntKind) (a b:Int):Option Int:=if b<0 then none else some (k.wrap (a*2 ^ (min b.toNat k.bits)))
def O3 (k:IntKind) (a b:Int):Option Int:=if b<0 then none else some (a.fdiv (2 ^ (min b.toNat k.bits)))
def yV (s:ByteArray) (i:Int):Option UInt8:=if 0<=i then s[i.toNat]? else none
def rW (s:ByteArray) (h hi:Int):Option ByteArray:=if 0<=h/\0<=hi/\h.toNat<=hi.toNat/\hi.toNat<=s.size then some (s.extract h.toNat hi.toNat)else none
def uw {α:Type} (xs:List α) (h hi:Int):Option (List α):=if 0<=h/\0<=hi/\h.toNat<=hi.toNat/\hi.toNat<=xs.length then some ((xs.take hi.toNat).drop h.toNat)else none
def inR {α:Type} (i:Int) (xs:List α):Option Unit:=if 0<=i/\i.toNat<xs.length then some ()else none
theorem lC {α:Type} {i:Int} {xs:List α} {u:Unit} (h:inR i xs=some u):0<=i:=by
  unfold inR at h;split at h
  · rename_i h1;exact h1.1
  · cases h
theorem iR {α:Type} {i:Int} {xs:List α} {u:Unit} (h:inR i xs=some u):i.toNat<xs.length:=by
  unfold inR at h;split at h
  · rename_i h1;exact h1.2
  · cases h
def thenC {σ ρ τ:Type} (o:Ctl σ ρ) (f:σ->Option τ) (g:ρ->Option τ):Option τ:=match o with
  | .go s=>f s
  | .brk _=>none
  | .ret r=>g r
theorem Cf {n:Int} {k:Nat} (h:(List.range n.toNat).drop k=[]):decide ((k:Int)<n)=false:=by
  have:=List.drop_eq_nil_iff.1 h
  simp at this
  simp;omega
theorem zR {n:Int} {k x:Nat} {l:List Nat} (h:(List.range n.toNat).drop k=x::l):decide ((k:Int)<n)=true:=by
  have:=DY h
  simp at this
  simp;omega
theorem Cv {n:Int} {k x:Nat} {l:List Nat} (h:(List.range n.toNat).drop k=x::l) (hl:(List.range n.toNat).length<=1000000000000):w64 ((k:Int)+1)=((k+1:Nat):Int):=bG h hl
theorem ae {α:Type} {a b:α} (h:some a=some b):a=b:=Option.some.inj h
theorem jk {α:Type} {a b:α} {l m:List α} (h:a=b) (h2:l=m):a::l=b::m:=by rw [h,h2]
theorem Nw {α:Type} {cs:List V} {o sz:Nat} {n:Nm} {xs:List α} (h:Nat.ble (o+1) cs.length=true):stC 1 cs o (gV n sz xs)=some (splice cs [gV n sz xs] o):=by
  cases xs with
  | nil=>simp only [stC,gV,aX,List.length_cons,List.length_nil,Nat.zero_add,h];rfl
  | cons x xs=>simp only [stC,gV,aX,List.length_cons,List.length_nil,Nat.zero_add,h];rfl
section
variable {C:Cfg} {sl:Nat->V} {H:Hp} {Q:QH} {c:Code}
theorem FR (H:Hp):pre H H:=aJ List.take_length
theorem pre_is {H0 H:Hp} (is:List Nat) (h:is.Nodup) (e:is.map (λi=>H[i]?)=H0.map some):pre H0 H:=⟨is,h,e⟩
theorem aY {β:Type} {h:β->List (Nat×V)} {o:β->Hp} {R:β->Prop} (x:β) (A:R x) (he:pick (h x) sl=h x) (hp:pre (o x) H):Kz h o R sl H:=⟨x,A,he,hp⟩
theorem cu {h:Unit->List (Nat×V)} {o:Unit->Hp} (he:pick (h ()) sl=h ():=by rfl) (hp:H.take (o ()).length=o ():=by rfl):Kz h o (λ_=>True) sl H:=aY () trivial he (aJ hp)
theorem bf {β:Type} {h:β->List (Nat×V)} {o:β->Hp} {R:β->Prop} {m:β->Nat} {x:β} (x':β) (A:R x') (hm:m x'<m x) (he:pick (h x') sl=h x') (hp:pre (o x') H):loopE h o R m x sl H:=⟨x',A,hm,he,hp⟩
theorem Jr {α:Type} {enc:α->List D} {xs:List α} {sz:Nat} {n:Nm} (i:Nat) (h:H[i]? = some (n,some (bV sz enc xs))) (B:wH C c Q sl (H.set i (n,some (bF sz enc xs)))):wH C c Q sl H :=
  oH B (λS t o=>⟨freezeAll S [n],Gst.froz ⟨sl,S,t⟩ n,by rw [freeze1 (o.get h)];exact o.set h (λx A=>A)⟩)
theorem ig {α:Type} {enc:α->List D} {xs:List α} {sz:Nat} {n:Nm} (i:Nat) (h:H[i]? = some (n,gB sz enc xs)) (o:wH C c Q sl (H.set i (n,gF sz enc xs))):wH C c Q sl H:=by
  cases xs with
  | nil=>exact oH o (λS t A=>⟨S,.refl _,A.drop h⟩)
  | cons x xs=>exact Jr i h o
theorem G7 {α:Type} {enc:α->List D} {xs:List α} {sz:Nat} {n:Nm} (k i:Nat) (B:sl k=vV n sz xs) (h:H[i]? = some (n,some (bF sz enc xs))) (I:wH C c Q (upd sl k (vL enc xs)) H):wH C c Q sl H :=
  oH I (λS t o=>⟨S,by
    have:=Gst.co ⟨sl,S,t⟩ k
    have e:co S (sl k)=vL enc xs:=by
      rw [B]
      have A:=o.get h
      have h1:Nat.beq sz sz=true:=Nat.beq_refl sz
      have h2:Nat.ble xs.length xs.length=true:=Nat.ble_eq_true_of_le (Nat.le_refl _)
      have F:(xs.map enc).take xs.length=xs.map enc:=List.take_of_length_le (by simp)
      simp [co,co1,A,h1,h2,F]
    simp only [e]at this
    exact this,o⟩)
theorem fT {α:Type} {enc:α->List D} {xs:List α} {sz:Nat} {n:Nm} (k i:Nat) (o:sl k=gV n sz xs) (h:H[i]? = some (n,gF sz enc xs)) (A:wH C c Q (upd sl k (vL enc xs)) H):wH C c Q sl H:=by
  cases xs with
  | nil =>
    refine oH A (λS t B=>⟨S,?_,B⟩)
    have:=Gst.co ⟨sl,S,t⟩ k
    have e:co S (sl k)=vL enc ([]:List α):=by rw [o];rfl
    simp only [e]at this
    exact this
  | cons x xs=>exact G7 k i o h A
theorem NK {α:Type} (enc:α->List D) (k:Nat) (A:sl k = .nil) (o:wH C c Q (upd sl k (vL enc [])) H):wH C c Q sl H :=
  oH o (λS t h=>⟨S,by
    have:=Gst.co ⟨sl,S,t⟩ k
    have e:co S (sl k)=vL enc ([]:List α):=by rw [A];rfl
    simp only [e]at this
    exact this,h⟩)
theorem co_gF {α:Type} {enc:α->List D} {xs:List α} {sz i:Nat} {n:Nm} {S:Store} {t:Nat} (o:Ag H S t) (hi:H[i]? = some (n,gF sz enc xs)):co1 S (gV n sz xs)=vL enc xs:=by
    cases xs with
    | nil=>rfl
    | cons x xs =>
      have h:S n=some (.froz sz ((x::xs).map enc)):=o.get hi
      have h1:Nat.beq sz sz=true:=Nat.beq_refl sz
      have h2:Nat.ble (xs.length+1) (xs.length+1)=true:=Nat.ble_eq_true_of_le (Nat.le_refl _)
      have A:(xs.map enc).take xs.length=xs.map enc:=List.take_of_length_le (by simp)
      simp only [gV,co1,h,h1,Nat.zero_add,List.length_cons,List.length_map,List.map_cons,h2,Bool.and_self,cond_true,List.drop_zero,List.take_succ_cons,A]
      rfl
theorem wH_coc {α:Type} {enc:α->List D} {xs:List α} {sz s:Nat} {n m:Nm} {cs:List V} (i j:Nat) (h:List V) (hi:H[i]? = some (n,gF sz enc xs)) (hj:H[j]? = some (m,some (.cells s cs)))
    (hc:∀S,co1 S (gV n sz xs)=vL enc xs->cs.map (co1 S)=h) (B:wH C c Q sl (H.set j (m,some (.cells s h)))):wH C c Q sl H:=by
  refine oH B (λS t o => ?_)
  have hm:=o.get hj
  have h1:co1 S (gV n sz xs)=vL enc xs:=by
    cases xs with
    | nil=>rfl
    | cons x xs =>
      have F:S n=some (.froz sz ((x::xs).map enc)):=o.get hi
      have h1:Nat.beq sz sz=true:=Nat.beq_refl sz
      have h2:Nat.ble (xs.length+1) (xs.length+1)=true:=Nat.ble_eq_true_of_le (Nat.le_refl _)
      have I:(xs.map enc).take xs.length=xs.map enc:=List.take_of_length_le (by simp)
      simp only [gV,co1,F,h1,Nat.zero_add,List.length_cons,List.length_map,List.map_cons,h2,Bool.and_self,cond_true,List.drop_zero,List.take_succ_cons,I]
      rfl
  refine⟨supd S m (some (.cells s (cs.map (co1 S)))),Gst.coB ⟨sl,S,t⟩ m s cs hm,?_⟩
  rw [hc S h1]
  exact o.set hj (λx A=>A)
end
section
variable {C:Cfg} {sl:Nat->V} {H:Hp} {q:Qm} {all rest:List Oper} {K:(Nat->V)->Hp->Prop}
variable {dst:Option Tmp} {d:Nat} {t ty:TypeId} {pos:String} {after:Array Edge} {g:Option (Nat×Bool)}
theorem xJ {s e:TypeId} {x:Operand} {k k':IntKind} {n:Int} {u:TypeDesc} (h1:C.P.underlying s=some u) (h2:C.P.underlying e=some (.int k)) (o:ev sl x = .d (.int k' n))
    (A:aL all sl ⟨dst,.convert s e x,ty,pos,after,g⟩=some true) (h:aR q C all K rest (dE sl dst (.d (.int k (k.wrap n)))) H):aR q C all K (⟨dst,.convert s e x,ty,pos,after,g⟩::rest) sl H :=
  aI _ A (by show CF C.P s e (ev sl x)=_;rw [o];simp only [CF,h1,h2]) h
theorem NN {s e:TypeId} {x:Operand} {A k':IntKind} {n:Int} (h1:C.P.underlying s=some (.int A)) (h2:C.P.underlying e=some .string) (o:ev sl x = .d (.int k' n))
    (B:aL all sl ⟨dst,.convert s e x,ty,pos,after,g⟩=some true) (h:aR q C all K rest (dE sl dst (vS (Utf8.encode n))) H):aR q C all K (⟨dst,.convert s e x,ty,pos,after,g⟩::rest) sl H :=
  aI _ B (by show CF C.P s e (ev sl x)=_;rw [o];simp only [CF,h1,h2]) h
theorem QG {e e':TypeId} {x y:Operand} {k:IntKind} {a b c:Int} (o:ev sl x = .d (.int k a)) (B:ev sl y = .d (.int k b)) (hc:MP k a b=some c) (A:aL all sl ⟨dst,.binOp .quo e x y e',ty,pos,after,g⟩=some true)
    (h:aR q C all K rest (dE sl dst (.d (.int k c))) H):aR q C all K (⟨dst,.binOp .quo e x y e',ty,pos,after,g⟩::rest) sl H :=
  aI _ A (by
    refine uN ?_
    show qh C.P .quo e (ev sl x) (ev sl y)=_
    rw [o,B]
    unfold MP at hc
    split at hc
    · cases hc
    · rename_i hb;simp only [so_]at hc;subst hc;simp [qh,Ji,Gv,Ld,hb]) h
theorem PX {e e':TypeId} {x y:Operand} {k:IntKind} {a b c:Int} (o:ev sl x = .d (.int k a)) (B:ev sl y = .d (.int k b)) (hc:KN k a b=some c) (A:aL all sl ⟨dst,.binOp .rem e x y e',ty,pos,after,g⟩=some true)
    (h:aR q C all K rest (dE sl dst (.d (.int k c))) H):aR q C all K (⟨dst,.binOp .rem e x y e',ty,pos,after,g⟩::rest) sl H :=
  aI _ A (by
    refine uN ?_
    show qh C.P .rem e (ev sl x) (ev sl y)=_
    rw [o,B]
    unfold KN at hc
    split at hc
    · cases hc
    · rename_i hb;simp only [so_]at hc;subst hc;simp [qh,Ji,Gv,Ld,hb]) h
theorem h_shl {e e':TypeId} {x y:Operand} {k k':IntKind} {a b c:Int} (o:ev sl x = .d (.int k a)) (B:ev sl y = .d (.int k' b)) (hc:shlO k a b=some c) (A:aL all sl ⟨dst,.binOp .shl e x y e',ty,pos,after,g⟩=some true)
    (h:aR q C all K rest (dE sl dst (.d (.int k c))) H):aR q C all K (⟨dst,.binOp .shl e x y e',ty,pos,after,g⟩::rest) sl H :=
  aI _ A (by
    refine uN ?_
    show qh C.P .shl e (ev sl x) (ev sl y)=_
    rw [o,B]
    unfold shlO at hc
    split at hc
    · cases hc
    · rename_i hb;simp only [so_]at hc;subst hc;simp [qh,Ji,Gv,Qf,hb]) h
theorem NJ {e e':TypeId} {x y:Operand} {k k':IntKind} {a b c:Int} (o:ev sl x = .d (.int k a)) (B:ev sl y = .d (.int k' b)) (hc:O3 k a b=some c) (A:aL all sl ⟨dst,.binOp .shr e x y e',ty,pos,after,g⟩=some true)
    (h:aR q C all K rest (dE sl dst (.d (.int k c))) H):aR q C all K (⟨dst,.binOp .shr e x y e',ty,pos,after,g⟩::rest) sl H :=
  aI _ A (by
    refine uN ?_
    show qh C.P .shr e (ev sl x) (ev sl y)=_
    rw [o,B]
    unfold O3 at hc
    split at hc
    · cases hc
    · rename_i hb;simp only [so_]at hc;subst hc;simp [qh,Ji,Gv,Qf,hb]) h
theorem gW {e e':TypeId} {x y:Operand} {a b c:ByteArray} (o:ev sl x=vS a) (B:ev sl y=vS b) (hc:fu a b=some c) (A:aL all sl ⟨dst,.binOp .add e x y e',ty,pos,after,g⟩=some true)
    (h:aR q C all K rest (dE sl dst (vS c)) H):aR q C all K (⟨dst,.binOp .add e x y e',ty,pos,after,g⟩::rest) sl H :=
  aI _ A (by
    refine uN ?_
    show qh C.P .add e (ev sl x) (ev sl y)=_
    rw [o,B]
    unfold fu at hc
    split at hc
    · cases hc
    · rename_i hb;simp only [so_]at hc;subst hc;simp only [qh,Ji,N8,if_neg hb,Option.map_some]) h
def Nr (P:Program) (t:TypeId):Bool:=match P.underlying t with | some (.interface _)=>true | _=>false
theorem Oj {P:Program} {t:TypeId} (h:Nr P t=true):∃o,P.underlying t=some (.interface o):=by
  unfold Nr at h
  split at h
  · rename_i o A;exact⟨o,A⟩
  · cases h
theorem h_ieq {e e':TypeId} {x y:Operand} (o:Nr C.P e=true) (hc:(Dc x||Dc y)=true) (A:ev sl x = .nili) (F:ev sl y = .nili) (B:aL all sl ⟨dst,.binOp .eql e x y e',ty,pos,after,g⟩=some true)
    (h:aR q C all K rest (dE sl dst (vB true)) H):aR q C all K (⟨dst,.binOp .eql e x y e',ty,pos,after,g⟩::rest) sl H:=by
  obtain ⟨I,o⟩:=Oj o
  exact aI _ B (by show CY C.P .eql e x y (ev sl x) (ev sl y)=_;rw [A,F];simp only [CY,qh,Ji,nilF,o,hc,cond_true]) h
theorem QI {e e':TypeId} {x y:Operand} {a b:Bool} (A:C.P.underlying e=some .bool) (o:ev sl x=vB a) (F:ev sl y=vB b) (B:aL all sl ⟨dst,.binOp .neq e x y e',ty,pos,after,g⟩=some true)
    (h:aR q C all K rest (dE sl dst (vB (!(a==b)))) H):aR q C all K (⟨dst,.binOp .neq e x y e',ty,pos,after,g⟩::rest) sl H :=
  aI _ B (by refine uN ?_;show qh C.P .neq e (ev sl x) (ev sl y)=_;rw [o,F];simp only [qh,A]) h
theorem xI {x i:Operand} {s:ByteArray} {k:IntKind} {n:Int} {b:UInt8} (B:C.P.underlying t=some .string) (o:ev sl x=vS s) (hi:ev sl i = .d (.int k n)) (hb:yV s n=some b) (F:aL all sl ⟨dst,.index t x i,ty,pos,after,g⟩=some true)
    (h:aR q C all K rest (dE sl dst (.d (.int .u8 (b.toNat:Int)))) H):aR q C all K (⟨dst,.index t x i,ty,pos,after,g⟩::rest) sl H :=
  aI _ F (by
    show Bz C.P t (ev sl x) (ev sl i)=_
    rw [o,hi]
    unfold yV at hb
    split at hb
    · rename_i A;simp [Bz,B,A,hb]
    · cases hb) h
section sub
variable {x l hi:Operand} {s r:ByteArray} {k k':IntKind} {a b:Int}
theorem Nn (B:C.P.underlying t=some .string) {A hi:Option V} {l h:Int} (h1:pz 0 A=some l.toNat/\0<=l) (h2:pz s.size hi=some h.toNat/\0<=h) (o:rW s l h=some r):lg C.P t (vS s) A hi none=some (vS r):=by
  unfold rW at o
  split at o
  · rename_i hc;simp only [so_]at o;subst o
    simp [lg,B,h1.1,h2.1,hc.2.2.1,hc.2.2.2]
  · cases o
theorem Av {s r:ByteArray} {l h:Int} (o:rW s l h=some r):0<=l/\0<=h:=by
  unfold rW at o;split at o
  · rename_i hc;exact⟨hc.1,hc.2.1⟩
  · cases o
theorem Ho {d:Nat} {k:IntKind} {a:Int} (h:0<=a):pz d (some (.d (.int k a)))=some a.toNat:=by simp [pz,h]
theorem mr (B:C.P.underlying t=some .string) (A:ev sl x=vS s) (hl:ev sl l = .d (.int k a)) (o:rW s a s.size=some r) (F:aL all sl ⟨dst,.slice t x (some l) none none,ty,pos,after,g⟩=some true)
    (h:aR q C all K rest (dE sl dst (vS r)) H):aR q C all K (⟨dst,.slice t x (some l) none none,ty,pos,after,g⟩::rest) sl H :=
  aI _ F (by
    show lg C.P t (ev sl x) (some (ev sl l)) none none=_
    rw [A,hl];exact Nn B ⟨Ho (Av o).1,(Av o).1⟩ ⟨rfl,(Av o).2⟩ o) h
theorem oV (B:C.P.underlying t=some .string) (A:ev sl x=vS s) (F:ev sl hi = .d (.int k' b)) (o:rW s 0 b=some r) (I:aL all sl ⟨dst,.slice t x none (some hi) none,ty,pos,after,g⟩=some true)
    (h:aR q C all K rest (dE sl dst (vS r)) H):aR q C all K (⟨dst,.slice t x none (some hi) none,ty,pos,after,g⟩::rest) sl H :=
  aI _ I (by
    show lg C.P t (ev sl x) none (some (ev sl hi)) none=_
    rw [A,F];exact Nn B ⟨rfl,Int.le_refl _⟩ ⟨Ho (Av o).2,(Av o).2⟩ o) h
variable {α:Type} {enc:α->List D} {xs ys:List α} {e:TypeId} {sz:Nat}
theorem J2 (I:C.P.underlying t=some (.slice e)) (hs:szT C.P e=some sz) (B:∀y,(enc y).length=sz) {F hi:Option V} {l h:Int} (h1:pz 0 F=some l.toNat) (h2:pz xs.length hi=some h.toNat) (A:uw xs l h=some ys):lg C.P t (vL enc xs) F hi none=some (vL enc ys):=by
  unfold uw at A
  split at A
  · rename_i hc;simp only [so_]at A;subst A
    have o:=DL (sz:=sz) B xs
    simp only [lg,I,hs,h1,List.length_map,h2]
    rw [if_pos ⟨hc.2.2.1,hc.2.2.2,o⟩]
    simp [List.map_drop,List.map_take]
  · cases A
theorem J4 {l h:Int} (o:uw xs l h=some ys):0<=l/\0<=h:=by
  unfold uw at o;split at o
  · rename_i hc;exact⟨hc.1,hc.2.1⟩
  · cases o
theorem wR (F:C.P.underlying t=some (.slice e)) (hs:szT C.P e=some sz) (o:∀y,(enc y).length=sz) (B:ev sl x=vL enc xs) (hl:ev sl l = .d (.int k a)) (A:uw xs a xs.length=some ys) (I:aL all sl ⟨dst,.slice t x (some l) none none,ty,pos,after,g⟩=some true)
    (h:aR q C all K rest (dE sl dst (vL enc ys)) H):aR q C all K (⟨dst,.slice t x (some l) none none,ty,pos,after,g⟩::rest) sl H :=
  aI _ I (by
    show lg C.P t (ev sl x) (some (ev sl l)) none none=_
    rw [B,hl];exact J2 F hs o (Ho (J4 A).1) rfl A) h
theorem wN (I:C.P.underlying t=some (.slice e)) (hs:szT C.P e=some sz) (o:∀y,(enc y).length=sz) (B:ev sl x=vL enc xs) (F:ev sl hi = .d (.int k' b)) (A:uw xs 0 b=some ys) (J:aL all sl ⟨dst,.slice t x none (some hi) none,ty,pos,after,g⟩=some true)
    (h:aR q C all K rest (dE sl dst (vL enc ys)) H):aR q C all K (⟨dst,.slice t x none (some hi) none,ty,pos,after,g⟩::rest) sl H :=
  aI _ J (by
    show lg C.P t (ev sl x) none (some (ev sl hi)) none=_
    rw [B,F];exact J2 I hs o rfl (Ho (J4 A).2) A) h
end sub
theorem pq:∀(bs:List Box) (i j:Nat) (h:j<bs.length),(kM i bs)[j]? = some (au (i+j),some bs[j])
  | b::bs,i,0,h=>rfl
  | b::bs,i,j+1,h=>by
    show (kM (i+1) bs)[j]? = _
    rw [pq bs (i+1) j (by simpa using h)]
    simp [Nat.add_assoc,Nat.add_comm 1 j]
theorem xW {k:Nat}:∀n,okN k n=true->qF ((List.range k).map au) n=n:=by
  intro n h
  obtain ⟨i,hi,rfl⟩:=su h
  rw [sW (by simpa using hi)];simp
theorem yD {k:Nat} {b:Box} (h:b.ok k=true):b.ren ((List.range k).map au)=b:=by
  cases b with
  | cells sz cs=>simp only [Box.ok]at h;simp only [Box.ren,ve _ k xW _ h]
  | pmap es =>
    simp only [Box.ren,Box.pmap.injEq]
    exact (List.map_congr_left (λe he=>by rw [zG _ k xW e.2 (List.all_eq_true.1 h e he)];rfl)).trans (List.map_id _)
  | iter cur left =>
    simp only [Box.ok,Bool.and_eq_true]at h
    simp only [Box.ren,Box.iter.injEq]
    refine⟨?_,(List.map_congr_left (λe he=>by rw [zG _ k xW e.2 (List.all_eq_true.1 h.2 e he)];rfl)).trans (List.map_id _)⟩
    cases cur with
    | none=>rfl
    | some x=>simp only [Option.map_some,zG _ k xW x.2 (by simpa using h.1)]
  | _=>rfl
theorem CW {k:Nat} {S:Store}:∀{ns:List Nm} {bs:List Box},(∀b∈bs,b.ok k=true)->(∀j (h1:j<ns.length) (h2:j<bs.length),S ns[j]=some bs[j])->dn S (bT ((List.range k).map au) ns (bs.map some))=S
  | [],[],_,_=>rfl
  | [],_::_,_,_=>rfl
  | _::_,[],_,_=>rfl
  | n::ns,b::bs,hb,h=>by
    simp only [List.map_cons,bT,dn,Option.map_some]
    have e:supd S n (some (b.ren ((List.range k).map au)))=S:=by
      rw [yD (hb b (by simp))]
      funext m
      simp only [supd]
      split
      · rename_i hm;rw [hm];exact (h 0 (by simp) (by simp)).symm
      · rfl
    rw [e]
    exact CW (λb o=>hb b (by simp [o])) (λj h1 h2=>h (j+1) (by simpa using h1) (by simpa using h2))
theorem Nu {f:Operand} {args:List Operand} {L:Array TypeId} {fn:FuncId} {caps o:List V} {r:V} {Sin:List Box} (hc:FnM C.P fn o Sin r (Sin.map some)) (hf:ev sl f = .fn fn caps) (hb:aH C.P fn=true)
    (J:(args.map (ev sl)).flatMap frz=[]) (ha:(args.map (ev sl)).map co0++caps=o) (hcap:caps.flatMap frz=[]/\caps.map co0=caps) (F:okL Sin.length o=true) (M:∀b∈Sin,b.ok Sin.length=true) (hm:∀b∈Sin,b.mut=true)
    (W:okV 0 r=true)
    (hw:aL all sl ⟨some d,.call ⟨.value f,args.toArray,L⟩,ty,pos,after,g⟩=some true) (hH:H=kM 0 Sin) (h:aR none C all K rest (upd sl d r) H):aR none C all K (⟨some d,.call ⟨.value f,args.toArray,L⟩,ty,pos,after,g⟩::rest) sl H:=by
  subst hH
  refine JI hw (λS tk Y ok R hk=>oD hf ?_)
  have I:(args.map (ev sl)++caps).flatMap frz=[]:=by rw [List.flatMap_append,J,hcap.1];rfl
  have A:∀j (h:j<Sin.length),S (au j)=some Sin[j]:=λj h=>by
    have:=pq Sin 0 j h
    rw [Nat.zero_add]at this
    exact R.get this
  have B:(args.map (ev sl)++caps).map (co S)=renL ((List.range Sin.length).map au) o:=by
    rw [Gb I,List.map_append,hcap.2,ha,ve _ _ xW _ F]
  refine .inl ⟨hb,⟨[],(List.range Sin.length).map au,o,Sin,r,Sin.map some,false⟩,?_,(λe=>by cases e),?_⟩
  · exact { does := hc
            args:=ArgsOK.of_map B
            okA:=by simp only [List.length_map,List.length_range];exact F
            nodup:=by
              refine List.Pairwise.map _ (λx y N e => ?_) List.nodup_range
              simp only [au,Prod.mk.injEq,and_true]at e
              exact N (by omega)
            ins:=by
              refine rY (by simp) (λj h1 h2=>⟨by simp only [List.length_map,List.length_range];exact M _ (List.getElem_mem h2),?_⟩)
              rw [yD (M _ (List.getElem_mem h2))]
              simp only [List.getElem_map,List.getElem_range]
              exact A j h2
            len:=by simp
            okR:=rP (Nat.zero_le _) _ W
            okO:=by
              have:∀{l:List Box} {k:Nat},(∀b∈l,b.ok k=true)->okOut k (l.map some)=true:=by
                intro l k
                induction l with
                | nil=>exact λ_=>rfl
                | cons b l ih=>exact λh=>by simp only [List.map_cons,okOut,Bool.and_eq_true];exact⟨h b (by simp),ih (λx Z=>h x (by simp [Z]))⟩
              exact this (by simpa using M)
            mutN:=by
              show mutOut ((Sin.map some).drop Sin.length)=true
              rw [List.drop_of_length_le (by simp)];rfl
            roOK:=(λe=>by cases e),have_:=(λn J=>nomatch J),cov:=(λn X=>by rw [I]at X;cases X),dis:=(λn _ J=>nomatch J) }
  · have O:(Sin.map some).length-Sin.length=0:=by simp
    have e1:CallData.eff ⟨[],(List.range Sin.length).map au,o,Sin,r,Sin.map some,false⟩ S d tk=⟨(((List.range Sin.length).map au).zip Sin).map (λp=>(p.1,p.2.ren ((List.range Sin.length).map au))),bT ((List.range Sin.length).map au) ((List.range Sin.length).map au) (Sin.map some),r⟩:=by
      simp only [CallData.eff,cond_false,CallData.names,O,ja,List.range_zero,List.map_nil,List.append_nil,dZ,d9,List.nil_append,sD W]
    show Y (CallData.eff _ S d tk)
    rw [e1]
    refine hk _ (kM 0 Sin) ?_ h
    show AgR _ (dn S (bT _ ((List.range Sin.length).map au) (Sin.map some))) tk rest
    rw [CW (λb hb=>M b hb) (λj h1 h2=>by simp only [List.getElem_map,List.getElem_range];exact A j h2)]
    exact R.tail
theorem finS {A:List ResultVar} {r:V} {e:Exit} {Sin:List Box} (I:∀b∈Sin,b.ok Sin.length=true) (he:e = .normal\/e = .ret) (vs:List V) (h1:Dv C sl (kM 0 Sin) A vs) (h2:vs.flatMap frz=[]) (L:yO (vs.map co0)=r) (J:okV 0 r=true):vF C A Sin.length r (Sin.map some) e sl (kM 0 Sin):=by
  have hc:∀{vs:List V},vs.flatMap frz=[]->CoL (kM 0 Sin) vs (vs.map co0):=by
    intro vs
    induction vs with
    | nil=>exact λ_ => .nil
    | cons v vs o=>exact λh => .cons (jl (sJ h v (by simp)) rfl) (o (by simp only [List.flatMap_cons,List.append_eq_nil_iff]at h;exact h.2))
  have ho:∀{l:List Box} {k j:Nat} {H:Hp},(∀b∈l,b.ok k=true)->(∀i (h:i<l.length),H[j+i]? = some (au (j+i),some l[i]))->zS H ((List.range k).map au) (List.range' j l.length) ((List.range' j l.length).map au) (l.map some):=by
    intro l
    induction l with
    | nil=>exact λ_ _=>trivial
    | cons b l o =>
      intro k j H hb B
      simp only [List.length_cons,List.range'_succ,List.map_cons]
      refine⟨?_,o (λx F=>hb x (by simp [F])) (λi hi => ?_)⟩
      · have:=B 0 (by simp)
        simp only [Option.map_some,yD (hb b (by simp))]
        exact this
      · have:=B (i+1) (by simpa using hi)
        rw [show j+1+i=j+(i+1) by omega]
        exact this
  refine⟨he,vs,_,List.range' 0 Sin.length,(List.range' 0 Sin.length).map au,h1,hc h2,by rw [L,sD J],?_,List.nodup_range' ,λi hi=>by simp [hi]⟩
  have:=ho (k:=Sin.length) (j:=0) (H:=kM 0 Sin) I (λi hi=>by have:=pq Sin 0 i hi;simpa using this)
  rw [List.range_eq_range']at this
  exact this
end
end Go.Eng

/-
  THE ENGINE: functions without a body; new slices that a call hands back; elements of a slice that began as nil.
-/
namespace Go.Eng
set_option linter.unusedSectionVars false
variable [DM]
set_option linter.unusedVariables false
set_option linter.unusedSimpArgs false
def FN (a b:ByteArray):Int:=Lib.compareBytes a.data.toList b.data.toList
theorem pG.two {G:Gh} {w:World} {o:List Value} {a b:V} (h:pG G w o [a,b]):∃x y,o=[x,y]/\RepV G w x a/\RepV G w y b:=by
 obtain ⟨hl,h⟩:=h
 match o,hl with
 | [x,y],_=>exact⟨x,y,rfl,h 0 (by simp) (by simp),h 1 (by simp) (by simp)⟩
theorem RepV.int_inv {G:Gh} {w:World} {v:Value} {k:IntKind} {n:Int} (h:RepV G w v (.d (.int k n))):v = .int k n:=by
 have:=h.d_inv
 generalize o:D.int k n=x at this
 cases this with
 | int k' A=>cases o;rfl
 | _=>cases o
theorem RepV.str_inv {G:Gh} {w:World} {v:Value} {s:ByteArray} (h:RepV G w v (vS s)):v = .string s:=by
 have:=h.d_inv
 generalize o:D.str s=x at this
 cases this with
 | str A=>cases o;rfl
 | _=>cases o
theorem PY {P : Program} {f : FuncId} {fn : Func} (hf : P.funcs[f]? = some fn) (h1 : (fn.name == "runtime.NumGoroutine") = false) (h2 : fn.body.isNone = true) (I : Extern.findNext fn = none) (F : Extern.find fn = some Extern.BytealgCompare.compare)
  (a b:ByteArray):ExtM P f [vS a,vS b] (.int .i64 (FN a b)):=by
 intro G w o h
 obtain ⟨x,y,rfl,A,B⟩:=h.two
 rw [A.str_inv,B.str_inv]
 refine⟨.int .i64 (FN a b),?_,.int _ _⟩
 show (callFunc f #[.string a,.string b]).run P w=_
 rw [run_callFunc_extern hf h1 h2 I F,Lib.run_compareString];rfl
theorem all_ok {Sin:List Box} {k:Nat} (h:Sin.all (λb=>b.ok k)=true):∀b∈Sin,b.ok k=true:=λb hb=>List.all_eq_true.1 h b hb
theorem all_mut {Sin:List Box} (h:Sin.all (λb=>b.mut)=true):∀b∈Sin,b.mut=true:=λb hb=>List.all_eq_true.1 h b hb
theorem l6 {α:Type} {n:Nm} {sz:Nat} {xs ys:List α} (h:xs.length=ys.length):gV n sz xs=gV n sz ys:=by
 cases xs with
 | nil=>cases ys with
  | nil=>rfl
  | cons y ys=>simp at h
 | cons x xs=>cases ys with
  | nil=>simp at h
  | cons y ys=>simp only [gV,h]
theorem Jm {α:Type} {n:Nm} {sz:Nat} {xs ys:List α} (h:xs.length=ys.length):vV n sz xs=vV n sz ys:=by simp only [vV,h]
def gO {α:Type} (sz:Nat) (enc:α->List D):List α->List (Option Box)
 | []=>[]
 | x::xs=>[some (.vec sz ((x::xs).map enc))]
section
variable {C:Cfg} {sl:Nat->V} {H:Hp} {q:Qm} {all rest:List Oper} {K:(Nat->V)->Hp->Prop}
variable {dst:Option Tmp} {d:Nat} {t ty:TypeId} {pos:String} {after:Array Edge} {g:Option (Nat×Bool)}
theorem gD (k:Nat) {v v':V} (o:sl k=v) (e:v=v') (h:aR q C all K rest (upd sl k v') H):aR q C all K rest sl H:=by
 have:upd sl k v'=sl:=by
  funext j
  simp only [upd]
  cases hj:Nat.beq j k with
  | true=>rw [Nat.eq_of_beq_eq_true hj,o,e];rfl
  | false=>rfl
 rw [this]at h;exact h
theorem pX (h:∀n:Nm,aR q C all K rest sl (H++[(n,none)])):aR q C all K rest sl H:=λS tk ok o=>by
 have A:∃m:Nat,∀p∈H,p.1.1<m:=by
  clear h o
  induction H with
  | nil=>exact⟨0,λp hp=>by cases hp⟩
  | cons x H F =>
   obtain ⟨m,hm⟩:=F
   refine⟨max m (x.1.1+1),λp hp => ?_⟩
   rcases List.mem_cons.1 hp with rfl|hp
   ·omega
   ·have:=hm p hp;omega
 obtain ⟨m,hm⟩:=A
 refine h (m,0) S tk ok ⟨o.pos,?_,λp hp => ?_⟩
 ·rw [List.map_append,List.nodup_append]
  refine⟨o.nd,by simp,λa I b hb e => ?_⟩
  simp only [List.map_cons,List.map_nil,List.mem_singleton]at hb
  obtain ⟨p,hp,rfl⟩:=List.mem_map.1 I
  have:=hm p hp
  rw [e,hb]at this
  exact Nat.lt_irrefl _ this
 ·rcases List.mem_append.1 hp with hp|hp
  ·exact o.at_ p hp
  ·simp only [List.mem_singleton]at hp
   subst hp
   exact⟨.inl o.pos,λx B=>by cases B⟩
theorem h_callg {α:Type} {enc:α->List D} {sz:Nat} {xs:List α} {f:Operand} {args:List Operand} {J:Array TypeId} {fn:FuncId} {caps A:List V} {Sin outs:List Box} (is:List Nat) {l:List (Nm×Box)}
  (hc:FnM C.P fn A Sin (gV (au is.length) sz xs) (outs.map some++gO sz enc xs))
  (hf:ev sl f = .fn fn caps) (hb:aH C.P fn=true) (hl:gK H is=some l) (X:Sin.map (λb=>b.ren (l.map (·.1)))=l.map (·.2)) (B:Sin.all (λb=>b.ok is.length)=true)
  (Y:((args.map (ev sl)++caps).flatMap frz).all (λn=>false)=true) (Z:(args.map (ev sl)++caps).map co0=renL (l.map (·.1)) A) (L:okL is.length A=true)
  (o:outs.length=is.length) (hi:is.Nodup) (O:outs.all (λb=>b.ok 0)=true)
  (W:aL all sl ⟨some d,.call ⟨.value f,args.toArray,J⟩,ty,pos,after,g⟩=some true)
  (R:Hp) (hH:∀ν,setH H (Eng.outs ν is (l.map (·.1)) (outs.map some))=R)
  (h:∀n:Nm,aR none C all K rest (upd sl d (gV n sz xs)) (R++[(n,gB sz enc xs)])) :
  aR none C all K (⟨some d,.call ⟨.value f,args.toArray,J⟩,ty,pos,after,g⟩::rest) sl H:=by
 have N:=(kS hl).1
 have F:∀{k:Nat} {os:List Box},os.all (λb=>b.ok 0)=true->okOut k (os.map some)=true:=by
  intro k os
  induction os with
  | nil=>exact λ_=>rfl
  | cons b os I =>
   intro h
   simp only [List.all_cons,Bool.and_eq_true]at h
   simp only [List.map_cons,okOut,Bool.and_eq_true]
   exact⟨Box.ok_mono (Nat.zero_le _) h.1,I h.2⟩
 cases xs with
 | nil =>
  have M:FnM C.P fn A Sin .nil (outs.map some):=by simpa [gO,gV]using hc
  refine QW is 0 M hf hb hl X B Y Z L rfl (by simp [o]) hi (F O) (by rw [List.drop_of_length_le (by simp [o])];rfl) W (λν => ?_)
  simp only [List.range_zero,List.map_nil,List.append_nil,news,hH]
  exact pX (λn=>h n)
 | cons x xs =>
  refine QW (r:=gV (au is.length) sz (x::xs)) (Sout:=outs.map some++[some (.vec sz ((x::xs).map enc))]) is 1 hc hf hb hl X B Y Z L ?_ (by simp [o]) hi ?_ ?_ W (λν => ?_)
  ·exact zZ (by simp [o]) _
  ·have:∀{k:Nat} {a b:List (Option Box)},okOut k a=true->okOut k b=true->okOut k (a++b)=true:=by
    intro k a b
    induction a with
    | nil=>exact λ_ h=>h
    | cons y a I =>
     intro h1 h2
     cases y with
     | none=>exact I h1 h2
     | some y=>simp only [List.cons_append,okOut,Bool.and_eq_true]at h1 ⊢;exact⟨h1.1,I h1.2 h2⟩
   exact this (F O) rfl
  ·rw [List.drop_append_of_le_length (by simp [o]),List.drop_of_length_le (by simp [o])];rfl
  ·have e1:ren (l.map (·.1)++(List.range 1).map ν) (gV (au is.length) sz (x::xs))=gV (ν 0) sz (x::xs):=by
    rw [I9,qU]
    simp [N]
   have e2:∀ν,Eng.outs ν is (l.map (·.1)) (outs.map some++[some (.vec sz ((x::xs).map enc))])=Eng.outs ν is (l.map (·.1)) (outs.map some):=by
    intro ν
    have:∀(is:List Nat) (ns:List Nm) (a b:List (Option Box)),is.length=a.length->Eng.outs ν is ns (a++b)=Eng.outs ν is ns a:=by
     intro is
     induction is with
     | nil=>intro ns a b h;cases a with
      | nil=>cases b <;> rfl
      | cons _ _=>simp at h
     | cons i is I=>intro ns a b h;cases a with
      | nil=>simp at h
      | cons y a=>cases ns with
       | nil=>rfl
       | cons n ns=>simp only [List.cons_append,Eng.outs];rw [I ns a b (by simpa using h)]
    exact this _ _ _ _ (by simp [o])
   rw [e1,e2,hH]
   rw [List.drop_append_of_le_length (by simp [o]),List.drop_of_length_le (by simp [o])]
   exact h (ν 0)
theorem vo {α:Type} {xs:List α} {x i:Operand} {k:IntKind} {n:Int} {nm:Nm} {size:Nat} (hT:(elemT C.P t).bind (szT C.P)=some size) (o:ev sl x=gV nm size xs) (hi:ev sl i = .d (.int k n)) (B:0<=n) (h1:n.toNat<xs.length)
  (A:aL all sl ⟨dst,.indexAddr t x i,ty,pos,after,g⟩=some true) (h:aR q C all K rest (dE sl dst (.ref nm (0+n.toNat) 0)) H):aR q C all K (⟨dst,.indexAddr t x i,ty,pos,after,g⟩::rest) sl H:=by
 cases xs with
 | nil=>simp at h1
 | cons y ys=>exact Hq hT o hi B h1 A h
theorem o8 {α:Type} {enc:α->List D} {xs:List α} {y:α} {x:Operand} {size:Nat} {agg:Bool} {n:Nm} {i j sz:Nat} (p k:Nat) (hp:q=none\/Nat.beq all.length (p+(rest.length+1))=true) (hf:∀S tk,AgR H S tk (⟨dst,.load t x,ty,pos,after,g⟩::rest)->okQ q all p [n] false) (hs:szT C.P t=some size) (J:cz C.P t=agg) (A:ev sl x = .ref n i j) (I:H[k]? = some (n,gB sz enc xs)) (o:xs[i]? = some y)
  (v:V) (F:rdD agg size ((enc y).drop j)=some v)
  (B:aL all sl ⟨dst,.load t x,ty,pos,after,g⟩=some true) (h:aR (mV q p [n] false) C all K rest (dE sl dst v) H):aR q C all K (⟨dst,.load t x,ty,pos,after,g⟩::rest) sl H:=by
 cases xs with
 | nil=>simp at o
 | cons z zs=>exact NI p k hp hf hs J A I o v F B h
theorem BB {α:Type} {enc:α->List D} {xs:List α} {e:α} {x y:Operand} {size:Nat} {n:Nm} {i j sz:Nat} (p:Nat) (hp:q=none\/Nat.beq all.length (p+(rest.length+1))=true) (hf:∀S tk,AgR H S tk (⟨dst,.store t x y,ty,pos,after,g⟩::rest)->okQ q all p [n] true) (k:Nat) (hs:szT C.P t=some size) (A:ev sl x = .ref n i j) (I:H[k]? = some (n,gB sz enc xs)) (o:xs[i]? = some e) (e':α) (F:stD size (enc e) j (ev sl y)=some (enc e'))
  (B:aL all sl ⟨dst,.store t x y,ty,pos,after,g⟩=some true) (h:aR (mV q p [n] true) C all K rest (dE sl dst .none) (H.set k (n,gB sz enc (xs.set i e')))):aR q C all K (⟨dst,.store t x y,ty,pos,after,g⟩::rest) sl H:=by
 cases xs with
 | nil=>simp at o
 | cons z zs =>
  refine h_stv p hp hf k hs A I o e' F B ?_
  have:gB sz enc ((z::zs).set i e')=some (bV sz enc ((z::zs).set i e')):=by cases i <;> rfl
  rw [this]at h;exact h
theorem finG {α:Type} {enc:α->List D} {sz t:Nat} {xs:List α} {n:Nm} {outs:List Box} {e:Exit} (he:e = .normal\/e = .ret) (j:Nat) (h1:sl t=gV n sz xs) (h2:H[j]? = some (n,gB sz enc xs)) (hj:Nat.ble outs.length j=true) (J:outs.all (λb=>b.ok 0)=true)
  (I:H.take outs.length=kM 0 outs):vF C [.tmp t] outs.length (gV (au outs.length) sz xs) (outs.map some++gO sz enc xs) e sl H:=by
 have hj:=Nat.le_of_ble_eq_true hj
 have o:∀i (h:i<outs.length),H[i]? = some (au i,some outs[i]):=λi hi=>by
  have:=pq outs 0 i hi
  rw [Nat.zero_add,<- I,List.getElem?_take,if_pos hi]at this
  exact this
 have ho:∀{ν:List Nm} {l:List Box} {j:Nat} {B:List Nat} {ns:List Nm} {bs:List (Option Box)},(∀b∈l,b.ok 0=true)->(∀i (h:i<l.length),H[j+i]? = some (au (j+i),some l[i]))->zS H ν B ns bs->zS H ν (List.range' j l.length++B) ((List.range' j l.length).map au++ns) (l.map some++bs):=by
  intro ν l
  induction l with
  | nil=>exact λ_ _ h=>h
  | cons b l M =>
   intro j B ns bs hb F O
   simp only [List.length_cons,List.range'_succ,List.map_cons,List.cons_append]
   refine⟨?_,M (λx L=>hb x (by simp [L])) (λi hi => ?_) O⟩
   ·have:=F 0 (by simp)
    simp only [Option.map_some,yL (hb b (by simp))]
    exact this
   ·have:=F (i+1) (by simpa using hi)
    rw [show j+1+i=j+(i+1) by omega]
    exact this
 have A:∀b∈outs,b.ok 0=true:=λb hb=>List.all_eq_true.1 J b hb
 cases xs with
 | nil =>
  refine⟨he,[.nil],[.nil],List.range' 0 outs.length++[],(List.range' 0 outs.length).map au++[],⟨h1,trivial⟩,.cons (.inl rfl) .nil,rfl,ho A (λi hi=>by rw [Nat.zero_add];exact o i hi) trivial,by simp [List.nodup_range'],λi hi=>by simp [hi]⟩
 | cons x xs =>
  refine⟨he,[.vs n sz 0 (x::xs).length],[.vs n sz 0 (x::xs).length],List.range' 0 outs.length++[j],(List.range' 0 outs.length).map au++[n],⟨h1,trivial⟩,.cons (.inl rfl) .nil,?_,
   ho A (λi hi=>by rw [Nat.zero_add];exact o i hi) ⟨h2,trivial⟩,?_,λi hi=>by rw [List.getElem?_append_left (by simpa using hi)];simp [hi]⟩
  ·show V.vs n sz 0 (x::xs).length=ren _ (.vs (au outs.length) sz 0 (x::xs).length)
   simp only [ren]
   rw [qU]
   rw [List.getElem?_append_right (by simp)];simp
  ·rw [List.nodup_append]
   refine⟨List.nodup_range',by simp,λa N b hb => ?_⟩
   simp only [List.mem_singleton]at hb
   simp only [List.mem_range'_1]at N
   omega
end
section
variable {C:Cfg} {sl:Nat->V} {H:Hp} {q:Qm} {all rest:List Oper} {K:(Nat->V)->Hp->Prop} {Q:QH} {c:Code}
variable {dst:Option Tmp} {d:Nat} {t ty:TypeId} {pos:String} {after:Array Edge} {g:Option (Nat×Bool)}
theorem aa {op:Op} (v:V) (h:aR q C all K rest (dE sl dst v) H) (o:FC C sl op=some v:=by exact rfl):aR q C all K (⟨dst,op,ty,pos,after,none⟩::rest) sl H:=aI v wz o h
theorem ah {j:Nat} {o b:Bool} {A:Nat} {op:Op} (h:aR q C all K rest (dE sl dst .none) H) (h1:(all[j]?).bind (·.dst)=some A:=by exact rfl) (h2:sl A = .d (.bool b):=by exact rfl) (B:(b==o)=false:=by exact rfl) :
  aR q C all K (⟨dst,op,ty,pos,after,some (j,o)⟩::rest) sl H:=bR (wg h1 h2 B) h
theorem aP (h:List (Nat×V)) (o:Hp) (h1:wH C c (Gs (Kz (λ_:Unit=>h) (λ_=>o) (λ_=>True)) Q) sl H) (h2:∀x:Unit,True->∀sl' A,Eng.pick h sl'=h->Eng.pre o A->Q .normal sl' A):wH C c Q sl H :=
 lD (λ_:Unit=>h) (λ_=>o) (λ_=>True) h1 h2
theorem ai {id:Nat} {ops:List Oper} {b:Code} (h:aR none C ops (λsl H=>wH C b Q sl H) ops sl H):wH C (.seq (.region id ops.toArray false) b) Q sl H:=ak (av h)
theorem aK {h:List ResultVar} {r:V} (vs:List V) (h1:Dv C sl H h vs) (h2:(vs.flatMap frz).all (λ_=>false)=true:=by exact rfl) (o:yO (vs.map co0)=r:=by exact rfl) (A:okV 0 r=true:=by exact rfl):vF C h 0 r [] .ret sl H:=fin0 (.inr rfl) vs h1 h2 o A
theorem iA {id:Nat} {σ ρ:Type} (h:σ->List (Nat×V)) (B:σ->Hp) (A:Nat->σ->List (Nat×V)) (body:σ->Option (Ctl σ ρ)) (o:Ctl σ ρ) (n:Nat) (F:σ) (hj:iterN body n F=some o) (he:Eng.pick (A n F) sl=A n F) (hp:Eng.pre (B F) H)
  (h1:∀x:Nat×σ,iterN body x.1 x.2=some o->wH C c (Lb (λp:Nat×σ=>A p.1 p.2) (λp=>B p.2) (λp=>iterN body p.1 p.2=some o) (λp=>p.1) x (Pb id (Gs (Kz h B (λp=>o = .go p)) Q))) (envS (A x.1 x.2)) (B x.2))
  (h2:∀x,o = .go x->∀sl' I,Eng.pick (h x) sl'=h x->Eng.pre (B x) I->Q .normal sl' I):wH C (.block id (.loop c)) Q sl H :=
 lD h B (λp=>o = .go p) (aM (Ec (β:=Nat×σ) (λp=>A p.1 p.2) (λp=>B p.2) (λp=>iterN body p.1 p.2=some o) (λp=>p.1) (n,F) hj he hp h1)) h2
theorem Kk {id:Nat} {σ ρ N:Type} (h:(σ×N)->List (Nat×V)) (B:(σ×N)->Hp) (A:Nat->(σ×N)->List (Nat×V)) (body:σ->Option (Ctl σ ρ)) (o:Ctl σ ρ) (n:Nat) (F:(σ×N)) (hj:iterN body n F.1=some o) (he:Eng.pick (A n F) sl=A n F) (hp:Eng.pre (B F) H)
  (h1:∀x:Nat×(σ×N),iterN body x.1 x.2.1=some o->wH C c (Lb (λp:Nat×(σ×N)=>A p.1 p.2) (λp=>B p.2) (λp=>iterN body p.1 p.2.1=some o) (λp=>p.1) x (Pb id (Gs (Kz h B (λp=>o = .go p.1)) Q))) (envS (A x.1 x.2)) (B x.2))
  (h2:∀x,o = .go x.1->∀sl' I,Eng.pick (h x) sl'=h x->Eng.pre (B x) I->Q .normal sl' I):wH C (.block id (.loop c)) Q sl H :=
 lD h B (λp=>o = .go p.1) (aM (Ec (β:=Nat×(σ×N)) (λp=>A p.1 p.2) (λp=>B p.2) (λp=>iterN body p.1 p.2.1=some o) (λp=>p.1) (n,F) hj he hp h1)) h2
theorem dh {id:Nat} {σ ρ α:Type} (h:σ->List (Nat×V)) (B:σ->Hp) (A:Nat->σ->List (Nat×V)) (body:Nat->α->σ->Option (Ctl σ ρ)) (o:Ctl σ ρ) (xs:List α) (F:σ) (hj:forR body xs 0 F=some o) (he:Eng.pick (A 0 F) sl=A 0 F) (hp:Eng.pre (B F) H)
  (h1:∀x:Nat×List α×σ,(forR body x.2.1 x.1 x.2.2=some o/\xs.drop x.1=x.2.1)->wH C c (Lb (λp:Nat×List α×σ=>A p.1 p.2.2) (λp=>B p.2.2) (λp=>forR body p.2.1 p.1 p.2.2=some o/\xs.drop p.1=p.2.1) (λp=>p.2.1.length) x (Pb id (Gs (Kz h B (λp=>o = .go p)) Q))) (envS (A x.1 x.2.2)) (B x.2.2))
  (h2:∀x,o = .go x->∀sl' I,Eng.pick (h x) sl'=h x->Eng.pre (B x) I->Q .normal sl' I):wH C (.block id (.loop c)) Q sl H :=
 lD h B (λp=>o = .go p) (aM (Ec (β:=Nat×List α×σ) (λp=>A p.1 p.2.2) (λp=>B p.2.2) (λp=>forR body p.2.1 p.1 p.2.2=some o/\xs.drop p.1=p.2.1) (λp=>p.2.1.length) (0,xs,F) ⟨hj,rfl⟩ he hp h1)) h2
theorem iq {id:Nat} {σ ρ N α:Type} (h:(σ×N)->List (Nat×V)) (B:(σ×N)->Hp) (A:Nat->(σ×N)->List (Nat×V)) (body:Nat->α->σ->Option (Ctl σ ρ)) (o:Ctl σ ρ) (xs:List α) (F:(σ×N)) (hj:forR body xs 0 F.1=some o) (he:Eng.pick (A 0 F) sl=A 0 F) (hp:Eng.pre (B F) H)
  (h1:∀x:Nat×List α×(σ×N),(forR body x.2.1 x.1 x.2.2.1=some o/\xs.drop x.1=x.2.1)->wH C c (Lb (λp:Nat×List α×(σ×N)=>A p.1 p.2.2) (λp=>B p.2.2) (λp=>forR body p.2.1 p.1 p.2.2.1=some o/\xs.drop p.1=p.2.1) (λp=>p.2.1.length) x (Pb id (Gs (Kz h B (λp=>o = .go p.1)) Q))) (envS (A x.1 x.2.2)) (B x.2.2))
  (h2:∀x,o = .go x.1->∀sl' I,Eng.pick (h x) sl'=h x->Eng.pre (B x) I->Q .normal sl' I):wH C (.block id (.loop c)) Q sl H :=
 lD h B (λp=>o = .go p.1) (aM (Ec (β:=Nat×List α×(σ×N)) (λp=>A p.1 p.2.2) (λp=>B p.2.2) (λp=>forR body p.2.1 p.1 p.2.2.1=some o/\xs.drop p.1=p.2.1) (λp=>p.2.1.length) (0,xs,F) ⟨hj,rfl⟩ he hp h1)) h2
end
end Go.Eng

