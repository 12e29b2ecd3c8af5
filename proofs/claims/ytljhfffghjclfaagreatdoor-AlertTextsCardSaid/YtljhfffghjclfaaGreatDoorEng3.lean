/-
  The engine: what the machine does to data, shown once for all programs (part 3).
-/
import Derived.Test.YtljhfffghjclfaaGreatDoorEng2
import Derived.Tactics
import Derived.KernelRfl
import Derived.IntWalk
import Derived.Lib.Bytealg
/-
  THE ENGINE: a function's body as a condition on data ('wpD'), and that the machine meets it.
-/
namespace Go.Eng
set_option linter.unusedSectionVars false
variable [DM]
def jk:List Oper->Bool
  | []=>true
  | o::r=>(match o.dst with
    | some d=>r.all λo'=>match o'.dst with
      | some d' => !(Nat.beq d d')
      | none=>true
    | none=>true)&&jk r
def vU (C:Cfg) (ops:List Oper):Bool:=ops.all (uE C)&&jk ops
def envS:List (Nat×V)->Nat->V
  | [],_ => .any
  | (k,v)::l,j=>bif Nat.beq j k then v else envS l j
theorem FZ (sl:Nat->V):∀(ks:List Nat) (j:Nat),envS (ks.map λk=>(k,sl k)) j=sl j\/envS (ks.map λk=>(k,sl k)) j = .any
  | [],_ => .inr rfl
  | k::ks,j=>by
    simp only [List.map_cons,envS]
    cases h:Nat.beq j k with
    | true=>rw [Nat.eq_of_beq_eq_true h];exact .inl rfl
    | false=>exact FZ sl ks j
inductive NilD:List V->List V->Prop
  | nil:NilD [] []
  | same (v:V) {a b:List V}:NilD a b->NilD (v::a) (v::b)
  | nils {a b:List V}:NilD a b->NilD (.nil::a) (.d .nils::b)
theorem NilD.rep {G:Gh} {w:World} {cs cs':List V} (h:NilD cs cs'):cs.length=cs'.length/\∀(i:Nat) (h1:i<cs.length) (h2:i<cs'.length) (u:Value),RepV G w u cs[i]↔RepV G w u cs'[i]:=by
  induction h with
  | nil=>exact⟨rfl,λi h1=>absurd h1 (Nat.not_lt_zero i)⟩
  | same v _ ih =>
    refine⟨by simp [ih.1],λi h1 h2 u => ?_⟩
    cases i with
    | zero=>exact Iff.rfl
    | succ i=>exact ih.2 i (by simpa using h1) (by simpa using h2) u
  | nils _ ih =>
    refine⟨by simp [ih.1],λi h1 h2 u => ?_⟩
    cases i with
    | zero =>
      refine⟨λh => ?_,λh => ?_⟩
      · have h':RepV G w u .nil:=h
        cases h' with
        | nil a=>exact .d (.nils a)
      · have h':RepV G w u (.d .nils):=h
        have h2:=h'.d_inv
        cases h2 with
        | nils a=>exact .nil a
    | succ i=>exact ih.2 i (by simpa using h1) (by simpa using h2) u
inductive Gst:St->St->Prop
  | refl (σ:St):Gst σ σ
  | forget (σ:St) (ks:List Nat):Gst σ ⟨envS (ks.map λk=>(k,σ.slots k)),σ.store,σ.tick⟩
  | froz (σ:St) (n:Nm):Gst σ ⟨σ.slots,freezeAll σ.store [n],σ.tick⟩
  | co (σ:St) (k:Nat):Gst σ ⟨upd σ.slots k (co σ.store (σ.slots k)),σ.store,σ.tick⟩
  | coB (σ:St) (n:Nm) (sz:Nat) (cs:List V) (h:σ.store n=some (.cells sz cs)):Gst σ ⟨σ.slots,supd σ.store n (some (.cells sz (cs.map (co1 σ.store)))),σ.tick⟩
  | coM (σ:St) (n:Nm) (sz:Nat) (cs cs':List V) (h:σ.store n=some (.cells sz cs)) (hl:cs'.length=cs.length) (hc:∀j (h1:j<cs'.length) (h2:j<cs.length),cs'[j]=cs[j]\/cs'[j]=co1 σ.store cs[j]):Gst σ ⟨σ.slots,supd σ.store n (some (.cells sz cs')),σ.tick⟩
  | shr (σ:St) (n:Nm) (sz m:Nat) (xs:List (List D)) (h:σ.store n=some (.vec sz xs)):Gst σ ⟨σ.slots,supd σ.store n (some (.vec sz (xs.take m))),σ.tick⟩
  | pm (σ:St) (n:Nm) (h:σ.store n=some (.map [])):Gst σ ⟨σ.slots,supd σ.store n (some (.pmap [])),σ.tick⟩
  | wild (σ:St) (i:Nat) (n:Nm) (sz k len:Nat) (xs:List (List D)) (h:σ.store n=some (.vec sz xs)) (hi:σ.slots i = .vs n sz k len):Gst σ ⟨upd σ.slots i (.d (.wild sz len)),supd σ.store n none,σ.tick⟩
  | nild (σ:St) (i:Nat) (cs cs':List V) (hi:σ.slots i = .agg cs) (hc:NilD cs cs'):Gst σ ⟨upd σ.slots i (mkAgg cs'),σ.store,σ.tick⟩
  | c2v (σ:St) (n:Nm) (sz:Nat) (xs:List (List D)) (h:σ.store n=some (.cells sz (xs.flatten.map .d))) (he:∀x∈xs,x.length=sz):Gst σ ⟨σ.slots,supd σ.store n (some (.vec sz xs)),σ.tick⟩
  | v2c (σ:St) (n:Nm) (sz:Nat) (xs:List (List D)) (cs:List V) (h:σ.store n=some (.vec sz xs)) (hs:1<sz) (hs2:sz<1048576) (hc:NilD cs (xs.flatten.map .d)):Gst σ ⟨σ.slots,supd σ.store n (some (.cells sz cs)),σ.tick⟩
  | wild0 (σ:St) (i sz:Nat) (hi:σ.slots i = .nil\/σ.slots i = .d (.sl [])):Gst σ ⟨upd σ.slots i (.d (.wild sz 0)),σ.store,σ.tick⟩
  | trans {a b c:St}:Gst a b->Gst b c->Gst a c
def Ab (C:Cfg) (all:List Oper) (tk:Nat) (K:(Nat->V)->Store->Prop):List Oper->(Nat->V)->Store->Prop
  | [],sl,S=>K sl S
  | o::rest,sl0,S0=>∃sl S,Gst ⟨sl0,S0,tk⟩ ⟨sl,S,tk⟩/\match aJ all sl o with
    | some true=>(opD C o sl S tk λA=>Ab C all tk K rest (dI sl o.dst A.val) (dn S A.upd))\/KM C o sl S tk λA=>Ab C all tk K rest (dI sl o.dst A.val) (dn S A.upd)
    | some false=>Ab C all tk K rest (dI sl o.dst .none) S
    | none=>False
def zN (all:List Oper) (k:Nat) (A:Eff):List (Nat×Eff)->Prop
  | []=>True
  | (j,B)::L=>(Dis A B\/xU all 8 j k=true)/\zN all k A L
def opsL (C:Cfg) (all:List Oper) (tk:Nat) (K:(Nat->V)->Store->Prop):List Oper->Nat->List (Nat×Eff)->(Nat->V)->Store->Prop
  | [],_,_,sl,S=>K sl S
  | o::rest,k,L,sl,S=>match aJ all sl o with
    | some true=>opD C o sl S tk λA=>zN all k A L/\opsL C all tk K rest (k+1) ((k,A)::L) (dI sl o.dst A.val) (dn S A.upd)
    | some false=>opsL C all tk K rest (k+1) L (dI sl o.dst .none) S
    | none=>False
def JD (C:Cfg) (ops:Array Oper) (draw:Bool) (σ:St) (K:St->Prop):Prop :=
  vU C ops.toList=true /\
  bif draw then (C.P.follows .mixedOrders=true/\Region.lexB .any ops=true/\opsL C ops.toList σ.tick (λsl S=>K ⟨sl,S,σ.tick+1⟩) ops.toList 0 [] σ.slots σ.store)
  else Ab C ops.toList σ.tick (λsl S=>K ⟨sl,S,σ.tick+1⟩) ops.toList σ.slots σ.store
def condD (v:V) (x y:Prop):Prop:=∃t,v = .d (.bool t)/\(t=true->x)/\(t=false->y)
def seqQ (K:St->Prop) (Q:Exit->St->Prop):Exit->St->Prop
  | .normal,σ=>K σ
  | e,σ=>Q e σ
def Er (id:Nat) (Q:Exit->St->Prop):Exit->St->Prop
  | .exit id',σ=>bif Nat.beq id' id then Q .normal σ else Q (.exit id') σ
  | e,σ=>Q e σ
def wpD (C:Cfg):Code->(Exit->St->Prop)->St->Prop
  | .skip,Q,σ=>Q .normal σ
  | .seq a b,Q,σ=>wpD C a (seqQ (λσ=>∃σ',Gst σ σ'/\wpD C b Q σ') Q) σ
  | .cond c x y,Q,σ=>condD (ev σ.slots c) (∃σ',Gst σ σ'/\wpD C x Q σ') (∃σ',Gst σ σ'/\wpD C y Q σ')
  | .block id c,Q,σ=>wpD C c (Er id Q) σ
  | .exit id,Q,σ=>Q (.exit id) σ
  | .ret,Q,σ=>Q .ret σ
  | .loop c,Q,σ=>∃(I:St->Prop) (m:St->Nat),(∃σ0,Gst σ σ0/\I σ0)/\∀σ',I σ'->wpD C c (seqQ (λσ''=>∃σ3,Gst σ'' σ3/\I σ3/\m σ3<m σ') Q) σ'
  | .region _ ops draw,Q,σ=>JD C ops draw σ (Q .normal)
  | _,_,_=>False
def Cs (C:Cfg) (E:Env) (G:Gh) (w:World) (a:Act) (σ:St):Prop:=Reg C E G w a σ.slots σ.store σ.tick (λ_=>False)
section
variable {C:Cfg} {E:Env}
theorem pG:∀{l:List Oper} (_:jk l=true) (i j:Nat) (o o':Oper) (d:Nat),l[i]? = some o->l[j]? = some o'->o.dst=some d->o'.dst=some d->i=j
  | [],_,i,j,o,o',d,h1,_,_,_=>by simp at h1
  | x::l,h,0,0,o,o',d,_,_,_,_=>rfl
  | x::l,h,0,j+1,o,o',d,h1,h2,h3,h4=>by
    simp only [List.getElem?_cons_zero,so_]at h1
    subst h1
    simp only [jk,h3,Bool.and_eq_true]at h
    have h5:=List.all_eq_true.1 h.1 o' (List.mem_of_getElem? (by simpa using h2))
    simp only [h4]at h5
    have:Nat.beq d d=true:=Nat.beq_refl d
    rw [this]at h5;cases h5
  | x::l,h,i+1,0,o,o',d,h1,h2,h3,h4=>by
    simp only [List.getElem?_cons_zero,so_]at h2
    subst h2
    simp only [jk,h4,Bool.and_eq_true]at h
    have h5:=List.all_eq_true.1 h.1 o (List.mem_of_getElem? (by simpa using h1))
    simp only [h3]at h5
    have:Nat.beq d d=true:=Nat.beq_refl d
    rw [this]at h5;cases h5
  | x::l,h,i+1,j+1,o,o',d,h1,h2,h3,h4=>by
    simp only [jk,Bool.and_eq_true]at h
    rw [pG h.2 i j o o' d (by simpa using h1) (by simpa using h2) h3 h4]
theorem vF {ops:Array Oper} (h:vU C ops.toList=true) {j:Nat} {o:Oper} (ho:ops[j]? = some o):uE C o=true:=by
  simp only [vU,Bool.and_eq_true]at h
  exact List.all_eq_true.1 h.1 o (List.mem_of_getElem? (by simpa using ho))
theorem lq {o:Oper} (h:uE C o=true) {d:Nat} (hd:o.dst=some d):d<C.n/\d<100000:=by
  simp only [uE,hd,Bool.and_eq_true]at h
  exact⟨by simpa [Nat.blt_eq]using h.1,by simpa [Nat.blt_eq]using h.2⟩
def Jd (pre:List Oper) (n:Nat):Prop:=∃o∈pre,o.dst=some (n % 100000)
theorem Gst.okR {U:Nat->Prop} {σ σ':St} (h:Gst σ σ'):∀{G:Gh} {w:World} {a:Act},Reg C E G w a σ.slots σ.store σ.tick U->∃G',Reg C E G' w a σ'.slots σ'.store σ'.tick U:=by
  induction h with
  | refl σ=>exact λhc=>⟨_,hc⟩
  | forget σ ks =>
    intro G w a hc
    have ht:∀i,RepV G w (a.tmps.getD i undef) (envS (ks.map λk=>(k,σ.slots k)) i):=λi=>by
      rcases FZ σ.slots ks i with e|e
      · rw [e];exact hc.tm i
      · rw [e];exact .any _
    exact⟨G,{ hc with tm:=ht }⟩
  | froz σ n =>
    intro G w a hc
    obtain ⟨G',i,e⟩:=mG [n] hc.inv
    exact⟨G',{ sz:=hc.sz,df:=hc.df,tm:=λj=>(hc.tm j).ext e,inv:=i }⟩
  | co σ k =>
    intro G w a hc
    have ht:∀i,RepV G w (a.tmps.getD i undef) (upd σ.slots k (Eng.co σ.store (σ.slots k)) i):=λi=>by
      simp only [upd]
      cases h:Nat.beq i k with
      | true=>rw [Nat.eq_of_beq_eq_true h];exact DY hc.inv (hc.tm k)
      | false=>exact hc.tm i
    exact⟨G,{ hc with tm:=ht }⟩
  | coB σ n sz cs h =>
    intro G w a hc
    refine⟨G,{ sz:=hc.sz,df:=hc.df,tm:=hc.tm,inv := { hc.inv with box:=λm bx hm => ?_,one:=λn1 n2 b1 b2 b o s1 o' s2 h1 h2 h3 h4 h5 => ?_ } }⟩
    · by_cases e:m=n
      · subst e
        simp only [supd,if_true,so_]at hm
        subst hm
        obtain ⟨b,o,sz1,hmu,hst,hm⟩:=hc.inv.box m _ h
        refine⟨b,o,sz1,hmu,?_,λ_=>hm rfl⟩
        have h':Stands G w (.cells sz cs) b o sz1:=hst
        have:Stands G w (.cells sz (cs.map (co1 σ.store))) b o sz1 :=
          { sz:=h'.sz,even:=trivial,room:=by have:=h'.room;simp only [Box.all,List.length_map]at this ⊢;exact this
            cell:=λj hj=>by
              have hj0:j<cs.length:=by simpa [Box.all]using hj
              obtain ⟨u,h1,h2,h3⟩:=h'.cell j hj0
              refine⟨u,h1,h2,?_⟩
              simp only [Box.all,List.getElem_map]
              exact zU hc.inv h3
            free:=h'.free,froz:=λhm=>by simp [Box.mut]at hm,cel:=h'.cel }
        exact this
      · simp only [supd,if_neg e]at hm
        exact hc.inv.box m bx hm
    · have old:∀m bx,supd σ.store n (some (.cells sz (cs.map (co1 σ.store)))) m=some bx->∃bx',σ.store m=some bx'/\bx'.mut=bx.mut:=λm bx hm=>by
        by_cases e:m=n
        · subst e
          simp only [supd,if_true,so_]at hm
          subst hm
          exact⟨_,h,rfl⟩
        · simp only [supd,if_neg e]at hm
          exact⟨bx,hm,rfl⟩
      obtain ⟨c1,k1,m1⟩:=old _ _ h1
      obtain ⟨c2,k2,_⟩:=old _ _ h2
      exact hc.inv.one n1 n2 c1 c2 b o s1 o' s2 k1 k2 (m1.trans h3) h4 h5
  | shr σ n sz m xs h =>
    intro G w a hc
    refine⟨G,{ sz:=hc.sz,df:=hc.df,tm:=hc.tm,inv := { hc.inv with box:=λm' bx hm => ?_,one:=λn1 n2 b1 b2 b o s1 o' s2 h1 h2 h3 h4 h5 => ?_ } }⟩
    · by_cases e:m'=n
      · subst e
        simp only [supd,if_true,so_]at hm
        subst hm
        obtain ⟨b,o,sz1,hmu,hst,hm⟩:=hc.inv.box m' _ h
        refine⟨b,o,sz1,hmu,?_,λ_=>hm rfl⟩
        have h':Stands G w (.vec sz xs) b o sz1:=hst
        have hal:(Box.vec sz xs).all=(Box.vec sz (xs.take m)).all++(Box.vec sz (xs.drop m)).all:=by
          simp only [Box.all]
          rw [<- List.flatten_append,<- List.map_append,List.take_append_drop]
        have hle:(Box.vec sz (xs.take m)).all.length<=(Box.vec sz xs).all.length:=by rw [hal,List.length_append];omega
        have:Stands G w (.vec sz (xs.take m)) b o sz1 :=
          { sz:=h'.sz,even:=λx hx=>h'.even x (List.mem_of_mem_take hx),room:=Nat.le_trans (Nat.add_le_add_left hle o) h'.room
            cell:=λj hj=>by
              obtain ⟨u,h1,h2,h3⟩:=h'.cell j (Nat.lt_of_lt_of_le hj hle)
              refine⟨u,h1,h2,?_⟩
              have e:(Box.vec sz xs).all[j]'(Nat.lt_of_lt_of_le hj hle)=(Box.vec sz (xs.take m)).all[j]:=by
                have e2:(Box.vec sz xs).all[j]? = (Box.vec sz (xs.take m)).all[j]? := by rw [hal,List.getElem?_append_left hj]
                rw [List.getElem?_eq_getElem (Nat.lt_of_lt_of_le hj hle),List.getElem?_eq_getElem hj,so_]at e2
                exact e2
              rw [<- e];exact h3
            free:=h'.free,froz:=λhm=>by simp [Box.mut]at hm }
        exact this
      · simp only [supd,if_neg e]at hm
        exact hc.inv.box m' bx hm
    · have old:∀m' bx,supd σ.store n (some (.vec sz (xs.take m))) m'=some bx->∃bx',σ.store m'=some bx'/\bx'.mut=bx.mut:=λm' bx hm=>by
        by_cases e:m'=n
        · subst e
          simp only [supd,if_true,so_]at hm
          subst hm
          exact⟨_,h,rfl⟩
        · simp only [supd,if_neg e]at hm
          exact⟨bx,hm,rfl⟩
      obtain ⟨c1,k1,m1⟩:=old _ _ h1
      obtain ⟨c2,k2,_⟩:=old _ _ h2
      exact hc.inv.one n1 n2 c1 c2 b o s1 o' s2 k1 k2 (m1.trans h3) h4 h5
  | coM σ n sz cs cs' h hl hcs =>
    intro G w a hc
    refine⟨G,{ sz:=hc.sz,df:=hc.df,tm:=hc.tm,inv := { hc.inv with box:=λm bx hm => ?_,one:=λn1 n2 b1 b2 b o s1 o' s2 h1 h2 h3 h4 h5 => ?_ } }⟩
    · by_cases e:m=n
      · subst e
        simp only [supd,if_true,so_]at hm
        subst hm
        obtain ⟨b,o,sz1,hmu,hst,hm⟩:=hc.inv.box m _ h
        refine⟨b,o,sz1,hmu,?_,λ_=>hm rfl⟩
        have h':Stands G w (.cells sz cs) b o sz1:=hst
        have:Stands G w (.cells sz cs') b o sz1 :=
          { sz:=h'.sz,even:=trivial,room:=by have:=h'.room;simp only [Box.all]at this ⊢;omega
            cell:=λj hj=>by
              have hj1:j<cs'.length:=hj
              have hj0:j<cs.length:=by omega
              obtain ⟨u,h1,h2,h3⟩:=h'.cell j hj0
              refine⟨u,h1,h2,?_⟩
              show RepV G w u cs'[j]
              rcases hcs j hj1 hj0 with e|e
              · rw [e];exact h3
              · rw [e];exact zU hc.inv h3
            free:=h'.free,froz:=λhm=>by simp [Box.mut]at hm,cel:=h'.cel }
        exact this
      · simp only [supd,if_neg e]at hm
        exact hc.inv.box m bx hm
    · have old:∀m bx,supd σ.store n (some (.cells sz cs')) m=some bx->∃bx',σ.store m=some bx'/\bx'.mut=bx.mut:=λm bx hm=>by
        by_cases e:m=n
        · subst e
          simp only [supd,if_true,so_]at hm
          subst hm
          exact⟨_,h,rfl⟩
        · simp only [supd,if_neg e]at hm
          exact⟨bx,hm,rfl⟩
      obtain ⟨c1,k1,m1⟩:=old _ _ h1
      obtain ⟨c2,k2,_⟩:=old _ _ h2
      exact hc.inv.one n1 n2 c1 c2 b o s1 o' s2 k1 k2 (m1.trans h3) h4 h5
  | pm σ n h =>
    intro G w a hc
    refine⟨G,{ sz:=hc.sz,df:=hc.df,tm:=hc.tm,inv := { hc.inv with box:=λm bx hm => ?_,one:=λn1 n2 b1 b2 b o s1 o' s2 h1 h2 h3 h4 h5 => ?_ } }⟩
    · by_cases e:m=n
      · subst e
        simp only [supd,if_true,so_]at hm
        subst hm
        obtain ⟨b,o,sz1,hmu,hst,hm⟩:=hc.inv.box m _ h
        refine⟨b,o,sz1,hmu,?_,λ_=>hm rfl⟩
        obtain ⟨k0,arr,clock,k1,k2,k3⟩:=hst
        exact⟨k0,arr,clock,k1,k2,λi h1 h2=>absurd h2 (Nat.not_lt_zero i)⟩
      · simp only [supd,if_neg e]at hm
        exact hc.inv.box m bx hm
    · have old:∀m bx,supd σ.store n (some (.pmap [])) m=some bx->∃bx',σ.store m=some bx'/\bx'.mut=bx.mut:=λm bx hm=>by
        by_cases e:m=n
        · subst e
          simp only [supd,if_true,so_]at hm
          subst hm
          exact⟨_,h,rfl⟩
        · simp only [supd,if_neg e]at hm
          exact⟨bx,hm,rfl⟩
      obtain ⟨c1,k1,m1⟩:=old _ _ h1
      obtain ⟨c2,k2,_⟩:=old _ _ h2
      exact hc.inv.one n1 n2 c1 c2 b o s1 o' s2 k1 k2 (m1.trans h3) h4 h5
  | wild σ i n sz k len xs h hi =>
    intro G w a hc
    have hv:=hc.tm i
    rw [hi]at hv
    obtain ⟨G',i',e,r⟩:=K4 hc.inv h hv
    have ht:∀j,RepV G' w (a.tmps.getD j undef) (upd σ.slots i (.d (.wild sz len)) j):=λj=>by
      simp only [upd]
      cases hj:Nat.beq j i with
      | true=>rw [Nat.eq_of_beq_eq_true hj];exact .d r
      | false=>exact (hc.tm j).ext e
    exact⟨G',{ sz:=hc.sz,df:=hc.df,tm:=ht,inv:=i' }⟩
  | nild σ i cs cs' hi hcs =>
    intro G w a hc
    have hv:=hc.tm i
    rw [hi]at hv
    have ht:∀j,RepV G w (a.tmps.getD j undef) (upd σ.slots i (mkAgg cs') j):=λj=>by
      simp only [upd]
      cases hj:Nat.beq j i with
      | true =>
        rw [Nat.eq_of_beq_eq_true hj]
        generalize a.tmps.getD i undef=v at hv
        cases hv with
        | agg arr _ hl hh =>
          obtain ⟨l1,l2⟩:=hcs.rep (G:=G) (w:=w)
          exact kV (by omega) (λk h1 h2=>(l2 k (by omega) h2 _).1 (hh k h1 (by omega)))
      | false=>exact hc.tm j
    exact⟨G,{ hc with tm:=ht }⟩
  | c2v σ n sz xs h he =>
    intro G w a hc
    refine⟨G,{ sz:=hc.sz,df:=hc.df,tm:=hc.tm,inv := { hc.inv with box:=λm bx hm => ?_,one:=λn1 n2 b1 b2 b o s1 o' s2 h1 h2 h3 h4 h5 => ?_ } }⟩
    · by_cases e:m=n
      · subst e
        simp only [supd,if_true,so_]at hm
        subst hm
        obtain ⟨b,o,sz1,hmu,hst,hm⟩:=hc.inv.box m _ h
        refine⟨b,o,sz1,hmu,?_,λ_=>hm rfl⟩
        have h':Stands G w (.cells sz (xs.flatten.map .d)) b o sz1:=hst
        have hal:(Box.vec sz xs).all=xs.flatten.map V.d:=by simp only [Box.all,List.map_flatten]
        have:Stands G w (.vec sz xs) b o sz1 :=
          { sz:=h'.sz,even:=he,room:=by rw [hal];exact h'.room
            cell:=λj hj=>by
              have hj0:j<(Box.cells sz (xs.flatten.map V.d)).all.length:=by rw [hal]at hj;exact hj
              obtain ⟨u,h1,h2,h3⟩:=h'.cell j hj0
              refine⟨u,h1,h2,?_⟩
              simp only [hal]
              exact h3
            free:=h'.free,froz:=λhm=>by simp [Box.mut]at hm }
        exact this
      · simp only [supd,if_neg e]at hm
        exact hc.inv.box m bx hm
    · have old:∀m bx,supd σ.store n (some (.vec sz xs)) m=some bx->∃bx',σ.store m=some bx'/\bx'.mut=bx.mut:=λm bx hm=>by
        by_cases e:m=n
        · subst e
          simp only [supd,if_true,so_]at hm
          subst hm
          exact⟨_,h,rfl⟩
        · simp only [supd,if_neg e]at hm
          exact⟨bx,hm,rfl⟩
      obtain ⟨c1,k1,m1⟩:=old _ _ h1
      obtain ⟨c2,k2,_⟩:=old _ _ h2
      exact hc.inv.one n1 n2 c1 c2 b o s1 o' s2 k1 k2 (m1.trans h3) h4 h5
  | v2c σ n sz xs cs h hs hs2 hnd =>
    intro G w a hc
    refine⟨G,{ sz:=hc.sz,df:=hc.df,tm:=hc.tm,inv := { hc.inv with box:=λm bx hm => ?_,one:=λn1 n2 b1 b2 b o s1 o' s2 h1 h2 h3 h4 h5 => ?_ } }⟩
    · by_cases e:m=n
      · subst e
        simp only [supd,if_true,so_]at hm
        subst hm
        obtain ⟨b,o,sz1,hmu,hst,hm⟩:=hc.inv.box m _ h
        refine⟨b,o,sz1,hmu,?_,λ_=>hm rfl⟩
        have h':Stands G w (.vec sz xs) b o sz1:=hst
        have hal:(Box.vec sz xs).all=xs.flatten.map V.d:=by simp only [Box.all,List.map_flatten]
        obtain ⟨l1,l2⟩:=hnd.rep (G:=G) (w:=w)
        have:Stands G w (.cells sz cs) b o sz1 :=
          { sz:=h'.sz,even:=trivial,room:=by have:=h'.room;rw [hal,<- l1]at this;exact this
            cell:=λj hj=>by
              have hj1:j<cs.length:=hj
              have hj0:j<(Box.vec sz xs).all.length:=by rw [hal,<- l1];exact hj1
              obtain ⟨u,h1,h2,h3⟩:=h'.cell j hj0
              refine⟨u,h1,h2,?_⟩
              simp only [hal]at h3
              exact (l2 j hj1 (by rw [<- l1];exact hj1) u).2 h3
            free:=h'.free,froz:=λhm=>by simp [Box.mut]at hm
            cel:=⟨λhq=>by omega,λhq=>by omega⟩ }
        exact this
      · simp only [supd,if_neg e]at hm
        exact hc.inv.box m bx hm
    · have old:∀m bx,supd σ.store n (some (.cells sz cs)) m=some bx->∃bx',σ.store m=some bx'/\bx'.mut=bx.mut:=λm bx hm=>by
        by_cases e:m=n
        · subst e
          simp only [supd,if_true,so_]at hm
          subst hm
          exact⟨_,h,rfl⟩
        · simp only [supd,if_neg e]at hm
          exact⟨bx,hm,rfl⟩
      obtain ⟨c1,k1,m1⟩:=old _ _ h1
      obtain ⟨c2,k2,_⟩:=old _ _ h2
      exact hc.inv.one n1 n2 c1 c2 b o s1 o' s2 k1 k2 (m1.trans h3) h4 h5
  | wild0 σ i sz hi =>
    intro G w a hc
    have hv:=hc.tm i
    have ht:∀j,RepV G w (a.tmps.getD j undef) (upd σ.slots i (.d (.wild sz 0)) j):=λj=>by
      simp only [upd]
      cases hj:Nat.beq j i with
      | true =>
        rw [Nat.eq_of_beq_eq_true hj]
        generalize a.tmps.getD i undef=v at hv
        rcases hi with hi|hi
        · rw [hi]at hv
          cases hv with
          | nil a=>exact .d (.wild0 a 0 sz)
        · rw [hi]at hv
          have hd:=hv.d_inv
          rcases hd.sl_len with⟨a,cap,⟨rfl,_⟩|⟨a',cap',rfl,_⟩⟩
          · exact .d (.wild0 _ _ sz)
          · exact .d (.wild0 _ _ sz)
      | false=>exact hc.tm j
    exact⟨G,{ hc with tm:=ht }⟩
  | trans _ _ h1 h2 =>
    intro G w a hc
    obtain ⟨G1,h3⟩:=h1 hc
    exact h2 h3
theorem rX {ops:Array Oper} {tk:Nat} {K:(Nat->V)->Store->Prop} {Q':Exit->Act->World->Prop} (hok:vU C ops.toList=true)
    (hQ:∀a w G sl S,K sl S->Reg C E G w a sl S tk (Jd ops.toList)->Q' .normal a w) :
    ∀(rest pre:List Oper) (sl:Nat->V) (S:Store) (a:Act) (w:World) (G:Gh),ops.toList=pre++rest->Ab C ops.toList tk K rest sl S->Reg C E G w a sl S tk (Jd pre) ->
      wpList C.P ops Q' rest a w
  | [],pre,sl,S,a,w,G,hp,h,hr=>by
    rw [List.append_nil]at hp
    exact hQ a w G sl S h (hp ▸ hr)
  | o::rest,pre,sl0,S0,a,w,G0,hp,h,hr=>by
    simp only [Ab]at h
    obtain ⟨sl,S,hg,h⟩:=h
    obtain ⟨G,hr⟩:=hg.okR hr
    dsimp only at hr
    have hidx:ops[pre.length]? = some o:=by rw [<- Array.getElem?_toList,hp];simp
    have hdo:=vF hok hidx
    have hwn:∀b,aJ ops.toList sl o=some b->Region.wanted o (yielded ops a.tmps)=b:=λb hb =>
      Di hr hb (λj o' d ho' hd'=>(lq (vF hok ho') hd').1)
    have hp':ops.toList=(pre++[o])++rest:=by rw [hp];simp
    unfold wpList
    split at h
    · rename_i hw
      rw [if_pos (hwn true hw)]
      left
      have hnext:∀(A:Eff) (u:Value) (w':World) (G':Gh),Ab C ops.toList tk K rest (dI sl o.dst A.val) (dn S A.upd)->Reg C E G' w' (a.put o.dst u) (dI sl o.dst A.val) (dn S A.upd) tk (λn=>Jd pre n\/o.dst=some (n % 100000))->wpList C.P ops Q' rest (a.put o.dst u) w' :=
        λA u w' G' hA hr'=>rX hok hQ rest (pre++[o]) _ _ _ w' G' hp' hA { hr' with inv:=hr'.inv.mono (λn hn=>by
          rcases hn with⟨o',h1,h2⟩|hn
          · exact⟨o',by simp [h1],h2⟩
          · exact⟨o,by simp,hn⟩) }
      have hUd:∀d,o.dst=some d->∀j,¬Jd pre (d+100000*j):=λd hd j hu=>by
        obtain ⟨o',ho',he⟩:=hu
        obtain ⟨i,hi,rfl⟩:=List.getElem_of_mem ho'
        have hlt:=(lq hdo hd).2
        have e:(d+100000*j) % 100000=d:=(Nat.add_mul_mod_self_left d 100000 j).trans (Nat.mod_eq_of_lt hlt)
        rw [e]at he
        simp only [vU,Bool.and_eq_true]at hok
        have:=pG hok.2 i pre.length pre[i] o d (by rw [hp,List.getElem?_append_left hi];simp) (by rw [hp];simp) he hd
        omega
      rcases h with h|h
      case inr=>exact nil_ok hr hdo hUd h hnext
      refine op_ok hr hdo hUd h (λA u w' G' hA hr'=>rX hok hQ rest (pre++[o]) _ _ _ w' G' hp' hA ?_)
      exact { hr' with inv:=hr'.inv.mono (λn hn=>by
          rcases hn with⟨o',h1,h2⟩|hn
          · exact⟨o',by simp [h1],h2⟩
          · exact⟨o,by simp,hn⟩) }
    · rename_i hw
      rw [if_neg (by rw [hwn false hw];simp)]
      refine rX hok hQ rest (pre++[o]) _ _ _ w G hp' h ?_
      have:=hr.put (Ext.refl G w) hr.inv hdo (RepV.none)
      exact { this with inv:=this.inv.mono (λn ⟨o',h1,h2⟩=>⟨o',by simp [h1],h2⟩) }
    · exact h.elim
def MW (ops:Array Oper) (listed:Array Bool) (n:Nat):Prop:=∃i o,ops[i]? = some o/\listed.getD i false=true/\o.dst=some (n % 100000)
theorem wW {ops:Array Oper} {tk:Nat} {K:(Nat->V)->Store->Prop} {Q':Exit->Act->World->Prop} (hok:vU C ops.toList=true)
    (hQ:∀a w G sl S U,K sl S->Reg C E G w a sl S tk U->Q' .normal a w) :
    ∀(fuel:Nat) (listed:Array Bool) (sl:Nat->V) (S:Store) (L:Log) (a:Act) (w:World) (G:Gh),KS C ops tk K fuel listed sl S L->listed.size=ops.size ->
      Reg C E G w a sl S tk (MW ops listed)->wpAny C.P .any ops Q' fuel listed a w
  | 0,listed,sl,S,L,a,w,G,h,_,hr=>⟨h.1,hQ a w G sl S _ h.2 hr⟩
  | fuel+1,listed,sl,S,L,a,w,G,h,hsz,hr=>by
    refine⟨λh0=>hQ a w G sl S _ (h.1 h0) hr,λi hi => ?_⟩
    have hq:=h.2 i hi
    obtain ⟨hun,o,ho,_⟩:=mem_ready.1 hi
    have hun':=Bl hun
    have hdo:=vF hok ho
    have hilt:i<listed.size:=by rw [hsz];exact (Array.getElem?_eq_some_iff.1 ho).1
    have hwn:∀b,aJ ops.toList sl o=some b->Region.wanted o (yielded ops a.tmps)=b:=λb hb =>
      Di hr hb (λj o' d ho' hd'=>(lq (vF hok ho') hd').1)
    have hmono:∀n,MW ops listed n->MW ops (listed.setIfInBounds i true) n:=λn ⟨k,o',h1,h2,h3⟩=>⟨k,o',h1,getD_set_true h2,h3⟩
    unfold qD at hq
    unfold wpOp
    simp only [ho]at hq ⊢
    split at hq
    · rename_i hw
      rw [if_pos (hwn true hw)]
      left
      refine op_ok hr hdo (λd hd j hu => ?_) hq (λA u w' G' hA hr'=>wW hok hQ fuel _ _ _ _ _ w' G' hA.2 (by simp [hsz]) ?_)
      · obtain ⟨k,o',h1,h2,h3⟩:=hu
        have hlt:=(lq hdo hd).2
        have e:(d+100000*j) % 100000=d:=(Nat.add_mul_mod_self_left d 100000 j).trans (Nat.mod_eq_of_lt hlt)
        rw [e]at h3
        simp only [vU,Bool.and_eq_true]at hok
        have:=pG hok.2 k i o' o d (by simpa using h1) (by simpa using ho) h3 hd
        subst this
        rw [hun']at h2;cases h2
      · exact { hr' with inv:=hr'.inv.mono (λn hn=>by
          rcases hn with hn|hn
          · exact hmono n hn
          · exact⟨i,o,ho,by simp [Array.getD_eq_getD_getElem?,hilt],hn⟩) }
    · rename_i hw
      rw [if_neg (by rw [hwn false hw];simp)]
      refine wW hok hQ fuel _ _ _ _ _ w G hq (by simp [hsz]) ?_
      have:=hr.put (Ext.refl G w) hr.inv hdo (RepV.none)
      exact { this with inv:=this.inv.mono hmono }
    · exact hq.elim
theorem si {ops:Array Oper} {tk:Nat} {K:(Nat->V)->Store->Prop}:∀(rest:List Oper) (k:Nat) (L:List (Nat×Eff)) (Lf:Log) (sl:Nat->V) (S:Store),
    (∀i,rest[i]? = ops[k+i]?)->k+rest.length=ops.size->(∀j B,Lf j=some B->(j,B)∈L)->opsL C ops.toList tk K rest k L sl S->LK C ops tk K rest.length k sl S Lf
  | [],k,L,Lf,sl,S,_,_,_,h=>h
  | o::rest,k,L,Lf,sl,S,hi,hk,hL,h=>by
    have h0:ops[k]? = some o:=by simpa using (hi 0).symm
    have hi':∀i,rest[i]? = ops[k+1+i]? := λi=>by
      have:=hi (i+1)
      simpa [Nat.add_assoc,Nat.add_comm 1 i]using this
    simp only [List.length_cons]at hk ⊢
    simp only [opsL]at h
    show qD C ops tk k (LK C ops tk K rest.length (k+1)) sl S Lf
    unfold qD
    simp only [h0]
    split at h
    · rename_i hw
      simp only [hw]
      refine qU (λA ⟨hc,h'⟩=>⟨λj B hj => ?_,si rest (k+1) ((k,A)::L) _ _ _ hi' (by omega) (λj B hj => ?_) h'⟩) h
      · have key:∀(L:List (Nat×Eff)),zN ops.toList k A L->(j,B)∈L->Dis A B\/xU ops.toList 8 j k=true:=by
          intro L
          induction L with
          | nil=>intro _ hm;cases hm
          | cons p L ih =>
            intro hc hm
            obtain ⟨j',B'⟩:=p
            rcases List.mem_cons.1 hm with hm|hm
            · simp only [Prod.mk.injEq]at hm
              obtain ⟨rfl,rfl⟩:=hm
              exact hc.1
            · exact ih hc.2 hm
        exact key L hc (hL j B hj)
      · unfold nZ at hj
        split at hj
        · rename_i hjk
          simp only [so_]at hj
          subst hj hjk
          simp
        · exact List.mem_cons_of_mem _ (hL j B hj)
    · rename_i hw
      simp only [hw]
      exact si rest (k+1) L Lf _ _ hi' (by omega) hL h
    · exact h.elim
theorem Reg.next {G:Gh} {w:World} {a:Act} {sl:Nat->V} {S:Store} {tk:Nat} {U:Nat->Prop} (h:Reg C E G w a sl S tk U):Reg C E G w a sl S (tk+1) (λ_=>False) :=
  { h with inv := { h.inv with tick:=λn x hx => .inl (by rcases h.inv.tick n x hx with h1 | ⟨h1,_⟩ <;> omega) } }
theorem Reg.drew {G:Gh} {w:World} {a:Act} {sl:Nat->V} {S:Store} {tk:Nat} {U:Nat->Prop} (h:Reg C E G w a sl S tk U):Reg C E G w.drew a sl S tk U :=
  { h with tm:=λi=>(h.tm i).ext h.inv.drew.2,inv:=h.inv.drew.1 }
theorem Cb {id:Nat} {ops:Array Oper} {draw:Bool} {σ:St} {K:St->Prop} {Q':Exit->Act->World->Prop} {G:Gh} {w:World} {a:Act} (hc:Cs C E G w a σ)
    (hQ:∀a w G σ',K σ'->Cs C E G w a σ'->Q' .normal a w) (h:JD C ops draw σ K):(Code.region id ops draw).wp C.P Q' a w:=by
  obtain ⟨hok,h⟩:=h
  cases draw with
  | false =>
    simp only [cond_false]at h
    refine wp_region_list (rX (E:=E) hok (λa w G sl S hk hr=>hQ a w G ⟨sl,S,σ.tick+1⟩ hk hr.next) ops.toList [] σ.slots σ.store a w G rfl h ?_)
    exact { hc with inv:=hc.inv.mono (λ_ hx=>hx.elim) }
  | true =>
    simp only [cond_true]at h
    obtain ⟨hm,hB,hl⟩:=h
    simp only [Region.lexB,Bool.and_eq_true]at hB
    refine wp_region_any hm ?_
    have h1:=si (ops:=ops) ops.toList 0 [] (λ_=>none) σ.slots σ.store (λi=>by simp) (by simp) (λj B hj=>by cases hj) hl
    have h2:=A9 (C:=C) (tk:=σ.tick) ops.toList.length 0 (Array.replicate ops.size false) σ.slots σ.store (λ_=>none) (by simp) (by simpa using hB.2)
      (λk ok _ hl'=>by
        exfalso
        rcases Nat.lt_or_ge k ops.size with h'|h'
        · simp [Array.getD_eq_getD_getElem?,h']at hl'
        · simp [Array.getD_eq_getD_getElem?,h']at hl') (λ_ _=>rfl) h1
    have h3:=wW (E:=E) (Q':=Q') hok (λa w G sl S U hk hr=>hQ a w G ⟨sl,S,σ.tick+1⟩ hk hr.next) _ _ _ _ _ a w.drew G h2 (by simp)
      (Reg.drew { hc with inv:=hc.inv.mono (λ_ hx=>hx.elim) })
    simpa using h3
theorem exists_least {p:Nat->Prop} (h:∃n,p n):∃n,p n/\∀m,p m->n<=m:=by
  obtain ⟨n,hn⟩:=h
  induction n using Nat.strongRecOn with
  | _ n ih =>
    by_cases hx:∃m,m<n/\p m
    · obtain ⟨m,h1,h2⟩:=hx
      exact ih m h1 h2
    · exact⟨n,hn,λm hm=>Nat.le_of_not_lt (λh1=>hx ⟨m,h1,hm⟩)⟩
open Classical in
noncomputable def leastOf (p:Nat->Prop):Nat:=if h:∃n,p n then (exists_least h).choose else 0
theorem leastOf_spec {p:Nat->Prop} (h:∃n,p n):p (leastOf p)/\∀m,p m->leastOf p<=m:=by
  unfold leastOf
  rw [dif_pos h]
  exact (exists_least h).choose_spec
def Fits (C:Cfg) (E:Env) (I:St->Prop) (m:St->Nat) (a:Act) (w:World) (n:Nat):Prop:=∃G σ,Cs C E G w a σ/\I σ/\m σ=n
theorem Gst.ok {σ σ':St} (h:Gst σ σ'):∀{G:Gh} {w:World} {a:Act},Cs C E G w a σ->∃G',Cs C E G' w a σ':=λhc=>Gst.okR h hc
theorem lX:∀(c:Code) (Q:Exit->St->Prop) (σ:St) (Q':Exit->Act->World->Prop) (a:Act) (w:World) (G:Gh),Cs C E G w a σ ->
    (∀e a w G σ',Q e σ'->Cs C E G w a σ'->Q' e a w)->wpD C c Q σ->c.wp C.P Q' a w
  | .skip,Q,σ,Q',a,w,G,hc,hQ,h=>wp_skip (hQ _ a w G σ h hc)
  | .ret,Q,σ,Q',a,w,G,hc,hQ,h=>wp_ret (hQ _ a w G σ h hc)
  | .exit id,Q,σ,Q',a,w,G,hc,hQ,h=>wp_exit (hQ _ a w G σ h hc)
  | .seq x y,Q,σ,Q',a,w,G,hc,hQ,h=>by
    refine wp_seq (lX x _ σ _ a w G hc (λe a w G σ' hq hc' => ?_) h)
    cases e with
    | normal =>
      obtain ⟨σ2,hg,hq⟩:=hq
      obtain ⟨G2,hc2⟩:=hg.ok hc'
      exact lX y Q σ2 Q' a w G2 hc2 hQ hq
    | exit id=>exact hQ _ a w G σ' hq hc'
    | goto l=>exact hQ _ a w G σ' hq hc'
    | ret=>exact hQ _ a w G σ' hq hc'
    | panic ch=>exact hQ _ a w G σ' hq hc'
    | outgrown=>exact hQ _ a w G σ' hq hc'
  | .cond c x y,Q,σ,Q',a,w,G,hc,hQ,h=>by
    obtain ⟨t,ht,h1,h2⟩:=h
    have hv:=Reg.ev hc c
    rw [ht]at hv
    have hv':=hv.d_inv.bool_inv
    cases t with
    | true =>
      obtain ⟨σ2,hg,hq⟩:=h1 rfl
      obtain ⟨G2,hc2⟩:=hg.ok hc
      exact wp_cond_true hv' (lX x Q σ2 Q' a w G2 hc2 hQ hq)
    | false =>
      obtain ⟨σ2,hg,hq⟩:=h2 rfl
      obtain ⟨G2,hc2⟩:=hg.ok hc
      exact wp_cond_false hv' (lX y Q σ2 Q' a w G2 hc2 hQ hq)
  | .block id x,Q,σ,Q',a,w,G,hc,hQ,h=>by
    refine wp_block (lX x _ σ _ a w G hc (λe a w G σ' hq hc' => ?_) h)
    cases e with
    | exit id' =>
      simp only [Er]at hq
      simp only [Exit.inBlock]
      cases hb:Nat.beq id' id with
      | true =>
        rw [hb]at hq
        rw [if_pos (Nat.eq_of_beq_eq_true hb)]
        exact hQ _ a w G σ' hq hc'
      | false =>
        rw [hb]at hq
        rw [if_neg (λe=>by rw [e,Nat.beq_refl]at hb;cases hb)]
        exact hQ _ a w G σ' hq hc'
    | normal=>exact hQ _ a w G σ' hq hc'
    | goto l=>exact hQ _ a w G σ' hq hc'
    | ret=>exact hQ _ a w G σ' hq hc'
    | panic ch=>exact hQ _ a w G σ' hq hc'
    | outgrown=>exact hQ _ a w G σ' hq hc'
  | .loop x,Q,σ,Q',a,w,G,hc,hQ,h=>by
    obtain ⟨I,m,⟨σ0,hg0,h0⟩,hround⟩:=h
    obtain ⟨G0,hc0⟩:=hg0.ok hc
    refine wp_loop (λa w=>∃n,Fits C E I m a w n) (λa w=>leastOf (Fits C E I m a w)) ⟨m σ0,G0,σ0,hc0,h0,rfl⟩ (λa w hI => ?_)
    obtain ⟨⟨G,σ,hc,hIσ,hm⟩,_⟩:=leastOf_spec hI
    refine lX x _ σ _ a w G hc (λe a' w' G' σ' hq hc' => ?_) (hround σ hIσ)
    cases e with
    | normal =>
      obtain ⟨σ3,hg3,h1,h2⟩:=hq
      obtain ⟨G3,hc3⟩:=hg3.ok hc'
      have hI':∃n,Fits C E I m a' w' n:=⟨m σ3,G3,σ3,hc3,h1,rfl⟩
      refine⟨hI',?_⟩
      have:=(leastOf_spec hI').2 (m σ3) ⟨G3,σ3,hc3,h1,rfl⟩
      omega
    | exit id=>exact hQ _ a' w' G' σ' hq hc'
    | goto l=>exact hQ _ a' w' G' σ' hq hc'
    | ret=>exact hQ _ a' w' G' σ' hq hc'
    | panic ch=>exact hQ _ a' w' G' σ' hq hc'
    | outgrown=>exact hQ _ a' w' G' σ' hq hc'
  | .region id ops draw,Q,σ,Q',a,w,G,hc,hQ,h=>Cb hc (λa w G σ' hk hc'=>hQ _ a w G σ' hk hc') h
  | .rangeFunc ..,_,_,_,_,_,_,_,_,h=>h.elim
  | .scope _,_,_,_,_,_,_,_,_,h=>h.elim
  | .label _,_,_,_,_,_,_,_,_,h=>h.elim
  | .goto _,_,_,_,_,_,_,_,_,h=>h.elim
  | .refuse _,_,_,_,_,_,_,_,_,h=>h.elim
end
end Go.Eng

/-
  THE ENGINE: a function's contract out of its body.
-/
namespace Go.Eng
set_option linter.unusedSectionVars false
variable [DM]
def zC (C:Cfg) (σ:St):List ResultVar->Option (List V)
 | []=>some []
 | .tmp t::rs=>(zC C σ rs).map (σ.slots t :: ·)
 | .cell a t::rs=>match pW C.P t σ.store (σ.slots a),zC C σ rs with
  | some A,some vs=>some (A.val::vs)
  | _,_=>none
def wF (vs:List V):V:=match vs with
 | [v]=>v
 | vs => .tup vs
def Jc (k:Nat) (r:V) (Sout:List (Option Box)) (vs:List V) (S:Store):Prop :=
 ∃(vs':List V) (ν:List Nm),vs.length=vs'.length/\(∀(i:Nat) (h1:i<vs.length) (h2:i<vs'.length),vs'[i]=vs[i]\/vs'[i]=co S vs[i])/\wF vs'=ren ν r/\ν.length=Sout.length/\ν.Nodup/\(∀i,i<k->ν[i]? = some (ak i)) /\
  ∀(i:Nat) (bx:Box),Sout[i]? = some (some bx)->∃n,ν[i]? = some n/\S n=some (bx.ren ν)
def MH (C:Cfg) (rs:List ResultVar) (fin:List V->Store->Prop):Exit->St->Prop
 | .normal,σ | .ret,σ=>∃vs,zC C σ rs=some vs/\fin vs σ.store
 | _,_=>False
def y7 (args:List V):Nat->V:=λi=>args.getD i .none
theorem zO {C:Cfg} {E:Env} {G:Gh} {w:World} {a:Act} {σ:St} (hc:Cs C E G w a σ):∀(rs:List ResultVar) (vs:List V),zC C σ rs=some vs ->
  ∃us:List Value,mR G w us vs/\(rs.mapM (fun | .tmp t=>pure (a.tmps.getD t undef) | .cell b t=>do loadVar t (<- asAddr (a.tmps.getD b undef)):ResultVar->Sem Value)).run C.P w = .ok us w
 | [],vs,h=>by
  simp only [zC,so_]at h
  subst h
  exact⟨[],⟨rfl,λi h1=>absurd h1 (Nat.not_lt_zero i)⟩,rfl⟩
 | .tmp t::rs,vs,h=>by
  simp only [zC,Option.map_eq_some_iff]at h
  obtain ⟨vs',h1,rfl⟩:=h
  obtain ⟨us,h2,h3⟩:=zO hc rs vs' h1
  refine⟨a.tmps.getD t undef::us,⟨by simp [h2.1],λi h4 h5 => ?_⟩,by simp only [List.mapM_cons,Sem.run_bind,Sem.run_pure,Result.andThen_ok,h3]⟩
  cases i with
  | zero=>exact hc.tm t
  | succ i=>exact h2.2 i _ _
 | .cell b t::rs,vs,h=>by
  simp only [zC]at h
  split at h
  ·rename_i A vs' hA h1
   simp only [so_]at h
   subst h
   obtain ⟨us,h2,h3⟩:=zO hc rs vs' h1
   obtain ⟨ad,u0,hu,h4,hr,_⟩:=DN hc.inv (hc.tm b) hA
   refine⟨u0::us,⟨by simp [h2.1],λi h4 h5 => ?_⟩,?_⟩
   ·cases i with
    | zero=>exact hr
    | succ i=>exact h2.2 i _ _
   ·have hadr:(asAddr (a.tmps.getD b undef)).run C.P w = .ok ad w:=by rw [hu];rfl
    simp only [List.mapM_cons,Sem.run_bind,hadr,Sem.run_pure,Result.andThen_ok,h4,h3]
  ·cases h
theorem FnM.of_wpD' {P:Program} {f:FuncId} {fn:Func} {body:Code} {C:Cfg} (hf:P.funcs[f]? = some fn) (hb:fn.body=some body) (hP:C.P=P) (hn:C.n=fn.ntmps)
  {args:List V} {Sin:List Box} {r:V} {Sout:List (Option Box)} (hl:args.length<=fn.ntmps)
  (h:∃σ',Gst ⟨y7 args,bG Sin,1⟩ σ'/\wpD C body (MH C fn.results.toList (Jc Sin.length r Sout)) σ'):FnM P f args Sin r Sout:=by
 subst hP
 intro G w vargs hinv hargs
 refine calls_of_wp hf hb ?_
 have hc:Cs C ⟨G,w,uH G Sin⟩ G w { tmps:=vargs.toArray++Array.replicate (fn.ntmps-vargs.toArray.size) undef,defers:=[] } ⟨y7 args,bG Sin,1⟩:=by
  refine⟨?_,rfl,λi => ?_,hinv⟩
  ·have:=hargs.1
   simp;omega
  ·have hl:=hargs.1
   show RepV G w _ (args.getD i .none)
   by_cases hi:i<args.length
   ·have h1:=hargs.2 i (by omega) hi
    simp only [Array.getD_eq_getD_getElem?,List.getD_eq_getElem?_getD]
    rw [List.getElem?_eq_getElem hi,Array.getElem?_append_left (by simp;omega)]
    simp [show i<vargs.length by omega]
    exact h1
   ·have e2:args.getD i .none = .none:=by simp [List.getD_eq_getElem?_getD,List.getElem?_eq_none (Nat.le_of_not_lt hi)]
    have e1:(vargs.toArray++Array.replicate (fn.ntmps-vargs.toArray.size) undef).getD i undef=undef:=by
     simp only [Array.getD_eq_getD_getElem?]
     rw [Array.getElem?_append_right (by simp;omega)]
     simp only [Array.getElem?_replicate]
     split <;> rfl
    rw [e1,e2]
    exact .none
 obtain ⟨σ0,hg0,h⟩:=h
 obtain ⟨G0,hc0⟩:=hg0.ok hc
 refine lX body _ _ _ _ _ _ hc0 (λe a w' G' σ' hq hc' => ?_) h
 have fin:MH C fn.results.toList (Jc Sin.length r Sout) .ret σ'->a.defers=[]/\∃v,(results fn a.tmps).run C.P w' = .ok v w'/\∃v' G' S' tk' U' ν,Ending.returned v = .returned v'/\Inv ⟨G,w,uH G Sin⟩ G' w' S' tk' U'/\RepV G' w' v' (ren ν r) /\
   ν.length=Sout.length/\ν.Nodup/\(∀i,i<Sin.length->ν[i]? = some (ak i))/\∀(i:Nat) (bx:Box),Sout[i]? = some (some bx)->∃n,ν[i]? = some n/\S' n=some (bx.ren ν):=by
  rintro ⟨vs0,h1,vs,ν,f0,f01,f1,f2,f3,f4,f5⟩
  obtain ⟨us,u10,u2⟩:=zO hc' _ vs0 h1
  have u1:mR G' w' us vs:=⟨u10.1.trans f0,λi q1 q2=>by
   rcases f01 i (by omega) q2 with e|e
   ·rw [e];exact u10.2 i q1 _
   ·rw [e];exact DY hc'.inv (u10.2 i q1 _)⟩
  have hres:∃v,(results fn a.tmps).run C.P w' = .ok v w'/\RepV G' w' v (wF vs):=by
   have hm:(fn.results.mapM (fun | .tmp t=>pure (a.tmps.getD t undef) | .cell b t=>do loadVar t (<- asAddr (a.tmps.getD b undef)):ResultVar->Sem Value)).run C.P w' = .ok us.toArray w':=by
    rw [Array.mapM_eq_mapM_toList]
    simp only [Sem.run_map,u2,Result.andThen_ok]
   have hrun:(results fn a.tmps).run C.P w' = .ok (if h:us.toArray.size=1 then us.toArray[0]else .tuple us.toArray) w':=by
    unfold results
    simp only [Sem.run_bind,Sem.run_pure]
    exact (congrArg (λx=>Result.andThen x (λ(a:Array Value) w'=>Result.ok (if h:a.size=1 then a[0]else Value.tuple a) w')) hm).trans rfl
   refine⟨_,hrun,?_⟩
   have hl1:=u1.1
   clear f1 f01 f0 u2 hm hrun
   match vs,us,u1,hl1 with
   | [v],[u],u1,_=>exact u1.2 0 (by simp) (by simp)
   | [],[],u1,_=>exact .tup [] [] u1.1 u1.2
   | v1::v2::vs,x1::x2::us,u1,_ =>
    rw [dif_neg (by simp)]
    exact .tup _ _ u1.1 u1.2
  obtain ⟨v,hv,rv⟩:=hres
  refine⟨hc'.df,v,hv,v,G',_,_,_,ν,rfl,hc'.inv,?_,f2,f3,f4,f5⟩
  rw [<- f1]
  exact rv
 cases e with
 | normal=>exact fin hq
 | ret=>exact fin hq
 | exit id=>exact hq.elim
 | goto l=>exact hq.elim
 | panic ch=>exact hq.elim
 | outgrown=>exact hq.elim
end Go.Eng

/-
  THE ENGINE: a body over a list of the boxes that are known ('wH'), ticks hidden; the rules for control, regions and loops.
-/
namespace Go.Eng
set_option linter.unusedSectionVars false
variable [DM]
set_option linter.unusedVariables false
abbrev Hp:=List (Nm×Option Box)
structure Ag (H:Hp) (S:Store) (t:Nat):Prop where
 pos:0<t
 nd:(H.map (·.1)).Nodup
 at_:∀p∈H,p.1.2<t/\∀b,p.2=some b->S p.1=some b
structure AgR (H:Hp) (S:Store) (t:Nat) (rest:List Oper):Prop where
 pos:0<t
 nd:(H.map (·.1)).Nodup
 at_:∀p∈H,(p.1.2<t\/p.1.2=t/\∀o∈rest,o.dst≠some (p.1.1 % 100000))/\∀b,p.2=some b->S p.1=some b
def nV (C:Cfg) (rest:List Oper):Prop:=jk rest=true/\∀o∈rest,uE C o=true
abbrev QH:=Exit->(Nat->V)->Hp->Prop
def endR (tk:Nat) (K:(Nat->V)->Hp->Prop) (sl:Nat->V) (S:Store):Prop:=∃H',AgR H' S tk []/\K sl H'
abbrev Fp:=Nat×List Nm×Bool
def LogOK (Γ:List Fp) (L:List (Nat×Eff)):Prop:=∀p∈L,(p.2.upd=[]/\p.2.req=[])\/∃e∈Γ,e.1=p.1/\(∀x∈p.2.req,x.1∈e.2.1)/\(∀x∈p.2.upd,x.1∈e.2.1)/\(e.2.2=false->p.2.upd=[])
def Lp (all:List Oper) (k:Nat) (T:List Nm) (w:Bool):List Fp->Prop
 | []=>True
 | e::Γ=>((w=false/\e.2.2=false)\/(∀n∈T,n∉e.2.1)\/xU all 8 e.1 k=true)/\Lp all k T w Γ
abbrev Qm:=Option (List Fp)
def okQ (q:Qm) (all:List Oper) (k:Nat) (T:List Nm) (w:Bool):Prop:=match q with
 | none=>True
 | some Γ=>Lp all k T w Γ
theorem il {b:Prop}:(none:Qm)=none\/b := .inl rfl
theorem ft {R:Store->Nat->Prop} {all:List Oper} {k:Nat} {T:List Nm} {w:Bool}:∀S tk,R S tk->okQ none all k T w:=λ_ _ _=>trivial
def lK (q:Qm) (k:Nat) (T:List Nm) (w:Bool):Qm:=q.map (λΓ=>Γ++[(k,T,w)])
def Em (tk:Nat) (rest:List Oper) (m:Nm):Prop:=m.2<tk\/m.2=tk/\∀o∈rest,o.dst≠some (m.1 % 100000)
theorem Em.tail {tk:Nat} {o:Oper} {rest:List Oper} {m:Nm} (h:Em tk (o::rest) m):Em tk rest m:=h.imp id (λh=>⟨h.1,λo' ho=>h.2 o' (List.mem_cons_of_mem _ ho)⟩)
def MR (tk:Nat) (rest:List Oper) (Γ:List Fp):Prop:=∀e∈Γ,∀m∈e.2.1,Em tk rest m
theorem MR.tail {tk:Nat} {o:Oper} {rest:List Oper} {Γ:List Fp} (h:MR tk (o::rest) Γ):MR tk rest Γ:=λe he m hm=>(h e he m hm).tail
def oldQ (q:Qm) (tk:Nat) (rest:List Oper):Prop:=match q with
 | none=>True
 | some Γ=>MR tk rest Γ
def aV (q:Qm) (C:Cfg) (all:List Oper) (K:(Nat->V)->Hp->Prop) (rest:List Oper) (sl:Nat->V) (H:Hp):Prop :=
 ∀S tk,nV C rest->AgR H S tk rest ->
  match q with
  | none=>Ab C all tk (endR tk K) rest sl S
  | some Γ=>∀k L,all.length=k+rest.length->LogOK Γ L->MR tk rest Γ->opsL C all tk (endR tk K) rest k L sl S
def Gs (Q:QH):Exit->St->Prop:=λe σ=>∃H',Ag H' σ.store σ.tick/\Q e σ.slots H'
def lV (C:Cfg):Code->Bool
 | .seq a b=>lV C a&&lV C b
 | .cond _ x y=>lV C x&&lV C y
 | .block _ c=>lV C c
 | .loop c=>lV C c
 | .region _ ops draw=>vU C ops.toList&&(!draw||(C.P.follows .mixedOrders&&Region.lexB .any ops))
 | _=>true
def wH (C:Cfg) (c:Code) (Q:QH) (sl:Nat->V) (H:Hp):Prop :=
 lV C c=true->∀S t,Ag H S t->∃σ',Gst ⟨sl,S,t⟩ σ'/\wpD C c (Gs Q) σ'
theorem KG {C:Cfg} {o:Oper} {sl:Nat->V} {S:Store} {tk:Nat} {K K':Eff->Prop} (h:∀A,K A->K' A) (hk:KM C o sl S tk K):KM C o sl S tk K':=by
 unfold KM at *
 split at hk
 ·obtain ⟨xs,e,h1,h2,h3⟩:=hk
  exact⟨xs,e,h1,h2,λb hb=>h _ (h3 b hb)⟩
 ·obtain ⟨d,n,bx,es,h1,h2,h3,h4,h5,h6⟩:=hk
  exact⟨d,n,bx,es,h1,h2,h3,h4,h5,h _ h6⟩
 ·obtain ⟨n,cur,left,h1,h2,h3,h4⟩:=hk
  exact⟨n,cur,left,h1,h2,λe=>h _ (h3 e),λi e he=>h _ (h4 i e he)⟩
 ·obtain ⟨n,e,left,h1,h2,h3⟩:=hk
  exact⟨n,e,left,h1,h2,h _ h3⟩
 ·exact hk
theorem qJ {C:Cfg} {all:List Oper} {tk:Nat} {K K':(Nat->V)->Store->Prop} (hk:∀sl S,K sl S->K' sl S):∀(l:List Oper) (sl:Nat->V) (S:Store),Ab C all tk K l sl S->Ab C all tk K' l sl S
 | [],_,_,h=>hk _ _ h
 | o::rest,sl,S,h=>by
  simp only [Ab]at h ⊢
  obtain ⟨sl',S',hg,h⟩:=h
  refine⟨sl',S',hg,?_⟩
  split
  ·rename_i hw;simp only [hw]at h;exact h.imp (qU (λA hA=>qJ hk rest _ _ hA)) (KG (λA hA=>qJ hk rest _ _ hA))
  ·rename_i hw;simp only [hw]at h;exact qJ hk rest _ _ h
  ·rename_i hw;simp only [hw]at h
theorem uW {C:Cfg} {all:List Oper} {tk:Nat} {K K':(Nat->V)->Store->Prop} (hk:∀sl S,K sl S->K' sl S):∀(l:List Oper) (k:Nat) (L:List (Nat×Eff)) (sl:Nat->V) (S:Store),opsL C all tk K l k L sl S->opsL C all tk K' l k L sl S
 | [],_,_,_,_,h=>hk _ _ h
 | o::rest,k,L,sl,S,h=>by
  simp only [opsL]at h ⊢
  split
  ·rename_i hw;simp only [hw]at h;exact qU (λA hA=>⟨hA.1,uW hk rest _ _ _ _ hA.2⟩) h
  ·rename_i hw;simp only [hw]at h;exact uW hk rest _ _ _ _ h
  ·rename_i hw;simp only [hw]at h
theorem ja {C:Cfg}:∀(c:Code) {Q Q':Exit->St->Prop} {σ:St},(∀e σ,Q e σ->Q' e σ)->wpD C c Q σ->wpD C c Q' σ
 | .skip,_,_,_,hq,h=>hq _ _ h
 | .ret,_,_,_,hq,h=>hq _ _ h
 | .exit _,_,_,_,hq,h=>hq _ _ h
 | .seq x y,Q,Q',σ,hq,h=>ja x (λe σ h=>by
   cases e with
   | normal=>obtain ⟨σ',hg,h⟩:=h;exact⟨σ',hg,ja y hq h⟩
   | _=>exact hq _ _ h) h
 | .cond c x y,Q,Q',σ,hq,h=>by
  obtain ⟨t,ht,h1,h2⟩:=h
  exact⟨t,ht,λe=>(h1 e).imp λ_ h=>⟨h.1,ja x hq h.2⟩,λe=>(h2 e).imp λ_ h=>⟨h.1,ja y hq h.2⟩⟩
 | .block id x,Q,Q',σ,hq,h=>ja x (λe σ h=>by
   cases e with
   | exit id' =>
    simp only [Er]at h ⊢
    cases hb:Nat.beq id' id with
    | true=>rw [hb]at h;exact hq _ _ h
    | false=>rw [hb]at h;exact hq _ _ h
   | _=>exact hq _ _ h) h
 | .loop x,Q,Q',σ,hq,h=>by
  obtain ⟨I,m,h0,hr⟩:=h
  exact⟨I,m,h0,λσ' hI=>ja x (λe σ h=>by
   cases e with
   | normal=>exact h
   | _=>exact hq _ _ h) (hr σ' hI)⟩
 | .region id ops draw,Q,Q',σ,hq,h=>by
  obtain ⟨h1,h2⟩:=h
  refine⟨h1,?_⟩
  cases draw with
  | true=>exact⟨h2.1,h2.2.1,uW (λ_ _=>hq _ _) _ _ _ _ _ h2.2.2⟩
  | false=>exact qJ (λ_ _=>hq _ _) _ _ _ h2
 | .rangeFunc ..,_,_,_,_,h=>h.elim
 | .scope _,_,_,_,_,h=>h.elim
 | .label _,_,_,_,_,h=>h.elim
 | .goto _,_,_,_,_,h=>h.elim
 | .refuse _,_,_,_,_,h=>h.elim
section
variable {C:Cfg} {Q:QH} {sl:Nat->V} {H:Hp}
def Cf (K:(Nat->V)->Hp->Prop) (Q:QH):QH
 | .normal,sl,H=>K sl H
 | e,sl,H=>Q e sl H
def J4 (id:Nat) (Q:QH):QH
 | .exit id',sl,H=>bif Nat.beq id' id then Q .normal sl H else Q (.exit id') sl H
 | e,sl,H=>Q e sl H
theorem D8 {c:Code} {Q Q':QH} (h:∀e sl H,Q e sl H->Q' e sl H) (hw:wH C c Q sl H):wH C c Q' sl H:=λok S t ag=>by
 obtain ⟨σ,hg,hw⟩:=hw ok S t ag
 exact⟨σ,hg,ja c (λe σ ⟨H',h1,h2⟩=>⟨H',h1,h _ _ _ h2⟩) hw⟩
theorem aA (h:Q .normal sl H):wH C .skip Q sl H:=λ_ S t ag=>⟨_,.refl _,H,ag,h⟩
theorem ax (h:Q .ret sl H):wH C .ret Q sl H:=λ_ S t ag=>⟨_,.refl _,H,ag,h⟩
theorem bO {id:Nat} (h:Q (.exit id) sl H):wH C (.exit id) Q sl H:=λ_ S t ag=>⟨_,.refl _,H,ag,h⟩
theorem au {a b:Code} (h:wH C a (Cf (wH C b Q) Q) sl H):wH C (.seq a b) Q sl H:=λok S t ag=>by
 simp only [lV,Bool.and_eq_true]at ok
 obtain ⟨σ,hg,h⟩:=h ok.1 S t ag
 refine⟨σ,hg,ja a (λe σ h => ?_) h⟩
 obtain ⟨H',h1,h2⟩:=h
 cases e with
 | normal =>
  obtain ⟨σ2,h3,h4⟩:=h2 ok.2 σ.store σ.tick h1
  exact⟨σ2,h3,h4⟩
 | _=>exact⟨H',h1,h2⟩
theorem aR {id:Nat} {c:Code} (h:wH C c (J4 id Q) sl H):wH C (.block id c) Q sl H:=λok S t ag=>by
 obtain ⟨σ,hg,h⟩:=h ok S t ag
 refine⟨σ,hg,ja c (λe σ h => ?_) h⟩
 obtain ⟨H',h1,h2⟩:=h
 cases e with
 | exit id' =>
  simp only [Er,J4]at *
  cases hb:Nat.beq id' id with
  | true=>rw [hb]at h2;exact⟨H',h1,h2⟩
  | false=>rw [hb]at h2;exact⟨H',h1,h2⟩
 | _=>exact⟨H',h1,h2⟩
theorem wH_if {c:Operand} {x y:Code} {b:Bool} (hv:ev sl c = .d (.bool b)) (h1:b=true->wH C x Q sl H) (h2:b=false->wH C y Q sl H):wH C (.cond c x y) Q sl H:=λok S t ag=>by
 simp only [lV,Bool.and_eq_true]at ok
 exact⟨_,.refl _,b,hv,λe=>h1 e ok.1 S t ag,λe=>h2 e ok.2 S t ag⟩
theorem aC {c:Operand} {x y:Code} {b:Bool} (hv:ev sl c = .d (.bool b)) (hb:b=true) (h:wH C x Q sl H):wH C (.cond c x y) Q sl H :=
 wH_if hv (λ_=>h) (λe=>by rw [hb]at e;cases e)
theorem aB {c:Operand} {x y:Code} {b:Bool} (hv:ev sl c = .d (.bool b)) (hb:b=false) (h:wH C y Q sl H):wH C (.cond c x y) Q sl H :=
 wH_if hv (λe=>by rw [hb]at e;cases e) (λ_=>h)
theorem oh {c:Code} {sl':Nat->V} {H':Hp} (h:wH C c Q sl' H') (hg:∀S t,Ag H S t->∃S',Gst ⟨sl,S,t⟩ ⟨sl',S',t⟩/\Ag H' S' t):wH C c Q sl H:=λok S t ag=>by
 obtain ⟨S',h1,h2⟩:=hg S t ag
 obtain ⟨σ,h3,h4⟩:=h ok S' t h2
 exact⟨σ,h1.trans h3,h4⟩
def pick (env:List (Nat×V)) (sl:Nat->V):List (Nat×V):=env.map λp=>(p.1,sl p.1)
theorem KW {c:Code} (env:List (Nat×V)) (he:pick env sl=env) (h:wH C c Q (envS env) H):wH C c Q sl H :=
 oh h λS t ag=>⟨S,by
  have:=Gst.forget ⟨sl,S,t⟩ (env.map (·.1))
  have e:((env.map (·.1)).map λk=>(k,sl k))=env:=by rw [List.map_map];exact he
  simp only [e]at this
  exact this,ag⟩
def pre (H0 H:Hp):Prop:=∃is:List Nat,is.Nodup/\is.map (λi=>H[i]?)=H0.map some
theorem aM {H0 H:Hp} (h:H.take H0.length=H0):pre H0 H:=by
 have hl:H0.length<=H.length:=by
  have:=congrArg List.length h
  rw [List.length_take]at this;omega
 refine⟨List.range H0.length,List.nodup_range,?_⟩
 refine List.ext_getElem (by simp) (λi h1 h2 => ?_)
 simp only [List.length_map]at h2
 simp only [List.getElem_map,List.getElem_range]
 have:H0[i]? = H[i]? := by
  conv=>lhs;rw [<- h]
  rw [List.getElem?_take,if_pos h2]
 rw [<- this,List.getElem?_eq_getElem h2]
theorem rM {H0 H:Hp} {is:List Nat} (h:is.map (λi=>H[i]?)=H0.map some):is.length=H0.length/\∀(i:Nat) (h1:i<is.length) (h2:i<H0.length),H[is[i]]? = some H0[i]:=by
 have hl:is.length=H0.length:=by simpa using congrArg List.length h
 refine⟨hl,λi h1 h2 => ?_⟩
 have:=congrArg (λl=>l[i]?) h
 simpa [List.getElem?_map,List.getElem?_eq_getElem h1,List.getElem?_eq_getElem h2]using this
theorem Ag.pre {S:Store} {t:Nat} {H0:Hp} (h:pre H0 H) (ag:Ag H S t):Ag H0 S t:=by
 obtain ⟨is,hn,he⟩:=h
 obtain ⟨hl,hg⟩:=rM he
 refine⟨ag.pos,?_,λp hp => ?_⟩
 ·refine List.pairwise_iff_getElem.2 (λa b ha hb hab e => ?_)
  simp only [List.length_map]at ha hb
  simp only [List.getElem_map]at e
  have ea:=List.getElem?_eq_some_iff.1 (hg a (by omega) ha)
  have eb:=List.getElem?_eq_some_iff.1 (hg b (by omega) hb)
  obtain ⟨la,ea⟩:=ea
  obtain ⟨lb,eb⟩:=eb
  have hij:is[a]≠is[b]:=λe=>by
   have:=(List.pairwise_iff_getElem.1 hn) a b (by omega) (by omega) hab
   exact this e
  have hnd:=ag.nd
  rcases Nat.lt_or_gt_of_ne hij with hlt|hlt
  ·have:=(List.pairwise_iff_getElem.1 hnd) is[a] is[b] (by simpa using la) (by simpa using lb) hlt
   simp only [List.getElem_map]at this
   rw [ea,eb]at this
   exact this e
  ·have:=(List.pairwise_iff_getElem.1 hnd) is[b] is[a] (by simpa using lb) (by simpa using la) hlt
   simp only [List.getElem_map]at this
   rw [ea,eb]at this
   exact this e.symm
 ·obtain ⟨i,hi,rfl⟩:=List.getElem_of_mem hp
  exact ag.at_ _ (List.mem_of_getElem? (hg i (by omega) hi))
def FM {β:Type} (env:β->List (Nat×V)) (Hs:β->Hp) (R:β->Prop):(Nat->V)->Hp->Prop:=λsl H=>∃x,R x/\Eng.pick (env x) sl=env x/\Eng.pre (Hs x) H
theorem wH_pre {c:Code} {H0:Hp} (h:Eng.pre H0 H) (hw:wH C c Q sl H0):wH C c Q sl H:=oh hw (λS t ag=>⟨S,.refl _,ag.pre h⟩)
theorem lG {c:Code} {β:Type} (env:β->List (Nat×V)) (Hs:β->Hp) (R:β->Prop) (h1:wH C c (Cf (FM env Hs R) Q) sl H) (h2:∀x,R x->∀sl' H',Eng.pick (env x) sl'=env x->Eng.pre (Hs x) H'->Q .normal sl' H'):wH C c Q sl H:=by
 refine D8 (λe sl H h => ?_) h1
 cases e with
 | normal =>
  obtain ⟨x,hR,he,hp⟩:=h
  exact h2 x hR _ _ he hp
 | _=>exact h
theorem aP {c:Code} {H0:Hp} (env:List (Nat×V)) (he:Eng.pick env sl=env) (hp:Eng.pre H0 H) (h:wH C c Q (envS env) H0):wH C c Q sl H:=wH_pre hp (KW env he h)
def loopE {β:Type} (env:β->List (Nat×V)) (Hs:β->Hp) (R:β->Prop) (m:β->Nat) (x:β) (sl:Nat->V) (H:Hp):Prop:=∃x',R x'/\m x'<m x/\pick (env x') sl=env x'/\pre (Hs x') H
def G7 {β:Type} (env:β->List (Nat×V)) (Hs:β->Hp) (R:β->Prop) (m:β->Nat) (x:β) (Q:QH):QH
 | .normal,sl,H=>loopE env Hs R m x sl H
 | e,sl,H=>Q e sl H
theorem Gy {env:List (Nat×V)} {S:Store} {t:Nat} (he:pick env sl=env):Gst ⟨sl,S,t⟩ ⟨envS env,S,t⟩:=by
 have:=Gst.forget ⟨sl,S,t⟩ (env.map (·.1))
 have e:((env.map (·.1)).map λk=>(k,sl k))=env:=by rw [List.map_map];exact he
 simp only [e]at this
 exact this
open Classical in
theorem zK {c:Code} {β:Type} (env:β->List (Nat×V)) (Hs:β->Hp) (R:β->Prop) (m:β->Nat) (x0:β) (hx:R x0) (he:pick (env x0) sl=env x0) (hH:pre (Hs x0) H)
  (h:∀x,R x->wH C c (G7 env Hs R m x Q) (envS (env x)) (Hs x)):wH C (.loop c) Q sl H:=by
 intro ok S t ag0
 have ag:=ag0.pre hH
 let I:St->Nat->Prop:=λσ n=>∃x,R x/\m x=n/\Ag (Hs x) σ.store σ.tick/\σ.slots=envS (env x)
 have key:∀σ n,I σ n->∃σ',Gst σ σ'/\wpD C c (seqQ (λσ''=>∃σ3,Gst σ'' σ3/\∃n',n'<n/\I σ3 n') (Gs Q)) σ':=by
  rintro ⟨sl',S',t'⟩ n ⟨x,hR,hm,ag',rfl⟩
  obtain ⟨σ',hg,hw⟩:=h x hR ok S' t' ag'
  refine⟨σ',hg,ja c (λe σ h => ?_) hw⟩
  obtain ⟨H',h1,h2⟩:=h
  cases e with
  | normal =>
   obtain ⟨x',hR',hlt,he',hp⟩:=h2
   exact⟨⟨envS (env x'),σ.store,σ.tick⟩,Gy he',m x',by omega,x',hR',rfl,h1.pre hp,rfl⟩
  | _=>exact⟨H',h1,h2⟩
 let J:St->Nat->Prop:=λσ' n=>wpD C c (seqQ (λσ''=>∃σ3,Gst σ'' σ3/\∃n',n'<n/\I σ3 n') (Gs Q)) σ'
 have hI0:I ⟨envS (env x0),S,t⟩ (m x0):=⟨x0,hx,rfl,ag,rfl⟩
 obtain ⟨σ0,hg0,hJ0⟩:=key _ _ hI0
 refine⟨⟨sl,S,t⟩,.refl _,?_⟩
 show wpD C (.loop c) (Gs Q) _
 refine⟨λσ=>∃n,J σ n,λσ=>leastOf (J σ),⟨σ0,(Gy he).trans hg0,_,hJ0⟩,λσ hJ => ?_⟩
 obtain ⟨h1,h2⟩:=leastOf_spec hJ
 refine ja c (λe σ'' hq => ?_) h1
 cases e with
 | normal =>
  obtain ⟨σ3,hg3,n',hlt,hI⟩:=hq
  obtain ⟨σ4,hg4,hJ4⟩:=key σ3 n' hI
  refine⟨σ4,hg3.trans hg4,⟨n',hJ4⟩,?_⟩
  have:=(leastOf_spec (p:=J σ4) ⟨n',hJ4⟩).2 n' hJ4
  exact Nat.lt_of_le_of_lt this hlt
 | _=>exact hq
theorem AgR.start {S:Store} {t:Nat} (h:Ag H S t) (ops:List Oper):AgR H S t ops:=⟨h.pos,h.nd,λp hp=>⟨.inl (h.at_ p hp).1,(h.at_ p hp).2⟩⟩
theorem AgR.fin {S:Store} {t:Nat} (h:AgR H S t []):Ag H S (t+1):=⟨Nat.succ_pos _,h.nd,λp hp=>⟨by rcases (h.at_ p hp).1 with h1 | ⟨h1,_⟩ <;> omega,(h.at_ p hp).2⟩⟩
theorem AgR.tail {S:Store} {t:Nat} {o:Oper} {rest:List Oper} (h:AgR H S t (o::rest)):AgR H S t rest:=⟨h.pos,h.nd,λp hp=>⟨by
 rcases (h.at_ p hp).1 with h1|⟨h1,h2⟩
 ·exact .inl h1
 ·exact .inr ⟨h1,λo ho=>h2 o (List.mem_cons_of_mem _ ho)⟩,(h.at_ p hp).2⟩⟩
theorem nV.tail {o:Oper} {rest:List Oper} (h:nV C (o::rest)):nV C rest:=⟨by
 have:=h.1;simp only [jk,Bool.and_eq_true]at this;exact this.2,λo ho=>h.2 o (List.mem_cons_of_mem _ ho)⟩
theorem av {id:Nat} {ops:List Oper} (h:aV none C ops (λsl H=>Q .normal sl H) ops sl H):wH C (.region id ops.toArray false) Q sl H:=λok S t ag=>by
 refine⟨_,.refl _,?_⟩
 simp only [lV,Bool.not_false,Bool.true_or,Bool.and_true]at ok
 have hok':=ok
 simp only [vU,Bool.and_eq_true]at hok'
 have h1:=h S t ⟨hok'.2,λo ho=>List.all_eq_true.1 hok'.1 o ho⟩ (AgR.start ag _)
 refine⟨ok,?_⟩
 exact qJ (λsl S ⟨H',h1,h2⟩=>⟨H',h1.fin,h2⟩) _ _ _ h1
theorem bQ {id:Nat} {ops:List Oper} (h:aV (some []) C ops (λsl H=>Q .normal sl H) ops sl H):wH C (.region id ops.toArray true) Q sl H:=λok S t ag=>by
 refine⟨_,.refl _,?_⟩
 simp only [lV,Bool.and_eq_true,Bool.not_true,Bool.false_or]at ok
 obtain ⟨hok,hm,hl⟩:=ok
 have hok':=hok
 simp only [vU,Bool.and_eq_true]at hok'
 have h1:=h S t ⟨hok'.2,λo ho=>List.all_eq_true.1 hok'.1 o ho⟩ (AgR.start ag _) 0 [] (by simp) (λp hp=>by cases hp) (λe he=>by cases he)
 refine⟨hok,hm,hl,?_⟩
 exact uW (λsl S ⟨H',h1,h2⟩=>⟨H',h1.fin,h2⟩) _ _ _ _ _ h1
variable {q:Qm} {all rest:List Oper} {K:(Nat->V)->Hp->Prop}
theorem ah (h:K sl H):aV q C all K [] sl H:=λS tk _ ag=>by
 cases q with
 | none=>exact⟨H,ag,h⟩
 | some Γ=>intro k L _ _ _;exact⟨H,ag,h⟩
theorem yN {all:List Oper} {k:Nat} {A:Eff} {T:List Nm} {w:Bool} {Γ:List Fp} (hT:(∀x∈A.req,x.1∈T)/\∀x∈A.upd,x.1∈T) (hw:w=false->A.upd=[]) (hf:Lp all k T w Γ):∀{L:List (Nat×Eff)},LogOK Γ L->zN all k A L
 | [],_=>trivial
 | (j,B)::L,h=>by
  refine⟨?_,yN hT hw hf (λp hp=>h p (by simp [hp]))⟩
  rcases h (j,B) (by simp)with⟨h1,h2⟩|⟨e,he,h1,h2,h3,h4⟩
  ·exact .inl (by unfold Dis;dsimp only at h1 h2;rw [h1,h2];simp)
  ·have key:∀{Γ:List Fp},Lp all k T w Γ->e∈Γ->(w=false/\e.2.2=false)\/(∀n∈T,n∉e.2.1)\/xU all 8 e.1 k=true:=by
    intro Γ
    induction Γ with
    | nil=>intro _ h;cases h
    | cons x Γ ih =>
     intro h1 h2
     rcases List.mem_cons.1 h2 with rfl|h2
     ·exact h1.1
     ·exact ih h1.2 h2
   rcases key hf he with⟨k1,k2⟩|k1|k1
   ·have hA:=hw k1
    have hB:=h4 k2
    exact .inl (by unfold Dis;dsimp only at hB;rw [hA,hB];simp)
   ·refine .inl ⟨λp hp=>⟨λx hx e' => ?_,λx hx e' => ?_⟩,λx hx p hp e' => ?_⟩
    ·exact k1 _ (hT.2 p hp) (e' ▸ h2 x hx)
    ·exact k1 _ (hT.2 p hp) (e' ▸ h3 x hx)
    ·exact k1 _ (hT.1 p hp) (e' ▸ h3 x hx)
   ·rw [h1]at k1;exact .inr k1
theorem mD {o:Oper} {v:V} (hw:aJ all sl o=some true) (hop:∀S tk (K':Eff->Prop),AgR H S tk (o::rest)->(∀A,A.upd=[]->A.req=[]->A.val=v->K' A)->opD C o sl S tk K')
  (h:aV q C all K rest (dI sl o.dst v) H):aV q C all K (o::rest) sl H:=λS tk ok ag=>by
 have h':=h S tk ok.tail ag.tail
 cases q with
 | none =>
  refine⟨sl,S,.refl _,?_⟩
  simp only [hw]
  exact .inl (hop S tk _ ag (λA hu hq hv=>by rw [hu,hv];exact h'))
 | some Γ =>
  intro k L hk hL hO
  simp only [opsL,hw]
  refine hop S tk _ ag (λA hu hq hv=>⟨?_,?_⟩)
  ·refine yN (T:=[]) (w:=false) (Γ:=Γ) ⟨by rw [hq];simp,by rw [hu];simp⟩ (λ_=>hu) ?_ hL
   clear h' hL h hO
   induction Γ with
   | nil=>trivial
   | cons e Γ ih=>exact⟨.inr (.inl (λn hn=>by cases hn)),ih⟩
  rw [hu,hv]
  exact h' (k+1) ((k,A)::L) (by simp only [List.length_cons]at hk;omega) (λp hp=>by
   rcases List.mem_cons.1 hp with hp|hp
   ·rw [hp];exact .inl ⟨hu,hq⟩
   ·exact hL p hp) hO.tail
theorem aX {o:Oper} (hw:aJ all sl o=some false) (h:aV q C all K rest (dI sl o.dst .none) H):aV q C all K (o::rest) sl H:=λS tk ok ag=>by
 have h':=h S tk ok.tail ag.tail
 cases q with
 | none =>
  refine⟨sl,S,.refl _,?_⟩
  simp only [hw]
  exact h'
 | some Γ =>
  intro k L hk hL hO
  simp only [opsL,hw]
  exact h' (k+1) L (by simp only [List.length_cons]at hk;omega) hL hO.tail
theorem F4 {o:Oper} (k:Nat) (w:Bool) (hk:q=none\/Nat.beq all.length (k+(rest.length+1))=true) (hw:aJ all sl o=some true)
  (hop:∀S tk (K':Eff->Prop),nV C (o::rest)->AgR H S tk (o::rest)->oldQ q tk (o::rest) ->
   (∀A H' T,okQ q all k T w->(∀m∈T,Em tk rest m)->((∀x∈A.req,x.1∈T)/\∀x∈A.upd,x.1∈T)->(w=false->A.upd=[])->AgR H' (dn S A.upd) tk rest->aV (lK q k T w) C all K rest (dI sl o.dst A.val) H'->K' A)->opD C o sl S tk K') :
  aV q C all K (o::rest) sl H:=λS tk ok ag=>by
 cases q with
 | none =>
  refine⟨sl,S,.refl _,?_⟩
  simp only [hw]
  exact .inl (hop S tk _ ok ag trivial (λA H' T _ _ _ _ ag' h=>h _ tk ok.tail ag'))
 | some Γ =>
  intro k' L hk' hL hO
  have hkk:k'=k:=by
   rcases hk with hk|hk
   ·cases hk
   ·have:=Nat.eq_of_beq_eq_true hk
    simp only [List.length_cons]at hk'
    omega
  subst hkk
  simp only [opsL,hw]
  refine hop S tk _ ok ag hO (λA H' T hf hold hT hwu ag' h=>⟨yN hT hwu hf hL,?_⟩)
  have h':=h _ tk ok.tail ag'
  exact h' (k'+1) ((k',A)::L) (by simp only [List.length_cons]at hk';omega) (λp hp=>by
   rcases List.mem_cons.1 hp with hp|hp
   ·rw [hp];exact .inr ⟨(k',T,w),by simp,rfl,hT.1,hT.2,hwu⟩
   ·rcases hL p hp with h1|⟨e,h1,h2⟩
    ·exact .inl h1
    ·exact .inr ⟨e,by simp [h1],h2⟩) (λe he m hm=>by
   rcases List.mem_append.1 he with he|he
   ·exact (hO e he m hm).tail
   ·rw [List.mem_singleton]at he;subst he;exact hold m hm)
theorem AgR.old {S:Store} {tk:Nat} {l:List Oper} (ag:AgR H S tk l) {m:Nm} (h:m∈H.map (·.1)):Em tk l m:=by
 obtain ⟨p,hp,rfl⟩:=List.mem_map.1 h
 exact (ag.at_ p hp).1
theorem nG {o:Oper} (k:Nat) (T:List Nm) (w:Bool) (hk:q=none\/Nat.beq all.length (k+(rest.length+1))=true) (hf:∀S tk,AgR H S tk (o::rest)->okQ q all k T w) (hTH:∀m∈T,m∈H.map (·.1)) (hw:aJ all sl o=some true)
  (hop:∀S tk (K':Eff->Prop),nV C (o::rest)->AgR H S tk (o::rest) ->
   (∀A H',((∀x∈A.req,x.1∈T)/\∀x∈A.upd,x.1∈T)->(w=false->A.upd=[])->AgR H' (dn S A.upd) tk rest->aV (lK q k T w) C all K rest (dI sl o.dst A.val) H'->K' A)->opD C o sl S tk K') :
  aV q C all K (o::rest) sl H :=
 F4 k w hk hw (λS tk K' ok ag _ hK=>hop S tk K' ok ag (λA H' h1 h2 h3 h4=>hK A H' T (hf S tk ag) (λm hm=>(ag.old (hTH m hm)).tail) h1 h2 h3 h4))
theorem vW {H:Hp} {k:Nat} {n:Nm} {b:Option Box} (h:H[k]? = some (n,b)):∀m ∈ [n],m∈H.map (·.1):=λm hm=>by
 rw [List.mem_singleton]at hm;subst hm
 exact List.mem_map.2 ⟨_,List.mem_of_getElem? h,rfl⟩
theorem zV {q:Qm} {all:List Oper} {k:Nat} {w:Bool}:okQ q all k [] w:=by
 cases q with
 | none=>trivial
 | some Γ =>
  show Lp all k [] w Γ
  induction Γ with
  | nil=>trivial
  | cons e Γ ih=>exact⟨.inr (.inl (λn hn=>by cases hn)),ih⟩
theorem zY {q:Qm} {all:List Oper} {k:Nat} {T T':List Nm} {w:Bool} (hs:∀m∈T',m∈T) (h:okQ q all k T w):okQ q all k T' w:=by
 cases q with
 | none=>trivial
 | some Γ =>
  simp only [okQ]at h ⊢
  induction Γ with
  | nil=>trivial
  | cons e Γ ih=>exact⟨h.1.imp id (λh=>h.imp (λh n hn=>h n (hs n hn)) id),ih h.2⟩
theorem okQ_add {q:Qm} {all rest:List Oper} {k tk:Nat} {T:List Nm} {n:Nm} (h:okQ q all k T true) (ho:oldQ q tk rest) (hn:¬Em tk rest n):okQ q all k (T++[n]) true:=by
 cases q with
 | none=>trivial
 | some Γ =>
  simp only [oldQ]at ho
  simp only [okQ]at h ⊢
  induction Γ with
  | nil=>trivial
  | cons e Γ ih =>
   refine⟨?_,ih h.2 (λe he=>ho e (by simp [he]))⟩
   rcases h.1 with⟨h1,_⟩|h1|h1
   ·cases h1
   ·refine .inr (.inl (λm hm he => ?_))
    rcases List.mem_append.1 hm with hm|hm
    ·exact h1 m hm he
    ·rw [List.mem_singleton]at hm;subst hm;exact hn (ho e (by simp) m he)
   ·exact .inr (.inr h1)
theorem Hg {o:Oper} (hw:aJ all sl o=some true)
  (hop:∀S tk (K':Eff->Prop),nV C (o::rest)->AgR H S tk (o::rest)->(∀A H',AgR H' (dn S A.upd) tk rest->aV none C all K rest (dI sl o.dst A.val) H'->K' A)->opD C o sl S tk K'):aV none C all K (o::rest) sl H:=λS tk ok ag=>by
 refine⟨sl,S,.refl _,?_⟩
 simp only [hw]
 exact .inl (hop S tk _ ok ag (λA H' ag' h=>h _ tk ok.tail ag'))
theorem K9 {n m:Nm} (h:n≠m):∀x ∈ [n],x ∉ [m]:=λx hx hm=>by
 rw [List.mem_singleton]at hx hm;exact h (hx.symm.trans hm)
theorem CJ {S:Store} {tk:Nat} {l:List Oper} (ag:AgR H S tk l) {i j:Nat} {n m:Nm} {b c:Option Box} (hi:H[i]? = some (n,b)) (hj:H[j]? = some (m,c)) (hij:i≠j):n≠m:=λe=>by
 have h1:=List.getElem?_eq_some_iff.1 hi
 have h2:=List.getElem?_eq_some_iff.1 hj
 exact hij (iC ag.nd i j (by simpa using h1.1) (by simpa using h2.1) (by simp [h1.2,h2.2,e]))
end
end Go.Eng

/-
  THE ENGINE: loads, stores and fields by the facts of a type; what a naming leaves alone.
-/
namespace Go.Eng
set_option linter.unusedSectionVars false
variable [DM]
set_option linter.unusedVariables false
def FP (agg:Bool) (size:Nat) (n:Nm) (i j:Nat):Option Box->Option Eff
 | some (.vec sz xs)=>match xs[i]? with
  | some cs=>(rdD agg size (cs.drop j)).map λv=>⟨[(n,.vec sz xs)],[],v⟩
  | none=>none
 | some (.froz sz xs)=>match xs[i]? with
  | some cs=>(rdD agg size (cs.drop j)).map λv=>⟨[(n,.froz sz xs)],[],v⟩
  | none=>none
 | some (.cells sz cs)=>(rdV agg size (cs.drop (i*sz+j))).map λv=>⟨[(n,.cells sz cs)],[],v⟩
 | _=>none
theorem yu {P:Program} {t:TypeId} {agg:Bool} {size:Nat} (h1:szT P t=some size) (h2:cO P t=agg) (S:Store) (n:Nm) (i j:Nat):pW P t S (.ref n i j)=FP agg size n i j (S n):=by
 simp only [pW,h1,h2,FP]
 cases S n with
 | none=>rfl
 | some b=>cases b <;> rfl
theorem Ia {P:Program} {t:TypeId} {agg:Bool} {size:Nat} (h1:szT P t=some size) (h2:cO P t=agg) (S:Store) (cs:List D):pW P t S (.d (.ptr cs))=(rdD agg size cs).bind eF:=by
 simp only [pW,h1,h2]
def Eu (size:Nat) (n:Nm) (i j:Nat) (x:V):Option Box->Option Eff
 | some (.cells sz cs) =>
  bif Nat.beq (aW x).length size&&Nat.ble (i*sz+j+size) cs.length&&(aW x).all iq&&Nat.blt sz 1048576 then
   some ⟨[(n,.cells sz cs)],[(n,some (.cells sz (splice cs (aW x) (i*sz+j))))],.none⟩
  else none
 | some (.vec sz xs)=>match xs[i]?,oF (aW x)with
  | some cs,some new =>
   bif Nat.beq new.length size&&Nat.ble (j+size) cs.length&&(aW x).all iq then
    some ⟨[(n,.vec sz xs)],[(n,some (.vec sz (xs.set i (splice cs new j))))],.none⟩
   else none
  | _,_=>none
 | _=>none
theorem AP {P:Program} {t:TypeId} {size:Nat} (h1:szT P t=some size) (S:Store) (n:Nm) (i j:Nat) (x:V):rT P t S (.ref n i j) x=Eu size n i j x (S n):=by
 simp only [rT,h1,Eu]
 cases S n with
 | none=>rfl
 | some b=>cases b <;> rfl
theorem Bi {P:Program} {t:TypeId} {f off s:Nat} (h:fC P t f=some (off,s+1)) (n:Nm) (i j:Nat):iI P t (.ref n i j) f=some ⟨[],[],.ref n i (j+off)⟩:=by
 unfold fC at h
 unfold iI
 cases hf:tY P t f with
 | none=>rw [hf]at h;cases h
 | some fd =>
  simp only [hf,Option.map_eq_some_iff]at h
  obtain ⟨s',h1,h2⟩:=h
  cases h2
  simp only [h1];rfl
theorem zH {P:Program} {t:TypeId} {f off s:Nat} (h:fC P t f=some (off,s+1)) (cs:List D):iI P t (.d (.ptr cs)) f=bif Nat.ble off cs.length then some ⟨[],[],.d (.ptr (cs.drop off))⟩else none:=by
 unfold fC at h
 unfold iI
 cases hf:tY P t f with
 | none=>rw [hf]at h;cases h
 | some fd =>
  simp only [hf,Option.map_eq_some_iff]at h
  obtain ⟨s',h1,h2⟩:=h
  cases h2
  simp only [h1];rfl
def KO (size:Nat) (x:V) (i:Int):Option Eff:=match x with
 | .d (.sl xs)=>match xs[i.toNat]? with
  | some cs=>bif Nat.beq cs.length size then eF (.d (.ptr cs))else none
  | none=>none
 | .vs n sz k len=>bif Nat.ble (i.toNat+1) len&&Nat.beq sz size then eF (.ref n (k+i.toNat) 0)else none
 | .d (.wild sz len)=>bif Nat.ble (i.toNat+1) len&&Nat.beq sz size then eF (.d (.wildp size))else none
 | _=>none
theorem vT {P:Program} {t:TypeId} {size:Nat} (h:(elemT P t).bind (szT P)=some size) (x:V) (k:IntKind) (i:Int):jD P t x (.d (.int k i))=bif decide (0<=i)then KO size x i else none:=by
 simp only [jD,h,KO]
 rfl
theorem idxB_sl {size:Nat} {xs:List (List D)} {i:Int} {cs:List D} (h:xs[i.toNat]? = some cs) (hl:cs.length=size):KO size (.d (.sl xs)) i=some ⟨[],[],.d (.ptr cs)⟩:=by
 subst hl
 simp only [KO,h,Nat.beq_refl,cond_true];rfl
theorem idxB_vs {size:Nat} {n:Nm} {k len:Nat} {i:Int} (h:i.toNat<len):KO size (.vs n size k len) i=some ⟨[],[],.ref n (k+i.toNat) 0⟩:=by
 simp only [KO,Nat.beq_refl,Bool.and_true,Nat.ble_eq_true_of_le h,cond_true];rfl
theorem jC (l:List Box) (i:Nat):bG l (ak i)=l[i]? := by simp only [bG,fU]
theorem o9 {ρ:List Nm} {v:V} (h:okV 0 v=true):ren ρ v=v :=
 wD ρ 0 (λn hn=>by obtain ⟨i,hi,_⟩:=oW hn;exact absurd hi (Nat.not_lt_zero i)) _ h
theorem Je {ρ:List Nm} {vs:List V} (h:okL 0 vs=true):renL ρ vs=vs :=
 sV ρ 0 (λn hn=>by obtain ⟨i,hi,_⟩:=oW hn;exact absurd hi (Nat.not_lt_zero i)) _ h
theorem vo {ρ:List Nm} {b:Box} (h:b.ok 0=true):b.ren ρ=b:=by
 cases b with
 | cells sz cs=>simp only [Box.ok]at h;simp only [Box.ren,Je h]
 | pmap es =>
  simp only [Box.ren,Box.pmap.injEq]
  exact (List.map_congr_left (λe he=>by rw [o9 (List.all_eq_true.1 h e he)];rfl)).trans (List.map_id _)
 | iter cur left =>
  simp only [Box.ok,Bool.and_eq_true]at h
  simp only [Box.ren,Box.iter.injEq]
  refine⟨?_,(List.map_congr_left (λe he=>by rw [o9 (List.all_eq_true.1 h.2 e he)];rfl)).trans (List.map_id _)⟩
  cases cur with
  | none=>rfl
  | some x=>simp only [Option.map_some,o9 (v:=x.2) (by simpa using h.1)]
 | _=>rfl
theorem AA {k k':Nat} (h:k<=k') {n:Nm} (hn:okN k n=true):okN k' n=true:=by
 unfold okN at *
 split
 ·rename_i i hi
  rw [hi]at hn
  have h1:Nat.blt i k=true:=hn
  simp only [Nat.blt_eq]at h1 ⊢
  omega
 ·rename_i hi;rw [hi]at hn;exact hn
mutual
theorem oV {k k':Nat} (h:k<=k'):∀(v:V),okV k v=true->okV k' v=true
 | .ref n i j,hv=>by simp only [okV]at *;exact AA h hv
 | .vs n sz a len,hv=>by simp only [okV]at *;exact AA h hv
 | .map n,hv=>by simp only [okV]at *;exact AA h hv
 | .fn f caps,hv=>by simp only [okV]at *;exact qW h caps hv
 | .agg cs,hv=>by simp only [okV]at *;exact qW h cs hv
 | .tup vs,hv=>by simp only [okV]at *;exact qW h vs hv
 | .d _,_=>rfl
 | .nil,_=>rfl
 | .nilm,_=>rfl
 | .nili,_=>rfl
 | .none,_=>rfl
 | .any,_=>rfl
theorem qW {k k':Nat} (h:k<=k'):∀(vs:List V),okL k vs=true->okL k' vs=true
 | [],_=>rfl
 | v::vs,hv=>by
  simp only [okL,Bool.and_eq_true]at *
  exact⟨oV h v hv.1,qW h vs hv.2⟩
end
theorem Box.ok_mono {k k':Nat} (h:k<=k') {b:Box} (hb:b.ok k=true):b.ok k'=true:=by
 cases b with
 | cells sz cs=>exact qW h cs hb
 | pmap es=>exact List.all_eq_true.2 (λe he=>oV h _ (List.all_eq_true.1 hb e he))
 | iter cur left =>
  simp only [Box.ok,Bool.and_eq_true]at hb ⊢
  refine⟨?_,List.all_eq_true.2 (λe he=>oV h _ (List.all_eq_true.1 hb.2 e he))⟩
  cases cur with
  | none=>rfl
  | some x=>exact oV h _ (by simpa using hb.1)
 | _=>rfl
theorem uJ (n:Nm) (l:List Nm):nR (n::l) (ak 0)=n:=by simp only [nR,fU];rfl
theorem sD (a n:Nm) (l:List Nm):nR (a::n::l) (ak 1)=n:=by simp only [nR,fU];rfl
theorem jR {i k:Nat} (h:i<k):okN k (ak i)=true:=by simp only [okN,fU];simpa [Nat.blt_eq]using h
end Go.Eng

/-
  THE ENGINE: the rules for single operations over a list of known boxes.
-/
namespace Go.Eng
set_option linter.unusedSectionVars false
variable [DM]
set_option linter.unusedVariables false
abbrev w64 (n:Int):Int:=IntKind.i64.wrap n
abbrev vI (n:Int):V := .d (.int .i64 n)
abbrev vB (b:Bool):V := .d (.bool b)
abbrev vS (s:ByteArray):V := .d (.str s)
abbrev dl {α:Type} (enc:α->List D) (xs:List α):D := .sl (xs.map enc)
abbrev vL {α:Type} (enc:α->List D) (xs:List α):V := .d (.sl (xs.map enc))
abbrev vV {α:Type} (n:Nm) (sz:Nat) (xs:List α):V := .vs n sz 0 xs.length
abbrev bV {α:Type} (sz:Nat) (enc:α->List D) (xs:List α):Box := .vec sz (xs.map enc)
abbrev bF {α:Type} (sz:Nat) (enc:α->List D) (xs:List α):Box := .froz sz (xs.map enc)
def gV {α:Type} (n:Nm) (sz:Nat):List α->V
 | [] => .nil
 | x::xs => .vs n sz 0 (x::xs).length
def gB {α:Type} (sz:Nat) (enc:α->List D):List α->Option Box
 | []=>none
 | x::xs=>some (.vec sz ((x::xs).map enc))
def gF {α:Type} (sz:Nat) (enc:α->List D):List α->Option Box
 | []=>none
 | x::xs=>some (.froz sz ((x::xs).map enc))
def eI (n:Int):List D:=[.int .i64 n]
def eS (s:ByteArray):List D:=[.str s]
def idx {α:Type} (xs:List α) (i:Int):Option α:=if 0<=i then xs[i.toNat]? else none
section
variable {C:Cfg} {sl:Nat->V} {H:Hp} {q:Qm} {all rest:List Oper} {K:(Nat->V)->Hp->Prop}
variable {dst:Option Tmp} {d:Nat} {t ty:TypeId} {pos:String} {after:Array Edge} {g:Option (Nat×Bool)}
theorem wt (h:g=none) {op:Op}:aJ all sl ⟨dst,op,ty,pos,after,g⟩=some true:=by subst h;rfl
theorem wz {op:Op}:aJ all sl ⟨dst,op,ty,pos,after,none⟩=some true:=rfl
theorem wg {j:Nat} {want b:Bool} {c:Bool} {dj:Nat} {op:Op} (h1:(all[j]?).bind (·.dst)=some dj) (h2:sl dj = .d (.bool b)) (h:(b==want)=c):aJ all sl ⟨dst,op,ty,pos,after,some (j,want)⟩=some c:=by
 subst h;simp only [aJ,h1,h2]
theorem wa {j:Nat} {want b:Bool} {c:Bool} {dj:Nat} {op:Op} (h1:(all[j]?).bind (·.dst)=some dj:=by rfl) (h2:sl dj = .d (.bool b):=by rfl) (h:(b==want)=c:=by rfl):aJ all sl ⟨dst,op,ty,pos,after,some (j,want)⟩=some c:=wg h1 h2 h
theorem wn {j:Nat} {want:Bool} {dj:Nat} {op:Op} (h1:(all[j]?).bind (·.dst)=some dj) (h2:sl dj = .none):aJ all sl ⟨dst,op,ty,pos,after,some (j,want)⟩=some false:=by
 simp only [aJ,h1,h2]
def BH (C:Cfg) (sl:Nat->V):Op->Option V
 | .move x | .assign x=>some (ev sl x)
 | .pick c a b=>Na (ev sl c) (ev sl a) (ev sl b)
 | .nilCheck x=>vg (ev sl x)
 | .binOp op t x y _=>y9 C.P op t x y (ev sl x) (ev sl y)
 | .unOp op _ x=>unF op (ev sl x)
 | .convert s t x=>yY C.P s t (ev sl x)
 | .makeFunc (.func f) first captured=>Kb f (first.toList.map (ev sl)) (captured.toList.map (ev sl))
 | .slice t x lo hi mx=>ou C.P t (ev sl x) (lo.map (ev sl)) (hi.map (ev sl)) (mx.map (ev sl))
 | .field t x f=>Ef C.P t (ev sl x) f
 | .index t x i=>yg C.P t (ev sl x) (ev sl i)
 | .extract x i=>w9 (ev sl x) i
 | .build t parts=>bif (parts.toList.map λp=>(p.1,ev sl p.2)).all (λp=>(aW p.2).all iq)then EN C.P t (parts.toList.map λp=>(p.1,ev sl p.2))else none
 | _=>none
theorem MQ {op:Op} {v:V} (h:BH C sl op=some v) (S:Store) (tk:Nat) (K':Eff->Prop) (hk:K' ⟨[],[],v⟩):opD C ⟨dst,op,ty,pos,after,g⟩ sl S tk K':=by
 have fin:(∀c,op ≠ .call c)->mh C ⟨dst,op,ty,pos,after,g⟩ sl S tk=(BH C sl op).bind eF->opD C ⟨dst,op,ty,pos,after,g⟩ sl S tk K':=by
  intro hc e
  have e':mh C ⟨dst,op,ty,pos,after,g⟩ sl S tk=some ⟨[],[],v⟩:=by rw [e,h];rfl
  unfold opD
  split
  ·rename_i c hop;exact absurd hop (hc c)
  ·rw [e'];exact hk
 have finO:(∀c,op ≠ .call c)->(∃b,mh C ⟨dst,op,ty,pos,after,g⟩ sl S tk=orE ((BH C sl op).bind eF) b)->opD C ⟨dst,op,ty,pos,after,g⟩ sl S tk K':=by
  intro hc ⟨b,e⟩
  have e':mh C ⟨dst,op,ty,pos,after,g⟩ sl S tk=some ⟨[],[],v⟩:=by rw [e,h];rfl
  unfold opD
  split
  ·rename_i c hop;exact absurd hop (hc c)
  ·rw [e'];exact hk
 cases op <;> first | (refine fin (λc e=>by cases e) ?_;rfl) | (cases h;done) | skip
 case convert s t x=>exact finO (λc e=>by cases e) ⟨yU C.P s t S (ev sl x),rfl⟩
 case slice t x lo hi mx=>exact finO (λc e=>by cases e) ⟨oN C.P t S (ev sl x) (lo.map (ev sl)) (hi.map (ev sl)) (mx.map (ev sl)),rfl⟩
 case build t parts =>
  refine fin (λc e=>by cases e) ?_
  simp only [BH]at h ⊢
  simp only [mh]
  cases hb:(parts.toList.map λp=>(p.1,ev sl p.2)).all (λp=>(aW p.2).all iq)with
  | true=>simp only [cond_true]
  | false=>simp only [hb,cond_false]at h;cases h
 case makeFunc fn first captured =>
  cases fn with
  | func f =>
   exact fin (λc e=>by cases e) rfl
  | _=>cases h
theorem aH {op:Op} (v:V) (hw:aJ all sl ⟨dst,op,ty,pos,after,g⟩=some true) (hv:BH C sl op=some v)
  (h:aV q C all K rest (dI sl dst v) H):aV q C all K (⟨dst,op,ty,pos,after,g⟩::rest) sl H :=
 mD hw (λS tk K' _ hk=>MQ hv S tk K' (hk _ rfl rfl rfl)) h
theorem ay {x:Operand} {c b:Bool} (hx:ev sl x = .d (.bool c)) (hc:c=b) (hw:aJ all sl ⟨dst,.move x,ty,pos,after,g⟩=some true)
  (h:aV q C all K rest (dI sl dst (vB b)) H):aV q C all K (⟨dst,.move x,ty,pos,after,g⟩::rest) sl H :=
 aH (vB b) hw (by show some (ev sl x)=_;rw [hx,hc]) h
end
end Go.Eng

/-
  THE ENGINE: the rules for operations over memory.
-/
namespace Go.Eng
set_option linter.unusedSectionVars false
variable [DM]
set_option linter.unusedVariables false
section
variable {C:Cfg} {sl:Nat->V} {H:Hp} {q:Qm} {all rest:List Oper} {K:(Nat->V)->Hp->Prop}
variable {dst:Option Tmp} {d:Nat} {t ty:TypeId} {pos:String} {after:Array Edge} {g:Option (Nat×Bool)}
theorem AgR.get {S:Store} {tk:Nat} {l:List Oper} (ag:AgR H S tk l) {i:Nat} {n:Nm} {b:Box} (h:H[i]? = some (n,some b)):S n=some b :=
  (ag.at_ _ (List.mem_of_getElem? h)).2 b rfl
theorem AgR.set {S:Store} {tk:Nat} {l:List Oper} (ag:AgR H S tk l) {i:Nat} {n:Nm} {b0 b:Option Box} {b':Option Box} (h:H[i]? = some (n,b0)) (hb:∀x,b=some x->b'=some x):AgR (H.set i (n,b)) (supd S n b') tk l:=by
  have hi:i<H.length:=by
    have:=List.getElem?_eq_some_iff.1 h
    exact this.1
  have he:H[i]=(n,b0):=by have:=List.getElem?_eq_some_iff.1 h;exact this.2
  have hm:(H.set i (n,b)).map (·.1)=H.map (·.1):=by
    apply List.ext_getElem
    · simp
    · intro j h1 h2
      simp only [List.length_map]at h2
      simp only [List.getElem_map,List.getElem_set]
      split
      · rename_i e;subst e;rw [he]
      · rfl
  refine⟨ag.pos,by rw [hm];exact ag.nd,λp hp => ?_⟩
  obtain ⟨j,hj,rfl⟩:=List.getElem_of_mem hp
  simp only [List.length_set]at hj
  simp only [List.getElem_set]
  split
  · rename_i e;subst e
    have:=ag.at_ (n,b0) (by rw [<- he];exact List.getElem_mem hi)
    exact⟨this.1,λx hx=>by simp only [supd,if_true];exact hb x hx⟩
  · rename_i e
    have h1:=ag.at_ H[j] (List.getElem_mem hj)
    refine⟨h1.1,λx hx => ?_⟩
    have hne:H[j].1≠n:=λhne=>by
      have:=ag.nd
      have h2:(H.map (·.1))[j]'(by simpa using hj)=(H.map (·.1))[i]'(by simpa using hi):=by simp [he,hne]
      exact e (iC ag.nd i j (by simpa using hi) (by simpa using hj) h2.symm)
    simp only [supd,if_neg hne]
    exact h1.2 x hx
theorem new_ne {S:Store} {tk:Nat} {o:Oper} (ok:nV C (o::rest)) (ag:AgR H S tk (o::rest)) (hd:o.dst=some d) (j:Nat):∀p∈H,p.1≠(d+100000*j,tk):=λp hp e=>by
  have hlt:=(lq (ok.2 o (by simp)) hd).2
  rcases (ag.at_ p hp).1 with h1|⟨_,h1⟩
  · rw [e]at h1;exact Nat.lt_irrefl _ h1
  · have:=h1 o (by simp)
    rw [e,hd]at this
    have e2:(d+100000*j) % 100000=d:=(Nat.add_mul_mod_self_left d 100000 j).trans (Nat.mod_eq_of_lt hlt)
    simp only [e2]at this
    exact this rfl
theorem AgR.new {S:Store} {tk:Nat} {o:Oper} (ok:nV C (o::rest)) (ag:AgR H S tk (o::rest)) (hd:o.dst=some d) (b:Box):AgR (H++[((d,tk),some b)]) (supd S (d,tk) (some b)) tk rest:=by
  have hne:=new_ne ok ag hd 0
  simp only [Nat.mul_zero,Nat.add_zero]at hne
  have hlt:=(lq (ok.2 o (by simp)) hd).2
  refine⟨ag.pos,?_,λp hp => ?_⟩
  · rw [List.map_append,List.nodup_append]
    refine⟨ag.nd,by simp,λa ha b hb => ?_⟩
    simp only [List.map_cons,List.map_nil,List.mem_singleton]at hb
    obtain ⟨p,hp,rfl⟩:=List.mem_map.1 ha
    rw [hb]
    exact hne p hp
  · rcases List.mem_append.1 hp with hp | hp
    · have:=ag.tail.at_ p hp
      exact⟨this.1,λx hx=>by simp only [supd,if_neg (hne p hp)];exact this.2 x hx⟩
    · simp only [List.mem_singleton]at hp
      subst hp
      refine⟨.inr ⟨rfl,λo' ho' hd' => ?_⟩,λx hx=>by simp only [supd,if_true];exact hx⟩
      simp only [Nat.mod_eq_of_lt hlt]at hd'
      have h1:=ok.1
      simp only [jk,hd,Bool.and_eq_true]at h1
      have h2:=List.all_eq_true.1 h1.1 o' ho'
      simp only [hd',Nat.beq_refl]at h2
      cases h2
theorem u7 {o:Oper} {d:Nat} (hd:o.dst=some d) (k:Nat) (T:List Nm) (hk:q=none\/Nat.beq all.length (k+(rest.length+1))=true) (hf:∀S tk,AgR H S tk (o::rest)->okQ q all k T true) (hTH:∀m∈T,m∈H.map (·.1)) (hw:aJ all sl o=some true)
    (hop:∀S tk (K':Eff->Prop),nV C (o::rest)->AgR H S tk (o::rest) ->
      (∀A H' m,(m=(d,tk)\/m∈T)->((∀x∈A.req,x.1∈T++[m])/\∀x∈A.upd,x.1∈T++[m])->AgR H' (dn S A.upd) tk rest->aV (lK q k (T++[m]) true) C all K rest (dI sl o.dst A.val) H'->K' A)->opD C o sl S tk K') :
    aV q C all K (o::rest) sl H :=
  F4 k true hk hw (λS tk K' ok ag hO hK=>by
    have hlt:=(lq (ok.2 o (by simp)) hd).2
    have hnew:¬Em tk (o::rest) (d,tk):=by
      rintro (h|⟨_,h⟩)
      · exact Nat.lt_irrefl _ h
      · have:=h o (by simp)
        simp only [hd,Nat.mod_eq_of_lt hlt,ne_eq,not_true]at this
    refine hop S tk K' ok ag (λA H' m hm h1 h3 h4=>hK A H' (T++[m]) ?_ (λm' hm' => ?_) h1 (λe=>by cases e) h3 h4)
    · rcases hm with rfl | hm
      · exact okQ_add (hf S tk ag) hO hnew
      · exact zY (λx hx=>(List.mem_append.1 hx).elim id (λhx=>by rw [List.mem_singleton]at hx;rw [hx];exact hm)) (hf S tk ag)
    · have hT:∀x∈T,Em tk rest x:=λx hx=>(ag.old (hTH x hx)).tail
      rcases List.mem_append.1 hm' with hm'|hm'
      · exact hT _ hm'
      · rw [List.mem_singleton]at hm';subst hm'
        rcases hm with rfl|hm
        · exact ((ag.new ok hd (.cells 0 [])).at_ ((d,tk),some (.cells 0 [])) (by simp)).1
        · exact hT _ hm)
theorem Ic {b:Builtin} {args:Array Operand} {ats:Array TypeId} {S:Store} {tk:Nat} {K':Eff->Prop} {A:Eff} (h:qZ C.P b ats.toList (args.toList.map (ev sl)) S dst tk=some A) (hk:K' A) :
    opD C ⟨dst,.call ⟨.builtin b,args,ats⟩,ty,pos,after,g⟩ sl S tk K':=by
  show (match mh C _ sl S tk with | some A=>K' A | none=>False)
  have e:mh C ⟨dst,.call ⟨.builtin b,args,ats⟩,ty,pos,after,g⟩ sl S tk=some A:=h
  rw [e];exact hk
theorem EJ {x:Operand} {v:V} (hl:Bv C.P t (ev sl x)=some v) (hw:aJ all sl ⟨dst,.call ⟨.builtin .len,#[x],#[t]⟩,ty,pos,after,g⟩=some true) (h:aV q C all K rest (dI sl dst v) H) :
    aV q C all K (⟨dst,.call ⟨.builtin .len,#[x],#[t]⟩,ty,pos,after,g⟩::rest) sl H :=
  mD hw (λS tk K' _ hk=>Ic (A:=⟨[],[],v⟩) (by
    have hm:yj (ev sl x)=false:=by
      cases hx:ev sl x with
      | map n=>rw [hx]at hl;unfold Bv at hl;split at hl <;> first | (cases hl;done) | simp_all
      | _=>rfl
    show (bif yj (ev sl x)then oH C.P t S (ev sl x)else (Bv C.P t (ev sl x)).bind eF)=_
    rw [hm,cond_false,hl];rfl) (hk _ rfl rfl rfl)) h
theorem dz {α:Type} {enc:α->List D} {xs:List α} {x:Operand} {e:TypeId} (hu:C.P.underlying t=some (.slice e)) (hx:ev sl x=vL enc xs) (hw:aJ all sl ⟨dst,.call ⟨.builtin .len,#[x],#[t]⟩,ty,pos,after,g⟩=some true)
    (h:aV q C all K rest (dI sl dst (vI xs.length)) H):aV q C all K (⟨dst,.call ⟨.builtin .len,#[x],#[t]⟩,ty,pos,after,g⟩::rest) sl H :=
  EJ (by rw [hx];simp only [Bv,hu,List.length_map]) hw h
theorem iU {s:ByteArray} {x:Operand} (hu:C.P.underlying t=some .string) (hx:ev sl x=vS s) (hw:aJ all sl ⟨dst,.call ⟨.builtin .len,#[x],#[t]⟩,ty,pos,after,g⟩=some true)
    (h:aV q C all K rest (dI sl dst (vI s.size)) H):aV q C all K (⟨dst,.call ⟨.builtin .len,#[x],#[t]⟩,ty,pos,after,g⟩::rest) sl H :=
  EJ (by rw [hx];simp only [Bv,hu]) hw h
theorem h_lenw {α:Type} {n:Nm} {sz:Nat} {xs:List α} {x:Operand} {e:TypeId} (hu:C.P.underlying t=some (.slice e)) (hx:ev sl x=vV n sz xs) (hw:aJ all sl ⟨dst,.call ⟨.builtin .len,#[x],#[t]⟩,ty,pos,after,g⟩=some true)
    (h:aV q C all K rest (dI sl dst (vI xs.length)) H):aV q C all K (⟨dst,.call ⟨.builtin .len,#[x],#[t]⟩,ty,pos,after,g⟩::rest) sl H :=
  EJ (by rw [hx];simp only [Bv,hu]) hw h
theorem mo {α:Type} {n:Nm} {sz:Nat} {xs:List α} {x:Operand} {e:TypeId} (hu:C.P.underlying t=some (.slice e)) (hx:ev sl x=gV n sz xs) (hw:aJ all sl ⟨dst,.call ⟨.builtin .len,#[x],#[t]⟩,ty,pos,after,g⟩=some true)
    (h:aV q C all K rest (dI sl dst (vI xs.length)) H):aV q C all K (⟨dst,.call ⟨.builtin .len,#[x],#[t]⟩,ty,pos,after,g⟩::rest) sl H :=
  EJ (by rw [hx];cases xs <;> simp [Bv,hu,gV]) hw h
theorem iO {op:Op} {S:Store} {tk:Nat} {K':Eff->Prop} {A:Eff} (hc:∀c,op ≠ .call c) (h:mh C ⟨dst,op,ty,pos,after,g⟩ sl S tk=some A) (hk:K' A):opD C ⟨dst,op,ty,pos,after,g⟩ sl S tk K':=by
  unfold opD
  split
  · rename_i c hop;exact absurd hop (hc c)
  · rw [h];exact hk
theorem orE_l {a b:Option Eff} {A:Eff} (h:a=some A):orE a b=some A:=by rw [h];rfl
theorem eD {α:Type} {enc:α->List D} {xs:List α} {x i:Operand} {k:IntKind} {n:Int} {y:α} {size:Nat} (hT:(elemT C.P t).bind (szT C.P)=some size) (hx:ev sl x=vL enc xs) (hi:ev sl i = .d (.int k n)) (hy:idx xs n=some y) (hl:(enc y).length=size)
    (hw:aJ all sl ⟨dst,.indexAddr t x i,ty,pos,after,g⟩=some true) (h:aV q C all K rest (dI sl dst (.d (.ptr (enc y)))) H):aV q C all K (⟨dst,.indexAddr t x i,ty,pos,after,g⟩::rest) sl H :=
  mD hw (λS tk K' _ hk=>iO (A:=⟨[],[],.d (.ptr (enc y))⟩) (λc e=>by cases e) (by
    show orE (jD C.P t (ev sl x) (ev sl i)) _=_
    refine orE_l ?_
    unfold idx at hy
    split at hy
    · rename_i h0
      rw [hx,hi,vT hT,decide_eq_true h0]
      exact idxB_sl (by rw [List.getElem?_map,hy];rfl) hl
    · cases hy) (hk _ rfl rfl rfl)) h
theorem h_iav {x i:Operand} {k:IntKind} {n:Int} {nm:Nm} {j len size:Nat} (hT:(elemT C.P t).bind (szT C.P)=some size) (hx:ev sl x = .vs nm size j len) (hi:ev sl i = .d (.int k n)) (h0:0<=n) (h1:n.toNat<len)
    (hw:aJ all sl ⟨dst,.indexAddr t x i,ty,pos,after,g⟩=some true) (h:aV q C all K rest (dI sl dst (.ref nm (j+n.toNat) 0)) H):aV q C all K (⟨dst,.indexAddr t x i,ty,pos,after,g⟩::rest) sl H :=
  mD hw (λS tk K' _ hk=>iO (A:=⟨[],[],.ref nm (j+n.toNat) 0⟩) (λc e=>by cases e) (by
    show orE (jD C.P t (ev sl x) (ev sl i)) _=_
    refine orE_l ?_
    rw [hx,hi,vT hT,decide_eq_true h0]
    exact idxB_vs h1) (hk _ rfl rfl rfl)) h
theorem h_fac {x:Operand} {f off s:Nat} {cs:List D} (pl:fC C.P t f=some (off,s+1)) (hx:ev sl x = .d (.ptr cs)) (v:List D) (hv:cs.drop off=v) (hle:Nat.ble off cs.length=true)
    (hw:aJ all sl ⟨dst,.fieldAddr t x f,ty,pos,after,g⟩=some true) (h:aV q C all K rest (dI sl dst (.d (.ptr v))) H):aV q C all K (⟨dst,.fieldAddr t x f,ty,pos,after,g⟩::rest) sl H :=
  mD hw (λS tk K' _ hk=>iO (A:=⟨[],[],.d (.ptr v)⟩) (λc e=>by cases e) (by
    show iI C.P t (ev sl x) f=_
    rw [hx,zH pl,hle,hv];rfl) (hk _ rfl rfl rfl)) h
theorem aG {x:Operand} {f off s:Nat} {n:Nm} {i j:Nat} (pl:fC C.P t f=some (off,s+1)) (hx:ev sl x = .ref n i j) (j':Nat) (hj:j+off=j')
    (hw:aJ all sl ⟨dst,.fieldAddr t x f,ty,pos,after,g⟩=some true) (h:aV q C all K rest (dI sl dst (.ref n i j')) H):aV q C all K (⟨dst,.fieldAddr t x f,ty,pos,after,g⟩::rest) sl H :=
  mD hw (λS tk K' _ hk=>iO (A:=⟨[],[],.ref n i j'⟩) (λc e=>by cases e) (by
    show iI C.P t (ev sl x) f=_
    rw [hx,Bi pl,hj]) (hk _ rfl rfl rfl)) h
theorem bK {x:Operand} {size:Nat} {agg:Bool} {cs:List D} (hs:szT C.P t=some size) (ha:cO C.P t=agg) (hx:ev sl x = .d (.ptr cs)) (v:V) (hv:rdD agg size cs=some v)
    (hw:aJ all sl ⟨dst,.load t x,ty,pos,after,g⟩=some true) (h:aV q C all K rest (dI sl dst v) H):aV q C all K (⟨dst,.load t x,ty,pos,after,g⟩::rest) sl H :=
  mD hw (λS tk K' _ hk=>iO (A:=⟨[],[],v⟩) (λc e=>by cases e) (by
    show pW C.P t S (ev sl x)=_
    rw [hx,Ia hs ha,hv];rfl) (hk _ rfl rfl rfl)) h
theorem aI {x:Operand} {size:Nat} {agg:Bool} {n:Nm} {i j sz:Nat} {cs:List V} (p k:Nat) (hp:q=none\/Nat.beq all.length (p+(rest.length+1))=true) (hf:∀S tk,AgR H S tk (⟨dst,.load t x,ty,pos,after,g⟩::rest)->okQ q all p [n] false) (hs:szT C.P t=some size) (ha:cO C.P t=agg) (hx:ev sl x = .ref n i j) (hH:H[k]? = some (n,some (.cells sz cs))) (v:V) (hv:rdV agg size (cs.drop (i*sz+j))=some v)
    (hw:aJ all sl ⟨dst,.load t x,ty,pos,after,g⟩=some true) (h:aV (lK q p [n] false) C all K rest (dI sl dst v) H):aV q C all K (⟨dst,.load t x,ty,pos,after,g⟩::rest) sl H :=
  nG p [n] false hp hf (vW hH) hw (λS tk K' ok ag hk=>iO (A:=⟨[(n,.cells sz cs)],[],v⟩) (λc e=>by cases e) (by
    show pW C.P t S (ev sl x)=_
    rw [hx,yu hs ha,ag.get hH]
    simp only [FP,hv,Option.map_some]) (hk _ H ⟨by simp,by simp⟩ (λ_=>rfl) ag.tail h))
theorem h_ldv {α:Type} {enc:α->List D} {xs:List α} {y:α} {x:Operand} {size:Nat} {agg:Bool} {n:Nm} {i j sz:Nat} (p k:Nat) (hp:q=none\/Nat.beq all.length (p+(rest.length+1))=true) (hf:∀S tk,AgR H S tk (⟨dst,.load t x,ty,pos,after,g⟩::rest)->okQ q all p [n] false) (hs:szT C.P t=some size) (ha:cO C.P t=agg) (hx:ev sl x = .ref n i j) (hH:H[k]? = some (n,some (bV sz enc xs))) (hy:xs[i]? = some y)
    (v:V) (hv:rdD agg size ((enc y).drop j)=some v)
    (hw:aJ all sl ⟨dst,.load t x,ty,pos,after,g⟩=some true) (h:aV (lK q p [n] false) C all K rest (dI sl dst v) H):aV q C all K (⟨dst,.load t x,ty,pos,after,g⟩::rest) sl H :=
  nG p [n] false hp hf (vW hH) hw (λS tk K' ok ag hk=>iO (A:=⟨[(n,bV sz enc xs)],[],v⟩) (λc e=>by cases e) (by
    show pW C.P t S (ev sl x)=_
    rw [hx,yu hs ha,ag.get hH]
    simp only [FP,List.getElem?_map,hy,Option.map_some,hv]) (hk _ H ⟨by simp,by simp⟩ (λ_=>rfl) ag.tail h))
def stC (size:Nat) (cs:List V) (o:Nat) (x:V):Option (List V):=bif Nat.beq (aW x).length size&&Nat.ble (o+size) cs.length&&(aW x).all iq then some (splice cs (aW x) o)else none
def stD (size:Nat) (cs:List D) (o:Nat) (x:V):Option (List D):=match oF (aW x)with
  | some new=>bif Nat.beq new.length size&&Nat.ble (o+size) cs.length&&(aW x).all iq then some (splice cs new o)else none
  | none=>none
theorem fe {x y:Operand} {size:Nat} {n:Nm} {i j sz:Nat} {cs:List V} (p:Nat) (hp:q=none\/Nat.beq all.length (p+(rest.length+1))=true) (hf:∀S tk,AgR H S tk (⟨dst,.store t x y,ty,pos,after,g⟩::rest)->okQ q all p [n] true) (k:Nat) (hs:szT C.P t=some size) (hx:ev sl x = .ref n i j) (hH:H[k]? = some (n,some (.cells sz cs))) (cs':List V) (hv:stC size cs (i*sz+j) (ev sl y)=some cs')
    (hw:aJ all sl ⟨dst,.store t x y,ty,pos,after,g⟩=some true) (h:aV (lK q p [n] true) C all K rest (dI sl dst .none) (H.set k (n,some (.cells sz cs')))) (ht:Nat.blt sz 1048576=true:=by rfl):aV q C all K (⟨dst,.store t x y,ty,pos,after,g⟩::rest) sl H :=
  nG p [n] true hp hf (vW hH) hw (λS tk K' ok ag hk=>iO (A:=⟨[(n,.cells sz cs)],[(n,some (.cells sz cs'))],.none⟩) (λc e=>by cases e) (by
    show rT C.P t S (ev sl x) (ev sl y)=_
    rw [hx,AP hs,ag.get hH]
    simp only [stC]at hv
    simp only [Eu]
    cases hb:(Nat.beq (aW (ev sl y)).length size&&Nat.ble (i*sz+j+size) cs.length&&(aW (ev sl y)).all iq)with
    | true=>simp only [hb,ht,Bool.and_self,cond_true,so_]at hv ⊢;rw [hv]
    | false=>simp only [hb,cond_false]at hv;cases hv) (hk _ _ ⟨by simp,by simp⟩ (λe=>by cases e) (ag.tail.set hH (λx hx=>hx)) h))
theorem h_stv {α:Type} {enc:α->List D} {xs:List α} {e:α} {x y:Operand} {size:Nat} {n:Nm} {i j sz:Nat} (p:Nat) (hp:q=none\/Nat.beq all.length (p+(rest.length+1))=true) (hf:∀S tk,AgR H S tk (⟨dst,.store t x y,ty,pos,after,g⟩::rest)->okQ q all p [n] true) (k:Nat) (hs:szT C.P t=some size) (hx:ev sl x = .ref n i j) (hH:H[k]? = some (n,some (bV sz enc xs))) (hy:xs[i]? = some e) (e':α) (hv:stD size (enc e) j (ev sl y)=some (enc e'))
    (hw:aJ all sl ⟨dst,.store t x y,ty,pos,after,g⟩=some true) (h:aV (lK q p [n] true) C all K rest (dI sl dst .none) (H.set k (n,some (bV sz enc (xs.set i e'))))):aV q C all K (⟨dst,.store t x y,ty,pos,after,g⟩::rest) sl H :=
  nG p [n] true hp hf (vW hH) hw (λS tk K' ok ag hk=>iO (A:=⟨[(n,bV sz enc xs)],[(n,some (bV sz enc (xs.set i e')))],.none⟩) (λc e=>by cases e) (by
    show rT C.P t S (ev sl x) (ev sl y)=_
    rw [hx,AP hs,ag.get hH]
    simp only [stD]at hv
    simp only [Eu,List.getElem?_map,hy,Option.map_some]
    cases hn:oF (aW (ev sl y))with
    | none=>rw [hn]at hv;cases hv
    | some new =>
      simp only [hn]at hv ⊢
      cases hb:(Nat.beq new.length size&&Nat.ble (j+size) (enc e).length&&(aW (ev sl y)).all iq)with
      | true=>simp only [hb,cond_true,so_]at hv ⊢;rw [hv];simp only [bV,List.map_set]
      | false=>simp only [hb,cond_false]at hv;cases hv) (hk _ _ ⟨by simp,by simp⟩ (λe=>by cases e) (ag.tail.set hH (λx hx=>hx)) h))
theorem gN {e:TypeId} {cs:List V} (p:Nat) (hp:q=none\/Nat.beq all.length (p+(rest.length+1))=true) (hz:zeroCells C.P e=some cs) (ho:cs.all iq=true) (hw:aJ all sl ⟨some d,.alloc e,ty,pos,after,g⟩=some true)
    (h:∀n:Nm,aV (lK q p [n] true) C all K rest (upd sl d (.ref n 0 0)) (H++[(n,some (.cells cs.length cs))])) (hb:Bg C.P e=none:=by kernel_rfl) (hvm:C.vm.contains d=false:=by rfl) (hlt:Nat.blt cs.length 1048576=true:=by rfl):aV q C all K (⟨some d,.alloc e,ty,pos,after,g⟩::rest) sl H :=
  u7 rfl p [] hp (λ_ _ _=>zV) (λm hm=>by cases hm) hw (λS tk K' ok ag hk=>iO (A:=⟨[],[((d,tk),some (.cells cs.length cs))],.ref (d,tk) 0 0⟩) (λc e=>by cases e) (by
    show (bif (Bg C.P e).isSome then r9 C.P e d tk else bif C.vm.contains d then ql C.P e d tk else uC C.P e d tk)=_
    rw [hb,hvm]
    simp only [Option.isSome_none,cond_false,uC,hz,ho,hlt,Bool.and_self,cond_true]) (hk _ _ _ (.inl rfl) ⟨by simp,by simp⟩ (ag.new ok rfl _) (h (d,tk))))
theorem lY {e:TypeId} {x:Operand} (p:Nat) (hp:q=none\/Nat.beq all.length (p+(rest.length+1))=true) (cs:List V) (hx:aW (ev sl x)=cs) (ho:cs.all iq=true) (hw:aJ all sl ⟨some d,.box e x,ty,pos,after,g⟩=some true)
    (h:∀n:Nm,aV (lK q p [n] true) C all K rest (upd sl d (.ref n 0 0)) (H++[(n,some (.cells cs.length cs))])) (hlt:Nat.blt cs.length 1048576=true:=by rfl):aV q C all K (⟨some d,.box e x,ty,pos,after,g⟩::rest) sl H :=
  u7 rfl p [] hp (λ_ _ _=>zV) (λm hm=>by cases hm) hw (λS tk K' ok ag hk=>iO (A:=⟨[],[((d,tk),some (.cells cs.length cs))],.ref (d,tk) 0 0⟩) (λc e=>by cases e) (by
    show HZ (ev sl x) d tk=_
    simp only [HZ,hx,ho,hlt,Bool.and_self,cond_true]) (hk _ _ _ (.inl rfl) ⟨by simp,by simp⟩ (ag.new ok rfl _) (h (d,tk))))
def co0 (v:V):V:=co (λ_=>none) v
theorem co_0 {S:Store} {v:V} (h:frz v=[]):co S v=co0 v :=
  (EP (S:=S) (S':=λ_=>none) (v:=v) (λn hn=>by rw [h]at hn;cases hn)).symm
theorem o5 {α β:Type} {f:α->List β}:∀{l:List α},l.flatMap f=[]->∀x∈l,f x=[]
  | a::l,h,x,hx=>by
    simp only [List.flatMap_cons,List.append_eq_nil_iff]at h
    rcases List.mem_cons.1 hx with rfl|hx
    · exact h.1
    · exact o5 h.2 x hx
def K8 (sl:Nat->V) (parts:List (Nat×Operand)):List (Nat×V):=parts.map λp=>(p.1,co0 (ev sl p.2))
theorem litF_0 {S:Store} {tk len size:Nat} {parts:List (Nat×Operand)} {xs:List (List D)} (hT:(elemT C.P t).bind (szT C.P)=some size) (hz:((elemT C.P t).bind (zeroCells C.P)).isSome=true)
    (hn:(parts.flatMap λp=>frz (ev sl p.2))=[]) (hx:mE size 0 (K8 sl parts)=some xs) (hl:Nat.beq parts.length len=true) (hle:Nat.ble (len*size) 16777216=true) :
    Ga C t len (parts.map λp=>(p.1,ev sl p.2)) S d tk=some (bif C.vm.contains d then⟨[],[((d,tk),some (.vec size xs))],.vs (d,tk) size 0 len⟩else⟨[],[],bif Nat.beq len 0 then .nil else .d (.sl xs)⟩):=by
  have h1:((parts.map λp=>(p.1,ev sl p.2)).flatMap λp=>frz p.2)=[]:=by
    rw [List.flatMap_map];exact hn
  have h2:((parts.map λp=>(p.1,ev sl p.2)).map λp=>(p.1,co S p.2))=K8 sl parts:=by
    rw [List.map_map]
    exact List.map_congr_left (λp hp=>by simp only [Function.comp];rw [co_0 (o5 hn p hp)])
  have h3:Nat.beq ((K8 sl parts).length) len=true:=by simp only [K8,List.length_map];exact hl
  simp only [Ga,h1,List.all_nil,cond_true,freezeAll,dX,dn,h2,jy,hT,hx,h3,hle,hz,Bool.and_self]
  cases C.vm.contains d <;> cases Nat.beq len 0 <;> simp [eF,dW]
theorem di {len size:Nat} {parts:List (Nat×Operand)} (xs:List (List D)) (hT:(elemT C.P t).bind (szT C.P)=some size) (hz:((elemT C.P t).bind (zeroCells C.P)).isSome=true)
    (hn:(parts.flatMap λp=>frz (ev sl p.2))=[]) (hx:mE size 0 (K8 sl parts)=some xs) (hl:Nat.beq parts.length len=true) (hle:Nat.ble (len*size) 16777216=true) (hv:(C.vm.contains d||Nat.beq len 0)=false)
    (hw:aJ all sl ⟨some d,.buildSlice t len parts.toArray,ty,pos,after,g⟩=some true) (h:aV q C all K rest (upd sl d (.d (.sl xs))) H) (hq:C.vm.contains (d+100000)=false:=by rfl):aV q C all K (⟨some d,.buildSlice t len parts.toArray,ty,pos,after,g⟩::rest) sl H :=
  mD hw (λS tk K' _ hk=>iO (A:=⟨[],[],.d (.sl xs)⟩) (λc e=>by cases e) (by
    show (bif C.vm.contains (d+100000)then _ else Ga C t len (parts.toArray.toList.map λp=>(p.1,ev sl p.2)) S d tk)=_
    rw [hq,cond_false,List.toList_toArray,litF_0 hT hz hn hx hl hle]
    simp only [Bool.or_eq_false_iff]at hv
    rw [hv.1,hv.2];rfl) (hk _ rfl rfl rfl)) h
end
end Go.Eng

/-
  THE ENGINE: append, calls, a function's end.
-/
namespace Go.Eng
set_option linter.unusedSectionVars false
variable [DM]
set_option linter.unusedVariables false
set_option linter.unusedSimpArgs false
section
variable {C:Cfg} {sl:Nat->V} {H:Hp} {q:Qm} {all rest:List Oper} {K:(Nat->V)->Hp->Prop}
variable {dst:Option Tmp} {d:Nat} {t ty:TypeId} {pos:String} {after:Array Edge} {g:Option (Nat×Bool)}
theorem Mc {S:Store} {tk:Nat} {l:List Oper} (ag:AgR H S tk l) {i:Nat} {n:Nm} {b b':Option Box} (h:H[i]? = some (n,b)) (hb:∀x,b'=some x->S n=some x):AgR (H.set i (n,b')) S tk l:=by
 have hi:i<H.length:=(List.getElem?_eq_some_iff.1 h).1
 have he:H[i]=(n,b):=(List.getElem?_eq_some_iff.1 h).2
 have hm:(H.set i (n,b')).map (·.1)=H.map (·.1):=by
  apply List.ext_getElem
  ·simp
  ·intro j h1 h2
   simp only [List.getElem_map,List.getElem_set]
   split
   ·rename_i e;subst e;rw [he]
   ·rfl
 refine⟨ag.pos,by rw [hm];exact ag.nd,λp hp => ?_⟩
 obtain ⟨j,hj,rfl⟩:=List.getElem_of_mem hp
 simp only [List.length_set]at hj
 simp only [List.getElem_set]
 split
 ·rename_i e;subst e
  have:=ag.at_ (n,b) (by rw [<- he];exact List.getElem_mem hi)
  exact⟨this.1,hb⟩
 ·exact ag.at_ H[j] (List.getElem_mem hj)
theorem AgR.swap {S:Store} {tk:Nat} {o:Oper} (ok:nV C (o::rest)) (ag:AgR H S tk (o::rest)) (hd:o.dst=some d) {i:Nat} {n:Nm} {b0:Option Box} (h:H[i]? = some (n,b0)) (b:Option Box) (S':Store)
  (hS:∀m,m≠n->m≠(d,tk)->S' m=S m) (hb:∀x,b=some x->S' (d,tk)=some x):AgR (H.set i ((d,tk),b)) S' tk rest:=by
 have hne:=new_ne ok ag hd 0
 simp only [Nat.mul_zero,Nat.add_zero]at hne
 have hlt:=(lq (ok.2 o (by simp)) hd).2
 have hi:i<H.length:=(List.getElem?_eq_some_iff.1 h).1
 have he:H[i]=(n,b0):=(List.getElem?_eq_some_iff.1 h).2
 have hname:∀j (hj:j<H.length),j≠i->H[j].1≠n:=λj hj hji e=>hji (iC ag.nd j i (by simpa using hj) (by simpa using hi) (by simp [he,e]))
 have hm:(H.set i ((d,tk),b)).map (·.1)=(H.map (·.1)).set i (d,tk):=by rw [List.map_set]
 refine⟨ag.pos,?_,λp hp => ?_⟩
 ·rw [hm]
  refine List.pairwise_iff_getElem.2 (λa c ha hc hac => ?_)
  simp only [List.length_set,List.length_map]at ha hc
  have h1:=(List.pairwise_iff_getElem.1 ag.nd) a c (by simpa using ha) (by simpa using hc) hac
  simp only [List.getElem_map]at h1
  simp only [List.getElem_set,List.getElem_map]
  split
  ·rw [if_neg (by omega)]
   exact (hne _ (List.getElem_mem hc)).symm
  ·split
   ·exact hne _ (List.getElem_mem ha)
   ·exact h1
 ·obtain ⟨j,hj,rfl⟩:=List.getElem_of_mem hp
  simp only [List.length_set]at hj
  simp only [List.getElem_set]
  split
  ·refine⟨.inr ⟨rfl,λo' ho' hd' => ?_⟩,hb⟩
   simp only [Nat.mod_eq_of_lt hlt]at hd'
   have h1:=ok.1
   simp only [jk,hd,Bool.and_eq_true]at h1
   have h2:=List.all_eq_true.1 h1.1 o' ho'
   simp only [hd',Nat.beq_refl]at h2
   cases h2
  ·rename_i e
   have h1:=ag.tail.at_ H[j] (List.getElem_mem hj)
   exact⟨h1.1,λx hx=>by rw [hS _ (hname j hj (Ne.symm e)) (hne _ (List.getElem_mem hj))];exact h1.2 x hx⟩
def kM {α:Type} (xs ys:List α):Option (List α):=if xs.length+ys.length<=1000000000 then some (xs++ys)else none
def eH (x y:ByteArray):Option ByteArray:=if ((x.size+y.size:Nat):Int)>IntKind.i64.max then none else some (x++y)
theorem Gu {P:Program} {t e:TypeId} (h:elemT P t=some e):oo P t=false:=by
 have:=iE h
 unfold oo;rw [this]
theorem DX {α:Type} {enc:α->List D} {sz:Nat} (h:∀y,(enc y).length=sz) (ys:List α):(ys.map enc).all (λx=>Nat.beq x.length sz)=true:=by
 rw [List.all_eq_true]
 intro x hx
 obtain ⟨y,_,rfl⟩:=List.mem_map.1 hx
 rw [h y];exact Nat.beq_refl sz
section app
variable {α:Type} {enc:α->List D} {xs ys zs:List α} {x y:Operand} {t' e e':TypeId} {sz bytes i:Nat} {n:Nm} {z:List V}
theorem h_appgX (p:Nat) (hpp:q=none\/Nat.beq all.length (p+(rest.length+1))=true) (hf:∀S tk,AgR H S tk (⟨some d,.call ⟨.builtin .append,#[x,y],#[t,t']⟩,ty,pos,after,g⟩::rest)->okQ q all p [n] true) (he:elemT C.P t=some e) (he':EQ C.P t'=some ()) (hni:oo C.P t'=false) (hs:szT C.P e=some sz) (hz:zeroCells C.P e=some z) (hzl:z.length=sz) (hp:0<sz) (hby:bytesT C.P e=bytes) (hbb:bytes<=100000)
  (henc:∀y,(enc y).length=sz) (hx:ev sl x=gV n sz xs) (hH:H[i]? = some (n,gB sz enc xs)) (hy:∀S,kP S sz (ev sl y)=some (ys.map enc,[])) (ha:kM xs ys=some zs)
  (hw:aJ all sl ⟨some d,.call ⟨.builtin .append,#[x,y],#[t,t']⟩,ty,pos,after,g⟩=some true)
  (h:∀n':Nm,aV (lK q p [n,n'] true) C all K rest (upd sl d (gV n' sz zs)) (H.set i (n',gB sz enc zs))):aV q C all K (⟨some d,.call ⟨.builtin .append,#[x,y],#[t,t']⟩,ty,pos,after,g⟩::rest) sl H:=by
 unfold kM at ha
 split at ha
 case isFalse=>cases ha
 rename_i hle
 simp only [so_]at ha
 subst ha
 refine u7 rfl p [n] hpp hf (vW hH) hw (λS tk K' ok ag hk => ?_)
 have hall:=DX (sz:=sz) henc ys
 have hzz:z.length=sz/\0<sz:=⟨hzl,hp⟩
 have hb1:∀m,m<=1000000000->(2*m+192)*bytesT C.P e<=2 ^ 48/\m<=2 ^ 48:=λm hm=>by
  rw [hby]
  have:=Nat.mul_le_mul (show 2*m+192<=2000000192 by omega) hbb
  exact⟨by omega,by omega⟩
 have run:∀{A:Eff},jB C.P t t' S (ev sl x) (ev sl y) d tk=some A->K' A->opD C ⟨some d,.call ⟨.builtin .append,#[x,y],#[t,t']⟩,ty,pos,after,g⟩ sl S tk K':=λha hk=>Ic (by show (bif oo C.P t' then _ else _)=_;rw [hni,cond_false];exact ha) hk
 cases xs with
 | nil =>
  have hx':ev sl x = .nil:=hx
  cases ys with
  | nil =>
   refine run (A:=⟨[],[],.nil⟩) ?_ (hk _ (H.set i (n,gB sz enc ([]:List α))) n (.inr (by simp)) ⟨by simp,by simp⟩ (by
    have:=Mc ag hH (b':=gB sz enc ([]:List α)) (λx hx=>by cases hx)
    exact this.tail) (h n))
   rw [hx']
   simp only [jB,he,he',hs,hz,if_pos hzz,hy,List.map_nil,List.map_cons,if_true]
   rw [if_pos (hb1 _ (by simp))]
   try rfl
  | cons y0 ys =>
   refine run (A:=⟨[],[((d,tk),some (.vec sz ((y0::ys).map enc)))],.vs (d,tk) sz 0 (y0::ys).length⟩) ?_ (hk _ (H.set i ((d,tk),gB sz enc (y0::ys))) (d,tk) (.inl rfl) ⟨by simp,by simp⟩ ?_ (h (d,tk)))
   ·rw [hx']
    simp only [jB,he,he',hs,hz,if_pos hzz,hy,List.map_nil,List.map_cons,if_true]
    rw [if_pos (hb1 _ (by simpa using hle))]
    simp
   ·exact ag.swap ok rfl hH _ _ (λm h1 h2=>by simp [dn,supd,h2]) (λx hx=>by simp only [dn,supd,if_true];exact hx)
 | cons x0 xs =>
  have hx':ev sl x = .vs n sz 0 (x0::xs).length:=hx
  have hS:S n=some (.vec sz ((x0::xs).map enc)):=ag.get hH
  cases ys with
  | nil =>
   refine run (A:=⟨[(n,.vec sz ((x0::xs).map enc))],[],.vs n sz 0 (x0::xs).length⟩) ?_ (hk _ (H.set i (n,gB sz enc ((x0::xs)++[]))) n (.inr (by simp)) ⟨by simp,by simp⟩ (by
    have:=Mc ag hH (b':=gB sz enc ((x0::xs)++[])) (λx hx=>by simp only [List.append_nil]at hx;rw [hS];exact hx)
    exact this.tail) (by have:=h n;rw [List.append_nil]at this;rw [List.append_nil];exact this))
   rw [hx']
   simp only [jB,he,he',hs,hz,if_pos hzz,hy,List.map_nil,List.map_cons,if_true,hS]
   rw [if_pos ⟨trivial,by simp,hb1 _ (by simpa using hle)⟩]
   try rfl
  | cons y0 ys =>
   refine run (A:=⟨[(n,.vec sz ((x0::xs).map enc))],[(n,none),((d,tk),some (.vec sz ((x0::xs++(y0::ys)).map enc)))],.vs (d,tk) sz 0 (x0::xs++(y0::ys)).length⟩) ?_ (hk _ (H.set i ((d,tk),gB sz enc (x0::xs++(y0::ys)))) (d,tk) (.inl rfl) ⟨by simp,by simp⟩ ?_ (h (d,tk)))
   ·rw [hx']
    simp only [jB,he,he',hs,hz,if_pos hzz,hy,List.map_nil,List.map_cons,if_true,hS]
    rw [if_pos ⟨trivial,by simp,hb1 _ (by simpa using hle)⟩]
    simp
    try omega
   ·exact ag.swap ok rfl hH _ _ (λm h1 h2=>by simp [dn,supd,h2,h1]) (λx hx=>by simp only [dn,supd,if_true];exact hx)
theorem lS (p:Nat) (hpp:q=none\/Nat.beq all.length (p+(rest.length+1))=true) (hf:∀S tk,AgR H S tk (⟨some d,.call ⟨.builtin .append,#[x,y],#[t,t']⟩,ty,pos,after,g⟩::rest)->okQ q all p [n] true) (he:elemT C.P t=some e) (he':elemT C.P t'=some e') (hs:szT C.P e=some sz) (hz:zeroCells C.P e=some z) (hzl:z.length=sz) (hp:0<sz) (hby:bytesT C.P e=bytes) (hbb:bytes<=100000)
  (henc:∀y,(enc y).length=sz) (hx:ev sl x=gV n sz xs) (hH:H[i]? = some (n,gB sz enc xs)) (hy:ev sl y=vL enc ys) (ha:kM xs ys=some zs)
  (hw:aJ all sl ⟨some d,.call ⟨.builtin .append,#[x,y],#[t,t']⟩,ty,pos,after,g⟩=some true)
  (h:∀n':Nm,aV (lK q p [n,n'] true) C all K rest (upd sl d (gV n' sz zs)) (H.set i (n',gB sz enc zs))):aV q C all K (⟨some d,.call ⟨.builtin .append,#[x,y],#[t,t']⟩,ty,pos,after,g⟩::rest) sl H :=
 h_appgX p hpp hf he (JZ he') (Gu he') hs hz hzl hp hby hbb henc hx hH (λS=>by rw [hy];simp only [kP,pg,DX (sz:=sz) henc ys,if_true]) ha hw h
end app
end
end Go.Eng

/-
  THE ENGINE: calls, a function's end, and what may be done between operations.
-/
namespace Go.Eng
set_option linter.unusedSectionVars false
variable [DM]
set_option linter.unusedVariables false
set_option linter.unusedSimpArgs false
section
variable {C:Cfg} {sl:Nat->V} {H:Hp} {q:Qm} {all rest:List Oper} {K:(Nat->V)->Hp->Prop}
variable {dst:Option Tmp} {d:Nat} {t ty:TypeId} {pos:String} {after:Array Edge} {g:Option (Nat×Bool)}
theorem Ay {S:Store}:∀{vs:List V},vs.flatMap frz=[]->vs.map (co S)=vs.map co0
  | vs,h=>List.map_congr_left (λv hv=>co_0 (o5 h v hv))
theorem mO {f:Operand} {args:List Operand} {ats:Array TypeId} {fn:FuncId} {caps:List V} {S:Store} {tk:Nat} {K':Eff->Prop} (hf:ev sl f = .fn fn caps) (h:Dm C (.fn fn caps) (args.map (ev sl)) dst S tk K') :
    opD C ⟨dst,.call ⟨.value f,args.toArray,ats⟩,ty,pos,after,g⟩ sl S tk K':=by
  show Dm C (ev sl f) (args.toArray.toList.map (ev sl)) dst S tk K'
  rw [hf,List.toList_toArray];exact h
theorem aD {f:Operand} {args:List Operand} {ats:Array TypeId} {fn:FuncId} {caps args0:List V} {r:V} (hc:FnM C.P fn args0 [] r []) (hf:ev sl f = .fn fn caps) (hb:aF C.P fn=true)
    (hn:(args.map (ev sl)++caps).flatMap frz=[]) (ha:(args.map (ev sl)++caps).map co0=args0) (hok:okL 0 args0=true) (hr:okV 0 r=true)
    (hw:aJ all sl ⟨dst,.call ⟨.value f,args.toArray,ats⟩,ty,pos,after,g⟩=some true) (h:aV q C all K rest (dI sl dst r) H):aV q C all K (⟨dst,.call ⟨.value f,args.toArray,ats⟩,ty,pos,after,g⟩::rest) sl H :=
  mD hw (λS tk K' _ hk=>mO hf (by
    refine .inl ⟨hb,⟨[],[],args0,[],r,[],false⟩,?_,λ_=>rfl,?_⟩
    · exact { does := hc
              args:=ArgsOK.of_map <| by
                show (args.map (ev sl)++caps).map (co S)=renL [] args0
                rw [Ay hn,ha,Je hok]
              okA:=hok,nodup:=List.nodup_nil,ins:=trivial,len:=Nat.le_refl _,okR:=hr,okO:=rfl,mutN:=rfl
              roOK:=(λe=>by cases e),have_:=(λn hn=>nomatch hn),cov:=(λn h'=>by rw [hn]at h';cases h'),dis:=(λn hn=>nomatch hn) }
    · have:ren [] r=r:=o9 hr
      show K' ⟨_,_,ren [] r⟩
      rw [this]
      exact hk _ rfl rfl rfl)) h
theorem h_ext {f:Operand} {args:List Operand} {ats:Array TypeId} {fn:FuncId} {args0:List V} {r:D} (hc:Lc C.P fn args0 r) (hf:ev sl f = .fn fn []) (hb:aF C.P fn=false)
    (ha:args.map (ev sl)=args0)
    (hw:aJ all sl ⟨dst,.call ⟨.value f,args.toArray,ats⟩,ty,pos,after,g⟩=some true) (h:aV q C all K rest (dI sl dst (.d r)) H):aV q C all K (⟨dst,.call ⟨.value f,args.toArray,ats⟩,ty,pos,after,g⟩::rest) sl H :=
  mD hw (λS tk K' _ hk=>mO hf (by
    refine .inr (.inl ⟨hb,rfl,r,?_,hk _ rfl rfl rfl⟩)
    rw [ha];exact hc)) h
def gp (H:Hp):List Nat->Option (List (Nm×Box))
  | []=>some []
  | i::is=>match H[i]?,gp H is with
    | some (n,some b),some l=>some ((n,b)::l)
    | _,_=>none
def setH (H:Hp):List (Nat×Nm×Option Box)->Hp
  | []=>H
  | (i,n,b)::l=>setH (H.set i (n,b)) l
theorem kW:∀{is:List Nat} {l:List (Nm×Box)},gp H is=some l->l.length=is.length/\∀j (h1:j<is.length) (h2:j<l.length),H[is[j]]? = some (l[j].1,some l[j].2)
  | [],l,h=>by simp only [gp,so_]at h;subst h;exact⟨rfl,λj h1=>absurd h1 (Nat.not_lt_zero _)⟩
  | i::is,l,h=>by
    simp only [gp]at h
    split at h
    · rename_i n b l' h1 h2
      simp only [so_]at h
      subst h
      obtain ⟨h3,h4⟩:=kW h2
      refine⟨by simp [h3],λj hj1 hj2 => ?_⟩
      cases j with
      | zero=>exact h1
      | succ j=>exact h4 j (by simpa using hj1) (by simpa using hj2)
    · cases h
theorem qI {S:Store} {ρ:List Nm}:∀{ns:List Nm} {bs:List Box},ns.length=bs.length->(∀j (h1:j<ns.length) (h2:j<bs.length),bs[j].ok ρ.length=true/\S ns[j]=some (bs[j].ren ρ))->insOK S ρ ns bs
  | [],[],_,_=>trivial
  | n::ns,b::bs,hl,h=>⟨h 0 (by simp) (by simp),qI (by simpa using hl) (λj h1 h2=>h (j+1) (by simpa using h1) (by simpa using h2))⟩
  | [],_::_,hl,_=>by simp at hl
  | _::_,[],hl,_=>by simp at hl
theorem rO {S:Store} {tk:Nat} {l:List Oper} (ag:AgR H S tk l) {is:List Nat} (hi:is.Nodup) {l:List (Nm×Box)} (h:gp H is=some l):(l.map (·.1)).Nodup:=by
  obtain ⟨h1,h2⟩:=kW h
  refine List.pairwise_iff_getElem.2 (λa c ha hc hac => ?_)
  simp only [List.length_map]at ha hc
  simp only [List.getElem_map]
  intro e
  have ea:=h2 a (by omega) ha
  have ec:=h2 c (by omega) hc
  have hla:=(List.getElem?_eq_some_iff.1 ea).1
  have hlc:=(List.getElem?_eq_some_iff.1 ec).1
  have h3:=iC ag.nd is[a] is[c] (by simpa using hla) (by simpa using hlc) (by
    simp only [List.getElem_map]
    rw [(List.getElem?_eq_some_iff.1 ea).2,(List.getElem?_eq_some_iff.1 ec).2];exact e)
  have:=iC hi a c (by omega) (by omega) h3
  omega
def outs (ν:List Nm):List Nat->List Nm->List (Option Box)->List (Nat×Nm×Option Box)
  | i::is,n::ns,b::bs=>(i,n,b.map (·.ren ν))::outs ν is ns bs
  | _,_,_=>[]
def news (ν:List Nm):List Nm->List (Option Box)->Hp
  | n::ns,b::bs=>(n,b.map (·.ren ν))::news ν ns bs
  | _,_=>[]
theorem FY (a b:List (Nat×Nm×Option Box)):∀H:Hp,setH H (a++b)=setH (setH H a) b:=by
  induction a with
  | nil=>intro H;rfl
  | cons x a ih=>intro H;obtain ⟨i,n,o⟩:=x;exact ih _
theorem setH_at {l:List (Nat×Nm×Option Box)}:∀{H:Hp},(setH H l).length=H.length:=by
  induction l with
  | nil=>intro H;rfl
  | cons x l ih=>intro H;obtain ⟨i,n,b⟩:=x;simp only [setH];rw [ih];simp
theorem xD {tk:Nat} {lo:List Oper} {ν:List Nm}:∀{is:List Nat} {ns:List Nm} {bs:List (Option Box)} {H:Hp} {S:Store} (ag:AgR H S tk lo) (hi:is.Nodup) (hn:ns.Nodup)
    (h:∀j (h1:j<is.length) (h2:j<ns.length),∃b,H[is[j]]? = some (ns[j],b)),AgR (setH H (outs ν is ns bs)) (dn S (bJ ν (ns.take is.length) bs)) tk lo
  | [],ns,bs,H,S,ag,_,_,_=>by simp only [outs,setH,List.length_nil,List.take_zero,bJ,dn];exact ag
  | i::is,[],bs,H,S,ag,_,_,_=>by simp only [outs,setH,List.take_nil,bJ,dn];exact ag
  | i::is,n::ns,[],H,S,ag,_,_,_=>by simp only [outs,setH,List.length_cons,List.take_succ_cons,bJ,dn];exact ag
  | i::is,n::ns,b::bs,H,S,ag,hi,hn,h=>by
    simp only [outs,setH,List.length_cons,List.take_succ_cons,bJ,dn]
    obtain ⟨b0,hb0⟩:=h 0 (by simp) (by simp)
    have hb0:H[i]? = some (n,b0):=hb0
    refine xD (ag.set hb0 (b:=b.map (Box.ren ν)) (b':=b.map (Box.ren ν)) (λx hx=>hx)) (List.nodup_cons.1 hi).2 (List.nodup_cons.1 hn).2 (λj h1 h2 => ?_)
    obtain ⟨b1,hb1⟩:=h (j+1) (by simpa using h1) (by simpa using h2)
    refine⟨b1,?_⟩
    have hne:i≠is[j]:=λe=>(List.nodup_cons.1 hi).1 (e ▸ List.getElem_mem _)
    rw [List.getElem?_set_ne hne]
    exact hb1
theorem AgR.news {tk:Nat} {o:Oper} (ok:nV C (o::rest)) (hd:o.dst=some d) {ν:List Nm}:∀(m:Nat) {bs:List (Option Box)} {H:Hp} {S:Store} (k:Nat),
    ((H.map (·.1)).Nodup/\0<tk)->(∀p∈H,((p.1.2<tk\/p.1.2=tk/\(∀o'∈o::rest,o'.dst≠some (p.1.1 % 100000)))\/∃j,j<k/\p.1=(d+100000*j,tk))/\∀b,p.2=some b->S p.1=some b) ->
    AgR (H++Eng.news ν ((List.range' k m).map λj=>(d+100000*j,tk)) bs) (dn S (bJ ν ((List.range' k m).map λj=>(d+100000*j,tk)) bs)) tk rest
  | 0,bs,H,S,k,hnd,hH=>by
    simp only [List.range'_zero,List.map_nil,Eng.news,List.append_nil,bJ,dn]
    have hlt:=(lq (ok.2 o (by simp)) hd).2
    refine⟨hnd.2,hnd.1,λp hp=>⟨?_,(hH p hp).2⟩⟩
    rcases (hH p hp).1 with (h|⟨h1,h2⟩) | ⟨j,_,h⟩
    · exact .inl h
    · exact .inr ⟨h1,λo' ho'=>h2 o' (by simp [ho'])⟩
    · refine .inr ⟨by rw [h],λo' ho' hd' => ?_⟩
      have e2:(d+100000*j) % 100000=d:=(Nat.add_mul_mod_self_left d 100000 j).trans (Nat.mod_eq_of_lt hlt)
      rw [h,e2]at hd'
      have h1:=ok.1
      simp only [jk,hd,Bool.and_eq_true]at h1
      have h2:=List.all_eq_true.1 h1.1 o' ho'
      simp only [hd',Nat.beq_refl]at h2
      cases h2
  | m+1,[],H,S,k,hnd,hH=>by
    have:=AgR.news (tk:=tk) ok hd (S:=S) (ν:=ν) 0 (bs:=[]) k hnd hH
    simpa [List.range'_succ,Eng.news,bJ,dn]using this
  | m+1,b::bs,H,S,k,hnd,hH=>by
    have hlt:=(lq (ok.2 o (by simp)) hd).2
    simp only [List.range'_succ,List.map_cons,Eng.news,bJ,dn]
    have hne:∀p∈H,p.1≠(d+100000*k,tk):=λp hp e=>by
      rcases (hH p hp).1 with (h1|⟨_,h1⟩) | ⟨j,hj,h1⟩
      · rw [e]at h1;exact Nat.lt_irrefl _ h1
      · have:=h1 o (by simp)
        have e2:(d+100000*k) % 100000=d:=(Nat.add_mul_mod_self_left d 100000 k).trans (Nat.mod_eq_of_lt hlt)
        rw [e,hd,e2]at this
        exact this rfl
      · rw [e]at h1
        simp only [Prod.mk.injEq,and_true]at h1
        omega
    have:=AgR.news (tk:=tk) ok hd (ν:=ν) m (bs:=bs) (H:=H++[((d+100000*k,tk),b.map (·.ren ν))]) (S:=supd S (d+100000*k,tk) (b.map (·.ren ν))) (k+1) ?_ ?_
    · simpa only [List.append_assoc,List.cons_append,List.nil_append]using this
    · refine⟨?_,hnd.2⟩
      rw [List.map_append,List.nodup_append]
      refine⟨hnd.1,by simp,λa ha c hc => ?_⟩
      simp only [List.map_cons,List.map_nil,List.mem_singleton]at hc
      obtain ⟨p,hp,rfl⟩:=List.mem_map.1 ha
      rw [hc];exact hne p hp
    · intro p hp
      rcases List.mem_append.1 hp with hp|hp
      · refine⟨?_,λx hx=>by simp only [supd,if_neg (hne p hp)];exact (hH p hp).2 x hx⟩
        rcases (hH p hp).1 with h|⟨j,hj,h⟩
        · exact .inl h
        · exact .inr ⟨j,by omega,h⟩
      · simp only [List.mem_singleton]at hp
        subst hp
        exact⟨.inr ⟨k,by omega,rfl⟩,λx hx=>by simp only [supd,if_true];exact hx⟩
theorem De {β:Type} (f:Nat->β) (m:Nat):(List.range m).map f=(List.range' 0 m).map f:=by rw [List.range_eq_range']
theorem wP (ν:List Nm):∀(a b:List Nm) (bs:List (Option Box)),bJ ν (a++b) bs=bJ ν a bs++bJ ν b (bs.drop a.length)
  | [],b,bs=>by simp [bJ]
  | x::a,b,[]=>by cases b <;> simp [bJ]
  | x::a,b,y::bs=>by simp only [List.cons_append,bJ,List.length_cons,List.drop_succ_cons];rw [wP ν a b bs]
theorem M8 {f:Operand} {args:List Operand} {ats:Array TypeId} {fn:FuncId} {caps args0:List V} {r:V} {Sin:List Box} {Sout:List (Option Box)} (is:List Nat) (m:Nat) {l:List (Nm×Box)} (hc:FnM C.P fn args0 Sin r Sout)
    (hf:ev sl f = .fn fn caps) (hb:aF C.P fn=true) (hl:gp H is=some l) (hS:Sin.map (λb=>b.ren (l.map (·.1)))=l.map (·.2)) (hSok:Sin.all (λb=>b.ok is.length)=true)
    (hn:((args.map (ev sl)++caps).flatMap frz).all (λn=>false)=true) (ha:(args.map (ev sl)++caps).map co0=renL (l.map (·.1)) args0) (hok:okL is.length args0=true) (hr:okV Sout.length r=true)
    (hlen:Sout.length=is.length+m) (hi:is.Nodup) (hO:okOut Sout.length Sout=true) (hmu:mutOut (Sout.drop is.length)=true)
    (hw:aJ all sl ⟨some d,.call ⟨.value f,args.toArray,ats⟩,ty,pos,after,g⟩=some true)
    (h:∀ν:Nat->Nm,aV none C all K rest (upd sl d (ren (l.map (·.1)++(List.range m).map ν) r))
      (setH H (outs (l.map (·.1)++(List.range m).map ν) is (l.map (·.1)) Sout)++news (l.map (·.1)++(List.range m).map ν) ((List.range m).map ν) (Sout.drop is.length))) :
    aV none C all K (⟨some d,.call ⟨.value f,args.toArray,ats⟩,ty,pos,after,g⟩::rest) sl H:=by
  have hn':(args.map (ev sl)++caps).flatMap frz=[]:=by
    cases hx:(args.map (ev sl)++caps).flatMap frz with
    | nil=>rfl
    | cons a b=>rw [hx]at hn;simp at hn
  obtain ⟨hll,hlg⟩:=kW hl
  have hsl:Sin.length=l.length:=by have:=congrArg List.length hS;simpa using this
  refine Hg hw (λS tk K' ok ag hk=>mO hf ?_)
  have h:=h (λj=>(d+100000*j,tk))
  have hnd:=rO ag hi hl
  refine .inl ⟨hb,⟨[],l.map (·.1),args0,Sin,r,Sout,false⟩,?_,(λe=>by cases e),?_⟩
  · exact { does := hc
            args:=ArgsOK.of_map <| by
              show (args.map (ev sl)++caps).map (co S)=_
              rw [Ay hn',ha]
            okA:=by simp only [List.length_map,hll];exact hok
            nodup:=hnd
            ins:=by
              refine qI (by simp [hsl]) (λj h1 h2=>⟨?_,?_⟩)
              · simp only [List.length_map,hll]
                exact List.all_eq_true.1 hSok _ (List.getElem_mem h2)
              · simp only [List.length_map]at h1
                have e:=hlg j (by omega) h1
                have e2:l[j].2=Sin[j].ren (l.map (·.1)):=by
                  have:=congrArg (λx=>x[j]?) hS
                  simp only [List.getElem?_map,List.getElem?_eq_getElem h2,List.getElem?_eq_getElem h1,Option.map_some,so_]at this
                  exact this.symm
                simp only [List.getElem_map]
                show S l[j].1=_
                rw [ag.get e,e2]
            len:=by rw [hsl,hlen,hll];omega
            okR:=hr,okO:=hO,mutN:=by rw [hsl,hll];exact hmu
            roOK:=(λe=>by cases e),have_:=(λn hn=>nomatch hn),cov:=(λn h'=>by rw [hn']at h';cases h'),dis:=(λn _ hn=>nomatch hn) }
  · have hdm:Sout.length-Sin.length=m:=by omega
    have e1:CallData.eff ⟨[],l.map (·.1),args0,Sin,r,Sout,false⟩ S d tk=⟨((l.map (·.1)).zip Sin).map (λp=>(p.1,p.2.ren (l.map (·.1)))),bJ (l.map (·.1)++jq d tk m) (l.map (·.1)++jq d tk m) Sout,ren (l.map (·.1)++jq d tk m) r⟩:=by
      simp only [CallData.eff,cond_false,CallData.names,hdm,dW,dX,List.nil_append]
    show K' (CallData.eff _ S d tk)
    rw [e1]
    refine hk _ _ ?_ h
    have e2:(List.range m).map (λj=>(d+100000*j,tk))=jq d tk m:=rfl
    rw [e2]
    show AgR _ (dn S (bJ _ (l.map (·.1)++jq d tk m) Sout)) tk rest
    rw [wP,ul]
    have e3:(l.map (·.1)).length=is.length:=by simp [hll]
    rw [e3]
    have ag1:=xD (ν:=l.map (·.1)++jq d tk m) ag hi hnd (bs:=Sout) (λj h1 h2=>by
      simp only [List.length_map]at h2
      exact⟨_,by simp only [List.getElem_map];exact hlg j h1 h2⟩)
    rw [List.take_of_length_le (by omega)]at ag1
    have e4:jq d tk m=(List.range' 0 m).map λj=>(d+100000*j,tk):=by rw [<- e2,De]
    rw [e4]at ag1 ⊢
    exact AgR.news ok rfl m 0 ⟨ag1.nd,ag1.pos⟩ (λp hp=>⟨.inl (ag1.at_ p hp).1,(ag1.at_ p hp).2⟩)
theorem rU {ν:List Nm}:∀{ns:List Nm} {bs:List (Option Box)} {p:Nm×Option Box},p∈bJ ν ns bs->p.1∈ns
  | n::ns,b::bs,p,h=>by
    rcases List.mem_cons.1 h with rfl|h
    · simp
    · exact List.mem_cons_of_mem _ (rU h)
  | [],_,_,h=>by simp [bJ]at h
  | _::_,[],_,h=>by simp [bJ]at h
theorem yf:∀{is:List Nat} {l:List (Nm×Box)},gp H is=some l->∀m∈l.map (·.1),m∈H.map (·.1)
  | [],l,h,m,hm=>by simp only [gp,so_]at h;subst h;cases hm
  | i::is,l,h,m,hm=>by
    simp only [gp]at h
    split at h
    · rename_i n b l' h1 h2
      simp only [so_]at h;subst h
      simp only [List.map_cons,List.mem_cons]at hm
      rcases hm with rfl|hm
      · exact vW h1 _ (by simp)
      · exact yf h2 m hm
    · cases h
theorem aS {f:Operand} {args:List Operand} {ats:Array TypeId} {fn:FuncId} {caps args0:List V} {r:V} {Sin:List Box} {Sout:List (Option Box)} (p:Nat) (is:List Nat) {l:List (Nm×Box)} (hp:q=none\/Nat.beq all.length (p+(rest.length+1))=true)
    (hfp:∀S tk,AgR H S tk (⟨some d,.call ⟨.value f,args.toArray,ats⟩,ty,pos,after,g⟩::rest)->okQ q all p (l.map (·.1)) true) (hc:FnM C.P fn args0 Sin r Sout)
    (hf:ev sl f = .fn fn caps) (hb:aF C.P fn=true) (hl:gp H is=some l) (hS:Sin.map (λb=>b.ren (l.map (·.1)))=l.map (·.2)) (hSok:Sin.all (λb=>b.ok is.length)=true)
    (hn:((args.map (ev sl)++caps).flatMap frz).all (λn=>false)=true) (ha:(args.map (ev sl)++caps).map co0=renL (l.map (·.1)) args0) (hok:okL is.length args0=true) (hr:okV Sout.length r=true)
    (hlen:Sout.length=is.length) (hi:is.Nodup) (hO:okOut Sout.length Sout=true)
    (hw:aJ all sl ⟨some d,.call ⟨.value f,args.toArray,ats⟩,ty,pos,after,g⟩=some true)
    (v:V) (hv:ren (l.map (·.1)) r=v) (H':Hp) (hH:setH H (outs (l.map (·.1)) is (l.map (·.1)) Sout)=H')
    (h:aV (lK q p (l.map (·.1)) true) C all K rest (upd sl d v) H') :
    aV q C all K (⟨some d,.call ⟨.value f,args.toArray,ats⟩,ty,pos,after,g⟩::rest) sl H:=by
  subst hv hH
  have hn':(args.map (ev sl)++caps).flatMap frz=[]:=by
    cases hx:(args.map (ev sl)++caps).flatMap frz with
    | nil=>rfl
    | cons a b=>rw [hx]at hn;simp at hn
  obtain ⟨hll,hlg⟩:=kW hl
  have hsl:Sin.length=l.length:=by have:=congrArg List.length hS;simpa using this
  refine nG p (l.map (·.1)) true hp hfp (yf hl) hw (λS tk K' ok ag hk=>mO hf ?_)
  have hnd:=rO ag hi hl
  refine .inl ⟨hb,⟨[],l.map (·.1),args0,Sin,r,Sout,false⟩,?_,(λe=>by cases e),?_⟩
  · exact { does := hc
            args:=ArgsOK.of_map <| by
              show (args.map (ev sl)++caps).map (co S)=_
              rw [Ay hn',ha]
            okA:=by simp only [List.length_map,hll];exact hok
            nodup:=hnd
            ins:=by
              refine qI (by simp [hsl]) (λj h1 h2=>⟨?_,?_⟩)
              · simp only [List.length_map,hll]
                exact List.all_eq_true.1 hSok _ (List.getElem_mem h2)
              · simp only [List.length_map]at h1
                have e:=hlg j (by omega) h1
                have e2:l[j].2=Sin[j].ren (l.map (·.1)):=by
                  have:=congrArg (λx=>x[j]?) hS
                  simp only [List.getElem?_map,List.getElem?_eq_getElem h2,List.getElem?_eq_getElem h1,Option.map_some,so_]at this
                  exact this.symm
                simp only [List.getElem_map]
                show S l[j].1=_
                rw [ag.get e,e2]
            len:=by show Sin.length<=Sout.length;omega
            okR:=hr,okO:=hO,mutN:=by show mutOut (List.drop Sin.length Sout)=true;rw [List.drop_of_length_le (by omega)];rfl
            roOK:=(λe=>by cases e),have_:=(λn hn=>nomatch hn),cov:=(λn h'=>by rw [hn']at h';cases h'),dis:=(λn _ hn=>nomatch hn) }
  · have hdm:Sout.length-Sin.length=0:=by omega
    have e1:CallData.eff ⟨[],l.map (·.1),args0,Sin,r,Sout,false⟩ S d tk=⟨((l.map (·.1)).zip Sin).map (λp=>(p.1,p.2.ren (l.map (·.1)))),bJ (l.map (·.1)) (l.map (·.1)) Sout,ren (l.map (·.1)) r⟩:=by
      simp only [CallData.eff,cond_false,CallData.names,hdm,jq,List.range_zero,List.map_nil,List.append_nil,dW,dX,List.nil_append]
    show K' (CallData.eff _ S d tk)
    rw [e1]
    refine hk _ _ ⟨λx hx => ?_,λx hx=>rU hx⟩ (λh=>by cases h) ?_ h
    · obtain ⟨y,hy,rfl⟩:=List.mem_map.1 hx
      exact (List.of_mem_zip hy).1
    · have e3:(l.map (·.1)).length=is.length:=by simp [hll]
      have ag1:=xD (ν:=l.map (·.1)) ag hi hnd (bs:=Sout) (λj h1 h2=>by
        simp only [List.length_map]at h2
        exact⟨_,by simp only [List.getElem_map];exact hlg j h1 h2⟩)
      rw [List.take_of_length_le (by omega)]at ag1
      exact ag1.tail
end
end Go.Eng

/-
  THE ENGINE: what may be known anew between operations; a function's end and its contract; loops over a list.
-/
namespace Go.Eng
set_option linter.unusedSectionVars false
variable [DM]
set_option linter.unusedVariables false
set_option linter.unusedSimpArgs false
section
variable {C:Cfg} {sl:Nat->V} {H:Hp} {Q:QH} {c:Code}
theorem Ag.get {S:Store} {tk:Nat} (ag:Ag H S tk) {i:Nat} {n:Nm} {b:Box} (h:H[i]? = some (n,some b)):S n=some b :=
 (ag.at_ _ (List.mem_of_getElem? h)).2 b rfl
theorem Ag.set {S:Store} {tk:Nat} (ag:Ag H S tk) {i:Nat} {n:Nm} {b0 b b':Option Box} (h:H[i]? = some (n,b0)) (hb:∀x,b=some x->b'=some x):Ag (H.set i (n,b)) (supd S n b') tk:=by
 have hi:i<H.length:=(List.getElem?_eq_some_iff.1 h).1
 have he:H[i]=(n,b0):=(List.getElem?_eq_some_iff.1 h).2
 have hm:(H.set i (n,b)).map (·.1)=H.map (·.1):=by
  apply List.ext_getElem
  ·simp
  ·intro j h1 h2
   simp only [List.getElem_map,List.getElem_set]
   split
   ·rename_i e;subst e;rw [he]
   ·rfl
 refine⟨ag.pos,by rw [hm];exact ag.nd,λp hp => ?_⟩
 obtain ⟨j,hj,rfl⟩:=List.getElem_of_mem hp
 simp only [List.length_set]at hj
 simp only [List.getElem_set]
 split
 ·rename_i e;subst e
  have:=ag.at_ (n,b0) (by rw [<- he];exact List.getElem_mem hi)
  exact⟨this.1,λx hx=>by simp only [supd,if_true];exact hb x hx⟩
 ·rename_i e
  have h1:=ag.at_ H[j] (List.getElem_mem hj)
  refine⟨h1.1,λx hx => ?_⟩
  have hne:H[j].1≠n:=λhne=>e (iC ag.nd i j (by simpa using hi) (by simpa using hj) (by simp [he,hne]))
  simp only [supd,if_neg hne]
  exact h1.2 x hx
theorem Ag.drop {S:Store} {tk:Nat} (ag:Ag H S tk) {i:Nat} {n:Nm} {b0:Option Box} (h:H[i]? = some (n,b0)):Ag (H.set i (n,none)) S tk:=by
 have hi:i<H.length:=(List.getElem?_eq_some_iff.1 h).1
 have he:H[i]=(n,b0):=(List.getElem?_eq_some_iff.1 h).2
 have hm:(H.set i (n,none)).map (·.1)=H.map (·.1):=by
  apply List.ext_getElem
  ·simp
  ·intro j h1 h2
   simp only [List.getElem_map,List.getElem_set]
   split
   ·rename_i e;subst e;rw [he]
   ·rfl
 refine⟨ag.pos,by rw [hm];exact ag.nd,λp hp => ?_⟩
 obtain ⟨j,hj,rfl⟩:=List.getElem_of_mem hp
 simp only [List.length_set]at hj
 simp only [List.getElem_set]
 split
 ·rename_i e;subst e
  have:=ag.at_ (n,b0) (by rw [<- he];exact List.getElem_mem hi)
  exact⟨this.1,λx hx=>by cases hx⟩
 ·exact ag.at_ H[j] (List.getElem_mem hj)
theorem I6 {i:Nat} {n:Nm} {b0:Option Box} (h:H[i]? = some (n,b0)) (hw:wH C c Q sl (H.set i (n,none))):wH C c Q sl H :=
 oh hw (λS t ag=>⟨S,.refl _,ag.drop h⟩)
theorem freeze1 {S:Store} {n:Nm} {sz:Nat} {ys:List (List D)} (h:S n=some (.vec sz ys)):freezeAll S [n]=supd S n (some (.froz sz ys)):=by
 simp [freezeAll,dX,h,dn]
theorem ni (h:∀n:Nm,wH C c Q sl (H++[(n,none)])):wH C c Q sl H:=λok S t ag=>by
 have hex:∃m:Nat,∀p∈H,p.1.1<m:=by
  clear h ag
  induction H with
  | nil=>exact⟨0,λp hp=>by cases hp⟩
  | cons x H ih =>
   obtain ⟨m,hm⟩:=ih
   refine⟨max m (x.1.1+1),λp hp => ?_⟩
   rcases List.mem_cons.1 hp with rfl|hp
   ·omega
   ·have:=hm p hp;omega
 obtain ⟨m,hm⟩:=hex
 refine h (m,0) ok S t ⟨ag.pos,?_,λp hp => ?_⟩
 ·rw [List.map_append,List.nodup_append]
  refine⟨ag.nd,by simp,λa ha b hb e => ?_⟩
  simp only [List.map_cons,List.map_nil,List.mem_singleton]at hb
  obtain ⟨p,hp,rfl⟩:=List.mem_map.1 ha
  have:=hm p hp
  rw [e,hb]at this
  exact Nat.lt_irrefl _ this
 ·rcases List.mem_append.1 hp with hp|hp
  ·exact ag.at_ p hp
  ·simp only [List.mem_singleton]at hp
   subst hp
   exact⟨ag.pos,λx hx=>by cases hx⟩
theorem qf {ν:List Nm} {i:Nat} {n:Nm} (h:ν[i]? = some n):nR ν (ak i)=n:=by
 simp only [nR,fU,List.getD_eq_getElem?_getD,h,Option.getD_some]
theorem DW {α:Type} {ν:List Nm} {n:Nm} {sz:Nat} (xs:List α):ren ν (gV n sz xs)=gV (nR ν n) sz xs:=by cases xs <;> rfl
theorem wL {α:Type} {k i sz:Nat} (h:i<k) (xs:List α):okV k (gV (ak i) sz xs)=true:=by
 cases xs with
 | nil=>rfl
 | cons x xs=>exact jR h
def resC (C:Cfg) (sl:Nat->V) (H:Hp) (a t:Nat) (v:V):Prop:=∃(k:Nat) (n:Nm) (i j sz size:Nat) (cs:List V) (agg:Bool),
 sl a = .ref n i j/\H[k]? = some (n,some (.cells sz cs))/\szT C.P t=some size/\cO C.P t=agg/\rdV agg size (cs.drop (i*sz+j))=some v
def zD (C:Cfg) (sl:Nat->V) (H:Hp):List ResultVar->List V->Prop
 | [],[]=>True
 | .tmp t::rs,v::vs=>sl t=v/\zD C sl H rs vs
 | .cell a t::rs,v::vs=>resC C sl H a t v/\zD C sl H rs vs
 | _,_=>False
theorem zT {S:Store} {tk:Nat} (ag:Ag H S tk):∀{rs:List ResultVar} {vs:List V},zD C sl H rs vs->zC C ⟨sl,S,tk⟩ rs=some vs
 | [],[],_=>rfl
 | .tmp t::rs,v::vs,h=>by
  obtain ⟨rfl,h⟩:=h
  simp only [zC,zT ag h,Option.map_some]
 | .cell a t::rs,v::vs,h=>by
  obtain ⟨⟨k,n,i,j,sz,size,cs,agg,h1,h2,h3,h4,h5⟩,h⟩:=h
  have e:pW C.P t S (sl a)=some ⟨[(n,.cells sz cs)],[],v⟩:=by
   rw [h1,yu h3 h4,ag.get h2]
   simp only [FP,h5,Option.map_some]
  simp only [zC,e,zT ag h]
 | [],_::_,h=>h.elim
 | .tmp _::_,[],h=>h.elim
 | .cell _ _::_,[],h=>h.elim
def CoOK (H:Hp) (v v':V):Prop:=v'=v\/∀S t,Ag H S t->v'=co S v
theorem fB {v v':V} (h:frz v=[]) (h2:co0 v=v'):CoOK H v v' := .inr λS t _=>by rw [co_0 h,h2]
inductive CoL (H:Hp):List V->List V->Prop
 | nil:CoL H [] []
 | cons {v v':V} {vs vs':List V} (h:CoOK H v v') (hs:CoL H vs vs'):CoL H (v::vs) (v'::vs')
theorem CoL.get {vs vs':List V} (h:CoL H vs vs'):vs.length=vs'.length/\∀(i:Nat) (h1:i<vs.length) (h2:i<vs'.length),CoOK H vs[i] vs'[i]:=by
 induction h with
 | nil=>exact⟨rfl,λi h1=>absurd h1 (Nat.not_lt_zero i)⟩
 | cons h _ ih =>
  refine⟨by simp [ih.1],λi h1 h2 => ?_⟩
  cases i with
  | zero=>exact h
  | succ i=>exact ih.2 i (by simpa using h1) (by simpa using h2)
def wu (H:Hp) (ν:List Nm):List Nat->List Nm->List (Option Box)->Prop
 | [],[],[]=>True
 | j::js,n::ns,b::bs=>H[j]? = some (n,b.map (·.ren ν))/\wu H ν js ns bs
 | _,_,_=>False
theorem xh {ν:List Nm}:∀{js:List Nat} {ns:List Nm} {bs:List (Option Box)},wu H ν js ns bs->js.length=ns.length/\ns.length=bs.length
 | [],[],[],_=>⟨rfl,rfl⟩
 | _::_,_::_,_::_,h=>⟨by simp [(xh h.2).1],by simp [(xh h.2).2]⟩
 | [],_::_,_,h=>h.elim
 | [],[],_::_,h=>h.elim
 | _::_,[],_,h=>h.elim
 | _::_,_::_,[],h=>h.elim
theorem tT {ν:List Nm}:∀{js:List Nat} {ns:List Nm} {bs:List (Option Box)} (_:wu H ν js ns bs) (i:Nat) (h1:i<js.length) (h2:i<ns.length) (h3:i<bs.length),H[js[i]]? = some (ns[i],bs[i].map (·.ren ν))
 | _::_,_::_,_::_,h,0,_,_,_=>h.1
 | _::_,_::_,_::_,h,i+1,h1,h2,h3=>tT h.2 i (by simpa using h1) (by simpa using h2) (by simpa using h3)
def xN (C:Cfg) (rs:List ResultVar) (k:Nat) (r:V) (Sout:List (Option Box)):QH:=λe sl H=>(e = .normal\/e = .ret) /\
 ∃(vs vs':List V) (js:List Nat) (ν:List Nm),zD C sl H rs vs/\CoL H vs vs'/\wF vs'=ren ν r/\wu H ν js ν Sout/\js.Nodup/\(∀i,i<k->ν[i]? = some (ak i))
theorem Jq {rs:List ResultVar} {k:Nat} {r:V} {Sout:List (Option Box)} {e:Exit} {σ:St} (h:Gs (xN C rs k r Sout) e σ):MH C rs (Jc k r Sout) e σ:=by
 obtain ⟨H,ag,he,vs,vs',js,ν,h1,h2,h3,h4,h5,h6⟩:=h
 obtain ⟨l1,l2⟩:=xh h4
 obtain ⟨c1,c2⟩:=h2.get
 have hnd:ν.Nodup:=by
  refine List.pairwise_iff_getElem.2 (λa b ha hb hab e => ?_)
  have ea:=List.getElem?_eq_some_iff.1 (tT h4 a (by omega) ha (by omega))
  have eb:=List.getElem?_eq_some_iff.1 (tT h4 b (by omega) hb (by omega))
  have:=iC ag.nd js[a] js[b] (by simpa using ea.1) (by simpa using eb.1) (by simp [ea.2,eb.2,e])
  have:=iC h5 a b (by omega) (by omega) this
  omega
 have fin:Jc k r Sout vs σ.store:=⟨vs',ν,c1,λi q1 q2=>(c2 i q1 q2).imp id (λh=>h _ _ ag),h3,l2,hnd,h6,λi bx hb=>by
  obtain ⟨hi,hb'⟩:=List.getElem?_eq_some_iff.1 hb
  have:=tT h4 i (by omega) (by omega) hi
  rw [hb']at this
  exact⟨ν[i],List.getElem?_eq_getElem (by omega),ag.get this⟩⟩
 have hres:zC C σ rs=some vs:=zT ag h1
 rcases he with rfl|rfl
 ·exact⟨vs,hres,fin⟩
 ·exact⟨vs,hres,fin⟩
theorem fin0 {rs:List ResultVar} {r:V} {e:Exit} (he:e = .normal\/e = .ret) (vs:List V) (h1:zD C sl H rs vs) (h2:(vs.flatMap frz).all (λ_=>false)=true) (h3:wF (vs.map co0)=r) (hr:okV 0 r=true):xN C rs 0 r [] e sl H:=by
 have hn:vs.flatMap frz=[]:=by
  cases hx:vs.flatMap frz with
  | nil=>rfl
  | cons a b=>rw [hx]at h2;simp at h2
 have hc:∀{vs:List V},vs.flatMap frz=[]->CoL H vs (vs.map co0):=by
  intro vs
  induction vs with
  | nil=>exact λ_ => .nil
  | cons v vs ih=>exact λh => .cons (fB (o5 h v (by simp)) rfl) (ih (by simp only [List.flatMap_cons,List.append_eq_nil_iff]at h;exact h.2))
 exact⟨he,vs,_,[],[],h1,hc hn,by rw [h3,o9 hr],trivial,List.nodup_nil,λi hi=>absurd hi (Nat.not_lt_zero i)⟩
theorem rD {rs:List ResultVar} {k:Nat} {r:V} {Sout:List (Option Box)} {e:Exit} (he:e = .normal\/e = .ret) (vs vs':List V) (js:List Nat) (ν:List Nm) (h1:zD C sl H rs vs) (h2:CoL H vs vs') (h3:wF vs'=ren ν r)
  (h4:wu H ν js ν Sout) (h5:js.Nodup) (h6:(ν.take k)=(List.range k).map ak):xN C rs k r Sout e sl H :=
 ⟨he,vs,vs',js,ν,h1,h2,h3,h4,h5,λi hi=>by
  have:(ν.take k)[i]? = ((List.range k).map ak)[i]? := by rw [h6]
  rw [List.getElem?_take,if_pos hi]at this
  rw [this];simp [hi]⟩
def jF:Nat->List Box->Hp
 | _,[]=>[]
 | i,b::bs=>(ak i,some b)::jF (i+1) bs
theorem oM:∀{bs:List Box} {i:Nat} {p:Nm×Option Box},p∈jF i bs->∃j b,p=(ak (i+j),some b)/\bs[j]? = some b
 | b::bs,i,p,h=>by
  rcases List.mem_cons.1 h with rfl|h
  ·exact⟨0,b,rfl,rfl⟩
  ·obtain ⟨j,b',h1,h2⟩:=oM h
   exact⟨j+1,b',by rw [h1];congr 2;omega,by simpa using h2⟩
theorem AO:∀(bs:List Box) (i:Nat),((jF i bs).map (·.1)).Nodup
 | [],_=>List.nodup_nil
 | b::bs,i=>by
  refine List.nodup_cons.2 ⟨λh => ?_,AO bs (i+1)⟩
  obtain ⟨p,hp,he⟩:=List.mem_map.1 h
  obtain ⟨j,b',h1,_⟩:=oM hp
  rw [h1]at he
  simp only [ak,Prod.mk.injEq,and_true]at he
  omega
theorem FnM.of_wH {P:Program} {f:FuncId} {fn:Func} {body:Code} (C:Cfg) (hP:C.P=P) (hf:P.funcs[f]? = some fn) (hb:fn.body=some body) (hn:C.n=fn.ntmps)
  {args:List V} {Sin:List Box} {r:V} {Sout:List (Option Box)} (hl:args.length<=fn.ntmps) (hok:lV C body=true)
  (h:wH C body (xN C fn.results.toList Sin.length r Sout) (y7 args) (jF 0 Sin)):FnM P f args Sin r Sout:=by
 refine FnM.of_wpD' hf hb hP hn hl ?_
 obtain ⟨σ',hg,hw⟩:=h hok (bG Sin) 1 ⟨Nat.one_pos,AO _ _,λp hp=>by
  obtain ⟨j,b,rfl,hb⟩:=oM hp
  refine⟨Nat.one_pos,λx hx => ?_⟩
  simp only [so_]at hx
  subst hx
  rw [jC,Nat.zero_add];exact hb⟩
 exact⟨σ',hg,ja body (λe σ h=>Jq h) hw⟩
end
end Go.Eng

/-
  THE PLAIN FORMS: how a round ends, loops over a list, loops in general; and what a walk asks of them.
-/
namespace Go.Eng
set_option linter.unusedSectionVars false
variable [DM]
set_option linter.unusedVariables false
inductive Ctl (σ ρ:Type) where
 | go (s:σ)
 | brk (s:σ)
 | ret (r:ρ)
def forR {α σ ρ:Type} (body:Nat->α->σ->Option (Ctl σ ρ)):List α->Nat->σ->Option (Ctl σ ρ)
 | [],_,s=>some (.go s)
 | x::xs,k,s=>(body k x s).bind λc=>match c with
  | .go s'=>forR body xs (k+1) s'
  | .brk s'=>some (.go s')
  | .ret r=>some (.ret r)
def forL {α σ ρ:Type} (xs:List α) (s:σ) (body:Nat->α->σ->Option (Ctl σ ρ)):Option (Ctl σ ρ):=if xs.length<=1000000000000 then forR body xs 0 s else none
def iterN {σ ρ:Type} (body:σ->Option (Ctl σ ρ)):Nat->σ->Option (Ctl σ ρ)
 | 0,_=>none
 | n+1,s=>(body s).bind λc=>match c with
  | .go s'=>iterN body n s'
  | .brk s'=>some (.go s')
  | .ret r=>some (.ret r)
open Classical in
noncomputable def l8 {σ ρ:Type} (s:σ) (body:σ->Option (Ctl σ ρ)):Option (Ctl σ ρ):=if h:∃n o,iterN body n s=some o then some h.choose_spec.choose else none
theorem lU {σ ρ:Type} {s:σ} {body:σ->Option (Ctl σ ρ)} {o:Ctl σ ρ} (h:l8 s body=some o):∃n,iterN body n s=some o:=by
 unfold l8 at h
 split at h
 ·rename_i hx
  simp only [so_]at h
  exact⟨hx.choose,by rw [hx.choose_spec.choose_spec,h]⟩
 ·cases h
theorem wU {σ ρ:Type} {body:σ->Option (Ctl σ ρ)}:∀{n:Nat} {s:σ} {o:Ctl σ ρ} (m:Nat),iterN body n s=some o->n<=m->iterN body m s=some o
 | 0,_,_,_,h,_=>by cases h
 | n+1,s,o,0,h,hm=>by omega
 | n+1,s,o,m+1,h,hm=>by
  simp only [iterN,Option.bind_eq_some_iff]at h ⊢
  obtain ⟨c,h1,h2⟩:=h
  refine⟨c,h1,?_⟩
  cases c with
  | go s'=>exact wU m h2 (by omega)
  | brk s'=>exact h2
  | ret r=>exact h2
theorem jd {σ ρ:Type} {s:σ} {body:σ->Option (Ctl σ ρ)} {o:Ctl σ ρ} {n:Nat} (h:iterN body n s=some o):l8 s body=some o:=by
 have hx:∃n o,iterN body n s=some o:=⟨n,o,h⟩
 unfold l8
 rw [dif_pos hx]
 have h1:=hx.choose_spec.choose_spec
 have h2:=wU (max n hx.choose) h1 (Nat.le_max_right _ _)
 rw [wU (max n hx.choose) h (Nat.le_max_left _ _)]at h2
 exact h2.symm
theorem bind_some {α β:Type} {x:Option α} {f:α->Option β} {r:β} (h:x.bind f=some r):∃a,x=some a/\f a=some r:=Option.bind_eq_some_iff.1 h
theorem aj {α:Type} {c:Bool} {x y:Option α} {r:α} (h:(bif c then x else y)=some r):(c=true/\x=some r)\/(c=false/\y=some r):=by
 cases c with
 | true=>exact .inl ⟨rfl,h⟩
 | false=>exact .inr ⟨rfl,h⟩
theorem bu {α σ ρ:Type} {xs:List α} {s:σ} {body:Nat->α->σ->Option (Ctl σ ρ)} {o:Ctl σ ρ} (h:forL xs s body=some o):xs.length<=1000000000000/\forR body xs 0 s=some o:=by
 unfold forL at h
 split at h
 ·exact⟨‹_›,h⟩
 ·cases h
theorem drop_nil {α:Type} {xs:List α} {k:Nat} (h:xs.drop k=[]):decide ((k:Int)<(xs.length:Int))=false:=by
 have:=List.drop_eq_nil_iff.1 h
 simp;omega
theorem zS {α:Type} {xs l:List α} {x:α} {k:Nat} (h:xs.drop k=x::l):k<xs.length:=by
 have h1:(xs.drop k).length=(x::l).length:=by rw [h]
 simp at h1;omega
theorem bL {α:Type} {xs l:List α} {x:α} {k:Nat} (h:xs.drop k=x::l):decide ((k:Int)<(xs.length:Int))=true:=by
 have:=zS h
 simp;omega
theorem dh {α:Type} {xs l:List α} {x:α} {k:Nat} (h:xs.drop k=x::l):idx xs (k:Int)=some x:=by
 have h1:(xs.drop k)[0]? = some x:=by rw [h];rfl
 rw [List.getElem?_drop]at h1
 simp only [idx]
 rw [if_pos (by omega)]
 simpa using h1
theorem Fa {α:Type} {xs l:List α} {x:α} {k:Nat} (h:xs.drop k=x::l):xs[k]? = some x:=by
 have h1:(xs.drop k)[0]? = some x:=by rw [h];rfl
 rw [List.getElem?_drop]at h1
 simpa using h1
theorem bn {α:Type} {xs l:List α} {x:α} {k:Nat} (h:xs.drop k=x::l):xs.drop (k+1)=l:=by
 have h1:(xs.drop k).drop 1=l:=by rw [h];rfl
 rwa [List.drop_drop]at h1
theorem AB (n:Int) (h : -9223372036854775808<=n/\n<=9223372036854775807):w64 n=n:=IntWalk.i64_in n h
theorem cZ {α:Type} {xs l:List α} {x:α} {k:Nat} (h:xs.drop k=x::l) (hl:xs.length<=1000000000000):w64 ((k:Int)+1)=((k+1:Nat):Int):=by
 have:=zS h
 rw [AB _ (by omega)];omega
theorem gY {C:Cfg} {sl:Nat->V} {H:Hp} {q:Qm} {all rest:List Oper} {K:(Nat->V)->Hp->Prop} {dst:Option Tmp} {ty:TypeId} {pos:String} {after:Array Edge} {g:Option (Nat×Bool)} {op:Op} {a b:Int} (e:w64 a=b)
  (hw:aJ all sl ⟨dst,op,ty,pos,after,g⟩=some true) (hv:BH C sl op=some (vI (w64 a))) (h:aV q C all K rest (dI sl dst (vI b)) H):aV q C all K (⟨dst,op,ty,pos,after,g⟩::rest) sl H :=
 aH _ hw hv (by rw [e];exact h)
end Go.Eng

/-
  THE ENGINE: what the printed proofs use besides.
-/
namespace Go.Eng
set_option linter.unusedSectionVars false
variable [DM]
set_option linter.unusedVariables false
set_option linter.unusedSimpArgs false
def eK (k:IntKind) (n:Int):List D:=[.int k n]
def eL {α:Type} (enc:α->List D) (xs:List α):List D:=[dl enc xs]
abbrev sEq (a b:ByteArray):Bool:=a.toList==b.toList
abbrev sNe (a b:ByteArray):Bool := !(a.toList==b.toList)
abbrev sLt (a b:ByteArray):Bool:=Op.bytesLess a.toList b.toList
abbrev sLe (a b:ByteArray):Bool:=Op.bytesLess a.toList b.toList||a.toList==b.toList
def quoO (k:IntKind) (a b:Int):Option Int:=if b=0 then none else some (k.wrap (a.tdiv b))
def JV (k:IntKind) (a b:Int):Option Int:=if b=0 then none else some (a.tmod b)
def Mj (k:IntKind) (a b:Int):Option Int:=if b<0 then none else some (a.fdiv (2 ^ (min b.toNat k.bits)))
def tJ (s:ByteArray) (i:Int):Option UInt8:=if 0<=i then s[i.toNat]? else none
def mU (s:ByteArray) (lo hi:Int):Option ByteArray:=if 0<=lo/\0<=hi/\lo.toNat<=hi.toNat/\hi.toNat<=s.size then some (s.extract lo.toNat hi.toNat)else none
def pu {α:Type} (xs:List α) (lo hi:Int):Option (List α):=if 0<=lo/\0<=hi/\lo.toNat<=hi.toNat/\hi.toNat<=xs.length then some ((xs.take hi.toNat).drop lo.toNat)else none
def inR {α:Type} (i:Int) (xs:List α):Option Unit:=if 0<=i/\i.toNat<xs.length then some ()else none
theorem qA {α:Type} {i:Int} {xs:List α} {u:Unit} (h:inR i xs=some u):0<=i:=by
  unfold inR at h;split at h
  · rename_i h1;exact h1.1
  · cases h
theorem mg {α:Type} {i:Int} {xs:List α} {u:Unit} (h:inR i xs=some u):i.toNat<xs.length:=by
  unfold inR at h;split at h
  · rename_i h1;exact h1.2
  · cases h
def thenC {σ ρ τ:Type} (o:Ctl σ ρ) (f:σ->Option τ) (g:ρ->Option τ):Option τ:=match o with
  | .go s=>f s
  | .brk _=>none
  | .ret r=>g r
theorem ru {n:Int} {k:Nat} (h:(List.range n.toNat).drop k=[]):decide ((k:Int)<n)=false:=by
  have:=List.drop_eq_nil_iff.1 h
  simp at this
  simp;omega
theorem pQ {n:Int} {k x:Nat} {l:List Nat} (h:(List.range n.toNat).drop k=x::l):decide ((k:Int)<n)=true:=by
  have:=zS h
  simp at this
  simp;omega
theorem rA {n:Int} {k x:Nat} {l:List Nat} (h:(List.range n.toNat).drop k=x::l) (hl:(List.range n.toNat).length<=1000000000000):w64 ((k:Int)+1)=((k+1:Nat):Int):=cZ h hl
theorem ae {α:Type} {a b:α} (h:some a=some b):a=b:=Option.some.inj h
theorem bU {α:Type} {a b:α} {l m:List α} (h:a=b) (h2:l=m):a::l=b::m:=by rw [h,h2]
theorem xJ {α:Type} {cs:List V} {o sz:Nat} {n:Nm} {xs:List α} (h:Nat.ble (o+1) cs.length=true):stC 1 cs o (gV n sz xs)=some (splice cs [gV n sz xs] o):=by
  cases xs with
  | nil=>simp only [stC,gV,aW,List.length_cons,List.length_nil,Nat.zero_add,h];rfl
  | cons x xs=>simp only [stC,gV,aW,List.length_cons,List.length_nil,Nat.zero_add,h];rfl
section
variable {C:Cfg} {sl:Nat->V} {H:Hp} {Q:QH} {c:Code}
theorem AC (H:Hp):pre H H:=aM List.take_length
theorem Mw {H0 H:Hp} (is:List Nat) (h:is.Nodup) (e:is.map (λi=>H[i]?)=H0.map some):pre H0 H:=⟨is,h,e⟩
theorem bD {β:Type} {env:β->List (Nat×V)} {Hs:β->Hp} {R:β->Prop} (x:β) (hR:R x) (he:pick (env x) sl=env x) (hp:pre (Hs x) H):FM env Hs R sl H:=⟨x,hR,he,hp⟩
theorem cu {env:Unit->List (Nat×V)} {Hs:Unit->Hp} (he:pick (env ()) sl=env ():=by rfl) (hp:H.take (Hs ()).length=Hs ():=by rfl):FM env Hs (λ_=>True) sl H:=bD () trivial he (aM hp)
theorem bN {β:Type} {env:β->List (Nat×V)} {Hs:β->Hp} {R:β->Prop} {m:β->Nat} {x:β} (x':β) (hR:R x') (hm:m x'<m x) (he:pick (env x') sl=env x') (hp:pre (Hs x') H):loopE env Hs R m x sl H:=⟨x',hR,hm,he,hp⟩
theorem wH_froz {α:Type} {enc:α->List D} {xs:List α} {sz:Nat} {n:Nm} (i:Nat) (h:H[i]? = some (n,some (bV sz enc xs))) (hw:wH C c Q sl (H.set i (n,some (bF sz enc xs)))):wH C c Q sl H :=
  oh hw (λS t ag=>⟨freezeAll S [n],Gst.froz ⟨sl,S,t⟩ n,by rw [freeze1 (ag.get h)];exact ag.set h (λx hx=>hx)⟩)
theorem iW {α:Type} {enc:α->List D} {xs:List α} {sz:Nat} {n:Nm} (i:Nat) (h:H[i]? = some (n,gB sz enc xs)) (hw:wH C c Q sl (H.set i (n,gF sz enc xs))):wH C c Q sl H:=by
  cases xs with
  | nil=>exact oh hw (λS t ag=>⟨S,.refl _,ag.drop h⟩)
  | cons x xs=>exact wH_froz i h hw
theorem wH_co {α:Type} {enc:α->List D} {xs:List α} {sz:Nat} {n:Nm} (k i:Nat) (hk:sl k=vV n sz xs) (h:H[i]? = some (n,some (bF sz enc xs))) (hw:wH C c Q (upd sl k (vL enc xs)) H):wH C c Q sl H :=
  oh hw (λS t ag=>⟨S,by
    have:=Gst.co ⟨sl,S,t⟩ k
    have e:co S (sl k)=vL enc xs:=by
      rw [hk]
      have hS:=ag.get h
      have h1:Nat.beq sz sz=true:=Nat.beq_refl sz
      have h2:Nat.ble xs.length xs.length=true:=Nat.ble_eq_true_of_le (Nat.le_refl _)
      have h3:(xs.map enc).take xs.length=xs.map enc:=List.take_of_length_le (by simp)
      simp [co,co1,hS,h1,h2,h3]
    simp only [e]at this
    exact this,ag⟩)
theorem ji {α:Type} {enc:α->List D} {xs:List α} {sz:Nat} {n:Nm} (k i:Nat) (hk:sl k=gV n sz xs) (h:H[i]? = some (n,gF sz enc xs)) (hw:wH C c Q (upd sl k (vL enc xs)) H):wH C c Q sl H:=by
  cases xs with
  | nil =>
    refine oh hw (λS t ag=>⟨S,?_,ag⟩)
    have:=Gst.co ⟨sl,S,t⟩ k
    have e:co S (sl k)=vL enc ([]:List α):=by rw [hk];rfl
    simp only [e]at this
    exact this
  | cons x xs=>exact wH_co k i hk h hw
theorem co_gF {α:Type} {enc:α->List D} {xs:List α} {sz i:Nat} {n:Nm} {S:Store} {t:Nat} (ag:Ag H S t) (hi:H[i]? = some (n,gF sz enc xs)):co1 S (gV n sz xs)=vL enc xs:=by
    cases xs with
    | nil=>rfl
    | cons x xs =>
      have hS:S n=some (.froz sz ((x::xs).map enc)):=ag.get hi
      have h1:Nat.beq sz sz=true:=Nat.beq_refl sz
      have h2:Nat.ble (xs.length+1) (xs.length+1)=true:=Nat.ble_eq_true_of_le (Nat.le_refl _)
      have h3:(xs.map enc).take xs.length=xs.map enc:=List.take_of_length_le (by simp)
      simp only [gV,co1,hS,h1,Nat.zero_add,List.length_cons,List.length_map,List.map_cons,h2,Bool.and_self,cond_true,List.drop_zero,List.take_succ_cons,h3]
      rfl
theorem Hw {α:Type} {enc:α->List D} {xs:List α} {sz s:Nat} {n m:Nm} {cs:List V} (i j:Nat) (cs':List V) (hi:H[i]? = some (n,gF sz enc xs)) (hj:H[j]? = some (m,some (.cells s cs)))
    (hc:∀S,co1 S (gV n sz xs)=vL enc xs->cs.map (co1 S)=cs') (hw:wH C c Q sl (H.set j (m,some (.cells s cs')))):wH C c Q sl H:=by
  refine oh hw (λS t ag => ?_)
  have hm:=ag.get hj
  have h1:co1 S (gV n sz xs)=vL enc xs:=by
    cases xs with
    | nil=>rfl
    | cons x xs =>
      have hS:S n=some (.froz sz ((x::xs).map enc)):=ag.get hi
      have h1:Nat.beq sz sz=true:=Nat.beq_refl sz
      have h2:Nat.ble (xs.length+1) (xs.length+1)=true:=Nat.ble_eq_true_of_le (Nat.le_refl _)
      have h3:(xs.map enc).take xs.length=xs.map enc:=List.take_of_length_le (by simp)
      simp only [gV,co1,hS,h1,Nat.zero_add,List.length_cons,List.length_map,List.map_cons,h2,Bool.and_self,cond_true,List.drop_zero,List.take_succ_cons,h3]
      rfl
  refine⟨supd S m (some (.cells s (cs.map (co1 S)))),Gst.coB ⟨sl,S,t⟩ m s cs hm,?_⟩
  rw [hc S h1]
  exact ag.set hj (λx hx=>hx)
end
section
variable {C:Cfg} {sl:Nat->V} {H:Hp} {q:Qm} {all rest:List Oper} {K:(Nat->V)->Hp->Prop}
variable {dst:Option Tmp} {d:Nat} {t ty:TypeId} {pos:String} {after:Array Edge} {g:Option (Nat×Bool)}
theorem BV {s e:TypeId} {x:Operand} {k k':IntKind} {n:Int} {u:TypeDesc} (h1:C.P.underlying s=some u) (h2:C.P.underlying e=some (.int k)) (hx:ev sl x = .d (.int k' n))
    (hw:aJ all sl ⟨dst,.convert s e x,ty,pos,after,g⟩=some true) (h:aV q C all K rest (dI sl dst (.d (.int k (k.wrap n)))) H):aV q C all K (⟨dst,.convert s e x,ty,pos,after,g⟩::rest) sl H :=
  aH _ hw (by show yY C.P s e (ev sl x)=_;rw [hx];simp only [yY,h1,h2]) h
theorem I9 {s e:TypeId} {x:Operand} {k0 k':IntKind} {n:Int} (h1:C.P.underlying s=some (.int k0)) (h2:C.P.underlying e=some .string) (hx:ev sl x = .d (.int k' n))
    (hw:aJ all sl ⟨dst,.convert s e x,ty,pos,after,g⟩=some true) (h:aV q C all K rest (dI sl dst (vS (Utf8.encode n))) H):aV q C all K (⟨dst,.convert s e x,ty,pos,after,g⟩::rest) sl H :=
  aH _ hw (by show yY C.P s e (ev sl x)=_;rw [hx];simp only [yY,h1,h2]) h
theorem h_quo {e e':TypeId} {x y:Operand} {k:IntKind} {a b c:Int} (hx:ev sl x = .d (.int k a)) (hy:ev sl y = .d (.int k b)) (hc:quoO k a b=some c) (hw:aJ all sl ⟨dst,.binOp .quo e x y e',ty,pos,after,g⟩=some true)
    (h:aV q C all K rest (dI sl dst (.d (.int k c))) H):aV q C all K (⟨dst,.binOp .quo e x y e',ty,pos,after,g⟩::rest) sl H :=
  aH _ hw (by
    refine uw ?_
    show pI C.P .quo e (ev sl x) (ev sl y)=_
    rw [hx,hy]
    unfold quoO at hc
    split at hc
    · cases hc
    · rename_i hb;simp only [so_]at hc;subst hc;simp [pI,G5,EH,Fb,hb]) h
theorem h_rem {e e':TypeId} {x y:Operand} {k:IntKind} {a b c:Int} (hx:ev sl x = .d (.int k a)) (hy:ev sl y = .d (.int k b)) (hc:JV k a b=some c) (hw:aJ all sl ⟨dst,.binOp .rem e x y e',ty,pos,after,g⟩=some true)
    (h:aV q C all K rest (dI sl dst (.d (.int k c))) H):aV q C all K (⟨dst,.binOp .rem e x y e',ty,pos,after,g⟩::rest) sl H :=
  aH _ hw (by
    refine uw ?_
    show pI C.P .rem e (ev sl x) (ev sl y)=_
    rw [hx,hy]
    unfold JV at hc
    split at hc
    · cases hc
    · rename_i hb;simp only [so_]at hc;subst hc;simp [pI,G5,EH,Fb,hb]) h
theorem MZ {e e':TypeId} {x y:Operand} {k k':IntKind} {a b c:Int} (hx:ev sl x = .d (.int k a)) (hy:ev sl y = .d (.int k' b)) (hc:Mj k a b=some c) (hw:aJ all sl ⟨dst,.binOp .shr e x y e',ty,pos,after,g⟩=some true)
    (h:aV q C all K rest (dI sl dst (.d (.int k c))) H):aV q C all K (⟨dst,.binOp .shr e x y e',ty,pos,after,g⟩::rest) sl H :=
  aH _ hw (by
    refine uw ?_
    show pI C.P .shr e (ev sl x) (ev sl y)=_
    rw [hx,hy]
    unfold Mj at hc
    split at hc
    · cases hc
    · rename_i hb;simp only [so_]at hc;subst hc;simp [pI,G5,EH,shOp,hb]) h
theorem gq {e e':TypeId} {x y:Operand} {a b c:ByteArray} (hx:ev sl x=vS a) (hy:ev sl y=vS b) (hc:eH a b=some c) (hw:aJ all sl ⟨dst,.binOp .add e x y e',ty,pos,after,g⟩=some true)
    (h:aV q C all K rest (dI sl dst (vS c)) H):aV q C all K (⟨dst,.binOp .add e x y e',ty,pos,after,g⟩::rest) sl H :=
  aH _ hw (by
    refine uw ?_
    show pI C.P .add e (ev sl x) (ev sl y)=_
    rw [hx,hy]
    unfold eH at hc
    split at hc
    · cases hc
    · rename_i hb;simp only [so_]at hc;subst hc;simp only [pI,G5,JM,if_neg hb,Option.map_some]) h
def JN (P:Program) (t:TypeId):Bool:=match P.underlying t with | some (.interface _)=>true | _=>false
theorem Kj {P:Program} {t:TypeId} (h:JN P t=true):∃ms,P.underlying t=some (.interface ms):=by
  unfold JN at h
  split at h
  · rename_i ms hu;exact⟨ms,hu⟩
  · cases h
theorem h_ieq {e e':TypeId} {x y:Operand} (hu:JN C.P e=true) (hc:(zm x||zm y)=true) (hx:ev sl x = .nili) (hy:ev sl y = .nili) (hw:aJ all sl ⟨dst,.binOp .eql e x y e',ty,pos,after,g⟩=some true)
    (h:aV q C all K rest (dI sl dst (vB true)) H):aV q C all K (⟨dst,.binOp .eql e x y e',ty,pos,after,g⟩::rest) sl H:=by
  obtain ⟨ms,hu⟩:=Kj hu
  exact aH _ hw (by show y9 C.P .eql e x y (ev sl x) (ev sl y)=_;rw [hx,hy];simp only [y9,pI,G5,nilF,hu,hc,cond_true]) h
theorem Ed {e e':TypeId} {x y:Operand} {a b:Bool} (hu:C.P.underlying e=some .bool) (hx:ev sl x=vB a) (hy:ev sl y=vB b) (hw:aJ all sl ⟨dst,.binOp .neq e x y e',ty,pos,after,g⟩=some true)
    (h:aV q C all K rest (dI sl dst (vB (!(a==b)))) H):aV q C all K (⟨dst,.binOp .neq e x y e',ty,pos,after,g⟩::rest) sl H :=
  aH _ hw (by refine uw ?_;show pI C.P .neq e (ev sl x) (ev sl y)=_;rw [hx,hy];simp only [pI,hu]) h
theorem qE {x i:Operand} {s:ByteArray} {k:IntKind} {n:Int} {b:UInt8} (hu:C.P.underlying t=some .string) (hx:ev sl x=vS s) (hi:ev sl i = .d (.int k n)) (hb:tJ s n=some b) (hw:aJ all sl ⟨dst,.index t x i,ty,pos,after,g⟩=some true)
    (h:aV q C all K rest (dI sl dst (.d (.int .u8 (b.toNat:Int)))) H):aV q C all K (⟨dst,.index t x i,ty,pos,after,g⟩::rest) sl H :=
  aH _ hw (by
    show yg C.P t (ev sl x) (ev sl i)=_
    rw [hx,hi]
    unfold tJ at hb
    split at hb
    · rename_i h0;simp [yg,hu,h0,hb]
    · cases hb) h
section sub
variable {x l hi:Operand} {s r:ByteArray} {k k':IntKind} {a b:Int}
theorem Js (hu:C.P.underlying t=some .string) {lo hi:Option V} {l h:Int} (h1:qd 0 lo=some l.toNat/\0<=l) (h2:qd s.size hi=some h.toNat/\0<=h) (hr:mU s l h=some r):ou C.P t (vS s) lo hi none=some (vS r):=by
  unfold mU at hr
  split at hr
  · rename_i hc;simp only [so_]at hr;subst hr
    simp [ou,hu,h1.1,h2.1,hc.2.2.1,hc.2.2.2]
  · cases hr
theorem xA {s r:ByteArray} {l h:Int} (hr:mU s l h=some r):0<=l/\0<=h:=by
  unfold mU at hr;split at hr
  · rename_i hc;exact⟨hc.1,hc.2.1⟩
  · cases hr
theorem JO {d:Nat} {k:IntKind} {a:Int} (h:0<=a):qd d (some (.d (.int k a)))=some a.toNat:=by simp [qd,h]
theorem jl (hu:C.P.underlying t=some .string) (hx:ev sl x=vS s) (hl:ev sl l = .d (.int k a)) (hr:mU s a s.size=some r) (hw:aJ all sl ⟨dst,.slice t x (some l) none none,ty,pos,after,g⟩=some true)
    (h:aV q C all K rest (dI sl dst (vS r)) H):aV q C all K (⟨dst,.slice t x (some l) none none,ty,pos,after,g⟩::rest) sl H :=
  aH _ hw (by
    show ou C.P t (ev sl x) (some (ev sl l)) none none=_
    rw [hx,hl];exact Js hu ⟨JO (xA hr).1,(xA hr).1⟩ ⟨rfl,(xA hr).2⟩ hr) h
theorem jh (hu:C.P.underlying t=some .string) (hx:ev sl x=vS s) (hh:ev sl hi = .d (.int k' b)) (hr:mU s 0 b=some r) (hw:aJ all sl ⟨dst,.slice t x none (some hi) none,ty,pos,after,g⟩=some true)
    (h:aV q C all K rest (dI sl dst (vS r)) H):aV q C all K (⟨dst,.slice t x none (some hi) none,ty,pos,after,g⟩::rest) sl H :=
  aH _ hw (by
    show ou C.P t (ev sl x) none (some (ev sl hi)) none=_
    rw [hx,hh];exact Js hu ⟨rfl,Int.le_refl _⟩ ⟨JO (xA hr).2,(xA hr).2⟩ hr) h
variable {α:Type} {enc:α->List D} {xs ys:List α} {e:TypeId} {sz:Nat}
theorem F8 (hu:C.P.underlying t=some (.slice e)) (hs:szT C.P e=some sz) (henc:∀y,(enc y).length=sz) {lo hi:Option V} {l h:Int} (h1:qd 0 lo=some l.toNat) (h2:qd xs.length hi=some h.toNat) (hr:pu xs l h=some ys):ou C.P t (vL enc xs) lo hi none=some (vL enc ys):=by
  unfold pu at hr
  split at hr
  · rename_i hc;simp only [so_]at hr;subst hr
    have hall:=DX (sz:=sz) henc xs
    simp only [ou,hu,hs,h1,List.length_map,h2]
    rw [if_pos ⟨hc.2.2.1,hc.2.2.2,hall⟩]
    simp [List.map_drop,List.map_take]
  · cases hr
theorem F9 {l h:Int} (hr:pu xs l h=some ys):0<=l/\0<=h:=by
  unfold pu at hr;split at hr
  · rename_i hc;exact⟨hc.1,hc.2.1⟩
  · cases hr
theorem lH (hu:C.P.underlying t=some (.slice e)) (hs:szT C.P e=some sz) (henc:∀y,(enc y).length=sz) (hx:ev sl x=vL enc xs) (hl:ev sl l = .d (.int k a)) (hr:pu xs a xs.length=some ys) (hw:aJ all sl ⟨dst,.slice t x (some l) none none,ty,pos,after,g⟩=some true)
    (h:aV q C all K rest (dI sl dst (vL enc ys)) H):aV q C all K (⟨dst,.slice t x (some l) none none,ty,pos,after,g⟩::rest) sl H :=
  aH _ hw (by
    show ou C.P t (ev sl x) (some (ev sl l)) none none=_
    rw [hx,hl];exact F8 hu hs henc (JO (F9 hr).1) rfl hr) h
theorem nX (hu:C.P.underlying t=some (.slice e)) (hs:szT C.P e=some sz) (henc:∀y,(enc y).length=sz) (hx:ev sl x=vL enc xs) (hh:ev sl hi = .d (.int k' b)) (hr:pu xs 0 b=some ys) (hw:aJ all sl ⟨dst,.slice t x none (some hi) none,ty,pos,after,g⟩=some true)
    (h:aV q C all K rest (dI sl dst (vL enc ys)) H):aV q C all K (⟨dst,.slice t x none (some hi) none,ty,pos,after,g⟩::rest) sl H :=
  aH _ hw (by
    show ou C.P t (ev sl x) none (some (ev sl hi)) none=_
    rw [hx,hh];exact F8 hu hs henc rfl (JO (F9 hr).2) hr) h
end sub
theorem nA:∀(bs:List Box) (i j:Nat) (h:j<bs.length),(jF i bs)[j]? = some (ak (i+j),some bs[j])
  | b::bs,i,0,h=>rfl
  | b::bs,i,j+1,h=>by
    show (jF (i+1) bs)[j]? = _
    rw [nA bs (i+1) j (by simpa using h)]
    simp [Nat.add_assoc,Nat.add_comm 1 j]
theorem uS {k:Nat}:∀n,okN k n=true->nR ((List.range k).map ak) n=n:=by
  intro n hn
  obtain ⟨i,hi,rfl⟩:=oW hn
  rw [p8 (by simpa using hi)];simp
theorem vE {k:Nat} {b:Box} (h:b.ok k=true):b.ren ((List.range k).map ak)=b:=by
  cases b with
  | cells sz cs=>simp only [Box.ok]at h;simp only [Box.ren,sV _ k uS _ h]
  | pmap es =>
    simp only [Box.ren,Box.pmap.injEq]
    exact (List.map_congr_left (λe he=>by rw [wD _ k uS e.2 (List.all_eq_true.1 h e he)];rfl)).trans (List.map_id _)
  | iter cur left =>
    simp only [Box.ok,Bool.and_eq_true]at h
    simp only [Box.ren,Box.iter.injEq]
    refine⟨?_,(List.map_congr_left (λe he=>by rw [wD _ k uS e.2 (List.all_eq_true.1 h.2 e he)];rfl)).trans (List.map_id _)⟩
    cases cur with
    | none=>rfl
    | some x=>simp only [Option.map_some,wD _ k uS x.2 (by simpa using h.1)]
  | _=>rfl
theorem zn {k:Nat} {S:Store}:∀{ns:List Nm} {bs:List Box},(∀b∈bs,b.ok k=true)->(∀j (h1:j<ns.length) (h2:j<bs.length),S ns[j]=some bs[j])->dn S (bJ ((List.range k).map ak) ns (bs.map some))=S
  | [],[],_,_=>rfl
  | [],_::_,_,_=>rfl
  | _::_,[],_,_=>rfl
  | n::ns,b::bs,hb,h=>by
    simp only [List.map_cons,bJ,dn,Option.map_some]
    have e:supd S n (some (b.ren ((List.range k).map ak)))=S:=by
      rw [vE (hb b (by simp))]
      funext m
      simp only [supd]
      split
      · rename_i hm;rw [hm];exact (h 0 (by simp) (by simp)).symm
      · rfl
    rw [e]
    exact zn (λb hb'=>hb b (by simp [hb'])) (λj h1 h2=>h (j+1) (by simpa using h1) (by simpa using h2))
theorem Ja {f:Operand} {args:List Operand} {ats:Array TypeId} {fn:FuncId} {caps args0:List V} {r:V} {Sin:List Box} (hc:FnM C.P fn args0 Sin r (Sin.map some)) (hf:ev sl f = .fn fn caps) (hb:aF C.P fn=true)
    (hn:(args.map (ev sl)).flatMap frz=[]) (ha:(args.map (ev sl)).map co0++caps=args0) (hcap:caps.flatMap frz=[]/\caps.map co0=caps) (hok:okL Sin.length args0=true) (hS:∀b∈Sin,b.ok Sin.length=true) (hm:∀b∈Sin,b.mut=true)
    (hr:okV 0 r=true)
    (hw:aJ all sl ⟨some d,.call ⟨.value f,args.toArray,ats⟩,ty,pos,after,g⟩=some true) (hH:H=jF 0 Sin) (h:aV none C all K rest (upd sl d r) H):aV none C all K (⟨some d,.call ⟨.value f,args.toArray,ats⟩,ty,pos,after,g⟩::rest) sl H:=by
  subst hH
  refine Hg hw (λS tk K' ok ag hk=>mO hf ?_)
  have hfr:(args.map (ev sl)++caps).flatMap frz=[]:=by rw [List.flatMap_append,hn,hcap.1];rfl
  have hget:∀j (h:j<Sin.length),S (ak j)=some Sin[j]:=λj h=>by
    have:=nA Sin 0 j h
    rw [Nat.zero_add]at this
    exact ag.get this
  have hargs:(args.map (ev sl)++caps).map (co S)=renL ((List.range Sin.length).map ak) args0:=by
    rw [Ay hfr,List.map_append,hcap.2,ha,sV _ _ uS _ hok]
  refine .inl ⟨hb,⟨[],(List.range Sin.length).map ak,args0,Sin,r,Sin.map some,false⟩,?_,(λe=>by cases e),?_⟩
  · exact { does := hc
            args:=ArgsOK.of_map hargs
            okA:=by simp only [List.length_map,List.length_range];exact hok
            nodup:=by
              refine List.Pairwise.map _ (λx y hxy e => ?_) List.nodup_range
              simp only [ak,Prod.mk.injEq,and_true]at e
              exact hxy (by omega)
            ins:=by
              refine qI (by simp) (λj h1 h2=>⟨by simp only [List.length_map,List.length_range];exact hS _ (List.getElem_mem h2),?_⟩)
              rw [vE (hS _ (List.getElem_mem h2))]
              simp only [List.getElem_map,List.getElem_range]
              exact hget j h2
            len:=by simp
            okR:=oV (Nat.zero_le _) _ hr
            okO:=by
              have:∀{l:List Box} {k:Nat},(∀b∈l,b.ok k=true)->okOut k (l.map some)=true:=by
                intro l k
                induction l with
                | nil=>exact λ_=>rfl
                | cons b l ih=>exact λh=>by simp only [List.map_cons,okOut,Bool.and_eq_true];exact⟨h b (by simp),ih (λx hx=>h x (by simp [hx]))⟩
              exact this (by simpa using hS)
            mutN:=by
              show mutOut ((Sin.map some).drop Sin.length)=true
              rw [List.drop_of_length_le (by simp)];rfl
            roOK:=(λe=>by cases e),have_:=(λn hn=>nomatch hn),cov:=(λn h'=>by rw [hfr]at h';cases h'),dis:=(λn _ hn=>nomatch hn) }
  · have hd0:(Sin.map some).length-Sin.length=0:=by simp
    have e1:CallData.eff ⟨[],(List.range Sin.length).map ak,args0,Sin,r,Sin.map some,false⟩ S d tk=⟨(((List.range Sin.length).map ak).zip Sin).map (λp=>(p.1,p.2.ren ((List.range Sin.length).map ak))),bJ ((List.range Sin.length).map ak) ((List.range Sin.length).map ak) (Sin.map some),r⟩:=by
      simp only [CallData.eff,cond_false,CallData.names,hd0,jq,List.range_zero,List.map_nil,List.append_nil,dW,dX,List.nil_append,o9 hr]
    show K' (CallData.eff _ S d tk)
    rw [e1]
    refine hk _ (jF 0 Sin) ?_ h
    show AgR _ (dn S (bJ _ ((List.range Sin.length).map ak) (Sin.map some))) tk rest
    rw [zn (λb hb=>hS b hb) (λj h1 h2=>by simp only [List.getElem_map,List.getElem_range];exact hget j h2)]
    exact ag.tail
theorem finS {rs:List ResultVar} {r:V} {e:Exit} {Sin:List Box} (hS:∀b∈Sin,b.ok Sin.length=true) (he:e = .normal\/e = .ret) (vs:List V) (h1:zD C sl (jF 0 Sin) rs vs) (h2:vs.flatMap frz=[]) (h3:wF (vs.map co0)=r) (hr:okV 0 r=true):xN C rs Sin.length r (Sin.map some) e sl (jF 0 Sin):=by
  have hc:∀{vs:List V},vs.flatMap frz=[]->CoL (jF 0 Sin) vs (vs.map co0):=by
    intro vs
    induction vs with
    | nil=>exact λ_ => .nil
    | cons v vs ih=>exact λh => .cons (fB (o5 h v (by simp)) rfl) (ih (by simp only [List.flatMap_cons,List.append_eq_nil_iff]at h;exact h.2))
  have ho:∀{l:List Box} {k j:Nat} {H:Hp},(∀b∈l,b.ok k=true)->(∀i (h:i<l.length),H[j+i]? = some (ak (j+i),some l[i]))->wu H ((List.range k).map ak) (List.range' j l.length) ((List.range' j l.length).map ak) (l.map some):=by
    intro l
    induction l with
    | nil=>exact λ_ _=>trivial
    | cons b l ih =>
      intro k j H hb hg
      simp only [List.length_cons,List.range'_succ,List.map_cons]
      refine⟨?_,ih (λx hx=>hb x (by simp [hx])) (λi hi => ?_)⟩
      · have:=hg 0 (by simp)
        simp only [Option.map_some,vE (hb b (by simp))]
        exact this
      · have:=hg (i+1) (by simpa using hi)
        rw [show j+1+i=j+(i+1) by omega]
        exact this
  refine⟨he,vs,_,List.range' 0 Sin.length,(List.range' 0 Sin.length).map ak,h1,hc h2,by rw [h3,o9 hr],?_,List.nodup_range' ,λi hi=>by simp [hi]⟩
  have:=ho (k:=Sin.length) (j:=0) (H:=jF 0 Sin) hS (λi hi=>by have:=nA Sin 0 i hi;simpa using this)
  rw [List.range_eq_range']at this
  exact this
end
end Go.Eng

/-
  THE ENGINE: functions without a body; new slices that a call hands back; elements of a slice that began as nil.
-/
namespace Go.Eng
set_option linter.unusedSectionVars false
variable [DM]
set_option linter.unusedVariables false
set_option linter.unusedSimpArgs false
def ixB (s:ByteArray) (c:Int):Int:=Lib.indexByte s.data.toList c.toNat.toUInt8
def zZ (a b:ByteArray):Int:=Lib.compareBytes a.data.toList b.data.toList
theorem mR.two {G:Gh} {w:World} {vargs:List Value} {a b:V} (h:mR G w vargs [a,b]):∃x y,vargs=[x,y]/\RepV G w x a/\RepV G w y b:=by
 obtain ⟨hl,h⟩:=h
 match vargs,hl with
 | [x,y],_=>exact⟨x,y,rfl,h 0 (by simp) (by simp),h 1 (by simp) (by simp)⟩
theorem RepV.int_inv {G:Gh} {w:World} {v:Value} {k:IntKind} {n:Int} (h:RepV G w v (.d (.int k n))):v = .int k n:=by
 have:=h.d_inv
 generalize hx:D.int k n=x at this
 cases this with
 | int k' n'=>cases hx;rfl
 | _=>cases hx
theorem RepV.str_inv {G:Gh} {w:World} {v:Value} {s:ByteArray} (h:RepV G w v (vS s)):v = .string s:=by
 have:=h.d_inv
 generalize hx:D.str s=x at this
 cases this with
 | str s'=>cases hx;rfl
 | _=>cases hx
theorem ext_ixB {P : Program} {f : FuncId} {fn : Func} (hf : P.funcs[f]? = some fn) (h1 : (fn.name == "runtime.NumGoroutine") = false) (h2 : fn.body.isNone = true) (h3 : Extern.findNext fn = none) (h4 : Extern.find fn = some Extern.BytealgIndexByte.indexByte)
  (s:ByteArray) (c:Int):Lc P f [vS s,.d (.int .u8 c)] (.int .i64 (ixB s c)):=by
 intro G w vargs h
 obtain ⟨x,y,rfl,hx,hy⟩:=h.two
 rw [hx.str_inv,hy.int_inv]
 refine⟨.int .i64 (ixB s c),?_,.int _ _⟩
 show (callFunc f #[.string s,.int .u8 c]).run P w=_
 rw [run_callFunc_extern hf h1 h2 h3 h4,Lib.run_indexByteString];rfl
theorem MN {P : Program} {f : FuncId} {fn : Func} (hf : P.funcs[f]? = some fn) (h1 : (fn.name == "runtime.NumGoroutine") = false) (h2 : fn.body.isNone = true) (h3 : Extern.findNext fn = none) (h4 : Extern.find fn = some Extern.BytealgCompare.compare)
  (a b:ByteArray):Lc P f [vS a,vS b] (.int .i64 (zZ a b)):=by
 intro G w vargs h
 obtain ⟨x,y,rfl,hx,hy⟩:=h.two
 rw [hx.str_inv,hy.str_inv]
 refine⟨.int .i64 (zZ a b),?_,.int _ _⟩
 show (callFunc f #[.string a,.string b]).run P w=_
 rw [run_callFunc_extern hf h1 h2 h3 h4,Lib.run_compareString];rfl
theorem all_ok {Sin:List Box} {k:Nat} (h:Sin.all (λb=>b.ok k)=true):∀b∈Sin,b.ok k=true:=λb hb=>List.all_eq_true.1 h b hb
theorem all_mut {Sin:List Box} (h:Sin.all (λb=>b.mut)=true):∀b∈Sin,b.mut=true:=λb hb=>List.all_eq_true.1 h b hb
theorem cB {α:Type} {n:Nm} {sz:Nat} {xs ys:List α} (h:xs.length=ys.length):gV n sz xs=gV n sz ys:=by
 cases xs with
 | nil=>cases ys with
  | nil=>rfl
  | cons y ys=>simp at h
 | cons x xs=>cases ys with
  | nil=>simp at h
  | cons y ys=>simp only [gV,h]
def gO {α:Type} (sz:Nat) (enc:α->List D):List α->List (Option Box)
 | []=>[]
 | x::xs=>[some (.vec sz ((x::xs).map enc))]
section
variable {C:Cfg} {sl:Nat->V} {H:Hp} {q:Qm} {all rest:List Oper} {K:(Nat->V)->Hp->Prop}
variable {dst:Option Tmp} {d:Nat} {t ty:TypeId} {pos:String} {after:Array Edge} {g:Option (Nat×Bool)}
theorem fq (k:Nat) {v v':V} (hk:sl k=v) (e:v=v') (h:aV q C all K rest (upd sl k v') H):aV q C all K rest sl H:=by
 have:upd sl k v'=sl:=by
  funext j
  simp only [upd]
  cases hj:Nat.beq j k with
  | true=>rw [Nat.eq_of_beq_eq_true hj,hk,e];rfl
  | false=>rfl
 rw [this]at h;exact h
theorem lF (h:∀n:Nm,aV q C all K rest sl (H++[(n,none)])):aV q C all K rest sl H:=λS tk ok ag=>by
 have hex:∃m:Nat,∀p∈H,p.1.1<m:=by
  clear h ag
  induction H with
  | nil=>exact⟨0,λp hp=>by cases hp⟩
  | cons x H ih =>
   obtain ⟨m,hm⟩:=ih
   refine⟨max m (x.1.1+1),λp hp => ?_⟩
   rcases List.mem_cons.1 hp with rfl|hp
   ·omega
   ·have:=hm p hp;omega
 obtain ⟨m,hm⟩:=hex
 refine h (m,0) S tk ok ⟨ag.pos,?_,λp hp => ?_⟩
 ·rw [List.map_append,List.nodup_append]
  refine⟨ag.nd,by simp,λa ha b hb e => ?_⟩
  simp only [List.map_cons,List.map_nil,List.mem_singleton]at hb
  obtain ⟨p,hp,rfl⟩:=List.mem_map.1 ha
  have:=hm p hp
  rw [e,hb]at this
  exact Nat.lt_irrefl _ this
 ·rcases List.mem_append.1 hp with hp|hp
  ·exact ag.at_ p hp
  ·simp only [List.mem_singleton]at hp
   subst hp
   exact⟨.inl ag.pos,λx hx=>by cases hx⟩
theorem h_callg {α:Type} {enc:α->List D} {sz:Nat} {xs:List α} {f:Operand} {args:List Operand} {ats:Array TypeId} {fn:FuncId} {caps args0:List V} {Sin outs:List Box} (is:List Nat) {l:List (Nm×Box)}
  (hc:FnM C.P fn args0 Sin (gV (ak is.length) sz xs) (outs.map some++gO sz enc xs))
  (hf:ev sl f = .fn fn caps) (hb:aF C.P fn=true) (hl:gp H is=some l) (hS:Sin.map (λb=>b.ren (l.map (·.1)))=l.map (·.2)) (hSok:Sin.all (λb=>b.ok is.length)=true)
  (hn:((args.map (ev sl)++caps).flatMap frz).all (λn=>false)=true) (ha:(args.map (ev sl)++caps).map co0=renL (l.map (·.1)) args0) (hok:okL is.length args0=true)
  (hlen:outs.length=is.length) (hi:is.Nodup) (hO:outs.all (λb=>b.ok 0)=true)
  (hw:aJ all sl ⟨some d,.call ⟨.value f,args.toArray,ats⟩,ty,pos,after,g⟩=some true)
  (H':Hp) (hH:∀ν,setH H (Eng.outs ν is (l.map (·.1)) (outs.map some))=H')
  (h:∀n:Nm,aV none C all K rest (upd sl d (gV n sz xs)) (H'++[(n,gB sz enc xs)])) :
  aV none C all K (⟨some d,.call ⟨.value f,args.toArray,ats⟩,ty,pos,after,g⟩::rest) sl H:=by
 have hll:=(kW hl).1
 have okO0:∀{k:Nat} {os:List Box},os.all (λb=>b.ok 0)=true->okOut k (os.map some)=true:=by
  intro k os
  induction os with
  | nil=>exact λ_=>rfl
  | cons b os ih =>
   intro h
   simp only [List.all_cons,Bool.and_eq_true]at h
   simp only [List.map_cons,okOut,Bool.and_eq_true]
   exact⟨Box.ok_mono (Nat.zero_le _) h.1,ih h.2⟩
 cases xs with
 | nil =>
  have hc':FnM C.P fn args0 Sin .nil (outs.map some):=by simpa [gO,gV]using hc
  refine M8 is 0 hc' hf hb hl hS hSok hn ha hok rfl (by simp [hlen]) hi (okO0 hO) (by rw [List.drop_of_length_le (by simp [hlen])];rfl) hw (λν => ?_)
  simp only [List.range_zero,List.map_nil,List.append_nil,news,hH]
  exact lF (λn=>h n)
 | cons x xs =>
  refine M8 (r:=gV (ak is.length) sz (x::xs)) (Sout:=outs.map some++[some (.vec sz ((x::xs).map enc))]) is 1 hc hf hb hl hS hSok hn ha hok ?_ (by simp [hlen]) hi ?_ ?_ hw (λν => ?_)
  ·exact wL (by simp [hlen]) _
  ·have:∀{k:Nat} {a b:List (Option Box)},okOut k a=true->okOut k b=true->okOut k (a++b)=true:=by
    intro k a b
    induction a with
    | nil=>exact λ_ h=>h
    | cons y a ih =>
     intro h1 h2
     cases y with
     | none=>exact ih h1 h2
     | some y=>simp only [List.cons_append,okOut,Bool.and_eq_true]at h1 ⊢;exact⟨h1.1,ih h1.2 h2⟩
   exact this (okO0 hO) rfl
  ·rw [List.drop_append_of_le_length (by simp [hlen]),List.drop_of_length_le (by simp [hlen])];rfl
  ·have e1:ren (l.map (·.1)++(List.range 1).map ν) (gV (ak is.length) sz (x::xs))=gV (ν 0) sz (x::xs):=by
    rw [DW,qf]
    simp [hll]
   have e2:∀ν,Eng.outs ν is (l.map (·.1)) (outs.map some++[some (.vec sz ((x::xs).map enc))])=Eng.outs ν is (l.map (·.1)) (outs.map some):=by
    intro ν
    have:∀(is:List Nat) (ns:List Nm) (a b:List (Option Box)),is.length=a.length->Eng.outs ν is ns (a++b)=Eng.outs ν is ns a:=by
     intro is
     induction is with
     | nil=>intro ns a b h;cases a with
      | nil=>cases b <;> rfl
      | cons _ _=>simp at h
     | cons i is ih=>intro ns a b h;cases a with
      | nil=>simp at h
      | cons y a=>cases ns with
       | nil=>rfl
       | cons n ns=>simp only [List.cons_append,Eng.outs];rw [ih ns a b (by simpa using h)]
    exact this _ _ _ _ (by simp [hlen])
   rw [e1,e2,hH]
   rw [List.drop_append_of_le_length (by simp [hlen]),List.drop_of_length_le (by simp [hlen])]
   exact h (ν 0)
theorem uI {α:Type} {xs:List α} {x i:Operand} {k:IntKind} {n:Int} {nm:Nm} {size:Nat} (hT:(elemT C.P t).bind (szT C.P)=some size) (hx:ev sl x=gV nm size xs) (hi:ev sl i = .d (.int k n)) (h0:0<=n) (h1:n.toNat<xs.length)
  (hw:aJ all sl ⟨dst,.indexAddr t x i,ty,pos,after,g⟩=some true) (h:aV q C all K rest (dI sl dst (.ref nm (0+n.toNat) 0)) H):aV q C all K (⟨dst,.indexAddr t x i,ty,pos,after,g⟩::rest) sl H:=by
 cases xs with
 | nil=>simp at h1
 | cons y ys=>exact h_iav hT hx hi h0 h1 hw h
theorem yS {α:Type} {enc:α->List D} {xs:List α} {y:α} {x:Operand} {size:Nat} {agg:Bool} {n:Nm} {i j sz:Nat} (p k:Nat) (hp:q=none\/Nat.beq all.length (p+(rest.length+1))=true) (hf:∀S tk,AgR H S tk (⟨dst,.load t x,ty,pos,after,g⟩::rest)->okQ q all p [n] false) (hs:szT C.P t=some size) (ha:cO C.P t=agg) (hx:ev sl x = .ref n i j) (hH:H[k]? = some (n,gB sz enc xs)) (hy:xs[i]? = some y)
  (v:V) (hv:rdD agg size ((enc y).drop j)=some v)
  (hw:aJ all sl ⟨dst,.load t x,ty,pos,after,g⟩=some true) (h:aV (lK q p [n] false) C all K rest (dI sl dst v) H):aV q C all K (⟨dst,.load t x,ty,pos,after,g⟩::rest) sl H:=by
 cases xs with
 | nil=>simp at hy
 | cons z zs=>exact h_ldv p k hp hf hs ha hx hH hy v hv hw h
theorem pU {α:Type} {enc:α->List D} {xs:List α} {e:α} {x y:Operand} {size:Nat} {n:Nm} {i j sz:Nat} (p:Nat) (hp:q=none\/Nat.beq all.length (p+(rest.length+1))=true) (hf:∀S tk,AgR H S tk (⟨dst,.store t x y,ty,pos,after,g⟩::rest)->okQ q all p [n] true) (k:Nat) (hs:szT C.P t=some size) (hx:ev sl x = .ref n i j) (hH:H[k]? = some (n,gB sz enc xs)) (hy:xs[i]? = some e) (e':α) (hv:stD size (enc e) j (ev sl y)=some (enc e'))
  (hw:aJ all sl ⟨dst,.store t x y,ty,pos,after,g⟩=some true) (h:aV (lK q p [n] true) C all K rest (dI sl dst .none) (H.set k (n,gB sz enc (xs.set i e')))):aV q C all K (⟨dst,.store t x y,ty,pos,after,g⟩::rest) sl H:=by
 cases xs with
 | nil=>simp at hy
 | cons z zs =>
  refine h_stv p hp hf k hs hx hH hy e' hv hw ?_
  have:gB sz enc ((z::zs).set i e')=some (bV sz enc ((z::zs).set i e')):=by cases i <;> rfl
  rw [this]at h;exact h
theorem finG {α:Type} {enc:α->List D} {sz t:Nat} {xs:List α} {n:Nm} {outs:List Box} {e:Exit} (he:e = .normal\/e = .ret) (j:Nat) (h1:sl t=gV n sz xs) (h2:H[j]? = some (n,gB sz enc xs)) (hj:Nat.ble outs.length j=true) (hO:outs.all (λb=>b.ok 0)=true)
  (h3:H.take outs.length=jF 0 outs):xN C [.tmp t] outs.length (gV (ak outs.length) sz xs) (outs.map some++gO sz enc xs) e sl H:=by
 have hj:=Nat.le_of_ble_eq_true hj
 have hget:∀i (h:i<outs.length),H[i]? = some (ak i,some outs[i]):=λi hi=>by
  have:=nA outs 0 i hi
  rw [Nat.zero_add,<- h3,List.getElem?_take,if_pos hi]at this
  exact this
 have ho:∀{ν:List Nm} {l:List Box} {j:Nat} {js:List Nat} {ns:List Nm} {bs:List (Option Box)},(∀b∈l,b.ok 0=true)->(∀i (h:i<l.length),H[j+i]? = some (ak (j+i),some l[i]))->wu H ν js ns bs->wu H ν (List.range' j l.length++js) ((List.range' j l.length).map ak++ns) (l.map some++bs):=by
  intro ν l
  induction l with
  | nil=>exact λ_ _ h=>h
  | cons b l ih =>
   intro j js ns bs hb hg hr
   simp only [List.length_cons,List.range'_succ,List.map_cons,List.cons_append]
   refine⟨?_,ih (λx hx=>hb x (by simp [hx])) (λi hi => ?_) hr⟩
   ·have:=hg 0 (by simp)
    simp only [Option.map_some,vo (hb b (by simp))]
    exact this
   ·have:=hg (i+1) (by simpa using hi)
    rw [show j+1+i=j+(i+1) by omega]
    exact this
 have hO':∀b∈outs,b.ok 0=true:=λb hb=>List.all_eq_true.1 hO b hb
 cases xs with
 | nil =>
  refine⟨he,[.nil],[.nil],List.range' 0 outs.length++[],(List.range' 0 outs.length).map ak++[],⟨h1,trivial⟩,.cons (.inl rfl) .nil,rfl,ho hO' (λi hi=>by rw [Nat.zero_add];exact hget i hi) trivial,by simp [List.nodup_range'],λi hi=>by simp [hi]⟩
 | cons x xs =>
  refine⟨he,[.vs n sz 0 (x::xs).length],[.vs n sz 0 (x::xs).length],List.range' 0 outs.length++[j],(List.range' 0 outs.length).map ak++[n],⟨h1,trivial⟩,.cons (.inl rfl) .nil,?_,
   ho hO' (λi hi=>by rw [Nat.zero_add];exact hget i hi) ⟨h2,trivial⟩,?_,λi hi=>by rw [List.getElem?_append_left (by simpa using hi)];simp [hi]⟩
  ·show V.vs n sz 0 (x::xs).length=ren _ (.vs (ak outs.length) sz 0 (x::xs).length)
   simp only [ren]
   rw [qf]
   rw [List.getElem?_append_right (by simp)];simp
  ·rw [List.nodup_append]
   refine⟨List.nodup_range',by simp,λa ha b hb => ?_⟩
   simp only [List.mem_singleton]at hb
   simp only [List.mem_range'_1]at ha
   omega
end
section
variable {C:Cfg} {sl:Nat->V} {H:Hp} {q:Qm} {all rest:List Oper} {K:(Nat->V)->Hp->Prop} {Q:QH} {c:Code}
variable {dst:Option Tmp} {d:Nat} {t ty:TypeId} {pos:String} {after:Array Edge} {g:Option (Nat×Bool)}
theorem aa {op:Op} (v:V) (h:aV q C all K rest (dI sl dst v) H) (hv:BH C sl op=some v:=by exact rfl):aV q C all K (⟨dst,op,ty,pos,after,none⟩::rest) sl H:=aH v wz hv h
theorem af {j:Nat} {want b:Bool} {dj:Nat} {op:Op} (h:aV q C all K rest (dI sl dst .none) H) (h1:(all[j]?).bind (·.dst)=some dj:=by exact rfl) (h2:sl dj = .d (.bool b):=by exact rfl) (h3:(b==want)=false:=by exact rfl) :
  aV q C all K (⟨dst,op,ty,pos,after,some (j,want)⟩::rest) sl H:=aX (wg h1 h2 h3) h
theorem aN (env:List (Nat×V)) (Hs:Hp) (h1:wH C c (Cf (FM (λ_:Unit=>env) (λ_=>Hs) (λ_=>True)) Q) sl H) (h2:∀x:Unit,True->∀sl' H',Eng.pick env sl'=env->Eng.pre Hs H'->Q .normal sl' H'):wH C c Q sl H :=
 lG (λ_:Unit=>env) (λ_=>Hs) (λ_=>True) h1 h2
theorem ai {id:Nat} {ops:List Oper} {b:Code} (h:aV none C ops (λsl H=>wH C b Q sl H) ops sl H):wH C (.seq (.region id ops.toArray false) b) Q sl H:=au (av h)
theorem aK {rs:List ResultVar} {r:V} (vs:List V) (h1:zD C sl H rs vs) (h2:(vs.flatMap frz).all (λ_=>false)=true:=by exact rfl) (h3:wF (vs.map co0)=r:=by exact rfl) (hr:okV 0 r=true:=by exact rfl):xN C rs 0 r [] .ret sl H:=fin0 (.inr rfl) vs h1 h2 h3 hr
theorem oP {id:Nat} {σ ρ:Type} (envo:σ->List (Nat×V)) (Hs:σ->Hp) (env:Nat->σ->List (Nat×V)) (body:σ->Option (Ctl σ ρ)) (o:Ctl σ ρ) (n:Nat) (b0:σ) (hj:iterN body n b0=some o) (he:Eng.pick (env n b0) sl=env n b0) (hp:Eng.pre (Hs b0) H)
  (h1:∀x:Nat×σ,iterN body x.1 x.2=some o->wH C c (G7 (λp:Nat×σ=>env p.1 p.2) (λp=>Hs p.2) (λp=>iterN body p.1 p.2=some o) (λp=>p.1) x (J4 id (Cf (FM envo Hs (λp=>o = .go p)) Q))) (envS (env x.1 x.2)) (Hs x.2))
  (h2:∀x,o = .go x->∀sl' H',Eng.pick (envo x) sl'=envo x->Eng.pre (Hs x) H'->Q .normal sl' H'):wH C (.block id (.loop c)) Q sl H :=
 lG envo Hs (λp=>o = .go p) (aR (zK (β:=Nat×σ) (λp=>env p.1 p.2) (λp=>Hs p.2) (λp=>iterN body p.1 p.2=some o) (λp=>p.1) (n,b0) hj he hp h1)) h2
theorem Ls {id:Nat} {σ ρ N:Type} (envo:(σ×N)->List (Nat×V)) (Hs:(σ×N)->Hp) (env:Nat->(σ×N)->List (Nat×V)) (body:σ->Option (Ctl σ ρ)) (o:Ctl σ ρ) (n:Nat) (b0:(σ×N)) (hj:iterN body n b0.1=some o) (he:Eng.pick (env n b0) sl=env n b0) (hp:Eng.pre (Hs b0) H)
  (h1:∀x:Nat×(σ×N),iterN body x.1 x.2.1=some o->wH C c (G7 (λp:Nat×(σ×N)=>env p.1 p.2) (λp=>Hs p.2) (λp=>iterN body p.1 p.2.1=some o) (λp=>p.1) x (J4 id (Cf (FM envo Hs (λp=>o = .go p.1)) Q))) (envS (env x.1 x.2)) (Hs x.2))
  (h2:∀x,o = .go x.1->∀sl' H',Eng.pick (envo x) sl'=envo x->Eng.pre (Hs x) H'->Q .normal sl' H'):wH C (.block id (.loop c)) Q sl H :=
 lG envo Hs (λp=>o = .go p.1) (aR (zK (β:=Nat×(σ×N)) (λp=>env p.1 p.2) (λp=>Hs p.2) (λp=>iterN body p.1 p.2.1=some o) (λp=>p.1) (n,b0) hj he hp h1)) h2
theorem dU {id:Nat} {σ ρ α:Type} (envo:σ->List (Nat×V)) (Hs:σ->Hp) (env:Nat->σ->List (Nat×V)) (body:Nat->α->σ->Option (Ctl σ ρ)) (o:Ctl σ ρ) (xs:List α) (b0:σ) (hj:forR body xs 0 b0=some o) (he:Eng.pick (env 0 b0) sl=env 0 b0) (hp:Eng.pre (Hs b0) H)
  (h1:∀x:Nat×List α×σ,(forR body x.2.1 x.1 x.2.2=some o/\xs.drop x.1=x.2.1)->wH C c (G7 (λp:Nat×List α×σ=>env p.1 p.2.2) (λp=>Hs p.2.2) (λp=>forR body p.2.1 p.1 p.2.2=some o/\xs.drop p.1=p.2.1) (λp=>p.2.1.length) x (J4 id (Cf (FM envo Hs (λp=>o = .go p)) Q))) (envS (env x.1 x.2.2)) (Hs x.2.2))
  (h2:∀x,o = .go x->∀sl' H',Eng.pick (envo x) sl'=envo x->Eng.pre (Hs x) H'->Q .normal sl' H'):wH C (.block id (.loop c)) Q sl H :=
 lG envo Hs (λp=>o = .go p) (aR (zK (β:=Nat×List α×σ) (λp=>env p.1 p.2.2) (λp=>Hs p.2.2) (λp=>forR body p.2.1 p.1 p.2.2=some o/\xs.drop p.1=p.2.1) (λp=>p.2.1.length) (0,xs,b0) ⟨hj,rfl⟩ he hp h1)) h2
theorem iZ {id:Nat} {σ ρ N α:Type} (envo:(σ×N)->List (Nat×V)) (Hs:(σ×N)->Hp) (env:Nat->(σ×N)->List (Nat×V)) (body:Nat->α->σ->Option (Ctl σ ρ)) (o:Ctl σ ρ) (xs:List α) (b0:(σ×N)) (hj:forR body xs 0 b0.1=some o) (he:Eng.pick (env 0 b0) sl=env 0 b0) (hp:Eng.pre (Hs b0) H)
  (h1:∀x:Nat×List α×(σ×N),(forR body x.2.1 x.1 x.2.2.1=some o/\xs.drop x.1=x.2.1)->wH C c (G7 (λp:Nat×List α×(σ×N)=>env p.1 p.2.2) (λp=>Hs p.2.2) (λp=>forR body p.2.1 p.1 p.2.2.1=some o/\xs.drop p.1=p.2.1) (λp=>p.2.1.length) x (J4 id (Cf (FM envo Hs (λp=>o = .go p.1)) Q))) (envS (env x.1 x.2.2)) (Hs x.2.2))
  (h2:∀x,o = .go x.1->∀sl' H',Eng.pick (envo x) sl'=envo x->Eng.pre (Hs x) H'->Q .normal sl' H'):wH C (.block id (.loop c)) Q sl H :=
 lG envo Hs (λp=>o = .go p.1) (aR (zK (β:=Nat×List α×(σ×N)) (λp=>env p.1 p.2.2) (λp=>Hs p.2.2) (λp=>forR body p.2.1 p.1 p.2.2.1=some o/\xs.drop p.1=p.2.1) (λp=>p.2.1.length) (0,xs,b0) ⟨hj,rfl⟩ he hp h1)) h2
end
end Go.Eng

